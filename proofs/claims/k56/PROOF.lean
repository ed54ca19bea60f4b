import PyProof.Rows.All
import Wide.All
import OpenK.AllK
import Wide.FinOn
import HandS.ForMost
import HandS.Wide
import HandS.Deep
import HandS.Style
import HandS.SortInts
import HandS.Conv
import HandS.IsInst
import HandS.WordsDict
import HandS.TupLen
import HandS.Text
import HandS.Zip
import HandS.SortRule
import PyProof.Rows.NestShow
import PyProof.ReprLen
import HandS.EndBits
import HandS.WideBits
import HandS.NoneIn
import HandS.Steps
import KE.GoesMore
import HandS.MapJoin
import HandS.TupLe
import PySem.Challenge.RW_oncewalls_k56_texts_of_graphs_and_words
set_option Elab.async false
set_option linter.all false
set_option maxRecDepth 100000
set_option maxHeartbeats 1000000
/-! T3: data (PyData) for values and heaps; slots with ownership; readings by functions on data. -/
noncomputable section
namespace T3
open PySem PySem.Spec PyProof.Rows L2

abbrev D := PyData
abbrev Frg := PySem.W.Frag

/-! ### data -/
def keyD : Key → D
  | .inl i => .int i
  | .inr x => .str x

/-- an object of the module -/
def KL (K : Frg) (a : Addr) (xs : List V) : Prop :=
  ∃ (its : Array Value) (n : Nat), K.lookup a = some { cls := .type "list", data := .seq its n } ∧ its.size ≤ sizeLine ∧ Vals xs its.toList
theorem KL.sq {K : Frg} {H : Hp} {a : Addr} {xs : List V} (h : KL K a xs) : SqL K H a xs := by
  obtain ⟨its, n, h1, h2, h3⟩ := h
  exact .inr ⟨_, its, n, h1, rfl, rfl, rfl, h2, h3⟩
def KT (K : Frg) (a : Addr) (xs : List V) : Prop :=
  ∃ (o : Obj) (its : Array Value) (n : Nat), K.lookup a = some o ∧ o.cls = .type "tuple" ∧ o.data = .seq its n ∧ its.size ≤ sizeLine ∧ Vals xs its.toList

mutual
/-- v is the data d; what is met on the way is frozen (N) or the module's -/
def Rp (K : Frg) (H : Hp) (N : Addr → Prop) : D → V → Prop
  | .none, v => v = .non
  | .bool b, v => v = .bl b
  | .int i, v => v = .int i
  | .str x, v => v = .str x
  | .list ds, v => ∃ a xs, v = .ref a ∧ ((N a ∧ Rd H a (.lst xs)) ∨ KL K a xs) ∧ RpL K H N ds xs
  | .tuple ds, v => ∃ a xs, v = .ref a ∧ ((N a ∧ Rd H a (.tup xs)) ∨ KT K a xs) ∧ RpL K H N ds xs
  | .dict kvs, v => ∃ a, v = .ref a ∧ N a ∧ ((∃ ps, Rd H a (.dK ps) ∧ RpK K H N kvs ps) ∨ (∃ ps, H a = some (.dT ps) ∧ RpT K H N kvs ps))
def RpL (K : Frg) (H : Hp) (N : Addr → Prop) : List D → List V → Prop
  | [], xs => xs = []
  | d :: ds, xs => ∃ x r, xs = x :: r ∧ Rp K H N d x ∧ RpL K H N ds r
def RpK (K : Frg) (H : Hp) (N : Addr → Prop) : List (D × D) → List (Key × V) → Prop
  | [], ps => ps = []
  | (k, d) :: r, ps => ∃ key x t, ps = (key, x) :: t ∧ k = keyD key ∧ Rp K H N d x ∧ RpK K H N r t
def RpT (K : Frg) (H : Hp) (N : Addr → Prop) : List (D × D) → List (List Key × V) → Prop
  | [], ps => ps = []
  | (k, d) :: r, ps => ∃ key x t, ps = (key, x) :: t ∧ k = .tuple (key.map keyD) ∧ Rp K H N d x ∧ RpT K H N r t
end

section
variable {K : Frg} {H H' : Hp} {N N' : Addr → Prop}
theorem rd_mono {a : Addr} {u : HO} (r : Rd H a u) (h : ∀ o, H a = some o → H' a = some o) : Rd H' a u := by
  rcases r with r | ⟨o, r⟩
  · exact .inl (h _ r)
  · exact .inr ⟨o, h _ r⟩
theorem rd_trk {a : Addr} {u : HO} (r : Rd H a u) : ∃ o, H a = some o := by
  rcases r with r | ⟨o, r⟩ <;> exact ⟨_, r⟩

/-- frozen things stay -/
def Keeps (H : Hp) (N : Addr → Prop) (H' : Hp) (N' : Addr → Prop) : Prop := ∀ a o, H a = some o → N a → H' a = some o ∧ N' a
theorem Keeps.rd (k : Keeps H N H' N') {a : Addr} {u : HO} (n : N a) (r : Rd H a u) : N' a ∧ Rd H' a u := by
  obtain ⟨o, e⟩ := rd_trk r
  exact ⟨(k a o e n).2, rd_mono r fun o' e' => (k a o' e' n).1⟩
mutual
theorem Rp.mono (k : Keeps H N H' N') : ∀ (d : D) (v : V), Rp K H N d v → Rp K H' N' d v
  | .none, v, h => by unfold Rp at h ⊢; exact h
  | .bool _, v, h => by unfold Rp at h ⊢; exact h
  | .int _, v, h => by unfold Rp at h ⊢; exact h
  | .str _, v, h => by unfold Rp at h ⊢; exact h
  | .list ds, v, h => by
    unfold Rp at h ⊢
    obtain ⟨a, xs, e, q, r⟩ := h
    refine ⟨a, xs, e, ?_, RpL.mono k ds xs r⟩
    rcases q with ⟨n, q⟩ | q
    · exact .inl (k.rd n q)
    · exact .inr q
  | .tuple ds, v, h => by
    unfold Rp at h ⊢
    obtain ⟨a, xs, e, q, r⟩ := h
    refine ⟨a, xs, e, ?_, RpL.mono k ds xs r⟩
    rcases q with ⟨n, q⟩ | q
    · exact .inl (k.rd n q)
    · exact .inr q
  | .dict kvs, v, h => by
    unfold Rp at h ⊢
    obtain ⟨a, e, n, q⟩ := h
    rcases q with ⟨ps, q, r⟩ | ⟨ps, q, r⟩
    · exact ⟨a, e, (k.rd n q).1, .inl ⟨ps, (k.rd n q).2, RpK.mono k kvs ps r⟩⟩
    · exact ⟨a, e, (k a _ q n).2, .inr ⟨ps, (k a _ q n).1, RpT.mono k kvs ps r⟩⟩
theorem RpL.mono (k : Keeps H N H' N') : ∀ (ds : List D) (xs : List V), RpL K H N ds xs → RpL K H' N' ds xs
  | [], xs, h => by unfold RpL at h ⊢; exact h
  | d :: ds, xs, h => by
    unfold RpL at h ⊢
    obtain ⟨x, r, e, h1, h2⟩ := h
    exact ⟨x, r, e, Rp.mono k d x h1, RpL.mono k ds r h2⟩
theorem RpK.mono (k : Keeps H N H' N') : ∀ (ds : List (D × D)) (xs : List (Key × V)), RpK K H N ds xs → RpK K H' N' ds xs
  | [], xs, h => by unfold RpK at h ⊢; exact h
  | (c, d) :: ds, xs, h => by
    unfold RpK at h ⊢
    obtain ⟨key, x, r, e, e2, h1, h2⟩ := h
    exact ⟨key, x, r, e, e2, Rp.mono k d x h1, RpK.mono k ds r h2⟩
theorem RpT.mono (k : Keeps H N H' N') : ∀ (ds : List (D × D)) (xs : List (List Key × V)), RpT K H N ds xs → RpT K H' N' ds xs
  | [], xs, h => by unfold RpT at h ⊢; exact h
  | (c, d) :: ds, xs, h => by
    unfold RpT at h ⊢
    obtain ⟨key, x, r, e, e2, h1, h2⟩ := h
    exact ⟨key, x, r, e, e2, Rp.mono k d x h1, RpT.mono k ds r h2⟩
end

theorem RpL.get : ∀ {ds : List D} {xs : List V} {i : Nat} {d : D}, RpL K H N ds xs → ds[i]? = some d → ∃ x, xs[i]? = some x ∧ Rp K H N d x
  | [], _, i, d, _, e => by simp at e
  | d0 :: ds, xs, 0, d, h, e => by
    unfold RpL at h
    obtain ⟨x, r, rfl, h1, h2⟩ := h
    have : d0 = d := by simpa using e
    exact ⟨x, rfl, this ▸ h1⟩
  | d0 :: ds, xs, i + 1, d, h, e => by
    unfold RpL at h
    obtain ⟨x, r, rfl, h1, h2⟩ := h
    obtain ⟨y, e1, e2⟩ := RpL.get (i := i) h2 (by simpa using e)
    exact ⟨y, by simpa using e1, e2⟩
theorem RpL.len : ∀ {ds : List D} {xs : List V}, RpL K H N ds xs → xs.length = ds.length
  | [], xs, h => by unfold RpL at h; rw [h]; rfl
  | d :: ds, xs, h => by
    unfold RpL at h
    obtain ⟨x, r, rfl, h1, h2⟩ := h
    rw [List.length_cons, List.length_cons, RpL.len h2]
theorem RpL.get' {ds : List D} {xs : List V} {i : Nat} {x : V} (h : RpL K H N ds xs) (e : xs[i]? = some x) : ∃ d, ds[i]? = some d ∧ Rp K H N d x := by
  have hi : i < ds.length := by
    rw [← h.len]
    exact (List.getElem?_eq_some_iff.mp e).1
  obtain ⟨y, e1, e2⟩ := h.get (List.getElem?_eq_getElem hi)
  rw [e] at e1
  cases e1
  exact ⟨_, List.getElem?_eq_getElem hi, e2⟩
theorem RpL.append : ∀ {ds es : List D} {xs ys : List V}, RpL K H N ds xs → RpL K H N es ys → RpL K H N (ds ++ es) (xs ++ ys)
  | [], es, xs, ys, h, h' => by unfold RpL at h; subst h; exact h'
  | d :: ds, es, xs, ys, h, h' => by
    unfold RpL at h
    obtain ⟨x, r, rfl, h1, h2⟩ := h
    show RpL K H N (d :: (ds ++ es)) (x :: (r ++ ys))
    unfold RpL
    exact ⟨x, _, rfl, h1, RpL.append h2 h'⟩
theorem RpL.nil : RpL K H N [] [] := by unfold RpL; rfl
theorem RpL.cons {d : D} {ds : List D} {x : V} {xs : List V} (h : Rp K H N d x) (t : RpL K H N ds xs) : RpL K H N (d :: ds) (x :: xs) := by
  unfold RpL; exact ⟨x, xs, rfl, h, t⟩
theorem RpL.take : ∀ {ds : List D} {xs : List V} (n : Nat), RpL K H N ds xs → RpL K H N (ds.take n) (xs.take n)
  | [], xs, n, h => by unfold RpL at h; subst h; simp [RpL]
  | d :: ds, xs, 0, h => by simp [RpL]
  | d :: ds, xs, n + 1, h => by
    unfold RpL at h
    obtain ⟨x, r, rfl, h1, h2⟩ := h
    exact RpL.cons h1 (RpL.take n h2)
theorem RpL.drop : ∀ {ds : List D} {xs : List V} (n : Nat), RpL K H N ds xs → RpL K H N (ds.drop n) (xs.drop n)
  | [], xs, n, h => by unfold RpL at h; subst h; simp [RpL]
  | d :: ds, xs, 0, h => h
  | d :: ds, xs, n + 1, h => by
    unfold RpL at h
    obtain ⟨x, r, rfl, h1, h2⟩ := h
    exact RpL.drop n h2
theorem RpL.set : ∀ {ds : List D} {xs : List V} (n : Nat) {d : D} {x : V}, RpL K H N ds xs → Rp K H N d x → RpL K H N (ds.set n d) (xs.set n x)
  | [], xs, n, d, x, h, _ => by unfold RpL at h; subst h; simp [RpL]
  | _ :: ds, xs, 0, d, x, h, q => by
    unfold RpL at h
    obtain ⟨y, r, rfl, h1, h2⟩ := h
    exact RpL.cons q h2
  | _ :: ds, xs, n + 1, d, x, h, q => by
    unfold RpL at h
    obtain ⟨y, r, rfl, h1, h2⟩ := h
    exact RpL.cons h1 (RpL.set n h2 q)
theorem RpL.reverse : ∀ {ds : List D} {xs : List V}, RpL K H N ds xs → RpL K H N ds.reverse xs.reverse
  | [], xs, h => by unfold RpL at h; subst h; simp [RpL]
  | d :: ds, xs, h => by
    unfold RpL at h
    obtain ⟨x, r, rfl, h1, h2⟩ := h
    rw [List.reverse_cons, List.reverse_cons]
    exact (RpL.reverse h2).append (RpL.cons h1 RpL.nil)
theorem RpL.eraseIdx : ∀ {ds : List D} {xs : List V} (n : Nat), RpL K H N ds xs → RpL K H N (ds.eraseIdx n) (xs.eraseIdx n)
  | [], xs, n, h => by unfold RpL at h; subst h; simp [RpL]
  | _ :: ds, xs, 0, h => by
    unfold RpL at h
    obtain ⟨y, r, rfl, h1, h2⟩ := h
    exact h2
  | _ :: ds, xs, n + 1, h => by
    unfold RpL at h
    obtain ⟨y, r, rfl, h1, h2⟩ := h
    exact RpL.cons h1 (RpL.eraseIdx n h2)
theorem rp_int {i : Int} : Rp K H N (.int i) (.int i) := by unfold Rp; rfl
theorem rp_bl {i : Bool} : Rp K H N (.bool i) (.bl i) := by unfold Rp; rfl
theorem rp_str {i : Str} : Rp K H N (.str i) (.str i) := by unfold Rp; rfl
theorem rp_non : Rp K H N .none .non := by unfold Rp; rfl
end

/-! ### modes of slots -/
inductive Md where
  /-- frozen -/
  | sh
  /-- lent: read, not kept -/
  | pk
  /-- a list of one's own, its items of a mode -/
  | ow (m : Md)
  /-- a tuple, its items of modes -/
  | tu (ms : List Md)
  /-- a dict of one's own, frozen values -/
  | dc (t : Bool)

mutual
/-- nothing lent within -/
def Md.np : Md → Bool
  | .sh => true
  | .pk => false
  | .ow m => m.np
  | .tu ms => Md.nps ms
  | .dc _ => true
def Md.nps : List Md → Bool
  | [] => true
  | m :: ms => m.np && Md.nps ms
end

/-- items alike -/
def AllM (P : D → V → List Addr → Prop) : List D → List V → List Addr → Prop
  | [], xs, A => xs = [] ∧ A = []
  | d :: ds, xs, A => ∃ x r A1 A2, xs = x :: r ∧ A = A1 ++ A2 ∧ P d x A1 ∧ AllM P ds r A2
mutual
/-- v is d in the mode m; A: what is owned in it -/
def RpM (K : Frg) (H : Hp) (N W : Addr → Prop) : Md → D → V → List Addr → Prop
  | .sh, d, v, A => Rp K H N d v ∧ A = []
  | .pk, d, v, A => Rp K H (fun a => N a ∨ W a) d v ∧ A = []
  | .ow m, d, v, A => ∃ a xs ds As, v = .ref a ∧ d = .list ds ∧ H a = some (.lst xs) ∧ A = a :: As ∧ AllM (RpM K H N W m) ds xs As
  | .tu ms, d, v, A => ∃ a xs ds, v = .ref a ∧ d = .tuple ds ∧ N a ∧ H a = some (.tup xs) ∧ RpMt K H N W ms ds xs A
  | .dc t, d, v, A => ∃ a kvs, v = .ref a ∧ d = .dict kvs ∧ A = [a] ∧ ((t = false ∧ ∃ ps, H a = some (.dK ps) ∧ RpK K H N kvs ps) ∨ (t = true ∧ ∃ ps, H a = some (.dT ps) ∧ RpT K H N kvs ps))
def RpMt (K : Frg) (H : Hp) (N W : Addr → Prop) : List Md → List D → List V → List Addr → Prop
  | [], ds, xs, A => ds = [] ∧ xs = [] ∧ A = []
  | m :: ms, ds, xs, A => ∃ d dr x r A1 A2, ds = d :: dr ∧ xs = x :: r ∧ A = A1 ++ A2 ∧ RpM K H N W m d x A1 ∧ RpMt K H N W ms dr r A2
end

section
variable {K : Frg} {H H' : Hp} {N N' W W' : Addr → Prop}
theorem AllM.imp {P P' : D → V → List Addr → Prop} : ∀ {ds : List D} {xs : List V} {A : List Addr}, AllM P ds xs A → (∀ d v B, (∀ a ∈ B, a ∈ A) → P d v B → P' d v B) → AllM P' ds xs A
  | [], xs, A, h, _ => h
  | d :: ds, xs, A, h, f => by
    obtain ⟨x, r, A1, A2, e1, e2, h1, h2⟩ := h
    refine ⟨x, r, A1, A2, e1, e2, f d x A1 (fun a m => ?_) h1, AllM.imp h2 fun d v B hb q => f d v B (fun a m => ?_) q⟩
    · rw [e2]; exact List.mem_append_left _ m
    · rw [e2]; exact List.mem_append_right _ (hb a m)
theorem AllM.len {P : D → V → List Addr → Prop} : ∀ {ds : List D} {xs : List V} {A : List Addr}, AllM P ds xs A → xs.length = ds.length
  | [], xs, A, h => by rw [h.1]; rfl
  | d :: ds, xs, A, h => by
    obtain ⟨x, r, A1, A2, rfl, e2, h1, h2⟩ := h
    rw [List.length_cons, List.length_cons, AllM.len h2]
mutual
theorem RpM.mono (k : Keeps H N H' N') (kw : Keeps H (fun a => N a ∨ W a) H' (fun a => N' a ∨ W' a)) : ∀ (m : Md) (d : D) (v : V) (A : List Addr), (∀ a ∈ A, ∀ o, H a = some o → H' a = some o) → RpM K H N W m d v A → RpM K H' N' W' m d v A
  | .sh, d, v, A, _, h => by unfold RpM at h ⊢; exact ⟨Rp.mono k d v h.1, h.2⟩
  | .pk, d, v, A, _, h => by unfold RpM at h ⊢; exact ⟨Rp.mono kw d v h.1, h.2⟩
  | .ow m, d, v, A, ha, h => by
    unfold RpM at h ⊢
    obtain ⟨a, xs, ds, As, e1, e2, e3, e4, h⟩ := h
    subst e4
    exact ⟨a, xs, ds, As, e1, e2, ha a List.mem_cons_self _ e3, rfl, h.imp fun d v B hb q => RpM.mono k kw m d v B (fun a z => ha a (List.mem_cons_of_mem _ (hb a z))) q⟩
  | .tu ms, d, v, A, ha, h => by
    unfold RpM at h ⊢
    obtain ⟨a, xs, ds, e1, e2, n, e3, h⟩ := h
    exact ⟨a, xs, ds, e1, e2, (k a _ e3 n).2, (k a _ e3 n).1, RpMt.mono k kw ms ds xs A ha h⟩
  | .dc _, d, v, A, ha, h => by
    unfold RpM at h ⊢
    obtain ⟨a, kvs, e1, e2, e3, h⟩ := h
    subst e3
    refine ⟨a, kvs, e1, e2, rfl, ?_⟩
    rcases h with ⟨t0, ps, q, r⟩ | ⟨t0, ps, q, r⟩
    · exact .inl ⟨t0, ps, ha a (by simp) _ q, RpK.mono k kvs ps r⟩
    · exact .inr ⟨t0, ps, ha a (by simp) _ q, RpT.mono k kvs ps r⟩
theorem RpMt.mono (k : Keeps H N H' N') (kw : Keeps H (fun a => N a ∨ W a) H' (fun a => N' a ∨ W' a)) : ∀ (ms : List Md) (ds : List D) (xs : List V) (A : List Addr), (∀ a ∈ A, ∀ o, H a = some o → H' a = some o) → RpMt K H N W ms ds xs A → RpMt K H' N' W' ms ds xs A
  | [], ds, xs, A, _, h => by unfold RpMt at h ⊢; exact h
  | m :: ms, ds, xs, A, ha, h => by
    unfold RpMt at h ⊢
    obtain ⟨d, dr, x, r, A1, A2, e1, e2, e3, h1, h2⟩ := h
    subst e3
    exact ⟨d, dr, x, r, A1, A2, e1, e2, rfl, RpM.mono k kw m d x A1 (fun a z => ha a (List.mem_append_left _ z)) h1, RpMt.mono k kw ms dr r A2 (fun a z => ha a (List.mem_append_right _ z)) h2⟩
end
theorem AllM.trk {P : D → V → List Addr → Prop} (hP : ∀ d v A, P d v A → ∀ a ∈ A, ∃ o, H a = some o) : ∀ {ds : List D} {xs : List V} {A : List Addr}, AllM P ds xs A → ∀ a ∈ A, ∃ o, H a = some o
  | [], xs, A, h, a, m => by rw [h.2] at m; cases m
  | d :: ds, xs, A, h, a, m => by
    obtain ⟨x, r, A1, A2, e1, e2, h1, h2⟩ := h
    rw [e2] at m
    rcases List.mem_append.mp m with m | m
    · exact hP _ _ _ h1 a m
    · exact AllM.trk hP h2 a m
mutual
theorem RpM.trk : ∀ (m : Md) (d : D) (v : V) (A : List Addr), RpM K H N W m d v A → ∀ a ∈ A, ∃ o, H a = some o
  | .sh, d, v, A, h, a, z => by unfold RpM at h; rw [h.2] at z; cases z
  | .pk, d, v, A, h, a, z => by unfold RpM at h; rw [h.2] at z; cases z
  | .ow m, d, v, A, h, b, z => by
    unfold RpM at h
    obtain ⟨a, xs, ds, As, e1, e2, e3, e4, h⟩ := h
    rw [e4] at z
    rcases List.mem_cons.mp z with z | z
    · exact ⟨_, by rw [z]; exact e3⟩
    · exact AllM.trk (RpM.trk m) h b z
  | .tu ms, d, v, A, h, b, z => by
    unfold RpM at h
    obtain ⟨a, xs, ds, e1, e2, n, e3, h⟩ := h
    exact RpMt.trk ms ds xs A h b z
  | .dc _, d, v, A, h, b, z => by
    unfold RpM at h
    obtain ⟨a, kvs, e1, e2, e3, h⟩ := h
    rw [e3] at z
    have : b = a := by simpa using z
    rcases h with ⟨t0, ps, q, r⟩ | ⟨t0, ps, q, r⟩ <;> exact ⟨_, by rw [this]; exact q⟩
theorem RpMt.trk : ∀ (ms : List Md) (ds : List D) (xs : List V) (A : List Addr), RpMt K H N W ms ds xs A → ∀ a ∈ A, ∃ o, H a = some o
  | [], ds, xs, A, h, a, z => by unfold RpMt at h; rw [h.2.2] at z; cases z
  | m :: ms, ds, xs, A, h, a, z => by
    unfold RpMt at h
    obtain ⟨d, dr, x, r, A1, A2, e1, e2, e3, h1, h2⟩ := h
    rw [e3] at z
    rcases List.mem_append.mp z with z | z
    · exact RpM.trk m d x A1 h1 a z
    · exact RpMt.trk ms dr r A2 h2 a z
end

/-- a tuple -/
def Tu (H : Hp) (a : Addr) : Prop := ∃ xs, H a = some (.tup xs)
theorem AllM.nt {P : D → V → List Addr → Prop} (hP : ∀ d v A, P d v A → ∀ a ∈ A, ¬ Tu H a) : ∀ {ds : List D} {xs : List V} {A : List Addr}, AllM P ds xs A → ∀ a ∈ A, ¬ Tu H a
  | [], xs, A, h, a, m => by rw [h.2] at m; cases m
  | d :: ds, xs, A, h, a, m => by
    obtain ⟨x, r, A1, A2, e1, e2, h1, h2⟩ := h
    rw [e2] at m
    rcases List.mem_append.mp m with m | m
    · exact hP _ _ _ h1 a m
    · exact AllM.nt hP h2 a m
mutual
theorem RpM.nt : ∀ (m : Md) (d : D) (v : V) (A : List Addr), RpM K H N W m d v A → ∀ a ∈ A, ¬ Tu H a
  | .sh, d, v, A, h, a, z => by unfold RpM at h; rw [h.2] at z; cases z
  | .pk, d, v, A, h, a, z => by unfold RpM at h; rw [h.2] at z; cases z
  | .ow m, d, v, A, h, b, z => by
    unfold RpM at h
    obtain ⟨a, xs, ds, As, e1, e2, e3, e4, h⟩ := h
    rw [e4] at z
    rcases List.mem_cons.mp z with z | z
    · rintro ⟨ys, q⟩
      rw [z, e3] at q
      cases q
    · exact AllM.nt (RpM.nt m) h b z
  | .tu ms, d, v, A, h, b, z => by
    unfold RpM at h
    obtain ⟨a, xs, ds, e1, e2, n, e3, h⟩ := h
    exact RpMt.nt ms ds xs A h b z
  | .dc _, d, v, A, h, b, z => by
    unfold RpM at h
    obtain ⟨a, kvs, e1, e2, e3, h⟩ := h
    rw [e3] at z
    have : b = a := by simpa using z
    rintro ⟨ys, w⟩
    rcases h with ⟨t0, ps, q, r⟩ | ⟨t0, ps, q, r⟩ <;> (rw [this, q] at w; cases w)
theorem RpMt.nt : ∀ (ms : List Md) (ds : List D) (xs : List V) (A : List Addr), RpMt K H N W ms ds xs A → ∀ a ∈ A, ¬ Tu H a
  | [], ds, xs, A, h, a, z => by unfold RpMt at h; rw [h.2.2] at z; cases z
  | m :: ms, ds, xs, A, h, a, z => by
    unfold RpMt at h
    obtain ⟨d, dr, x, r, A1, A2, e1, e2, e3, h1, h2⟩ := h
    rw [e3] at z
    rcases List.mem_append.mp z with z | z
    · exact RpM.nt m d x A1 h1 a z
    · exact RpMt.nt ms dr r A2 h2 a z
end

/-! freezing: what is owned becomes frozen -/
theorem AllM.freeze {P : D → V → List Addr → Prop} : ∀ {ds : List D} {xs : List V} {A : List Addr}, AllM P ds xs A → (∀ d v B, (∀ a ∈ B, a ∈ A) → P d v B → Rp K H N d v) → RpL K H N ds xs
  | [], xs, A, h, _ => by unfold RpL; exact h.1
  | d :: ds, xs, A, h, f => by
    obtain ⟨x, r, A1, A2, e1, e2, h1, h2⟩ := h
    subst e1 e2
    exact RpL.cons (f d x A1 (fun a m => List.mem_append_left _ m) h1) (AllM.freeze h2 fun d v B hb q => f d v B (fun a m => List.mem_append_right _ (hb a m)) q)
mutual
theorem RpM.freeze (hn : ∀ a, N a → N' a) : ∀ (m : Md) (d : D) (v : V) (A : List Addr), m.np = true → (∀ a ∈ A, N' a) → RpM K H N W m d v A → Rp K H N' d v
  | .pk, d, v, A, np, _, h => by unfold Md.np at np; cases np
  | .sh, d, v, A, _, _, h => by unfold RpM at h; exact Rp.mono (fun a o e n => ⟨e, hn a n⟩) d v h.1
  | .ow m, d, v, A, np, ha, h => by
    unfold Md.np at np
    unfold RpM at h
    obtain ⟨a, xs, ds, As, e1, e2, e3, e4, h⟩ := h
    subst e4 e2
    unfold Rp
    exact ⟨a, xs, e1, .inl ⟨ha a List.mem_cons_self, .inl e3⟩, h.freeze fun d v B hb q => RpM.freeze hn m d v B np (fun a z => ha a (List.mem_cons_of_mem _ (hb a z))) q⟩
  | .tu ms, d, v, A, np, ha, h => by
    unfold Md.np at np
    unfold RpM at h
    obtain ⟨a, xs, ds, e1, e2, n, e3, h⟩ := h
    subst e2
    unfold Rp
    exact ⟨a, xs, e1, .inl ⟨hn a n, .inl e3⟩, RpMt.freeze hn ms ds xs A np ha h⟩
  | .dc _, d, v, A, np, ha, h => by
    unfold RpM at h
    obtain ⟨a, kvs, e1, e2, e3, h⟩ := h
    subst e2 e3
    unfold Rp
    refine ⟨a, e1, ha a (by simp), ?_⟩
    rcases h with ⟨t0, ps, q, r⟩ | ⟨t0, ps, q, r⟩
    · exact .inl ⟨ps, .inl q, RpK.mono (fun a o e n => ⟨e, hn a n⟩) kvs ps r⟩
    · exact .inr ⟨ps, q, RpT.mono (fun a o e n => ⟨e, hn a n⟩) kvs ps r⟩
theorem RpMt.freeze (hn : ∀ a, N a → N' a) : ∀ (ms : List Md) (ds : List D) (xs : List V) (A : List Addr), Md.nps ms = true → (∀ a ∈ A, N' a) → RpMt K H N W ms ds xs A → RpL K H N' ds xs
  | [], ds, xs, A, _, _, h => by unfold RpMt at h; obtain ⟨rfl, rfl, _⟩ := h; exact RpL.nil
  | m :: ms, ds, xs, A, np, ha, h => by
    unfold Md.nps at np
    have np := (Bool.and_eq_true _ _).mp np
    unfold RpMt at h
    obtain ⟨d, dr, x, r, A1, A2, e1, e2, e3, h1, h2⟩ := h
    subst e1 e2 e3
    exact RpL.cons (RpM.freeze hn m d x A1 np.1 (fun a z => ha a (List.mem_append_left _ z)) h1) (RpMt.freeze hn ms dr r A2 np.2 (fun a z => ha a (List.mem_append_right _ z)) h2)
end
end
end T3
end
set_option Elab.async false
set_option linter.all false
set_option maxRecDepth 100000
set_option maxHeartbeats 1000000
noncomputable section
namespace T3
open PySem PySem.Spec PyProof.Rows L2

abbrev Gm := List (Option Md)
abbrev En := List D
abbrev Ow := Nat → List Addr
abbrev Pin := Nat → Option (V × Option D)
def O (A : Ow) (a : Addr) : Prop := ∃ i, a ∈ A i
def Ow.put (A : Ow) (i : Nat) (B : List Addr) : Ow := fun j => if j = i then B else A j

/-- the slots of a def: their modes, their data, their values, what they own -/
structure ER (K : Frg) (W : Addr → Prop) (P : Pin) (H : Hp) (N : Addr → Prop) (G : Gm) (env : En) (σ : L2.St) (A : Ow) : Prop where
  le : env.length = G.length
  ls : σ.length = G.length
  sl : ∀ i m, G[i]? = some (some m) → ∃ d v, env[i]? = some d ∧ σ[i]? = some (some v) ∧ RpM K H N W m d v (A i)
  no : ∀ i, (∀ m, G[i]? ≠ some (some m)) → A i = []
  nd : ∀ i, (A i).Nodup
  dj : ∀ i j a, a ∈ A i → a ∈ A j → i = j
  tr : ∀ a, N a → ∃ o, H a = some o
  dn : ∀ i a, a ∈ A i → ¬ N a
  pn : ∀ i v od, P i = some (v, od) → σ[i]? = some (some v) ∧ ∀ d, od = some d → env[i]? = some d
  wt : ∀ a, W a → ∃ o, H a = some o
  wd : ∀ i a, a ∈ A i → ¬ W a

/-- nothing is changed; new things -/
structure Ext (H : Hp) (N : Addr → Prop) (H' : Hp) (N' : Addr → Prop) (B : List Addr) : Prop where
  gr : ∀ a o, H a = some o → H' a = some o
  up : ∀ a, N a → N' a
  fz : ∀ a, N' a → N a ∨ (H a = none ∧ ∃ o, H' a = some o) ∨ Tu H a
  bf : ∀ a ∈ B, H a = none
  bn : ∀ a ∈ B, ¬ N' a
  bd : B.Nodup
/-- what is owned may change -/
structure Stp (H : Hp) (N : Addr → Prop) (A : Ow) (H' : Hp) (N' : Addr → Prop) (A' : Ow) (B : List Addr) : Prop where
  keep : ∀ a o, H a = some o → ¬ O A a → H' a = some o
  trk : ∀ a o, H a = some o → ∃ o', H' a = some o'
  own : ∀ a, O A' a → O A a ∨ H a = none
  bf : ∀ a ∈ B, O A a ∨ H a = none
  up : ∀ a, N a → N' a
  fz : ∀ a, N' a → N a ∨ O A a ∨ H a = none ∨ Tu H a
/-- a value's own things stand apart -/
structure Bok (N W : Addr → Prop) (A : Ow) (B : List Addr) : Prop where
  bn : ∀ a ∈ B, ¬ N a
  bw : ∀ a ∈ B, ¬ W a
  ba : ∀ a ∈ B, ¬ O A a
  bd : B.Nodup

section
variable {K : Frg} {W : Addr → Prop} {P : Pin} {H H' H'' : Hp} {N N' N'' : Addr → Prop} {G : Gm} {env : En} {σ : L2.St} {A A' A'' : Ow} {B B' : List Addr}
theorem ER.trk (r : ER K W P H N G env σ A) {i : Nat} {a : Addr} (h : a ∈ A i) : ∃ o, H a = some o := by
  by_cases q : ∃ m, G[i]? = some (some m)
  · obtain ⟨m, q⟩ := q
    obtain ⟨d, v, _, _, h3⟩ := r.sl i m q
    exact RpM.trk m d v _ h3 a h
  · rw [r.no i fun m e => q ⟨m, e⟩] at h
    cases h
theorem ER.nt (r : ER K W P H N G env σ A) {i : Nat} {a : Addr} (h : a ∈ A i) : ¬ Tu H a := by
  by_cases q : ∃ m, G[i]? = some (some m)
  · obtain ⟨m, q⟩ := q
    obtain ⟨d, v, _, _, h3⟩ := r.sl i m q
    exact RpM.nt m d v _ h3 a h
  · rw [r.no i fun m e => q ⟨m, e⟩] at h
    cases h
theorem ER.otrk (r : ER K W P H N G env σ A) {a : Addr} (h : O A a) : ∃ o, H a = some o := by
  obtain ⟨i, h⟩ := h
  exact r.trk h
theorem Ext.refl : Ext H N H N [] := ⟨fun _ _ e => e, fun _ n => n, fun _ n => .inl n, fun _ z => (nomatch z), fun _ z => (nomatch z), List.nodup_nil⟩
theorem Ext.trk (e : Ext H N H' N' B) (t : ∀ a, N a → ∃ o, H a = some o) : ∀ a, N' a → ∃ o, H' a = some o := fun a n => by
  rcases e.fz a n with n | ⟨_, n⟩ | ⟨xs, n⟩
  · obtain ⟨o, q⟩ := t a n
    exact ⟨o, e.gr a o q⟩
  · exact n
  · exact ⟨_, e.gr a _ n⟩
theorem Ext.keeps (e : Ext H N H' N' B) : Keeps H N H' N' := fun a o q n => ⟨e.gr a o q, e.up a n⟩
theorem Ext.keepw (e : Ext H N H' N' B) : Keeps H (fun a => N a ∨ W a) H' (fun a => N' a ∨ W a) := fun a o q n => ⟨e.gr a o q, n.imp (e.up a) id⟩
theorem Ext.trans (e : Ext H N H' N' B) (f : Ext H' N' H'' N'' B') : Ext H N H'' N'' B' := by
  have none_of : ∀ a, H' a = none → H a = none := fun a q => by
    cases h : H a with
    | none => rfl
    | some o => rw [e.gr a o h] at q; cases q
  refine ⟨fun a o q => f.gr a o (e.gr a o q), fun a n => f.up a (e.up a n), fun a n => ?_, fun a z => none_of a (f.bf a z), f.bn, f.bd⟩
  rcases f.fz a n with n | ⟨n, o⟩ | ⟨xs, n⟩
  · rcases e.fz a n with n | ⟨n, o, q⟩ | n
    · exact .inl n
    · exact .inr (.inl ⟨n, o, f.gr a o q⟩)
    · exact .inr (.inr n)
  · exact .inr (.inl ⟨none_of a n, o⟩)
  · cases h : H a with
    | none => exact .inr (.inl ⟨rfl, _, f.gr a _ n⟩)
    | some o =>
      have q := e.gr a o h
      rw [n] at q
      cases q
      exact .inr (.inr ⟨xs, h⟩)
/-- what is new is frozen -/
theorem Ext.freeze (e : Ext H N H' N' B) (t : ∀ a ∈ B, ∃ o, H' a = some o) : Ext H N H' (fun a => N' a ∨ a ∈ B) [] := by
  refine ⟨e.gr, fun a n => .inl (e.up a n), fun a n => ?_, fun _ z => (nomatch z), fun _ z => (nomatch z), List.nodup_nil⟩
  rcases n with n | n
  · exact e.fz a n
  · exact .inr (.inl ⟨e.bf a n, t a n⟩)
theorem Ext.drop (e : Ext H N H' N' B) : Ext H N H' N' [] := ⟨e.gr, e.up, e.fz, fun _ z => (nomatch z), fun _ z => (nomatch z), List.nodup_nil⟩
/-- one new thing -/
theorem Ext.new {p : Addr} {o : HO} (n : H p = none) (t : ∀ a, N a → ∃ o, H a = some o) : Ext H N (upd H p o) N [p] := by
  refine ⟨fun a u e => ?_, fun _ n => n, fun _ n => .inl n, fun a z => ?_, fun a z => ?_, by simp⟩
  · rw [upd_ne (ne_of_none e n)]; exact e
  · have : a = p := by simpa using z
    rw [this]; exact n
  · have : a = p := by simpa using z
    subst this
    intro q
    obtain ⟨o, q⟩ := t _ q
    rw [n] at q; cases q
theorem ER.ext (r : ER K W P H N G env σ A) (e : Ext H N H' N' B) : ER K W P H' N' G env σ A := by
  refine ⟨r.le, r.ls, fun i m g => ?_, r.no, r.nd, r.dj, e.trk r.tr, fun i a h n => ?_, r.pn, fun a n => ?_, r.wd⟩
  · obtain ⟨d, v, h1, h2, h3⟩ := r.sl i m g
    exact ⟨d, v, h1, h2, RpM.mono e.keeps e.keepw m d v _ (fun a _ o q => e.gr a o q) h3⟩
  · obtain ⟨o, q⟩ := r.trk h
    rcases e.fz a n with n | ⟨n, _⟩ | n
    · exact r.dn i a h n
    · rw [n] at q; cases q
    · exact r.nt h n
  · obtain ⟨o, q⟩ := r.wt a n
    exact ⟨o, e.gr a o q⟩
theorem ER.bok (r : ER K W P H N G env σ A) (e : Ext H N H' N' B) : Bok N' W A B := by
  refine ⟨e.bn, fun a z h => ?_, fun a z h => ?_, e.bd⟩
  · obtain ⟨o, q⟩ := r.wt a h
    rw [e.bf a z] at q
    cases q
  · obtain ⟨o, q⟩ := r.otrk h
    rw [e.bf a z] at q
    cases q
theorem Ext.stp (e : Ext H N H' N' B) : Stp H N A H' N' A B := by
  refine ⟨fun a o q _ => e.gr a o q, fun a o q => ⟨o, e.gr a o q⟩, fun a h => .inl h, fun a z => .inr (e.bf a z), e.up, fun a n => ?_⟩
  rcases e.fz a n with n | ⟨n, _⟩ | n
  · exact .inl n
  · exact .inr (.inr (.inl n))
  · exact .inr (.inr (.inr n))
theorem Stp.refl : Stp H N A H N A [] := ⟨fun _ _ e _ => e, fun _ o e => ⟨o, e⟩, fun _ h => .inl h, fun _ z => (nomatch z), fun _ n => n, fun _ n => .inl n⟩
theorem Stp.none_of (e : Stp H N A H' N' A' B) {a : Addr} (q : H' a = none) : H a = none := by
  cases h : H a with
  | none => rfl
  | some o =>
    obtain ⟨o', h'⟩ := e.trk a o h
    rw [h'] at q; cases q
theorem Stp.trans (e : Stp H N A H' N' A' B) (f : Stp H' N' A' H'' N'' A'' B') : Stp H N A H'' N'' A'' B' := by
  refine ⟨fun a o q n => f.keep a o (e.keep a o q n) fun z => ?_, fun a o q => ?_, fun a z => ?_, fun a z => ?_, fun a n => f.up a (e.up a n), fun a n => ?_⟩
  · rcases e.own a z with z | z
    · exact n z
    · rw [q] at z; cases z
  · obtain ⟨o1, q1⟩ := e.trk a o q
    exact f.trk a o1 q1
  · rcases f.own a z with z | z
    · exact e.own a z
    · exact .inr (e.none_of z)
  · rcases f.bf a z with z | z
    · exact e.own a z
    · exact .inr (e.none_of z)
  · rcases f.fz a n with n | n | n | ⟨xs, n⟩
    · exact e.fz a n
    · exact .inr ((e.own a n).imp id .inl)
    · exact .inr (.inr (.inl (e.none_of n)))
    · by_cases o : O A a
      · exact .inr (.inl o)
      · cases h : H a with
        | none => exact .inr (.inr (.inl rfl))
        | some u =>
          have q := e.keep a u h o
          rw [n] at q
          cases q
          exact .inr (.inr (.inr ⟨xs, h⟩))
theorem Stp.keeps (e : Stp H N A H' N' A' B) (dn : ∀ i a, a ∈ A i → ¬ N a) : Keeps H N H' N' := fun a o q n => ⟨e.keep a o q fun ⟨i, z⟩ => dn i a z n, e.up a n⟩
/-- a value that was told ahead of a step stands behind it -/
theorem Stp.keepw (e : Stp H N A H' N' A' B) (dn : ∀ i a, a ∈ A i → ¬ N a) (wd : ∀ i a, a ∈ A i → ¬ W a) : Keeps H (fun a => N a ∨ W a) H' (fun a => N' a ∨ W a) :=
  fun a o q n => ⟨e.keep a o q fun ⟨i, z⟩ => n.elim (dn i a z) (wd i a z), n.imp (e.up a) id⟩
theorem Stp.val {m : Md} {d : D} {v : V} (e : Stp H N A H' N' A' B') (r : ER K W P H N G env σ A) (b : Bok N W A B) (h : RpM K H N W m d v B) : RpM K H' N' W m d v B :=
  RpM.mono (e.keeps r.dn) (e.keepw r.dn r.wd) m d v B (fun a z o q => e.keep a o q (b.ba a z)) h
theorem Stp.bok {m : Md} {d : D} {v : V} (e : Stp H N A H' N' A' B') (b : Bok N W A B) (h : RpM K H N W m d v B) : Bok N' W A' B := by
  refine ⟨fun a z n => ?_, b.bw, fun a z n => ?_, b.bd⟩
  · obtain ⟨o, q⟩ := RpM.trk m d v B h a z
    rcases e.fz a n with n | n | n | n
    · exact b.bn a z n
    · exact b.ba a z n
    · rw [n] at q; cases q
    · exact RpM.nt m d v B h a z n
  · obtain ⟨o, q⟩ := RpM.trk m d v B h a z
    rcases e.own a n with n | n
    · exact b.ba a z n
    · rw [n] at q; cases q

/-! ### changes of slots -/
theorem put_same {i : Nat} : (A.put i B) i = B := by unfold Ow.put; rw [if_pos rfl]
theorem put_ne {i j : Nat} (h : j ≠ i) : (A.put i B) j = A j := by unfold Ow.put; rw [if_neg h]
/-- a slot is given a value -/
theorem ER.set {i : Nat} {m : Md} {d : D} {v : V} (r : ER K W P H N G env σ A) (hi : i < G.length) (hp : P i = none) (b : Bok N W A B) (h : RpM K H N W m d v B) :
    ER K W P H N (G.set i (some m)) (env.set i d) (σ.set i (some v)) (A.put i B) := by
  refine ⟨by simp [r.le], by simp [r.ls], fun j m' g => ?_, fun j g => ?_, fun j => ?_, fun j k a h1 h2 => ?_, r.tr, fun j a z => ?_, fun j w od q => ?_, r.wt, fun j a z => ?_⟩
  · by_cases e : j = i
    · subst e
      rw [List.getElem?_set_self hi] at g
      cases g
      exact ⟨d, v, by rw [List.getElem?_set_self (by rw [r.le]; exact hi)], by rw [List.getElem?_set_self (by rw [r.ls]; exact hi)], by rw [put_same]; exact h⟩
    · rw [List.getElem?_set_ne (Ne.symm e)] at g
      obtain ⟨d', v', h1, h2, h3⟩ := r.sl j m' g
      exact ⟨d', v', by rw [List.getElem?_set_ne (Ne.symm e)]; exact h1, by rw [List.getElem?_set_ne (Ne.symm e)]; exact h2, by rw [put_ne e]; exact h3⟩
  · by_cases e : j = i
    · subst e
      exact absurd (List.getElem?_set_self hi) (g m)
    · rw [put_ne e]
      exact r.no j fun m' q => g m' (by rw [List.getElem?_set_ne (Ne.symm e)]; exact q)
  · by_cases e : j = i
    · rw [e, put_same]; exact b.bd
    · rw [put_ne e]; exact r.nd j
  · by_cases e : j = i
    · by_cases e' : k = i
      · rw [e, e']
      · rw [e, put_same] at h1
        rw [put_ne e'] at h2
        exact absurd ⟨k, h2⟩ (b.ba a h1)
    · rw [put_ne e] at h1
      by_cases e' : k = i
      · rw [e', put_same] at h2
        exact absurd ⟨j, h1⟩ (b.ba a h2)
      · rw [put_ne e'] at h2
        exact r.dj j k a h1 h2
  · by_cases e : j = i
    · rw [e, put_same] at z; exact b.bn a z
    · rw [put_ne e] at z; exact r.dn j a z
  · have e : j ≠ i := fun e => by rw [e, hp] at q; cases q
    rw [List.getElem?_set_ne (Ne.symm e), List.getElem?_set_ne (Ne.symm e)]
    exact r.pn j w od q
  · by_cases e : j = i
    · rw [e, put_same] at z; exact b.bw a z
    · rw [put_ne e] at z; exact r.wd j a z
theorem own_put {i : Nat} {a : Addr} (h : O (A.put i B) a) : O A a ∨ a ∈ B := by
  obtain ⟨j, h⟩ := h
  by_cases e : j = i
  · rw [e, put_same] at h; exact .inr h
  · rw [put_ne e] at h; exact .inl ⟨j, h⟩
theorem Stp.put {i : Nat} (e : Stp H N A H' N' A' B) : Stp H N A H' N' (A'.put i B) [] := by
  refine ⟨e.keep, e.trk, fun a z => ?_, fun _ z => (nomatch z), e.up, e.fz⟩
  rcases own_put z with z | z
  · exact e.own a z
  · exact e.bf a z
/-- a slot is forgotten -/
theorem ER.forget {i : Nat} (r : ER K W P H N G env σ A) : ER K W P H N (G.set i none) env σ (A.put i []) := by
  refine ⟨by simp [r.le], by simp [r.ls], fun j m' g => ?_, fun j g => ?_, fun j => ?_, fun j k a h1 h2 => ?_, r.tr, fun j a z => ?_, r.pn, r.wt, fun j a z => ?_⟩
  · by_cases e : j = i
    · subst e
      rw [List.getElem?_set] at g
      split at g
      · split at g <;> cases g
      · exact absurd rfl (by assumption)
    · rw [List.getElem?_set_ne (Ne.symm e)] at g
      rw [put_ne e]
      exact r.sl j m' g
  · by_cases e : j = i
    · rw [e, put_same]
    · rw [put_ne e]
      exact r.no j fun m' q => g m' (by rw [List.getElem?_set_ne (Ne.symm e)]; exact q)
  · by_cases e : j = i
    · rw [e, put_same]; exact List.nodup_nil
    · rw [put_ne e]; exact r.nd j
  · by_cases e : j = i
    · rw [e, put_same] at h1; cases h1
    · by_cases e' : k = i
      · rw [e', put_same] at h2; cases h2
      · rw [put_ne e] at h1
        rw [put_ne e'] at h2
        exact r.dj j k a h1 h2
  · by_cases e : j = i
    · rw [e, put_same] at z; cases z
    · rw [put_ne e] at z; exact r.dn j a z
  · by_cases e : j = i
    · rw [e, put_same] at z; cases z
    · rw [put_ne e] at z; exact r.wd j a z
theorem Stp.forget {i : Nat} : Stp H N A H N (A.put i []) [] := by
  refine ⟨fun _ _ e _ => e, fun _ o e => ⟨o, e⟩, fun a z => ?_, fun _ z => (nomatch z), fun _ n => n, fun _ n => .inl n⟩
  rcases own_put z with z | z
  · exact .inl z
  · cases z
/-- a slot's things are frozen -/
theorem ER.freeze {i : Nat} {m : Md} (r : ER K W P H N G env σ A) (g : G[i]? = some (some m)) (np : m.np = true) : ER K W P H (fun a => N a ∨ a ∈ A i) (G.set i (some .sh)) env σ (A.put i []) := by
  have hi : i < G.length := (List.getElem?_eq_some_iff.mp g).1
  have kp : Keeps H N H (fun a => N a ∨ a ∈ A i) := fun a o e n => ⟨e, .inl n⟩
  refine ⟨by simp [r.le], by simp [r.ls], fun j m' g' => ?_, fun j g' => ?_, fun j => ?_, fun j k a h1 h2 => ?_, fun a n => ?_, fun j a z n => ?_, r.pn, r.wt, fun j a z => ?_⟩
  · by_cases e : j = i
    · subst e
      rw [List.getElem?_set_self hi] at g'
      cases g'
      obtain ⟨d, v, h1, h2, h3⟩ := r.sl j m g
      refine ⟨d, v, h1, h2, ?_⟩
      rw [put_same]
      unfold RpM
      exact ⟨RpM.freeze (fun a n => .inl n) m d v (A j) np (fun a z => .inr z) h3, rfl⟩
    · rw [List.getElem?_set_ne (Ne.symm e)] at g'
      rw [put_ne e]
      obtain ⟨d, v, h1, h2, h3⟩ := r.sl j m' g'
      exact ⟨d, v, h1, h2, RpM.mono kp (fun a o e n => ⟨e, n.imp .inl id⟩) m' d v _ (fun _ _ _ q => q) h3⟩
  · by_cases e : j = i
    · rw [e, put_same]
    · rw [put_ne e]
      exact r.no j fun m' q => g' m' (by rw [List.getElem?_set_ne (Ne.symm e)]; exact q)
  · by_cases e : j = i
    · rw [e, put_same]; exact List.nodup_nil
    · rw [put_ne e]; exact r.nd j
  · by_cases e : j = i
    · rw [e, put_same] at h1; cases h1
    · by_cases e' : k = i
      · rw [e', put_same] at h2; cases h2
      · rw [put_ne e] at h1
        rw [put_ne e'] at h2
        exact r.dj j k a h1 h2
  · rcases n with n | n
    · exact r.tr a n
    · exact r.trk n
  · by_cases e : j = i
    · rw [e, put_same] at z; cases z
    · rw [put_ne e] at z
      rcases n with n | n
      · exact r.dn j a z n
      · exact e (r.dj j i a z n)
  · by_cases e : j = i
    · rw [e, put_same] at z; cases z
    · rw [put_ne e] at z; exact r.wd j a z
theorem Stp.freeze {i : Nat} : Stp H N A H (fun a => N a ∨ a ∈ A i) (A.put i []) [] := by
  refine ⟨fun _ _ e _ => e, fun _ o e => ⟨o, e⟩, fun a z => ?_, fun _ z => (nomatch z), fun _ n => .inl n, fun a n => ?_⟩
  · rcases own_put z with z | z
    · exact .inl z
    · cases z
  · rcases n with n | n
    · exact .inl n
    · exact .inr (.inl ⟨i, n⟩)
/-- what a slot owns is changed, in its place -/
theorem ER.change {i : Nat} {m : Md} {d : D} {v : V} (r : ER K W P H N G env σ A) (hp : ∀ v od, P i = some (v, od) → od = none) (tk : ∀ a o, H a = some o → ∃ o', H' a = some o') (g : G[i]? = some (some m)) (hv : σ[i]? = some (some v))
    (gr : ∀ a o, H a = some o → a ∉ A i → H' a = some o) (up : ∀ a, N a → N' a) (fz : ∀ a, N' a → N a ∨ a ∈ A i ∨ H a = none ∨ Tu H a) (tr : ∀ a, N' a → ∃ o, H' a = some o)
    (hB : ∀ a ∈ B, (a ∈ A i ∨ H a = none) ∧ ¬ N' a) (hd : B.Nodup) (h : RpM K H' N' W m d v B) : ER K W P H' N' G (env.set i d) σ (A.put i B) := by
  have hi : i < G.length := (List.getElem?_eq_some_iff.mp g).1
  have kp : Keeps H N H' N' := fun a o e n => ⟨gr a o e fun z => r.dn i a z n, up a n⟩
  have kw : Keeps H (fun a => N a ∨ W a) H' (fun a => N' a ∨ W a) := fun a o e n => ⟨gr a o e fun z => n.elim (r.dn i a z) (r.wd i a z), n.imp (up a) id⟩
  refine ⟨by simp [r.le], r.ls, fun j m' g' => ?_, fun j g' => ?_, fun j => ?_, fun j k a h1 h2 => ?_, fun a n => ?_, fun j a z n => ?_, fun j w od q => ?_, fun a n => ?_, fun j a z n => ?_⟩
  · by_cases e : j = i
    · subst e
      rw [g] at g'
      cases g'
      exact ⟨d, v, by rw [List.getElem?_set_self (by rw [r.le]; exact hi)], hv, by rw [put_same]; exact h⟩
    · rw [put_ne e]
      obtain ⟨d', v', h1, h2, h3⟩ := r.sl j m' g'
      refine ⟨d', v', by rw [List.getElem?_set_ne (Ne.symm e)]; exact h1, h2, RpM.mono kp kw m' d' v' _ (fun a z o q => gr a o q fun z' => e (r.dj j i a z z')) h3⟩
  · by_cases e : j = i
    · subst e; exact absurd g (g' m)
    · rw [put_ne e]; exact r.no j g'
  · by_cases e : j = i
    · rw [e, put_same]; exact hd
    · rw [put_ne e]; exact r.nd j
  · have key : ∀ j, j ≠ i → a ∈ A j → a ∈ B → False := fun j e z zb => by
      rcases (hB a zb).1 with q | q
      · exact e (r.dj j i a z q)
      · obtain ⟨o, q'⟩ := r.trk z
        rw [q] at q'; cases q'
    by_cases e : j = i
    · by_cases e' : k = i
      · rw [e, e']
      · rw [e, put_same] at h1
        rw [put_ne e'] at h2
        exact (key k e' h2 h1).elim
    · rw [put_ne e] at h1
      by_cases e' : k = i
      · rw [e', put_same] at h2
        exact (key j e h1 h2).elim
      · rw [put_ne e'] at h2
        exact r.dj j k a h1 h2
  · exact tr a n
  · by_cases e : j = i
    · rw [e, put_same] at z; exact (hB a z).2 n
    · rw [put_ne e] at z
      obtain ⟨o, q⟩ := r.trk z
      rcases fz a n with n | n | n | n
      · exact r.dn j a z n
      · exact e (r.dj j i a z n)
      · rw [n] at q; cases q
      · exact r.nt z n
  · obtain ⟨q1, q2⟩ := r.pn j w od q
    refine ⟨q1, fun d' e' => ?_⟩
    by_cases e : j = i
    · rw [e] at q
      rw [hp w od q] at e'; cases e'
    · rw [List.getElem?_set_ne (Ne.symm e)]
      exact q2 d' e'
  · obtain ⟨o, q⟩ := r.wt a n
    exact tk a o q
  · by_cases e : j = i
    · rw [e, put_same] at z
      rcases (hB a z).1 with q | q
      · exact r.wd i a q n
      · obtain ⟨o, q'⟩ := r.wt a n
        rw [q] at q'; cases q'
    · rw [put_ne e] at z; exact r.wd j a z n
theorem Stp.change {i : Nat} (gr : ∀ a o, H a = some o → a ∉ A i → H' a = some o) (tk : ∀ a o, H a = some o → ∃ o', H' a = some o') (up : ∀ a, N a → N' a) (fz : ∀ a, N' a → N a ∨ a ∈ A i ∨ H a = none ∨ Tu H a) (tr : ∀ a, N' a → ∃ o, H' a = some o)
    (hB : ∀ a ∈ B, a ∈ A i ∨ H a = none) : Stp H N A H' N' (A.put i B) [] := by
  refine ⟨fun a o q n => gr a o q fun z => n ⟨i, z⟩, tk, fun a z => ?_, fun _ z => (nomatch z), up, fun a n => ?_⟩
  · rcases own_put z with z | z
    · exact .inl z
    · rcases hB a z with z | z
      · exact .inl ⟨i, z⟩
      · exact .inr z
  · exact (fz a n).imp id fun n => n.imp (fun z => ⟨i, z⟩) id
end
end T3
end
set_option Elab.async false
set_option linter.all false
set_option maxRecDepth 100000
set_option maxHeartbeats 1000000
noncomputable section
namespace T3
open PySem PySem.Spec PyProof.Rows L2

/-! ### flat data -/
def flt : D → Option V
  | .none => some .non
  | .bool b => some (.bl b)
  | .int i => some (.int i)
  | .str x => some (.str x)
  | _ => none
def Tr : Addr → Prop := fun _ => True
section
variable {K : Frg} {H : Hp} {N : Addr → Prop}
theorem flt_rp : ∀ {d : D} {v : V}, flt d = some v → Rp K H N d v
  | .none, v, h => by unfold Rp; exact (Option.some.inj h).symm
  | .bool _, v, h => by unfold Rp; exact (Option.some.inj h).symm
  | .int _, v, h => by unfold Rp; exact (Option.some.inj h).symm
  | .str _, v, h => by unfold Rp; exact (Option.some.inj h).symm
  | .list _, v, h => nomatch h
  | .tuple _, v, h => nomatch h
  | .dict _, v, h => nomatch h
theorem rp_flt : ∀ {d : D} {v v' : V}, Rp K H N d v → flt d = some v' → v = v'
  | .none, v, _, r, h => by unfold Rp at r; rw [r]; exact Option.some.inj h
  | .bool _, v, _, r, h => by unfold Rp at r; rw [r]; exact Option.some.inj h
  | .int _, v, _, r, h => by unfold Rp at r; rw [r]; exact Option.some.inj h
  | .str _, v, _, r, h => by unfold Rp at r; rw [r]; exact Option.some.inj h
  | .list _, v, _, _, h => nomatch h
  | .tuple _, v, _, _, h => nomatch h
  | .dict _, v, _, _, h => nomatch h
theorem Rp.tr {d : D} {v : V} (h : Rp K H N d v) : Rp K H Tr d v := Rp.mono (fun a o e _ => ⟨e, trivial⟩) d v h
theorem RpL.tr {d : List D} {v : List V} (h : RpL K H N d v) : RpL K H Tr d v := RpL.mono (fun a o e _ => ⟨e, trivial⟩) d v h
theorem SqL.of2 {a : Addr} {xs : List V} (h : Rd H a (.lst xs) ∨ KL K a xs) : SqL K H a xs := h.elim .inl KL.sq
/-- the outermost object may be one's own -/
def RpR (K : Frg) (H : Hp) (N : Addr → Prop) : D → V → Prop
  | .list ds, v => ∃ a xs, v = .ref a ∧ (Rd H a (.lst xs) ∨ KL K a xs) ∧ RpL K H N ds xs
  | .tuple ds, v => ∃ a xs, v = .ref a ∧ SqT K H a xs ∧ RpL K H N ds xs
  | .dict kvs, v => ∃ a, v = .ref a ∧ ((∃ ps, Rd H a (.dK ps) ∧ RpK K H N kvs ps) ∨ (∃ ps, H a = some (.dT ps) ∧ RpT K H N kvs ps))
  | d, v => Rp K H N d v
theorem Rp.sql {ds : List D} {v : V} (h : Rp K H N (.list ds) v) : ∃ a xs, v = .ref a ∧ SqL K H a xs ∧ RpL K H N ds xs := by
  unfold Rp at h
  obtain ⟨a, xs, e, q, r⟩ := h
  refine ⟨a, xs, e, ?_, r⟩
  rcases q with ⟨_, q⟩ | q
  · exact .inl q
  · exact q.sq
theorem Rp.sqt {ds : List D} {v : V} (h : Rp K H N (.tuple ds) v) : ∃ a xs, v = .ref a ∧ SqT K H a xs ∧ RpL K H N ds xs := by
  unfold Rp at h
  obtain ⟨a, xs, e, q, r⟩ := h
  refine ⟨a, xs, e, ?_, r⟩
  rcases q with ⟨_, q⟩ | q
  · exact .inl q
  · exact .inr q
theorem Rp.root : ∀ {d : D} {v : V}, Rp K H N d v → RpR K H N d v
  | .none, _, h => h
  | .bool _, _, h => h
  | .int _, _, h => h
  | .str _, _, h => h
  | .list _, _, h => by
    unfold Rp at h
    obtain ⟨a, xs, e, q, r⟩ := h
    exact ⟨a, xs, e, q.imp (fun q => q.2) id, r⟩
  | .tuple _, _, h => h.sqt
  | .dict _, v, h => by
    unfold Rp at h
    obtain ⟨a, e, _, q⟩ := h
    exact ⟨a, e, q⟩
theorem RpR.tr : ∀ {d : D} {v : V}, RpR K H N d v → Rp K H Tr d v
  | .none, _, h => Rp.tr (N := N) h
  | .bool _, _, h => Rp.tr (N := N) h
  | .int _, _, h => Rp.tr (N := N) h
  | .str _, _, h => Rp.tr (N := N) h
  | .list _, v, h => by
    obtain ⟨a, xs, e, q, r⟩ := h
    unfold Rp
    refine ⟨a, xs, e, ?_, r.tr⟩
    rcases q with q | q
    · exact .inl ⟨trivial, q⟩
    · exact .inr q
  | .tuple _, v, h => by
    obtain ⟨a, xs, e, q, r⟩ := h
    unfold Rp
    refine ⟨a, xs, e, ?_, r.tr⟩
    rcases q with q | q
    · exact .inl ⟨trivial, q⟩
    · exact .inr q
  | .dict _, v, h => by
    obtain ⟨a, e, q⟩ := h
    unfold Rp
    refine ⟨a, e, trivial, ?_⟩
    rcases q with ⟨ps, q, r⟩ | ⟨ps, q, r⟩
    · exact .inl ⟨ps, q, RpK.mono (fun a o e _ => ⟨e, trivial⟩) _ _ r⟩
    · exact .inr ⟨ps, q, RpT.mono (fun a o e _ => ⟨e, trivial⟩) _ _ r⟩
theorem AllM.sh {W : Addr → Prop} : ∀ {ds : List D} {xs : List V} {A : List Addr}, AllM (RpM K H N W .sh) ds xs A → RpL K H N ds xs ∧ A = []
  | [], xs, A, h => by
    obtain ⟨rfl, e⟩ := h
    exact ⟨RpL.nil, e⟩
  | d :: ds, xs, A, h => by
    obtain ⟨x, r, A1, A2, rfl, rfl, h1, h2⟩ := h
    obtain ⟨q, e⟩ := AllM.sh h2
    unfold RpM at h1
    exact ⟨RpL.cons h1.1 q, by rw [h1.2, e]; rfl⟩
theorem AllM.of_sh {W : Addr → Prop} : ∀ {ds : List D} {xs : List V}, RpL K H N ds xs → AllM (RpM K H N W .sh) ds xs []
  | [], xs, h => by unfold RpL at h; exact ⟨h, rfl⟩
  | d :: ds, xs, h => by
    unfold RpL at h
    obtain ⟨x, r, e, h1, h2⟩ := h
    exact ⟨x, r, [], [], e, rfl, by unfold RpM; exact ⟨h1, rfl⟩, AllM.of_sh h2⟩
/-- modes whose outermost object alone is one's own -/
def Md.flat : Md → Bool
  | .sh => true
  | .ow .sh => true
  | .dc _ => true
  | _ => false
theorem RpM.root {W : Addr → Prop} : ∀ {m : Md} {d : D} {v : V} {A : List Addr}, m.flat = true → RpM K H N W m d v A → RpR K H N d v
  | .sh, d, v, A, _, h => by unfold RpM at h; exact h.1.root
  | .ow .sh, d, v, A, _, h => by
    unfold RpM at h
    obtain ⟨a, xs, ds, As, e1, e2, e3, _, h⟩ := h
    subst e2
    exact ⟨a, xs, e1, .inl (.inl e3), h.sh.1⟩
  | .dc _, d, v, A, _, h => by
    unfold RpM at h
    obtain ⟨a, kvs, e1, e2, _, h⟩ := h
    subst e2
    refine ⟨a, e1, ?_⟩
    rcases h with ⟨_, ps, q, r⟩ | ⟨_, ps, q, r⟩
    · exact .inl ⟨ps, .inl q, r⟩
    · exact .inr ⟨ps, q, r⟩
mutual
theorem RpM.tr {W : Addr → Prop} : ∀ (m : Md) (d : D) (v : V) (A : List Addr), RpM K H N W m d v A → Rp K H Tr d v
  | .sh, d, v, A, h => by unfold RpM at h; exact h.1.tr
  | .pk, d, v, A, h => by unfold RpM at h; exact h.1.tr
  | .ow m, d, v, A, h => by
    unfold RpM at h
    obtain ⟨a, xs, ds, As, e1, e2, e3, e4, h⟩ := h
    subst e2
    unfold Rp
    exact ⟨a, xs, e1, .inl ⟨trivial, .inl e3⟩, h.freeze fun d v B hb q => RpM.tr m d v B q⟩
  | .tu ms, d, v, A, h => by
    unfold RpM at h
    obtain ⟨a, xs, ds, e1, e2, n, e3, h⟩ := h
    subst e2
    unfold Rp
    exact ⟨a, xs, e1, .inl ⟨trivial, .inl e3⟩, RpMt.tr ms ds xs A h⟩
  | .dc _, d, v, A, h => by
    unfold RpM at h
    obtain ⟨a, kvs, e1, e2, e3, h⟩ := h
    subst e2
    unfold Rp
    refine ⟨a, e1, trivial, ?_⟩
    rcases h with ⟨_, ps, q, r⟩ | ⟨_, ps, q, r⟩
    · exact .inl ⟨ps, .inl q, RpK.mono (fun a o e _ => ⟨e, trivial⟩) _ _ r⟩
    · exact .inr ⟨ps, q, RpT.mono (fun a o e _ => ⟨e, trivial⟩) _ _ r⟩
theorem RpMt.tr {W : Addr → Prop} : ∀ (ms : List Md) (ds : List D) (xs : List V) (A : List Addr), RpMt K H N W ms ds xs A → RpL K H Tr ds xs
  | [], ds, xs, A, h => by unfold RpMt at h; obtain ⟨rfl, rfl, _⟩ := h; exact RpL.nil
  | m :: ms, ds, xs, A, h => by
    unfold RpMt at h
    obtain ⟨d, dr, x, r, A1, A2, e1, e2, e3, h1, h2⟩ := h
    subst e1 e2
    exact RpL.cons (RpM.tr m d x A1 h1) (RpMt.tr ms dr r A2 h2)
end
end

/-! ### readings -/
/-- a value, nothing changed -/
def tQ (K : Frg) (W : Addr → Prop) (P : Pin) (G : Gm) (m : Md) (f : En → Option D) : TE := fun σ H Q =>
  ∃ env N A d, ER K W P H N G env σ A ∧ f env = some d ∧ ∀ v H' N' B, Ext H N H' N' B → RpM K H' N' W m d v B → Q v H'
/-- a look: the outermost object may be one's own -/
def tP (K : Frg) (W : Addr → Prop) (P : Pin) (G : Gm) (f : En → Option D) : TE := fun σ H Q =>
  ∃ env N A d, ER K W P H N G env σ A ∧ f env = some d ∧ ∀ v H' N', Ext H N H' N' [] → RpR K H' N' d v → Q v H'
/-- a look, whatever it is -/
def tK (K : Frg) (W : Addr → Prop) (P : Pin) (G : Gm) (f : En → Option D) : TE := fun σ H Q =>
  ∃ env N A d, ER K W P H N G env σ A ∧ f env = some d ∧ ∀ v H' N', Ext H N H' N' [] → Rp K H' Tr d v → Q v H'
/-- a value; what is owned may change -/
def tE (K : Frg) (W : Addr → Prop) (P : Pin) (G G' : Gm) (m : Md) (f : En → Option (D × En)) : TE := fun σ H Q =>
  ∃ env N A d env', ER K W P H N G env σ A ∧ f env = some (d, env') ∧ ∀ v H' N' A' B, Stp H N A H' N' A' B → ER K W P H' N' G' env' σ A' → RpM K H' N' W m d v B → Bok N' W A' B → Q v H'
/-- a test -/
def tB (K : Frg) (W : Addr → Prop) (P : Pin) (G G' : Gm) (f : En → Option (Bool × En)) : TT := fun σ H Q =>
  ∃ env N A b env', ER K W P H N G env σ A ∧ f env = some (b, env') ∧ ∀ H' N' A', Stp H N A H' N' A' [] → ER K W P H' N' G' env' σ A' → Q b H'
/-- items, nothing changed -/
def tQs (K : Frg) (W : Addr → Prop) (P : Pin) (G : Gm) (ms : List Md) (f : En → Option (List D)) : TA := fun σ H Q =>
  ∃ env N A ds, ER K W P H N G env σ A ∧ f env = some ds ∧ ∀ xs H' N' B, Ext H N H' N' B → RpMt K H' N' W ms ds xs B → Q xs H'
def tKs (K : Frg) (W : Addr → Prop) (P : Pin) (G : Gm) (f : En → Option (List D)) : TA := fun σ H Q =>
  ∃ env N A ds, ER K W P H N G env σ A ∧ f env = some ds ∧ ∀ xs H' N', Ext H N H' N' [] → RpL K H' Tr ds xs → Q xs H'
def tEs (K : Frg) (W : Addr → Prop) (P : Pin) (G G' : Gm) (ms : List Md) (f : En → Option (List D × En)) : TA := fun σ H Q =>
  ∃ env N A ds env', ER K W P H N G env σ A ∧ f env = some (ds, env') ∧ ∀ xs H' N' A' B, Stp H N A H' N' A' B → ER K W P H' N' G' env' σ A' → RpMt K H' N' W ms ds xs B → Bok N' W A' B → Q xs H'

def lq (f : En → Option D) : En → Option (D × En) := fun env => (f env).bind fun d => some (d, env)
def lqs (f : En → Option (List D)) : En → Option (List D × En) := fun env => (f env).bind fun d => some (d, env)

theorem pe_weak {X : Cx} {e : Expr} {t t' : TE} (h : PE X e t) (w : ∀ σ H Q, t' σ H Q → t σ H Q) : PE X e t' := ⟨fun pins s σ H Q I q => h.run pins s σ H Q I (w σ H Q q)⟩
theorem pt_weak {X : Cx} {e : Expr} {t t' : TT} (h : PT X e t) (w : ∀ σ H Q, t' σ H Q → t σ H Q) : PT X e t' := ⟨fun pins s σ H Q I q => h.run pins s σ H Q I (w σ H Q q)⟩
theorem pa_weak {X : Cx} {e : List Expr} {t t' : TA} (h : PA X e t) (w : ∀ σ H Q, t' σ H Q → t σ H Q) : PA X e t' := ⟨fun pos pins s σ H Q I q => h.run pos pins s σ H Q I (w σ H Q q)⟩
theorem ps_weak {X : Cx} {e : Stmt} {t t' : TS} (h : PS X e t) (w : ∀ D σ H, t' D σ H → t D σ H) : PS X e t' := ⟨fun pins s σ H Q I q => h.run pins s σ H Q I (w Q σ H q)⟩
theorem pss_weak {X : Cx} {e : List Stmt} {t t' : TS} (h : PSs X e t) (w : ∀ D σ H, t' D σ H → t D σ H) : PSs X e t' := ⟨fun pins s σ H Q I q => h.run pins s σ H Q I (w Q σ H q)⟩

section
variable {X : Cx} {e : Expr} {K : Frg} {W : Addr → Prop} {P : Pin} {G G' G1 G2 : Gm} {m m1 m2 : Md}
theorem opt_bind {α β : Type} {o : Option α} {g : α → Option β} {b : β} (h : o.bind g = some b) : ∃ a, o = some a ∧ g a = some b := by
  cases o with
  | none => cases h
  | some a => exact ⟨a, rfl, h⟩
/-! from one reading to another -/
theorem RpM.sh_of {H : Hp} {N : Addr → Prop} {d : D} {v : V} (h : Rp K H N d v) : RpM K H N W .sh d v [] := by unfold RpM; exact ⟨h, rfl⟩
theorem q2s {f : En → Option D} (h : PE X e (tQ K W P G m f)) (np : m.np = true := by rfl) : PE X e (tQ K W P G .sh f) :=
  pe_weak h fun σ H Q ⟨env, N, A, d, r, ef, q⟩ => ⟨env, N, A, d, r, ef, fun v H' N' B ex hv =>
    q v H' _ [] (ex.freeze (RpM.trk m d v B hv)) (RpM.sh_of (RpM.freeze (fun a n => .inl n) m d v B np (fun a z => .inr z) hv))⟩
theorem q2p {f : En → Option D} (h : PE X e (tQ K W P G m f)) (fl : m.flat = true := by rfl) : PE X e (tP K W P G f) :=
  pe_weak h fun σ H Q ⟨env, N, A, d, r, ef, q⟩ => ⟨env, N, A, d, r, ef, fun v H' N' B ex hv => q v H' N' ex.drop (hv.root fl)⟩
theorem p2k {f : En → Option D} (h : PE X e (tP K W P G f)) : PE X e (tK K W P G f) :=
  pe_weak h fun σ H Q ⟨env, N, A, d, r, ef, q⟩ => ⟨env, N, A, d, r, ef, fun v H' N' ex hv => q v H' N' ex hv.tr⟩
theorem q2k {f : En → Option D} (h : PE X e (tQ K W P G m f)) : PE X e (tK K W P G f) :=
  pe_weak h fun σ H Q ⟨env, N, A, d, r, ef, q⟩ => ⟨env, N, A, d, r, ef, fun v H' N' B ex hv => q v H' N' ex.drop (RpM.tr m d v B hv)⟩
theorem q2e {f : En → Option D} (h : PE X e (tQ K W P G m f)) : PE X e (tE K W P G G m (lq f)) :=
  pe_weak h fun σ H Q ⟨env, N, A, d, env', r, ef, q⟩ => by
    obtain ⟨d', e1, e2⟩ := opt_bind ef
    cases e2
    exact ⟨env, N, A, d, r, e1, fun v H' N' B ex hv => q v H' N' A B ex.stp (r.ext ex) hv (r.bok ex)⟩
theorem Stp.frz {H H' : Hp} {N N' : Addr → Prop} {A A' : Ow} {B : List Addr} (s : Stp H N A H' N' A' B) : Stp H N A H' (fun a => N' a ∨ a ∈ B) A' [] :=
  ⟨s.keep, s.trk, s.own, fun _ z => (nomatch z), fun a n => .inl (s.up a n), fun a n => n.elim (s.fz a) fun z => .inr ((s.bf a z).imp id .inl)⟩
theorem ER.frz {H : Hp} {N : Addr → Prop} {env : En} {σ : L2.St} {A : Ow} {B : List Addr} (r : ER K W P H N G env σ A) (b : Bok N W A B) (t : ∀ a ∈ B, ∃ o, H a = some o) : ER K W P H (fun a => N a ∨ a ∈ B) G env σ A := by
  refine ⟨r.le, r.ls, fun i m g => ?_, r.no, r.nd, r.dj, fun a n => n.elim (r.tr a) (t a), fun i a z n => n.elim (r.dn i a z) fun z' => b.ba a z' ⟨i, z⟩, r.pn, r.wt, r.wd⟩
  obtain ⟨d, v, h1, h2, h3⟩ := r.sl i m g
  exact ⟨d, v, h1, h2, RpM.mono (fun a o e n => ⟨e, .inl n⟩) (fun a o e n => ⟨e, n.imp .inl id⟩) m d v _ (fun _ _ _ q => q) h3⟩
theorem Bok.nil {N : Addr → Prop} {A : Ow} : Bok N W A [] := ⟨fun _ z => (nomatch z), fun _ z => (nomatch z), fun _ z => (nomatch z), List.nodup_nil⟩
theorem e2s {f : En → Option (D × En)} (h : PE X e (tE K W P G G' m f)) (np : m.np = true := by rfl) : PE X e (tE K W P G G' .sh f) :=
  pe_weak h fun σ H Q ⟨env, N, A, d, env', r, ef, q⟩ => ⟨env, N, A, d, env', r, ef, fun v H' N' A' B st r' hv b =>
    q v H' _ A' [] st.frz (r'.frz b (RpM.trk m d v B hv)) (RpM.sh_of (RpM.freeze (fun a n => .inl n) m d v B np (fun a z => .inr z) hv)) Bok.nil⟩

/-! ### names -/
def fV (i : Nat) : En → Option D := fun env => env[i]?
section
variable {x : Str} {pos : Pos} {i : Nat}
theorem v_sh (hN : X.N[i]? = some x) (hv : Vis X.env.scope x) (g : G[i]? = some (some .sh)) (hd : (x == ("__debug__" : Str)) = false := by decide) (hcd : (x == ("__classdict__" : Str)) = false := by decide) :
    PE X (.Name x pos) (tQ K W P G .sh (fV i)) :=
  pe_weak (pe_var hN hv hd hcd) fun σ H Q ⟨env, N, A, d, r, ef, q⟩ => by
    obtain ⟨d', v, h1, h2, h3⟩ := r.sl i _ g
    unfold fV at ef
    rw [h1] at ef
    cases ef
    unfold RpM at h3
    exact ⟨v, h2, q v H N [] Ext.refl (RpM.sh_of h3.1)⟩
theorem v_pk (hN : X.N[i]? = some x) (hv : Vis X.env.scope x) (g : G[i]? = some (some .pk)) (hd : (x == ("__debug__" : Str)) = false := by decide) (hcd : (x == ("__classdict__" : Str)) = false := by decide) :
    PE X (.Name x pos) (tQ K W P G .pk (fV i)) :=
  pe_weak (pe_var hN hv hd hcd) fun σ H Q ⟨env, N, A, d, r, ef, q⟩ => by
    obtain ⟨d', v, h1, h2, h3⟩ := r.sl i _ g
    unfold fV at ef
    rw [h1] at ef
    cases ef
    unfold RpM at h3
    exact ⟨v, h2, q v H N [] Ext.refl (by unfold RpM; exact ⟨h3.1, rfl⟩)⟩
theorem v_p (hN : X.N[i]? = some x) (hv : Vis X.env.scope x) (g : G[i]? = some (some m)) (fl : m.flat = true := by rfl) (hd : (x == ("__debug__" : Str)) = false := by decide) (hcd : (x == ("__classdict__" : Str)) = false := by decide) :
    PE X (.Name x pos) (tP K W P G (fV i)) :=
  pe_weak (pe_var hN hv hd hcd) fun σ H Q ⟨env, N, A, d, r, ef, q⟩ => by
    obtain ⟨d', v, h1, h2, h3⟩ := r.sl i _ g
    unfold fV at ef
    rw [h1] at ef
    cases ef
    exact ⟨v, h2, q v H N Ext.refl (h3.root fl)⟩
theorem v_k (hN : X.N[i]? = some x) (hv : Vis X.env.scope x) (g : G[i]? = some (some m)) (hd : (x == ("__debug__" : Str)) = false := by decide) (hcd : (x == ("__classdict__" : Str)) = false := by decide) :
    PE X (.Name x pos) (tK K W P G (fV i)) :=
  pe_weak (pe_var hN hv hd hcd) fun σ H Q ⟨env, N, A, d, r, ef, q⟩ => by
    obtain ⟨d', v, h1, h2, h3⟩ := r.sl i _ g
    unfold fV at ef
    rw [h1] at ef
    cases ef
    exact ⟨v, h2, q v H N Ext.refl (RpM.tr m d v _ h3)⟩
/-- a name's own thing is handed on: the name is without it -/
theorem v_mv (hN : X.N[i]? = some x) (hv : Vis X.env.scope x) (g : G[i]? = some (some m)) (hd : (x == ("__debug__" : Str)) = false := by decide) (hcd : (x == ("__classdict__" : Str)) = false := by decide) :
    PE X (.Name x pos) (tE K W P G (G.set i none) m (lq (fV i))) :=
  pe_weak (pe_var hN hv hd hcd) fun σ H Q ⟨env, N, A, d, env', r, ef, q⟩ => by
    obtain ⟨d', v, h1, h2, h3⟩ := r.sl i _ g
    obtain ⟨d2, e1, e2⟩ := opt_bind ef
    unfold fV at e1
    rw [h1] at e1
    cases e1
    cases e2
    refine ⟨v, h2, q v H N (A.put i []) (A i) ⟨fun _ _ e _ => e, fun _ o e => ⟨o, e⟩, fun a z => ?_, fun a z => .inl ⟨i, z⟩, fun _ n => n, fun _ n => .inl n⟩ r.forget h3 ⟨fun a z => r.dn i a z, fun a z => r.wd i a z, fun a z' ⟨j, z⟩ => ?_, r.nd i⟩⟩
    · rcases own_put z with z | z
      · exact .inl z
      · cases z
    · by_cases e : j = i
      · rw [e, put_same] at z; cases z
      · rw [put_ne e] at z
        exact e (r.dj j i a z z')
/-- a name's own thing is frozen -/
theorem v_fz (hN : X.N[i]? = some x) (hv : Vis X.env.scope x) (g : G[i]? = some (some m)) (np : m.np = true := by rfl) (hd : (x == ("__debug__" : Str)) = false := by decide) (hcd : (x == ("__classdict__" : Str)) = false := by decide) :
    PE X (.Name x pos) (tE K W P G (G.set i (some .sh)) .sh (lq (fV i))) :=
  pe_weak (pe_var hN hv hd hcd) fun σ H Q ⟨env, N, A, d, env', r, ef, q⟩ => by
    obtain ⟨d', v, h1, h2, h3⟩ := r.sl i _ g
    obtain ⟨d2, e1, e2⟩ := opt_bind ef
    unfold fV at e1
    rw [h1] at e1
    cases e1
    cases e2
    exact ⟨v, h2, q v H _ (A.put i []) [] Stp.freeze (r.freeze g np) (RpM.sh_of (RpM.freeze (fun a n => .inl n) m d v (A i) np (fun a z => .inr z) h3)) Bok.nil⟩
end

/-! ### constants -/
def fC (d : D) : En → Option D := fun _ => some d
theorem c_flat {v : V} {d : D} (h : PE X e (tC v)) (hd : flt d = some v) : PE X e (tQ K W P G .sh (fC d)) :=
  pe_weak h fun σ H Q ⟨env, N, A, d', r, ef, q⟩ => by
    cases ef
    exact q v H N [] Ext.refl (RpM.sh_of (flt_rp hd))
theorem c_int {i j pos} : PE X (.Constant (.int i) j pos) (tQ K W P G .sh (fC (.int i))) := c_flat pe_int rfl
theorem c_bl {b j pos} : PE X (.Constant (.bool b) j pos) (tQ K W P G .sh (fC (.bool b))) := c_flat pe_bl rfl
theorem c_non {j pos} : PE X (.Constant .none j pos) (tQ K W P G .sh (fC .none)) := c_flat pe_non rfl
theorem c_str {x j pos} : PE X (.Constant (.str x) j pos) (tQ K W P G .sh (fC (.str x))) := c_flat pe_str rfl
theorem c_glob {x : Str} {v : V} {d : D} {u : Value} {pos : Pos} (hg : Gl X x) (hm : X.mg x = some u) (r : RelV v u) (hd : flt d = some v) (h : (x == ("__debug__" : Str)) = false := by decide) : PE X (.Name x pos) (tQ K W P G .sh (fC d)) :=
  c_flat (pe_glob hg hm r h) hd

/-! ### operators whose answer is flat -/
/-- r holds by the function g of the data -/
def Flat2 (K : Frg) (r : R2) (g : D → D → Option D) : Prop := ∀ x y dx dy d H Q, Rp K H Tr dx x → Rp K H Tr dy y → g dx dy = some d → (∀ v, flt d = some v → Q v H) → r x y H Q
def f2 (g : D → D → Option D) (fa fb : En → Option D) : En → Option D := fun env => (fa env).bind fun x => (fb env).bind fun y => g x y
def e2 (g : D → D → Option D) (fa fb : En → Option (D × En)) : En → Option (D × En) := fun env => (fa env).bind fun x => (fb x.2).bind fun y => (g x.1 y.1).bind fun d => some (d, y.2)
theorem ext_tr {H H' : Hp} {N N' : Addr → Prop} {B : List Addr} {d : D} {v : V} (e : Ext H N H' N' B) (h : Rp K H Tr d v) : Rp K H' Tr d v := Rp.mono (fun a o q _ => ⟨e.gr a o q, trivial⟩) d v h
theorem tK_op2 {r : R2} {g : D → D → Option D} {fa fb : En → Option D} (hg : Flat2 K r g) {σ : L2.St} {H : Hp} {Q : VK} (h : tQ K W P G .sh (f2 g fa fb) σ H Q) : tOp r (tK K W P G fa) (tK K W P G fb) σ H Q := by
  obtain ⟨env, N, A, d, r, ef, q⟩ := h
  obtain ⟨dx, ea, ef⟩ := opt_bind ef
  obtain ⟨dy, eb, ef⟩ := opt_bind ef
  exact ⟨env, N, A, dx, r, ea, fun x H1 N1 e1 h1 => ⟨env, N1, A, dy, r.ext e1, eb, fun y H2 N2 e2 h2 =>
    hg x y dx dy d H2 Q (ext_tr e2 h1) h2 ef fun v hv => q v H2 N2 [] (e1.trans e2) (RpM.sh_of (flt_rp hv))⟩⟩
theorem tE_op2 {r : R2} {g : D → D → Option D} {fa fb : En → Option (D × En)} (hg : Flat2 K r g) {σ : L2.St} {H : Hp} {Q : VK} (h : tE K W P G G2 .sh (e2 g fa fb) σ H Q) : tOp r (tE K W P G G1 .sh fa) (tE K W P G1 G2 .sh fb) σ H Q := by
  obtain ⟨env, N, A, d, env', r, ef, q⟩ := h
  obtain ⟨⟨dx, env1⟩, ea, ef⟩ := opt_bind ef
  obtain ⟨⟨dy, env2⟩, eb, ef⟩ := opt_bind ef
  obtain ⟨d', eg, ef⟩ := opt_bind ef
  cases ef
  refine ⟨env, N, A, dx, env1, r, ea, fun x H1 N1 A1 B1 s1 r1 h1 b1 => ⟨env1, N1, A1, dy, env2, r1, eb, fun y H2 N2 A2 B2 s2 r2 h2 b2 => ?_⟩⟩
  have h1' := s2.val r1 b1 h1
  unfold RpM at h1' h2
  refine hg x y dx dy d H2 Q h1'.1.tr h2.1.tr eg fun v hv => q v H2 N2 A2 [] ?_ r2 (RpM.sh_of (flt_rp hv)) Bok.nil
  have e1 := h1'.2
  have e2 := h2.2
  subst e1 e2
  exact s1.trans s2
variable {a b : Expr} {pos : Pos}
theorem q_bin {op : Operator} {r : R2} {g : D → D → Option D} {fa fb : En → Option D} (ho : OpR X (binaryOp op) r) (hg : Flat2 K r g) (ha : PE X a (tK K W P G fa)) (hb : PE X b (tK K W P G fb)) : PE X (.BinOp a op b pos) (tQ K W P G .sh (f2 g fa fb)) :=
  pe_weak (pe_op ho ha hb) fun σ H Q h => tK_op2 hg h
theorem e_bin {op : Operator} {r : R2} {g : D → D → Option D} {fa fb : En → Option (D × En)} (ho : OpR X (binaryOp op) r) (hg : Flat2 K r g) (ha : PE X a (tE K W P G G1 .sh fa)) (hb : PE X b (tE K W P G1 G2 .sh fb)) : PE X (.BinOp a op b pos) (tE K W P G G2 .sh (e2 g fa fb)) :=
  pe_weak (pe_op ho ha hb) fun σ H Q h => tE_op2 hg h
theorem q_cmp {op : CmpOp} {r : R2} {g : D → D → Option D} {fa fb : En → Option D} (ho : OpR X (compareOp op) r) (hg : Flat2 K r g) (ha : PE X a (tK K W P G fa)) (hb : PE X b (tK K W P G fb)) (hm : behindInMarks op b = false) : PE X (.Compare a [op] [b] pos) (tQ K W P G .sh (f2 g fa fb)) :=
  pe_weak (pe_cmpR ho ha hb hm) fun σ H Q h => tK_op2 hg h
theorem e_cmp {op : CmpOp} {r : R2} {g : D → D → Option D} {fa fb : En → Option (D × En)} (ho : OpR X (compareOp op) r) (hg : Flat2 K r g) (ha : PE X a (tE K W P G G1 .sh fa)) (hb : PE X b (tE K W P G1 G2 .sh fb)) (hm : behindInMarks op b = false) : PE X (.Compare a [op] [b] pos) (tE K W P G G2 .sh (e2 g fa fb)) :=
  pe_weak (pe_cmpR ho ha hb hm) fun σ H Q h => tE_op2 hg h

/-! one operand -/
def Flat1 (K : Frg) (r : V → Hp → VK → Prop) (g : D → Option D) : Prop := ∀ x dx d H Q, Rp K H Tr dx x → g dx = some d → (∀ v, flt d = some v → Q v H) → r x H Q
def f1 (g : D → Option D) (fa : En → Option D) : En → Option D := fun env => (fa env).bind g
def e1 (g : D → Option D) (fa : En → Option (D × En)) : En → Option (D × En) := fun env => (fa env).bind fun x => (g x.1).bind fun d => some (d, x.2)
theorem q_un {op : UnaryOp} {r : V → Hp → VK → Prop} {g : D → Option D} {fa : En → Option D} (ho : UnR X (unaryOp op) r) (hg : Flat1 K r g) (ha : PE X a (tK K W P G fa)) : PE X (.UnaryOp op a pos) (tQ K W P G .sh (f1 g fa)) :=
  pe_weak (pe_un ho ha) fun σ H Q ⟨env, N, A, d, r, ef, q⟩ => by
    obtain ⟨dx, ea, ef⟩ := opt_bind ef
    exact ⟨env, N, A, dx, r, ea, fun x H1 N1 e1 h1 => hg x dx d H1 Q h1 ef fun v hv => q v H1 N1 [] e1 (RpM.sh_of (flt_rp hv))⟩
end
end T3
end
set_option Elab.async false
set_option linter.all false
set_option maxRecDepth 100000
set_option maxHeartbeats 1000000
noncomputable section
namespace T3
open PySem PySem.Spec PyProof.Rows L2

/-! ### defs, called where nothing is being shown (no guard around) -/
structure FnG (Pg : Program) (w : World) (K : Frg) (mg : Str → Option Value) (base : Heap) (C : CXT) (k : Nat) (f : Addr) (fd : FuncData) (ps : List Str) (sp : Sp) : Prop where
  len : ∀ vs H Q E, sp vs H Q E → vs.length = ps.length
  run : ∀ (A : Around) (outer : List Env) (s : Shared) (H : Hp) (args : Args) (us : List Value) (vs : List V) (Q : VK) (E : XK), Room k A → A.guards = some [] → Env0 Pg w K mg base A outer s H →
    BindsTo s fd args (ps.zip us) → Vals vs us → sp vs H Q E → codeAny (model Pg w) A (.call (.ref f) args) (CR C outer Pg w H s Q E) s
section
variable {Pg : Program} {w : World} {K : Frg} {mg : Str → Option Value} {base : Heap} {C : CXT}
theorem FnG.mono {j k : Nat} {f : Addr} {fd : FuncData} {ps : List Str} {sp : Sp} (F : FnG Pg w K mg base C j f fd ps sp) (h : j ≤ k) : FnG Pg w K mg base C k f fd ps sp :=
  ⟨F.len, fun A outer s H args us vs Q E hr => F.run A outer s H args us vs Q E (hr.mono h)⟩
theorem fng_of {x qual : Str} {st : Stmt} {f : Addr} {fd : FuncData} {N ps : List Str} {k : Nat} {sp : Sp} (F : Fun K x qual st f fd) (S : FnScope N ps (defScope st)) (len : ∀ vs H Q E, sp vs H Q E → vs.length = ps.length)
    (hbody : ∀ (cdv : Value) (A : Around) (outer : List Env) (s : Shared) (H : Hp) (vs : List V) (Q : VK) (E : XK), Room k (A.deeper (envOfC qual (defScope st) s.heap.objs.size f cdv)) → A.guards = some [] → sp vs H Q E →
      ∃ t, PSs (cxOf C Pg w K mg base N qual (defScope st) f cdv A outer s H E) (defBody st) t ∧ t { nx := fun _ H' => Q .non H', rt := Q } (start N vs) H) :
    FnG Pg w K mg base C (k + 1) f fd ps sp := by
  obtain ⟨oc, od, kV, doc, pm, an, cdv, ct, osl, efd, lk, cd⟩ := F.ex
  subst efd
  constructor
  · exact len
  intro A outer s H args us vs Q E room gd e0 bt rel hsp
  have inK : K.In s.heap := e0.mod.kin.keeps fun b o q => (e0.bs b o q).1
  have nolim : s.heap.NoLimit := e0.mod.nolimit.keeps fun b o q => (e0.bs b o q).1
  have kinds : ∀ y ∈ ps.zip us, (defScope st).names.lookup y.1 = some .local ∨ ((defScope st).names.lookup y.1 = some .cell ∧ ((cellsFrom (s.heap.objs.size + 1) (defScope st).names []).lookup y.1).isSome = true) := by
    rintro ⟨n, v⟩ hy
    have hn := S.par n (List.of_mem_zip hy).1
    exact hn.imp id fun q => ⟨q, PySem.W.cellsFrom_some _ _ _ (.inl q)⟩
  refine codeAny_call_function room.depth (inK _ _ lk) rfl S.co S.gen rfl (PySem.W.codeRec_of inK cd) (bt _ _ _ _ ?_)
  refine wpAny_newFunctionEnv_cells S.kind kinds ?_
  intro env he s1 x
  subst he
  refine ⟨nolim.keeps x.toInCall.keep, codeAny_func ?_⟩
  obtain ⟨t, pt, ht⟩ := hbody cdv A outer s H vs Q E (room.deeper _) gd hsp
  have inv : Inv (cxOf C Pg w K mg base N qual (defScope st) f cdv A outer s H E) [] (start N vs) H s1 := inv_start S room.hd e0 (len _ _ _ _ hsp) rel x
  refine wpAny_mono (pt.run [] s1 (start N vs) H _ inv ht) ?_ (fun e s' q => q)
  intro fl s' q
  cases fl with
  | next => obtain ⟨σ', H', J, q⟩ := q; exact ⟨.non, H', J.os, J.bare, J.base, J.hok, rfl, q⟩
  | ret u => obtain ⟨v, σ', H', J, rv, q⟩ := q; exact ⟨v, H', J.os, J.bare, J.base, J.hok, rv, q⟩
  | brk => obtain ⟨_, _, _, q⟩ := q; exact q.elim
  | cont => obtain ⟨_, _, _, q⟩ := q; exact q.elim
end
section
variable {X : Cx} {C : CXT} {k : Nat} {f : Addr} {fd : FuncData} {ps : List Str} {sp : Sp} {x : Str} {p pos : Pos} {e : Expr} {es : List Expr} {t : TA}
/-- the call of a def; E at the slots: what is wanted of an exception -/
def tCl (sp : Sp) (E : L2.St → XK) (t : TA) : TE := fun σ H Q => t σ H fun vs H1 => sp vs H1 Q (E σ)
def PassG (C : CXT) (X : Cx) (σ : L2.St) (E : XK) : Prop := ∀ (pins : List (Addr × Obj)) (H : Hp) (s : Shared) (e : Value) (s' : Shared), Inv X pins σ H s → C X.stack H s E e s' → X.xe e s'
theorem run_g {pins : List (Addr × Obj)} {σ : L2.St} {E : L2.St → XK} {H : Hp} {s : Shared} {Q : VK} {us : List Value} {vs : List V} (F : FnG X.prog X.w X.K X.mg X.base C k f fd ps sp) (hr : Room k X.A) (hg : X.A.guards = some [])
    (hb : Binds X.K fd ps []) (hx : PassG C X σ (E σ)) (I : Inv X pins σ H s) (r : Vals vs us) (h : sp vs H Q (E σ)) : wpAny (model X.prog X.w) X.A (call (.ref f) us) (EP X pins σ Q) X.xe s := by
  have lu : (us ++ []).length = ps.length := by rw [List.append_nil, ← r.length]; exact F.len _ _ _ _ h
  have bt := hb s us I.kIn lu
  rw [List.append_nil] at bt
  apply wpAny_call
  refine codeAny_mono (F.run X.A X.stack s H ⟨us, []⟩ us vs Q (E σ) hr hg I.env0 bt r h) ?_
  intro res s' q
  cases res with
  | error er => exact hx pins H s er s' I q
  | ok fl => cases fl with
    | ret u => exact I.after q
    | next => exact q.elim
    | brk => exact q.elim
    | cont => exact q.elim
theorem pe_g {E : L2.St → XK} (F : FnG X.prog X.w X.K X.mg X.base C k f fd ps sp) (hr : Room k X.A) (hgd : X.A.guards = some []) (hg : Gl X x) (hm : X.mg x = some (.ref f)) (hk : PySem.W.keepIn X.K (.ref f) = true) (hb : Binds X.K fd ps [])
    (hx : ∀ σ, PassG C X σ (E σ)) (ha : PA X (e :: es) t) (hdb : (x == ("__debug__" : Str)) = false := by decide) (he : starEach (e :: es) X.env = (false, eval e X.env) :: starEach es X.env := by rfl) (hpl : (backTo pos (starEach es X.env)).any (·.1) = false := by rfl) :
    PE X (.Call (.Name x p) (e :: es) [] pos) (tCl sp E t) := by
  constructor
  intro pins s σ H Q I h
  apply wpAny_Call_Name_kw (ld_glob I hg hm ?_ hdb)
  exact PySem.W.callWith_K (h₀ := X.base) I.ok.mod.kin hk (thn (ha.run pos pins s σ H _ I h) fun us s1 ⟨vs, H1, I1, r, q⟩ => ⟨I1.kIn, run_g F hr hgd hb (hx σ) I1 r q⟩) he hpl
theorem pe_g0 {E : L2.St → XK} (F : FnG X.prog X.w X.K X.mg X.base C k f fd ps sp) (hr : Room k X.A) (hgd : X.A.guards = some []) (hg : Gl X x) (hm : X.mg x = some (.ref f)) (hk : PySem.W.keepIn X.K (.ref f) = true) (hb : Binds X.K fd ps [])
    (hx : ∀ σ, PassG C X σ (E σ)) (hdb : (x == ("__debug__" : Str)) = false := by decide) : PE X (.Call (.Name x p) [] [] pos) (tCl sp E tNil) := by
  constructor
  intro pins s σ H Q I h
  apply wpAny_Call_Name_kw (ld_glob I hg hm ?_ hdb)
  exact PySem.W.callWith_K0 I.kIn hk (run_g (us := []) F hr hgd hb (hx σ) I .nil h)
end

/-! ### data for calls -/
section
variable {K : Frg} {H H' : Hp} {N N' W W' : Addr → Prop}
mutual
theorem RpM.nw : ∀ (m : Md) (d : D) (v : V) (A : List Addr), m.np = true → RpM K H N W m d v A → RpM K H N W' m d v A
  | .sh, d, v, A, _, h => by unfold RpM at h ⊢; exact h
  | .pk, d, v, A, np, h => by unfold Md.np at np; cases np
  | .ow m, d, v, A, np, h => by
    unfold Md.np at np
    unfold RpM at h ⊢
    obtain ⟨a, xs, ds, As, e1, e2, e3, e4, h⟩ := h
    exact ⟨a, xs, ds, As, e1, e2, e3, e4, h.imp fun d v B _ q => RpM.nw m d v B np q⟩
  | .tu ms, d, v, A, np, h => by
    unfold Md.np at np
    unfold RpM at h ⊢
    obtain ⟨a, xs, ds, e1, e2, n, e3, h⟩ := h
    exact ⟨a, xs, ds, e1, e2, n, e3, RpMt.nw ms ds xs A np h⟩
  | .dc _, d, v, A, _, h => by unfold RpM at h ⊢; exact h
theorem RpMt.nw : ∀ (ms : List Md) (ds : List D) (xs : List V) (A : List Addr), Md.nps ms = true → RpMt K H N W ms ds xs A → RpMt K H N W' ms ds xs A
  | [], ds, xs, A, _, h => by unfold RpMt at h ⊢; exact h
  | m :: ms, ds, xs, A, np, h => by
    unfold Md.nps at np
    have np := (Bool.and_eq_true _ _).mp np
    unfold RpMt at h ⊢
    obtain ⟨d, dr, x, r, A1, A2, e1, e2, e3, h1, h2⟩ := h
    exact ⟨d, dr, x, r, A1, A2, e1, e2, e3, RpM.nw m d x A1 np.1 h1, RpMt.nw ms dr r A2 np.2 h2⟩
end
end

section
variable {K : Frg} {H H' : Hp} {N N' W W' : Addr → Prop}
theorem AllM.lend {P : D → V → List Addr → Prop} : ∀ {ds : List D} {xs : List V} {A : List Addr}, AllM P ds xs A → (∀ d v B, (∀ a ∈ B, a ∈ A) → P d v B → Rp K H N d v) → RpL K H N ds xs := AllM.freeze
mutual
theorem RpM.lendT {T : Addr → Prop} (hn : ∀ a, N a ∨ W a → T a) : ∀ (m : Md) (d : D) (v : V) (A : List Addr), (∀ a ∈ A, T a) → RpM K H N W m d v A → Rp K H T d v
  | .sh, d, v, A, _, h => by unfold RpM at h; exact Rp.mono (fun a o e n => ⟨e, hn a (.inl n)⟩) d v h.1
  | .pk, d, v, A, _, h => by unfold RpM at h; exact Rp.mono (fun a o e n => ⟨e, hn a n⟩) d v h.1
  | .ow m, d, v, A, ha, h => by
    unfold RpM at h
    obtain ⟨a, xs, ds, As, e1, e2, e3, e4, h⟩ := h
    subst e4 e2
    unfold Rp
    exact ⟨a, xs, e1, .inl ⟨ha a List.mem_cons_self, .inl e3⟩, h.freeze fun d v B hb q => RpM.lendT hn m d v B (fun a z => ha a (List.mem_cons_of_mem _ (hb a z))) q⟩
  | .tu ms, d, v, A, ha, h => by
    unfold RpM at h
    obtain ⟨a, xs, ds, e1, e2, n, e3, h⟩ := h
    subst e2
    unfold Rp
    exact ⟨a, xs, e1, .inl ⟨hn a (.inl n), .inl e3⟩, RpMt.lendT hn ms ds xs A ha h⟩
  | .dc _, d, v, A, ha, h => by
    unfold RpM at h
    obtain ⟨a, kvs, e1, e2, e3, h⟩ := h
    subst e2 e3
    unfold Rp
    refine ⟨a, e1, ha a (by simp), ?_⟩
    rcases h with ⟨_, ps, q, r⟩ | ⟨_, ps, q, r⟩
    · exact .inl ⟨ps, .inl q, RpK.mono (fun a o e n => ⟨e, hn a (.inl n)⟩) kvs ps r⟩
    · exact .inr ⟨ps, q, RpT.mono (fun a o e n => ⟨e, hn a (.inl n)⟩) kvs ps r⟩
theorem RpMt.lendT {T : Addr → Prop} (hn : ∀ a, N a ∨ W a → T a) : ∀ (ms : List Md) (ds : List D) (xs : List V) (A : List Addr), (∀ a ∈ A, T a) → RpMt K H N W ms ds xs A → RpL K H T ds xs
  | [], ds, xs, A, _, h => by unfold RpMt at h; obtain ⟨rfl, rfl, _⟩ := h; exact RpL.nil
  | m :: ms, ds, xs, A, ha, h => by
    unfold RpMt at h
    obtain ⟨d, dr, x, r, A1, A2, e1, e2, e3, h1, h2⟩ := h
    subst e1 e2 e3
    exact RpL.cons (RpM.lendT hn m d x A1 (fun a z => ha a (List.mem_append_left _ z)) h1) (RpMt.lendT hn ms dr r A2 (fun a z => ha a (List.mem_append_right _ z)) h2)
end
theorem RpM.lend (m : Md) (d : D) (v : V) (A : List Addr) (h : RpM K H N W m d v A) : Rp K H (fun a => N a ∨ (W a ∨ a ∈ A)) d v :=
  RpM.lendT (fun a n => n.elim .inl fun n => .inr (.inl n)) m d v A (fun a z => .inr (.inr z)) h
end

/-- how an argument is handed on: a frozen value, a lent one, the thing of a slot -/
inductive Ak where
  | vl | lk | sl (i : Nat)
def P0 : Pin := fun _ => none
/-- a def that changes none of its arguments -/
def spQ (K : Frg) (Gp : Gm) (mr : Md) (f : List D → Option D) : Sp := fun vs H Q _ =>
  vs.length = Gp.length ∧ ∃ W N ds d, ER K W P0 H N Gp ds (vs.map some) (fun _ => []) ∧ f ds = some d ∧ ∀ v H' N' B, Ext H N H' N' B → RpM K H' N' W mr d v B → Q v H'
/-- a def that changes what its j-th argument (of mode m) is -/
def spI (K : Frg) (Gp : Gm) (j : Nat) (m : Md) (mr : Md) (f : List D → Option (D × D)) : Sp := fun vs H Q _ =>
  vs.length = Gp.length ∧ ∃ W N ds d d' Aj u, ER K W P0 H N Gp ds (vs.map some) (fun i => if i = j then Aj else []) ∧ vs[j]? = some u ∧ f ds = some (d, d') ∧
    ∀ v H' N' A' B, Stp H N (fun i => if i = j then Aj else []) H' N' (fun i => if i = j then A' else []) B → RpM K H' N' W m d' u A' → Bok N' W (fun _ => []) A' → (∀ a, N' a → ∃ o, H' a = some o) → RpM K H' N' W mr d v B → Bok N' W (fun i => if i = j then A' else []) B → Q v H'

/-! arguments -/
def aNil : En → Option (List D × En) := fun e => some ([], e)
def aV (fa : En → Option (D × En)) (fr : En → Option (List D × En)) : En → Option (List D × En) := fun e => (fa e).bind fun x => (fr x.2).bind fun y => some (x.1 :: y.1, y.2)
def aS (i : Nat) (fr : En → Option (List D × En)) : En → Option (List D × En) := fun e => (fr e).bind fun y => (y.2[i]?).bind fun d => some (d :: y.1, y.2)
def ArgOk (K : Frg) (W : Addr → Prop) (H : Hp) (N : Addr → Prop) (A : Ow) (env : En) (σ : L2.St) : List Ak → List D → List V → Prop
  | [], ds, xs => ds = [] ∧ xs = []
  | k :: ks, ds, xs => ∃ d dr x xr, ds = d :: dr ∧ xs = x :: xr ∧ (match k with
      | .vl => Rp K H N d x
      | .lk => Rp K H (fun a => N a ∨ W a) d x
      | .sl i => env[i]? = some d ∧ σ[i]? = some (some x) ∧ Rp K H (fun a => N a ∨ (W a ∨ a ∈ A i)) d x) ∧ ArgOk K W H N A env σ ks dr xr
def tAr (K : Frg) (W : Addr → Prop) (P : Pin) (G G' : Gm) (ks : List Ak) (f : En → Option (List D × En)) : TA := fun σ H Q =>
  ∃ env N A ds env', ER K W P H N G env σ A ∧ f env = some (ds, env') ∧ ∀ xs H' N' A', Stp H N A H' N' A' [] → ER K W P H' N' G' env' σ A' → ArgOk K W H' N' A' env' σ ks ds xs → Q xs H'
section
variable {X : Cx} {e : Expr} {es : List Expr} {K : Frg} {W : Addr → Prop} {P : Pin} {G G' G1 G2 : Gm} {m : Md} {ks : List Ak}
theorem ar_nil : PA X [] (tAr K W P G G [] aNil) := pa_weak pa_nil fun σ H Q ⟨env, N, A, ds, env', r, ef, q⟩ => by
  cases ef
  exact q [] H N A Stp.refl r ⟨rfl, rfl⟩
theorem ar_v {fa : En → Option (D × En)} {fr : En → Option (List D × En)} (ha : PE X e (tE K W P G G1 .sh fa)) (hr : PA X es (tAr K W P G1 G2 ks fr)) (hs : starEach (e :: es) X.env = (false, eval e X.env) :: starEach es X.env := by rfl) :
    PA X (e :: es) (tAr K W P G G2 (.vl :: ks) (aV fa fr)) := pa_weak (pa_cons ha hr hs) fun σ H Q ⟨env, N, A, ds, env', r, ef, q⟩ => by
  obtain ⟨⟨d, env1⟩, ea, ef⟩ := opt_bind ef
  obtain ⟨⟨dr, env2⟩, er, ef⟩ := opt_bind ef
  cases ef
  refine ⟨env, N, A, d, env1, r, ea, fun x H1 N1 A1 B1 s1 r1 h1 b1 => ⟨env1, N1, A1, dr, env2, r1, er, fun xs H2 N2 A2 s2 r2 h2 => ?_⟩⟩
  have h1' := s2.val r1 b1 h1
  unfold RpM at h1'
  have e1 := h1'.2
  subst e1
  exact q (x :: xs) H2 N2 A2 (s1.trans s2) r2 ⟨d, dr, x, xs, rfl, rfl, h1'.1, h2⟩
theorem ar_l {fa : En → Option D} {fr : En → Option (List D × En)} (ha : PE X e (tQ K W P G .pk fa)) (hr : PA X es (tAr K W P G G2 ks fr)) (hs : starEach (e :: es) X.env = (false, eval e X.env) :: starEach es X.env := by rfl) :
    PA X (e :: es) (tAr K W P G G2 (.lk :: ks) (aV (lq fa) fr)) := pa_weak (pa_cons ha hr hs) fun σ H Q ⟨env, N, A, ds, env', r, ef, q⟩ => by
  obtain ⟨⟨d, env1⟩, ea, ef⟩ := opt_bind ef
  obtain ⟨⟨dr, env2⟩, er, ef⟩ := opt_bind ef
  cases ef
  obtain ⟨d2, ea2, ea'⟩ := opt_bind ea
  cases ea'
  refine ⟨env, N, A, _, r, ea2, fun x H1 N1 B1 s1 h1 => ?_⟩
  have r1 := r.ext s1
  refine ⟨env, N1, A, dr, env2, r1, er, fun xs H2 N2 A2 s2 r2 h2 => ?_⟩
  unfold RpM at h1
  have e1 := h1.2
  subst e1
  exact q (x :: xs) H2 N2 A2 (s1.stp.trans s2) r2 ⟨d, dr, x, xs, rfl, rfl, Rp.mono (s2.keepw r1.dn r1.wd) d x h1.1, h2⟩
theorem ar_s {x : Str} {pos : Pos} {i : Nat} {fr : En → Option (List D × En)} (hN : X.N[i]? = some x) (hv : Vis X.env.scope x) (g : G[i]? = some (some m)) (g2 : G2[i]? = some (some m)) (hr : PA X es (tAr K W P G G2 ks fr)) (hs : starEach (.Name x pos :: es) X.env = (false, eval (.Name x pos) X.env) :: starEach es X.env := by rfl)
    (hd : (x == ("__debug__" : Str)) = false := by decide) (hcd : (x == ("__classdict__" : Str)) = false := by decide) : PA X (.Name x pos :: es) (tAr K W P G G2 (.sl i :: ks) (aS i fr)) :=
  pa_weak (pa_cons (pe_var hN hv hd hcd) hr hs) fun σ H Q ⟨env, N, A, ds, env', r, ef, q⟩ => by
    obtain ⟨⟨dr, env2⟩, er, ef⟩ := opt_bind ef
    obtain ⟨d, ei, ef⟩ := opt_bind ef
    cases ef
    obtain ⟨d', v, h1, h2, h3⟩ := r.sl i _ g
    refine ⟨v, h2, env, N, A, dr, env2, r, er, fun xs H2 N2 A2 s2 r2 h4 => q (v :: xs) H2 N2 A2 s2 r2 ⟨d, dr, v, xs, rfl, rfl, ⟨ei, h2, ?_⟩, h4⟩⟩
    obtain ⟨d2, v2, k1, k2, k3⟩ := r2.sl i _ g2
    rw [ei] at k1
    rw [h2] at k2
    cases k1
    cases k2
    exact RpM.lend m d v _ k3
theorem ArgOk.at {H : Hp} {N : Addr → Prop} {A : Ow} {env : En} {σ : L2.St} : ∀ {ks : List Ak} {ds : List D} {xs : List V}, ArgOk K W H N A env σ ks ds xs → ds.length = ks.length ∧ xs.length = ks.length ∧ ∀ (j : Nat) (k : Ak), ks[j]? = some k →
    ∃ d x, ds[j]? = some d ∧ xs[j]? = some x ∧ (match k with
      | .vl => Rp K H N d x
      | .lk => Rp K H (fun a => N a ∨ W a) d x
      | .sl i => env[i]? = some d ∧ σ[i]? = some (some x) ∧ Rp K H (fun a => N a ∨ (W a ∨ a ∈ A i)) d x)
  | [], ds, xs, h => by
    obtain ⟨rfl, rfl⟩ := h
    exact ⟨rfl, rfl, fun j k e => by simp at e⟩
  | k :: ks, ds, xs, h => by
    obtain ⟨d, dr, x, xr, rfl, rfl, h1, h2⟩ := h
    obtain ⟨l1, l2, h3⟩ := ArgOk.at h2
    refine ⟨by simp [l1], by simp [l2], fun j k' e => ?_⟩
    cases j with
    | zero =>
      have : k = k' := by simpa using e
      subst this
      exact ⟨d, x, rfl, rfl, h1⟩
    | succ j => 
      obtain ⟨d', x', e1, e2, e3⟩ := h3 j k' (by simpa using e)
      exact ⟨d', x', by simpa using e1, by simpa using e2, e3⟩
/-- the parameters' modes fit -/
def okAk (Gm' : Option Md) (k : Ak) : Bool := match Gm', k with
  | some .sh, .vl => true
  | some .pk, .vl => true
  | some .pk, .lk => true
  | some .pk, .sl _ => true
  | _, _ => false
def okAks : Gm → List Ak → Bool
  | [], [] => true
  | g :: gs, k :: ks => okAk g k && okAks gs ks
  | _, _ => false
theorem okAks.at : ∀ {gs : Gm} {ks : List Ak}, okAks gs ks = true → gs.length = ks.length ∧ ∀ (j : Nat) (g : Option Md), gs[j]? = some g → ∃ k, ks[j]? = some k ∧ okAk g k = true
  | [], [], _ => ⟨rfl, fun j g e => by simp at e⟩
  | g :: gs, k :: ks, h => by
    unfold okAks at h
    have h := (Bool.and_eq_true _ _).mp h
    obtain ⟨l, q⟩ := okAks.at h.2
    refine ⟨by simp [l], fun j g' e => ?_⟩
    cases j with
    | zero => exact ⟨k, rfl, by have : g = g' := by simpa using e
                                rw [← this]; exact h.1⟩
    | succ j => 
      obtain ⟨k', e1, e2⟩ := q j g' (by simpa using e)
      exact ⟨k', by simpa using e1, e2⟩
  | [], _ :: _, h => by unfold okAks at h; cases h
  | _ :: _, [], h => by unfold okAks at h; cases h

def fCl (F : List D → Option D) (fs : En → Option (List D × En)) : En → Option (D × En) := fun e => (fs e).bind fun y => (F y.1).bind fun d => some (d, y.2)
/-- a call that changes no argument -/
theorem tE_call {Gp : Gm} {mr : Md} {F : List D → Option D} {fs : En → Option (List D × En)} {σ : L2.St} {H : Hp} {Q : VK} {E : L2.St → XK} (ok : okAks Gp ks = true) (np : mr.np = true) (h : tE K W P G G2 mr (fCl F fs) σ H Q) :
    tCl (spQ K Gp mr F) E (tAr K W P G G2 ks fs) σ H Q := by
  obtain ⟨env, N, A, d, env', r, ef, q⟩ := h
  obtain ⟨⟨ds, env1⟩, ea, ef⟩ := opt_bind ef
  obtain ⟨d2, eF, ef⟩ := opt_bind ef
  cases ef
  refine ⟨env, N, A, ds, env1, r, ea, fun xs H1 N1 A1 s1 r1 h1 => ?_⟩
  obtain ⟨l1, l2, hat⟩ := h1.at
  obtain ⟨lg, gat⟩ := okAks.at ok
  refine ⟨by rw [l2, lg], fun a => W a ∨ O A1 a, N1, ds, d, ?_, eF, fun v H2 N2 B ex hv => ?_⟩
  · refine ⟨by rw [l1, lg], by rw [List.length_map, l2, lg], fun j mj gj => ?_, fun _ _ => rfl, fun _ => List.nodup_nil, fun _ _ _ z => (nomatch z), r1.tr, fun _ _ z => (nomatch z), fun _ _ _ z => (nomatch z), fun a n => n.elim (r1.wt a) r1.otrk, fun _ _ z => (nomatch z)⟩
    obtain ⟨k, ek, ok1⟩ := gat j _ gj
    obtain ⟨dj, xj, e1, e2, e3⟩ := hat j k ek
    refine ⟨dj, xj, e1, by rw [List.getElem?_map, e2]; rfl, ?_⟩
    cases mj with
    | sh =>
      cases k with
      | vl => exact RpM.sh_of e3
      | lk => cases ok1
      | sl i => cases ok1
    | pk =>
      unfold RpM
      refine ⟨?_, rfl⟩
      cases k with
      | vl => exact Rp.mono (fun a o e n => ⟨e, .inl n⟩) _ _ e3
      | lk => exact Rp.mono (fun a o e n => ⟨e, n.imp id .inl⟩) _ _ e3
      | sl i =>
        exact Rp.mono (fun a o e n => ⟨e, n.imp id fun n => n.imp id fun n => ⟨i, n⟩⟩) _ _ e3.2.2
    | ow _ => cases k <;> cases ok1
    | tu _ => cases k <;> cases ok1
    | dc _ => cases k <;> cases ok1
  · exact q v H2 N2 A1 B (s1.trans ex.stp) (r1.ext ex) (RpM.nw mr d v B np hv) (r1.bok ex)

/-- .. one that changes the thing of the slot i, its j-th argument -/
def fClI (F : List D → Option (D × D)) (i : Nat) (fs : En → Option (List D × En)) : En → Option (D × En) := fun e => (fs e).bind fun y => (F y.1).bind fun z => some (z.1, y.2.set i z.2)
def okI (i : Nat) (m : Md) : Nat → Gm → List Ak → Prop
  | 0, g :: gs, k :: ks => g = some m ∧ k = .sl i ∧ okAks gs ks = true ∧ ∀ q ∈ ks, q ≠ .sl i
  | j + 1, g :: gs, k :: ks => okAk g k = true ∧ k ≠ .sl i ∧ okI i m j gs ks
  | _, _, _ => False
theorem okI.at {i : Nat} {m : Md} : ∀ {j : Nat} {gs : Gm} {ks : List Ak}, okI i m j gs ks → gs.length = ks.length ∧ gs[j]? = some (some m) ∧ ks[j]? = some (.sl i) ∧
    ∀ (l : Nat) (g : Option Md), l ≠ j → gs[l]? = some g → ∃ k, ks[l]? = some k ∧ okAk g k = true ∧ k ≠ .sl i
  | 0, g :: gs, k :: ks, h => by
    obtain ⟨rfl, rfl, h, h2⟩ := h
    obtain ⟨l, q⟩ := okAks.at h
    refine ⟨by simp [l], rfl, rfl, fun a g ne e => ?_⟩
    cases a with
    | zero => exact absurd rfl ne
    | succ a =>
      obtain ⟨k', e1, e2⟩ := q a g (by simpa using e)
      exact ⟨k', by simpa using e1, e2, h2 k' (List.mem_of_getElem? e1)⟩
  | j + 1, g :: gs, k :: ks, h => by
    obtain ⟨h1, h2, h3⟩ := h
    obtain ⟨l, q1, q2, q3⟩ := okI.at h3
    refine ⟨by simp [l], by simpa using q1, by simpa using q2, fun a g' ne e => ?_⟩
    cases a with
    | zero =>
      have : g = g' := by simpa using e
      exact ⟨k, rfl, this ▸ h1, h2⟩
    | succ a =>
      obtain ⟨k', e1, e2⟩ := q3 a g' (fun z => ne (by rw [z])) (by simpa using e)
      exact ⟨k', by simpa using e1, e2⟩
  | 0, [], _, h => h.elim
  | 0, _ :: _, [], h => h.elim
  | _ + 1, [], _, h => h.elim
  | _ + 1, _ :: _, [], h => h.elim
theorem tE_callI {Gp : Gm} {mr : Md} {i j : Nat} {F : List D → Option (D × D)} {fs : En → Option (List D × En)} {σ : L2.St} {H : Hp} {Q : VK} {E : L2.St → XK} (ok : okI i m j Gp ks) (gi : G2[i]? = some (some m)) (np : mr.np = true) (npm : m.np = true)
    (hp : ∀ v od, P i = some (v, od) → od = none) (h : tE K W P G G2 mr (fClI F i fs) σ H Q) : tCl (spI K Gp j m mr F) E (tAr K W P G G2 ks fs) σ H Q := by
  obtain ⟨env, N, A, d, env', r, ef, q⟩ := h
  obtain ⟨⟨ds, env1⟩, ea, ef⟩ := opt_bind ef
  obtain ⟨⟨d0, d'⟩, eF, ef⟩ := opt_bind ef
  cases ef
  refine ⟨env, N, A, ds, env1, r, ea, fun xs H1 N1 A1 s1 r1 h1 => ?_⟩
  obtain ⟨l1, l2, hat⟩ := h1.at
  obtain ⟨lg, gj, kj, gat⟩ := ok.at
  obtain ⟨dj, u, ej, xj, ei, si, _⟩ := hat j _ kj
  obtain ⟨di, vi, k1, k2, k3⟩ := r1.sl i _ gi
  rw [ei] at k1
  rw [si] at k2
  cases k1
  cases k2
  refine ⟨by rw [l2, lg], fun a => W a ∨ ∃ l, l ≠ i ∧ a ∈ A1 l, N1, ds, d0, d', A1 i, u, ?_, xj, eF, fun v H2 N2 A2 B s2 hm bm tr hv bv => ?_⟩
  · refine ⟨by rw [l1, lg], by rw [List.length_map, l2, lg], fun l ml gl => ?_, fun l no => ?_, fun l => ?_, fun l l' a z z' => ?_, r1.tr, fun l a z => ?_, fun _ _ _ z => (nomatch z), fun a n => n.elim (r1.wt a) fun ⟨l, _, z⟩ => r1.trk z, fun l a z => ?_⟩
    · by_cases e : l = j
      · subst e
        rw [gj] at gl
        cases gl
        refine ⟨dj, u, ej, by rw [List.getElem?_map, xj]; rfl, ?_⟩
        rw [if_pos rfl]
        exact RpM.nw _ _ _ _ npm k3
      · obtain ⟨k, ek, ok1, nk⟩ := gat l _ e gl
        obtain ⟨dl, xl, e1, e2, e3⟩ := hat l k ek
        refine ⟨dl, xl, e1, by rw [List.getElem?_map, e2]; rfl, ?_⟩
        rw [if_neg e]
        cases ml with
        | sh =>
          cases k with
          | vl => exact RpM.sh_of e3
          | lk => cases ok1
          | sl i => cases ok1
        | pk =>
          unfold RpM
          refine ⟨?_, rfl⟩
          cases k with
          | vl => exact Rp.mono (fun a o e n => ⟨e, .inl n⟩) _ _ e3
          | lk => exact Rp.mono (fun a o e n => ⟨e, n.imp id .inl⟩) _ _ e3
          | sl i' =>
            have ni : i' ≠ i := fun z => nk (by rw [z])
            exact Rp.mono (fun a o e n => ⟨e, n.imp id fun n => n.imp id fun n => ⟨i', ni, n⟩⟩) _ _ e3.2.2
        | ow _ => cases k <;> cases ok1
        | tu _ => cases k <;> cases ok1
        | dc _ => cases k <;> cases ok1
    · have : l ≠ j := fun z => no m (by rw [z]; exact gj)
      rw [if_neg this]
    · split
      · exact r1.nd i
      · exact List.nodup_nil
    · split at z
      · split at z'
        · rename_i a1 a2; rw [a1, a2]
        · cases z'
      · cases z
    · split at z
      · exact r1.dn i a z
      · cases z
    · split at z
      · intro n
        rcases n with n | ⟨l', n, z'⟩
        · exact r1.wd i a z n
        · exact n (r1.dj l' i a z' z)
      · cases z
  · have own : ∀ a, O (fun k => if k = j then A1 i else []) a → a ∈ A1 i := fun a ⟨k, z⟩ => by
      by_cases e : k = j
      · have z : a ∈ (if k = j then A1 i else []) := z
        rw [if_pos e] at z; exact z
      · have z : a ∈ (if k = j then A1 i else []) := z
        rw [if_neg e] at z; cases z
    have own' : ∀ a, a ∈ A2 → O (fun k => if k = j then A2 else []) a := fun a z => ⟨j, by show a ∈ (if j = j then A2 else []); rw [if_pos rfl]; exact z⟩
    have gr : ∀ a o, H1 a = some o → a ∉ A1 i → H2 a = some o := fun a o e n => s2.keep a o e fun z => n (own a z)
    have fz : ∀ a, N2 a → N1 a ∨ a ∈ A1 i ∨ H1 a = none ∨ Tu H1 a := fun a n => (s2.fz a n).imp id fun z => z.imp (own a) id
    have hB : ∀ a ∈ A2, a ∈ A1 i ∨ H1 a = none := fun a z => (s2.own a (own' a z)).imp (own a) id
    have r2 : ER K W P H2 N2 G2 (env1.set i d') σ (A1.put i A2) :=
      r1.change hp s2.trk gi si gr s2.up fz tr (fun a z => ⟨hB a z, bm.bn a z⟩) bm.bd (RpM.nw _ _ _ _ npm hm)
    refine q v H2 N2 _ B (s1.trans (Stp.mk (fun a o e n => gr a o e fun z => n ⟨i, z⟩) s2.trk (fun a z => ?_) (fun a z => ?_) s2.up fun a n => (fz a n).imp id fun z => z.imp (fun z => ⟨i, z⟩) id)) r2 (RpM.nw _ _ _ _ np hv) ⟨bv.bn, fun a z w => bv.bw a z (.inl w), fun a z ⟨k, w⟩ => ?_, bv.bd⟩
    · rcases own_put z with z | z
      · exact .inl z
      · exact (hB a z).imp (fun z => ⟨i, z⟩) id
    · exact (s2.bf a z).imp (fun z => ⟨i, own a z⟩) id
    · by_cases e : k = i
      · rw [e, put_same] at w
        exact bv.ba a z (own' a w)
      · rw [put_ne e] at w
        exact bv.bw a z (.inr ⟨k, e, w⟩)
end
end T3
end
set_option Elab.async false
set_option linter.all false
set_option maxRecDepth 100000
set_option maxHeartbeats 1000000
noncomputable section
namespace T3
open PySem PySem.Spec PyProof.Rows L2
section
variable {X : Cx} {e a b : Expr} {es : List Expr} {K : Frg} {W : Addr → Prop} {P : Pin} {G G' G1 G2 G3 : Gm} {m mr m1 m2 : Md} {ks : List Ak} {pos : Pos}

/-! ### calls of defs -/
section
variable {k : Nat} {f : Addr} {fd : FuncData} {ps : List Str} {x : Str} {p : Pos} {Gp : Gm}
theorem e_call {F : List D → Option D} {fs : En → Option (List D × En)} (Fn : FnG X.prog X.w X.K X.mg X.base CX0 k f fd ps (spQ X.K Gp mr F)) (hr : Room k X.A) (hgd : X.A.guards = some []) (hg : Gl X x) (hm : X.mg x = some (.ref f)) (hk : PySem.W.keepIn X.K (.ref f) = true)
    (hb : Binds X.K fd ps []) (ha : PA X (e :: es) (tAr X.K W P G G2 ks fs)) (ok : okAks Gp ks = true := by rfl) (np : mr.np = true := by rfl) (hdb : (x == ("__debug__" : Str)) = false := by decide)
    (he : starEach (e :: es) X.env = (false, eval e X.env) :: starEach es X.env := by rfl) (hpl : (backTo pos (starEach es X.env)).any (·.1) = false := by rfl) :
    PE X (.Call (.Name x p) (e :: es) [] pos) (tE X.K W P G G2 mr (fCl F fs)) :=
  pe_weak (pe_g (E := fun _ => E0) Fn hr hgd hg hm hk hb (fun _ _ _ _ _ _ _ h => h.elim) ha hdb he hpl) fun σ H Q h => tE_call ok np h
theorem e_call0 {F : List D → Option D} (Fn : FnG X.prog X.w X.K X.mg X.base CX0 k f fd ps (spQ X.K [] mr F)) (hr : Room k X.A) (hgd : X.A.guards = some []) (hg : Gl X x) (hm : X.mg x = some (.ref f)) (hk : PySem.W.keepIn X.K (.ref f) = true)
    (hb : Binds X.K fd ps []) (np : mr.np = true := by rfl) (hdb : (x == ("__debug__" : Str)) = false := by decide) :
    PE X (.Call (.Name x p) [] [] pos) (tE X.K W P G G mr (fCl F aNil)) :=
  pe_weak (pe_g0 (E := fun _ => E0) Fn hr hgd hg hm hk hb (fun _ _ _ _ _ _ _ h => h.elim) hdb) fun σ H Q h => by
    have := tE_call (E := fun _ => E0) (Gp := []) (ks := []) rfl np h
    obtain ⟨env, N, A, ds, env', r, ef, q⟩ := this
    cases ef
    exact q [] H N A Stp.refl r ⟨rfl, rfl⟩
theorem e_callI {F : List D → Option (D × D)} {fs : En → Option (List D × En)} {i j : Nat} (Fn : FnG X.prog X.w X.K X.mg X.base CX0 k f fd ps (spI X.K Gp j m mr F)) (hr : Room k X.A) (hgd : X.A.guards = some []) (hg : Gl X x) (hm : X.mg x = some (.ref f)) (hk : PySem.W.keepIn X.K (.ref f) = true)
    (hb : Binds X.K fd ps []) (hp : ∀ v od, P i = some (v, od) → od = none) (gi : G2[i]? = some (some m)) (ha : PA X (e :: es) (tAr X.K W P G G2 ks fs)) (ok : okI i m j Gp ks := by simp [okI, okAks, okAk]) (np : mr.np = true := by rfl) (npm : m.np = true := by rfl) (hdb : (x == ("__debug__" : Str)) = false := by decide)
    (he : starEach (e :: es) X.env = (false, eval e X.env) :: starEach es X.env := by rfl) (hpl : (backTo pos (starEach es X.env)).any (·.1) = false := by rfl) :
    PE X (.Call (.Name x p) (e :: es) [] pos) (tE X.K W P G G2 mr (fClI F i fs)) :=
  pe_weak (pe_g (E := fun _ => E0) Fn hr hgd hg hm hk hb (fun _ _ _ _ _ _ _ h => h.elim) ha hdb he hpl) fun σ H Q h => tE_callI ok gi np npm hp h
end

/-! ### tests -/
def lb (fa : En → Option (D × En)) : En → Option (Bool × En) := fun e => (fa e).bind fun x => match x with
  | (.bool b, e) => some (b, e)
  | _ => none
theorem lb_some {fa : En → Option (D × En)} {env : En} {b : Bool} {env' : En} (h : lb fa env = some (b, env')) : fa env = some (.bool b, env') := by
  obtain ⟨⟨d, e1⟩, h1, h2⟩ := opt_bind h
  cases d <;> simp at h2
  obtain ⟨rfl, rfl⟩ := h2
  exact h1
theorem t_val {fa : En → Option (D × En)} (ha : PE X e (tE K W P G G' .sh fa)) (he : ∀ whole, isTrue e X.env whole = (do let v ← whole; standAt e.pos; holding [v] (truthy v)) := by intro _; rfl) : PT X e (tB K W P G G' (lb fa)) :=
  pt_weak (pt_val ha he) fun σ H Q ⟨env, N, A, c, env', r, ef, q⟩ => ⟨env, N, A, _, env', r, lb_some ef, fun v H' N' A' B s r' hv _ => by
    unfold RpM at hv
    obtain ⟨hv, hb⟩ := hv
    subst hb
    unfold Rp at hv
    exact ⟨c, hv, q H' N' A' s r'⟩⟩
theorem t_cmpE {op : CmpOp} {r : R2} {g : D → D → Option D} {fa fb : En → Option (D × En)} (ho : OpR X (compareOp op) r) (hg : Flat2 K r g) (ha : PE X a (tE K W P G G1 .sh fa)) (hb : PE X b (tE K W P G1 G2 .sh fb)) (hm : behindInMarks op b = false) : PT X (.Compare a [op] [b] pos) (tB K W P G G2 (lb (e2 g fa fb))) :=
  pt_weak (pt_cmpR ho ha hb hm) fun σ H Q ⟨env, N, A, c, env', r, ef, q⟩ => tE_op2 hg ⟨env, N, A, _, env', r, lb_some ef, fun v H' N' A' B s r' hv _ => by
    unfold RpM at hv
    obtain ⟨hv, hb⟩ := hv
    subst hb
    unfold Rp at hv
    exact ⟨c, hv, q H' N' A' s r'⟩⟩
theorem t_cmp {op : CmpOp} {r : R2} {g : D → D → Option D} {fa fb : En → Option D} (ho : OpR X (compareOp op) r) (hg : Flat2 K r g) (ha : PE X a (tK K W P G fa)) (hb : PE X b (tK K W P G fb)) (hm : behindInMarks op b = false) : PT X (.Compare a [op] [b] pos) (tB K W P G G (lb (lq (f2 g fa fb)))) :=
  pt_weak (pt_cmpR ho ha hb hm) fun σ H Q ⟨env, N, A, c, env', r, ef, q⟩ => by
    obtain ⟨d, ef2, e2⟩ := opt_bind (lb_some ef)
    cases e2
    exact tK_op2 hg ⟨env, N, A, _, r, ef2, fun v H' N' B s hv => by
      unfold RpM at hv
      obtain ⟨hv, hb⟩ := hv
      subst hb
      unfold Rp at hv
      exact ⟨c, hv, q H' N' A s.stp (r.ext s)⟩⟩
def bNot (fa : En → Option (Bool × En)) : En → Option (Bool × En) := fun e => (fa e).bind fun x => some (!x.1, x.2)
def bAnd (fa fb : En → Option (Bool × En)) : En → Option (Bool × En) := fun e => (fa e).bind fun x => if x.1 = true then fb x.2 else some (false, x.2)
def bOr (fa fb : En → Option (Bool × En)) : En → Option (Bool × En) := fun e => (fa e).bind fun x => if x.1 = true then some (true, x.2) else fb x.2
theorem t_not {fa : En → Option (Bool × En)} (ha : PT X a (tB K W P G G' fa)) : PT X (.UnaryOp .Not a pos) (tB K W P G G' (bNot fa)) :=
  pt_weak (pt_not ha) fun σ H Q ⟨env, N, A, c, env', r, ef, q⟩ => by
    obtain ⟨⟨b, e1⟩, ea, ef⟩ := opt_bind ef
    cases ef
    exact ⟨env, N, A, b, e1, r, ea, q⟩
structure PWd (X : Cx) (e : Expr) (t : TT) : Prop where
  run : PW X e t
theorem pw_weak {t t' : TT} (h : PW X e t) (w : ∀ σ H Q, t' σ H Q → t σ H Q) : PW X e t' := ⟨fun wh pins s σ H Q I q => h.run wh pins s σ H Q I (w σ H Q q)⟩
variable {rest : List Expr}
theorem t_and1 {fa : En → Option (Bool × En)} (ha : PT X a (tB K W P G G' fa)) : PW X (.BoolOp .And [a] pos) (tB K W P G G' fa) := pw_and1 ha
theorem t_or1 {fa : En → Option (Bool × En)} (ha : PT X a (tB K W P G G' fa)) : PW X (.BoolOp .Or [a] pos) (tB K W P G G' fa) := pw_or1 ha
theorem t_and {fa fb : En → Option (Bool × En)} (ha : PT X a (tB K W P G G1 fa)) (hb : PW X (.BoolOp .And (b :: rest) pos) (tB K W P G1 G1 fb)) : PW X (.BoolOp .And (a :: b :: rest) pos) (tB K W P G G1 (bAnd fa fb)) :=
  pw_weak (pw_and ha hb) fun σ H Q ⟨env, N, A, c, env', r, ef, q⟩ => by
    obtain ⟨⟨b, e1⟩, ea, ef⟩ := opt_bind ef
    refine ⟨env, N, A, b, e1, r, ea, fun H1 N1 A1 s1 r1 => ?_⟩
    cases b with
    | true =>
      rw [if_pos rfl] at ef ⊢
      exact ⟨e1, N1, A1, c, env', r1, ef, fun H2 N2 A2 s2 r2 => q H2 N2 A2 (s1.trans s2) r2⟩
    | false =>
      rw [if_neg Bool.false_ne_true] at ef ⊢
      cases ef
      exact q H1 N1 A1 s1 r1
theorem t_or {fa fb : En → Option (Bool × En)} (ha : PT X a (tB K W P G G1 fa)) (hb : PW X (.BoolOp .Or (b :: rest) pos) (tB K W P G1 G1 fb)) : PW X (.BoolOp .Or (a :: b :: rest) pos) (tB K W P G G1 (bOr fa fb)) :=
  pw_weak (pw_or ha hb) fun σ H Q ⟨env, N, A, c, env', r, ef, q⟩ => by
    obtain ⟨⟨b, e1⟩, ea, ef⟩ := opt_bind ef
    refine ⟨env, N, A, b, e1, r, ea, fun H1 N1 A1 s1 r1 => ?_⟩
    cases b with
    | false =>
      rw [if_neg Bool.false_ne_true] at ef ⊢
      exact ⟨e1, N1, A1, c, env', r1, ef, fun H2 N2 A2 s2 r2 => q H2 N2 A2 (s1.trans s2) r2⟩
    | true =>
      rw [if_pos rfl] at ef ⊢
      cases ef
      exact q H1 N1 A1 s1 r1
/-! as values -/
def vAnd (fa fb : En → Option (D × En)) : En → Option (D × En) := fun e => (lb fa e).bind fun x => if x.1 = true then fb x.2 else some (.bool false, x.2)
def vOr (fa fb : En → Option (D × En)) : En → Option (D × En) := fun e => (lb fa e).bind fun x => if x.1 = true then some (.bool true, x.2) else fb x.2
def vNot (fa : En → Option (D × En)) : En → Option (D × En) := fun e => (lb fa e).bind fun x => some (.bool (!x.1), x.2)
theorem e_one {op} {fa : En → Option (D × En)} (ha : PE X a (tE K W P G G' m fa)) : PE X (.BoolOp op [a] pos) (tE K W P G G' m fa) := pe_one ha
theorem bool_val {H : Hp} {N : Addr → Prop} {c : Bool} {v : V} {B : List Addr} (h : RpM K H N W .sh (.bool c) v B) : v = .bl c ∧ B = [] := by
  unfold RpM at h
  obtain ⟨h, hb⟩ := h
  unfold Rp at h
  exact ⟨h, hb⟩
theorem e_and {fa fb : En → Option (D × En)} (ha : PE X a (tE K W P G G1 .sh fa)) (hb : PE X (.BoolOp .And (b :: rest) pos) (tE K W P G1 G1 .sh fb)) : PE X (.BoolOp .And (a :: b :: rest) pos) (tE K W P G G1 .sh (vAnd fa fb)) :=
  pe_weak (pe_and ha hb) fun σ H Q ⟨env, N, A, d, env', r, ef, q⟩ => by
    obtain ⟨⟨c, e1⟩, ea, ef⟩ := opt_bind ef
    refine ⟨env, N, A, _, e1, r, lb_some ea, fun v H1 N1 A1 B s1 r1 hv _ => ?_⟩
    obtain ⟨rfl, rfl⟩ := bool_val hv
    refine ⟨c, rfl, ?_⟩
    cases c with
    | true =>
      rw [if_pos rfl] at ef ⊢
      exact ⟨e1, N1, A1, d, env', r1, ef, fun v2 H2 N2 A2 B2 s2 r2 => q v2 H2 N2 A2 B2 (s1.trans s2) r2⟩
    | false =>
      rw [if_neg Bool.false_ne_true] at ef ⊢
      cases ef
      exact q _ H1 N1 A1 [] s1 r1 (RpM.sh_of rp_bl) Bok.nil
theorem e_or {fa fb : En → Option (D × En)} (ha : PE X a (tE K W P G G1 .sh fa)) (hb : PE X (.BoolOp .Or (b :: rest) pos) (tE K W P G1 G1 .sh fb)) : PE X (.BoolOp .Or (a :: b :: rest) pos) (tE K W P G G1 .sh (vOr fa fb)) :=
  pe_weak (pe_or ha hb) fun σ H Q ⟨env, N, A, d, env', r, ef, q⟩ => by
    obtain ⟨⟨c, e1⟩, ea, ef⟩ := opt_bind ef
    refine ⟨env, N, A, _, e1, r, lb_some ea, fun v H1 N1 A1 B s1 r1 hv _ => ?_⟩
    obtain ⟨rfl, rfl⟩ := bool_val hv
    refine ⟨c, rfl, ?_⟩
    cases c with
    | false =>
      rw [if_neg Bool.false_ne_true] at ef ⊢
      exact ⟨e1, N1, A1, d, env', r1, ef, fun v2 H2 N2 A2 B2 s2 r2 => q v2 H2 N2 A2 B2 (s1.trans s2) r2⟩
    | true =>
      rw [if_pos rfl] at ef ⊢
      cases ef
      exact q _ H1 N1 A1 [] s1 r1 (RpM.sh_of rp_bl) Bok.nil
theorem e_not {fa : En → Option (D × En)} (ha : PE X a (tE K W P G G' .sh fa)) : PE X (.UnaryOp .Not a pos) (tE K W P G G' .sh (vNot fa)) :=
  pe_weak (pe_not ha) fun σ H Q ⟨env, N, A, d, env', r, ef, q⟩ => by
    obtain ⟨⟨c, e1⟩, ea, ef⟩ := opt_bind ef
    cases ef
    refine ⟨env, N, A, _, e1, r, lb_some ea, fun v H1 N1 A1 B s1 r1 hv _ => ?_⟩
    obtain ⟨rfl, rfl⟩ := bool_val hv
    exact ⟨c, rfl, q _ H1 N1 A1 [] s1 r1 (RpM.sh_of rp_bl) Bok.nil⟩
/-- a if c else b -/
def fIf (fc : En → Option (Bool × En)) (fa fb : En → Option (D × En)) : En → Option (D × En) := fun e => (fc e).bind fun x => if x.1 = true then fa x.2 else fb x.2
theorem e_if {c : Expr} {fc : En → Option (Bool × En)} {fa fb : En → Option (D × En)} (hc : PT X c (tB K W P G G1 fc)) (ha : PE X a (tE K W P G1 G2 m fa)) (hb : PE X b (tE K W P G1 G2 m fb)) : PE X (.IfExp c a b pos) (tE K W P G G2 m (fIf fc fa fb)) :=
  pe_weak (pe_ifExp hc ha hb) fun σ H Q ⟨env, N, A, d, env', r, ef, q⟩ => by
    obtain ⟨⟨c, e1⟩, ea, ef⟩ := opt_bind ef
    refine ⟨env, N, A, c, e1, r, ea, fun H1 N1 A1 s1 r1 => ?_⟩
    cases c with
    | true =>
      rw [if_pos rfl] at ef ⊢
      exact ⟨e1, N1, A1, d, env', r1, ef, fun v2 H2 N2 A2 B2 s2 r2 => q v2 H2 N2 A2 B2 (s1.trans s2) r2⟩
    | false =>
      rw [if_neg Bool.false_ne_true] at ef ⊢
      exact ⟨e1, N1, A1, d, env', r1, ef, fun v2 H2 N2 A2 B2 s2 r2 => q v2 H2 N2 A2 B2 (s1.trans s2) r2⟩

/-! ### displays -/
theorem es_nil : PA X [] (tEs K W P G G [] aNil) := pa_weak pa_nil fun σ H Q ⟨env, N, A, ds, env', r, ef, q⟩ => by
  cases ef
  exact q [] H N A [] Stp.refl r (by unfold RpMt; exact ⟨rfl, rfl, rfl⟩) Bok.nil
theorem es_cons {ms : List Md} {fa : En → Option (D × En)} {fr : En → Option (List D × En)} (ha : PE X e (tE K W P G G1 m fa)) (hr : PA X es (tEs K W P G1 G2 ms fr)) (hs : starEach (e :: es) X.env = (false, eval e X.env) :: starEach es X.env := by rfl) :
    PA X (e :: es) (tEs K W P G G2 (m :: ms) (aV fa fr)) := pa_weak (pa_cons ha hr hs) fun σ H Q ⟨env, N, A, ds, env', r, ef, q⟩ => by
  obtain ⟨⟨d, env1⟩, ea, ef⟩ := opt_bind ef
  obtain ⟨⟨dr, env2⟩, er, ef⟩ := opt_bind ef
  cases ef
  refine ⟨env, N, A, d, env1, r, ea, fun x H1 N1 A1 B1 s1 r1 h1 b1 => ⟨env1, N1, A1, dr, env2, r1, er, fun xs H2 N2 A2 B2 s2 r2 h2 b2 => ?_⟩⟩
  have h1' := s2.val r1 b1 h1
  have b1' := s2.bok b1 h1
  refine q (x :: xs) H2 N2 A2 (B1 ++ B2) ⟨(s1.trans s2).keep, (s1.trans s2).trk, (s1.trans s2).own, fun a z => ?_, (s1.trans s2).up, (s1.trans s2).fz⟩ r2 (by unfold RpMt; exact ⟨d, dr, x, xs, B1, B2, rfl, rfl, rfl, h1', h2⟩)
    ⟨fun a z => (List.mem_append.mp z).elim (b1'.bn a) (b2.bn a), fun a z => (List.mem_append.mp z).elim (b1'.bw a) (b2.bw a), fun a z => (List.mem_append.mp z).elim (b1'.ba a) (b2.ba a), List.nodup_append.mpr ⟨b1.bd, b2.bd, fun a z a' z' e => ?_⟩⟩
  · rcases List.mem_append.mp z with z | z
    · exact s1.bf a z
    · rcases s2.bf a z with z | z
      · exact s1.own a z
      · exact .inr (s1.none_of z)
  · subst e
    obtain ⟨o, q⟩ := RpM.trk m d x B1 h1 a z
    rcases s2.bf a z' with z' | z'
    · exact b1.ba a z z'
    · rw [q] at z'; cases z'
theorem RpMt.len {H : Hp} {N : Addr → Prop} : ∀ {ms : List Md} {ds : List D} {xs : List V} {B : List Addr}, RpMt K H N W ms ds xs B → xs.length = ms.length ∧ ds.length = ms.length
  | [], ds, xs, B, h => by unfold RpMt at h; obtain ⟨rfl, rfl, _⟩ := h; exact ⟨rfl, rfl⟩
  | m :: ms, ds, xs, B, h => by
    unfold RpMt at h
    obtain ⟨d, dr, x, r, A1, A2, rfl, rfl, _, _, h⟩ := h
    obtain ⟨l1, l2⟩ := RpMt.len h
    exact ⟨by simp [l1], by simp [l2]⟩
theorem RpMt.all {H : Hp} {N : Addr → Prop} : ∀ {n : Nat} {ds : List D} {xs : List V} {B : List Addr}, RpMt K H N W (List.replicate n m) ds xs B → AllM (RpM K H N W m) ds xs B
  | 0, ds, xs, B, h => by
    unfold List.replicate RpMt at h
    obtain ⟨rfl, rfl, h⟩ := h
    exact ⟨rfl, h⟩
  | n + 1, ds, xs, B, h => by
    unfold List.replicate RpMt at h
    obtain ⟨d, dr, x, r, A1, A2, rfl, rfl, e, h1, h2⟩ := h
    exact ⟨x, r, A1, A2, rfl, e, h1, RpMt.all h2⟩
def fL (fs : En → Option (List D × En)) : En → Option (D × En) := fun e => (fs e).bind fun y => some (.list y.1, y.2)
def fT (fs : En → Option (List D × En)) : En → Option (D × En) := fun e => (fs e).bind fun y => some (.tuple y.1, y.2)
theorem Keeps.new {H : Hp} {N : Addr → Prop} {p : Addr} {o : HO} (n : H p = none) : Keeps H N (upd H p o) N := fun a u e m => ⟨by rw [upd_ne (ne_of_none e n)]; exact e, m⟩
theorem Stp.new {H : Hp} {N : Addr → Prop} {A : Ow} {p : Addr} {o : HO} (n : H p = none) : Stp H N A (upd H p o) N A [] :=
  ⟨fun a u e _ => by rw [upd_ne (ne_of_none e n)]; exact e, fun a u e => ⟨u, by rw [upd_ne (ne_of_none e n)]; exact e⟩, fun _ z => .inl z, fun _ z => (nomatch z), fun _ z => z, fun _ z => .inl z⟩
theorem ER.new {H : Hp} {N : Addr → Prop} {env : En} {σ : L2.St} {A : Ow} {p : Addr} {o : HO} (r : ER K W P H N G env σ A) (n : H p = none) : ER K W P (upd H p o) N G env σ A := r.ext (Ext.new n r.tr)
/-- an object is new: it and what its items own -/
theorem Stp.newB {H H1 : Hp} {N N1 : Addr → Prop} {A A1 : Ow} {B : List Addr} {p : Addr} {o : HO} (s : Stp H N A H1 N1 A1 B) (n : H1 p = none) : Stp H N A (upd H1 p o) N1 A1 (p :: B) := by
  have t := s.trans (Stp.new (o := o) n)
  refine ⟨t.keep, t.trk, t.own, fun a z => ?_, t.up, t.fz⟩
  rcases List.mem_cons.mp z with z | z
  · rw [z]; exact .inr (s.none_of n)
  · exact s.bf a z
theorem Bok.newB {H1 : Hp} {N1 : Addr → Prop} {A1 : Ow} {B : List Addr} {p : Addr} {env : En} {σ : L2.St} (b : Bok N1 W A1 B) (r : ER K W P H1 N1 G env σ A1) (n : H1 p = none) (t : ∀ a ∈ B, ∃ o, H1 a = some o) : Bok N1 W A1 (p :: B) := by
  refine ⟨fun a z h => ?_, fun a z h => ?_, fun a z h => ?_, List.nodup_cons.mpr ⟨fun z => ?_, b.bd⟩⟩
  · rcases List.mem_cons.mp z with z | z
    · obtain ⟨o, q⟩ := r.tr a h
      rw [z, n] at q; cases q
    · exact b.bn a z h
  · rcases List.mem_cons.mp z with z | z
    · obtain ⟨o, q⟩ := r.wt a h
      rw [z, n] at q; cases q
    · exact b.bw a z h
  · rcases List.mem_cons.mp z with z | z
    · obtain ⟨o, q⟩ := r.otrk h
      rw [z, n] at q; cases q
    · exact b.ba a z h
  · obtain ⟨o, q⟩ := t p z
    rw [n] at q; cases q
theorem RpMt.trk' {H : Hp} {N : Addr → Prop} {ms : List Md} {ds : List D} {xs : List V} {B : List Addr} (h : RpMt K H N W ms ds xs B) : ∀ a ∈ B, ∃ o, H a = some o := RpMt.trk ms ds xs B h
/-- a list display, its items of one mode -/
theorem e_list {n : Nat} {fs : En → Option (List D × En)} (h : PA X es (tEs K W P G G' (List.replicate n m) fs)) (hn : n ≤ sizeLine := by decide) : PE X (.List es pos) (tE K W P G G' (.ow m) (fL fs)) :=
  pe_weak (pe_lst h) fun σ H Q ⟨env, N, A, d, env', r, ef, q⟩ => by
    obtain ⟨⟨ds, e1⟩, ea, ef⟩ := opt_bind ef
    cases ef
    refine ⟨env, N, A, ds, e1, r, ea, fun xs H1 N1 A1 B s1 r1 h1 b1 => ⟨?_, fun p np => ?_⟩⟩
    · rw [h1.len.1, List.length_replicate]; exact hn
    · refine q (.ref p) _ N1 A1 (p :: B) (s1.newB np) (r1.new np) ?_ (b1.newB r1 np h1.trk')
      unfold RpM
      refine ⟨p, xs, ds, B, rfl, rfl, upd_same, rfl, (RpMt.all h1).imp fun d v B' hb hv => RpM.mono (Keeps.new np) (Keeps.new np) m d v B' (fun a z o e => ?_) hv⟩
      rw [upd_ne (ne_of_none e np)]; exact e
/-- .. as it is told at once frozen -/
theorem e_tup {ms : List Md} {x1} {fs : En → Option (List D × En)} (h : PA X es (tEs K W P G G' ms fs)) (hn : ms.length ≤ sizeLine := by decide) : PE X (.Tuple es x1 pos) (tE K W P G G' (.tu ms) (fT fs)) :=
  pe_weak (pe_tup h) fun σ H Q ⟨env, N, A, d, env', r, ef, q⟩ => by
    obtain ⟨⟨ds, e1⟩, ea, ef⟩ := opt_bind ef
    cases ef
    refine ⟨env, N, A, ds, e1, r, ea, fun xs H1 N1 A1 B s1 r1 h1 b1 => ⟨?_, fun p np => ?_⟩⟩
    · rw [h1.len.1]; exact hn
    · have kp : Keeps H1 N1 (upd H1 p (.tup xs)) (fun a => N1 a ∨ a = p) := fun a u e m => ⟨by rw [upd_ne (ne_of_none e np)]; exact e, .inl m⟩
      have kw : Keeps H1 (fun a => N1 a ∨ W a) (upd H1 p (.tup xs)) (fun a => (N1 a ∨ a = p) ∨ W a) := fun a u e m => ⟨by rw [upd_ne (ne_of_none e np)]; exact e, m.imp .inl id⟩
      have gr : ∀ a o, H1 a = some o → (upd H1 p (.tup xs)) a = some o := fun a o e => by rw [upd_ne (ne_of_none e np)]; exact e
      have ex : Ext H1 N1 (upd H1 p (.tup xs)) (fun a => N1 a ∨ a = p) [] :=
        ⟨gr, fun a n => .inl n, fun a n => n.imp id fun z => by rw [z]; exact .inl ⟨np, _, upd_same⟩, fun _ z => (nomatch z), fun _ z => (nomatch z), List.nodup_nil⟩
      refine q (.ref p) _ (fun a => N1 a ∨ a = p) A1 B ?_ (r1.ext ex) ?_ ⟨fun a z n => ?_, b1.bw, b1.ba, b1.bd⟩
      · have t := s1.trans (ex.stp (A := A1))
        exact ⟨t.keep, t.trk, t.own, s1.bf, t.up, t.fz⟩
      · unfold RpM
        exact ⟨p, xs, ds, rfl, rfl, .inr rfl, upd_same, RpMt.mono kp kw ms ds xs B (fun a _ o e => gr a o e) h1⟩
      · rcases n with n | n
        · exact b1.bn a z n
        · obtain ⟨o, q⟩ := h1.trk' a z
          rw [n, np] at q; cases q
end
end T3
end
set_option Elab.async false
set_option linter.all false
set_option maxRecDepth 100000
set_option maxHeartbeats 1000000
noncomputable section
namespace T3
open PySem PySem.Spec PyProof.Rows L2

/-! ### statements -/
inductive Fl where
  | nx (e : En) | rt (d : D) (e : En) | bk (e : En) | ct (e : En)
/-- what a statement's reading needs: the slots' modes at return (of the arguments that may change), the answer's mode, the modes at break and continue -/
structure Cc where
  K : Frg
  W : Addr → Prop
  P : Pin
  Gr : Gm
  mr : Md
/-- the slots of Gr alone -/
def Kt (c : Cc) (G' Gb : Gm) (H : Hp) (N : Addr → Prop) (A : Ow) (D : Ends) : Fl → Prop
  | .nx env' => ∀ σ' H' N' A', Stp H N A H' N' A' [] → ER c.K c.W c.P H' N' G' env' σ' A' → D.nx σ' H'
  | .bk env' => ∀ σ' H' N' A', Stp H N A H' N' A' [] → ER c.K c.W c.P H' N' Gb env' σ' A' → D.bk σ' H'
  | .ct env' => ∀ σ' H' N' A', Stp H N A H' N' A' [] → ER c.K c.W c.P H' N' Gb env' σ' A' → D.ct σ' H'
  | .rt d env' => ∀ v σ' H' N' A' B, Stp H N A H' N' A' B → ER c.K c.W c.P H' N' c.Gr env' σ' A' → RpM c.K H' N' c.W c.mr d v B → Bok N' c.W A' B → D.rt v H'
def tS (c : Cc) (G G' Gb : Gm) (g : En → Option Fl) : TS := fun D σ H => ∃ env N A r, ER c.K c.W c.P H N G env σ A ∧ g env = some r ∧ Kt c G' Gb H N A D r

section
variable {X : Cx} {c : Cc} {e a b : Expr} {G G' G1 G2 Gb : Gm} {m mr : Md} {pos : Pos} {st : Stmt} {rest : List Stmt}
theorem Kt.mono {H H' : Hp} {N N' : Addr → Prop} {A A' : Ow} {D : Ends} {r : Fl} (s : Stp H N A H' N' A' []) (h : Kt c G' Gb H N A D r) : Kt c G' Gb H' N' A' D r := by
  cases r with
  | nx e => exact fun σ' H2 N2 A2 s2 r2 => h σ' H2 N2 A2 (s.trans s2) r2
  | bk e => exact fun σ' H2 N2 A2 s2 r2 => h σ' H2 N2 A2 (s.trans s2) r2
  | ct e => exact fun σ' H2 N2 A2 s2 r2 => h σ' H2 N2 A2 (s.trans s2) r2
  | rt d e => exact fun v σ' H2 N2 A2 B s2 r2 => h v σ' H2 N2 A2 B (s.trans s2) r2

def sNil : En → Option Fl := fun e => some (.nx e)
def sSeq (f g : En → Option Fl) : En → Option Fl := fun e => (f e).bind fun r => match r with
  | .nx e => g e
  | r => some r
theorem ss_nil : PSs X [] (tS c G G Gb sNil) := pss_weak pss_nil fun D σ H ⟨env, N, A, r, er, ef, q⟩ => by
  cases ef
  exact q σ H N A Stp.refl er
theorem ss_cons {f g : En → Option Fl} (h1 : PS X st (tS c G G1 Gb f)) (h2 : PSs X rest (tS c G1 G2 Gb g)) : PSs X (st :: rest) (tS c G G2 Gb (sSeq f g)) :=
  pss_weak (pss_cons h1 h2) fun D σ H ⟨env, N, A, r, er, ef, q⟩ => by
    obtain ⟨r1, e1, ef⟩ := opt_bind ef
    refine ⟨env, N, A, r1, er, e1, ?_⟩
    cases r1 with
    | nx env1 => exact fun σ1 H1 N1 A1 s1 r1 => ⟨env1, N1, A1, r, r1, ef, q.mono s1⟩
    | bk _ => cases ef; exact q
    | ct _ => cases ef; exact q
    | rt _ _ => cases ef; exact q
theorem ss_one {f : En → Option Fl} (h1 : PS X st (tS c G G1 Gb f)) : PSs X [st] (tS c G G1 Gb f) := pss_one h1
/-- modes: a slot forgotten, a slot frozen, ahead of a statement -/
theorem ss_forget {i : Nat} {f : En → Option Fl} {sts : List Stmt} (h : PSs X sts (tS c (G.set i none) G2 Gb f)) : PSs X sts (tS c G G2 Gb f) :=
  pss_weak h fun D σ H ⟨env, N, A, r, er, ef, q⟩ => ⟨env, N, _, r, er.forget (i := i), ef, q.mono Stp.forget⟩
theorem ss_freeze {i : Nat} {f : En → Option Fl} {sts : List Stmt} (g : G[i]? = some (some m)) (h : PSs X sts (tS c (G.set i (some .sh)) G2 Gb f)) (np : m.np = true := by rfl) : PSs X sts (tS c G G2 Gb f) :=
  pss_weak h fun D σ H ⟨env, N, A, r, er, ef, q⟩ => ⟨env, _, _, r, er.freeze g np, ef, q.mono Stp.freeze⟩
theorem s_forget {i : Nat} {f : En → Option Fl} (h : PS X st (tS c (G.set i none) G2 Gb f)) : PS X st (tS c G G2 Gb f) :=
  ps_weak h fun D σ H ⟨env, N, A, r, er, ef, q⟩ => ⟨env, N, _, r, er.forget (i := i), ef, q.mono Stp.forget⟩
theorem s_freeze {i : Nat} {f : En → Option Fl} (g : G[i]? = some (some m)) (h : PS X st (tS c (G.set i (some .sh)) G2 Gb f)) (np : m.np = true := by rfl) : PS X st (tS c G G2 Gb f) :=
  ps_weak h fun D σ H ⟨env, N, A, r, er, ef, q⟩ => ⟨env, _, _, r, er.freeze g np, ef, q.mono Stp.freeze⟩
/-- a slot forgotten, frozen behind a block -/
theorem Kt.forget {H : Hp} {N : Addr → Prop} {A : Ow} {D : Ends} {r : Fl} {i : Nat} (h : Kt c (G'.set i none) Gb H N A D r) : Kt c G' Gb H N A D r := by
  cases r with
  | nx e => exact fun σ' H2 N2 A2 s2 r2 => h σ' H2 N2 _ (s2.trans Stp.forget) (r2.forget (i := i))
  | bk e => exact h
  | ct e => exact h
  | rt d e => exact h
theorem ss_out {i : Nat} {f : En → Option Fl} {sts : List Stmt} (h : PSs X sts (tS c G G' Gb f)) : PSs X sts (tS c G (G'.set i none) Gb f) :=
  pss_weak h fun D σ H ⟨env, N, A, r, er, ef, q⟩ => ⟨env, N, A, r, er, ef, q.forget⟩
theorem ss_outz {i : Nat} {f : En → Option Fl} {sts : List Stmt} (g : G'[i]? = some (some m)) (h : PSs X sts (tS c G G' Gb f)) (np : m.np = true := by rfl) : PSs X sts (tS c G (G'.set i (some .sh)) Gb f) :=
  pss_weak h fun D σ H ⟨env, N, A, r, er, ef, q⟩ => ⟨env, N, A, r, er, ef, by
    cases r with
    | nx e => exact fun σ' H2 N2 A2 s2 r2 => q σ' H2 _ _ (s2.trans Stp.freeze) (r2.freeze g np)
    | bk e => exact q
    | ct e => exact q
    | rt d e => exact q⟩
/-- a block that never falls out of its end -/
def noNx (f : En → Option Fl) : Prop := ∀ env r, f env = some r → ∀ e, r ≠ .nx e
theorem ss_any {f : En → Option Fl} {sts : List Stmt} (n : noNx f) (h : PSs X sts (tS c G G' Gb f)) : PSs X sts (tS c G G2 Gb f) :=
  pss_weak h fun D σ H ⟨env, N, A, r, er, ef, q⟩ => ⟨env, N, A, r, er, ef, by
    cases r with
    | nx e => exact (n env _ ef e rfl).elim
    | bk e => exact q
    | ct e => exact q
    | rt d e => exact q⟩
theorem ss_eq {f : En → Option Fl} {sts : List Stmt} (h : PSs X sts (tS c G G' Gb f)) (e1 : G' = G2) : PSs X sts (tS c G G2 Gb f) := e1 ▸ h

theorem s_pass : PS X (.Pass pos) (tS c G G Gb sNil) := ps_weak ps_pass fun D σ H ⟨env, N, A, r, er, ef, q⟩ => by
  cases ef
  exact q σ H N A Stp.refl er
def sBk : En → Option Fl := fun e => some (.bk e)
def sCt : En → Option Fl := fun e => some (.ct e)
theorem s_bk : PS X (.Break pos) (tS c G G' G sBk) := ps_weak ps_break fun D σ H ⟨env, N, A, r, er, ef, q⟩ => by
  cases ef
  exact q σ H N A Stp.refl er
theorem s_ct : PS X (.Continue pos) (tS c G G' G sCt) := ps_weak ps_continue fun D σ H ⟨env, N, A, r, er, ef, q⟩ => by
  cases ef
  exact q σ H N A Stp.refl er
/-- never come to -/
def sNo : En → Option Fl := fun _ => none
theorem s_no : PS X st (tS c G G' Gb sNo) := ps_weak ps_never fun D σ H ⟨env, N, A, r, er, ef, q⟩ => nomatch ef
theorem ss_no {sts : List Stmt} : PSs X sts (tS c G G' Gb sNo) := pss_weak pss_never fun D σ H ⟨env, N, A, r, er, ef, q⟩ => nomatch ef
/-- an expression for what it does -/
def sEx (fa : En → Option (D × En)) : En → Option Fl := fun e => (fa e).bind fun x => some (.nx x.2)
theorem s_expr {fa : En → Option (D × En)} (h : PE X e (tE c.K c.W c.P G G' m fa)) (hs : swapsWith e none pos.line X.env = pure false := by rfl) : PS X (.Expr e pos) (tS c G G' Gb (sEx fa)) :=
  ps_weak (ps_expr h hs) fun D σ H ⟨env, N, A, r, er, ef, q⟩ => by
    obtain ⟨⟨d, e1⟩, ea, ef⟩ := opt_bind ef
    cases ef
    exact ⟨env, N, A, d, e1, er, ea, fun v H1 N1 A1 B s1 r1 _ _ => q σ H1 N1 A1 ⟨s1.keep, s1.trk, s1.own, fun _ z => (nomatch z), s1.up, s1.fz⟩ r1⟩
/-- name = e -/
def sSet (i : Nat) (fa : En → Option (D × En)) : En → Option Fl := fun e => (fa e).bind fun x => some (.nx (x.2.set i x.1))
theorem s_set {i : Nat} {x : Str} {pos' : Pos} {fa : En → Option (D × En)} (hN : X.N.Nodup) (hi : X.N[i]? = some x) (hx : Loc X.env.scope x) (he : PE X e (tE c.K c.W c.P G G1 m fa)) (hl : i < G1.length := by decide) (hp : c.P i = none := by rfl)
    (hs : swapsWith e (some (.Name x pos')) pos.line X.env = pure false := by rfl) (hf : X.fn x = true ∨ X.env.scope.names.lookup x = some .local := by first | exact .inl rfl | exact .inr rfl | assumption) (hG : G1.set i (some m) = G2 := by rfl) :
    PS X (.Assign [.Name x pos'] e pos) (tS c G G2 Gb (sSet i fa)) :=
  hG ▸ ps_weak (ps_set hN hi hx he hs hf) fun D σ H ⟨env, N, A, r, er, ef, q⟩ => by
    obtain ⟨⟨d, e1⟩, ea, ef⟩ := opt_bind ef
    cases ef
    exact ⟨env, N, A, d, e1, er, ea, fun v H1 N1 A1 B s1 r1 hv bv => q (σ.set i (some v)) H1 N1 (A1.put i B) s1.put (r1.set hl hp bv hv)⟩
/-- return -/
def sRt (fa : En → Option (D × En)) : En → Option Fl := fun e => (fa e).bind fun x => some (.rt x.1 x.2)
/-- a slot's mode at return: as it was told, or not asked -/
def okRt : Gm → Gm → Bool
  | [], [] => true
  | none :: r, _ :: g => okRt r g
  | some (.ow .sh) :: r, some (.ow .sh) :: g => okRt r g
  | some (.ow (.ow .sh)) :: r, some (.ow (.ow .sh)) :: g => okRt r g
  | some (.dc true) :: r, some (.dc true) :: g => okRt r g
  | some (.dc false) :: r, some (.dc false) :: g => okRt r g
  | _, _ => false
theorem okRt.at : ∀ {r g : Gm}, okRt r g = true → g.length = r.length ∧ ∀ (i : Nat) (m : Md), r[i]? = some (some m) → g[i]? = some (some m)
  | [], [], _ => ⟨rfl, fun i m e => by simp at e⟩
  | none :: r, _ :: g, h => by
    obtain ⟨l, q⟩ := okRt.at (r := r) (g := g) h
    refine ⟨by simp [l], fun i m e => ?_⟩
    cases i with
    | zero => simp at e
    | succ i => simpa using q i m (by simpa using e)
  | some (.ow .sh) :: r, some (.ow .sh) :: g, h => by
    obtain ⟨l, q⟩ := okRt.at (r := r) (g := g) h
    refine ⟨by simp [l], fun i m e => ?_⟩
    cases i with
    | zero => exact e
    | succ i => simpa using q i m (by simpa using e)
  | some (.ow (.ow .sh)) :: r, some (.ow (.ow .sh)) :: g, h => by
    obtain ⟨l, q⟩ := okRt.at (r := r) (g := g) h
    refine ⟨by simp [l], fun i m e => ?_⟩
    cases i with
    | zero => exact e
    | succ i => simpa using q i m (by simpa using e)
  | some (.dc true) :: r, some (.dc true) :: g, h => by
    obtain ⟨l, q⟩ := okRt.at (r := r) (g := g) h
    refine ⟨by simp [l], fun i m e => ?_⟩
    cases i with
    | zero => exact e
    | succ i => simpa using q i m (by simpa using e)
  | some (.dc false) :: r, some (.dc false) :: g, h => by
    obtain ⟨l, q⟩ := okRt.at (r := r) (g := g) h
    refine ⟨by simp [l], fun i m e => ?_⟩
    cases i with
    | zero => exact e
    | succ i => simpa using q i m (by simpa using e)
open Classical in
theorem ER.cut {K : Frg} {W : Addr → Prop} {P : Pin} {H : Hp} {N : Addr → Prop} {env : En} {σ : L2.St} {A : Ow} {r : Gm} (er : ER K W P H N G env σ A) (ok : okRt r G = true) : ER K W P H N r env σ (fun i => if ∃ m, r[i]? = some (some m) then A i else []) := by
  obtain ⟨l, q⟩ := okRt.at ok
  have sub : ∀ i a, a ∈ (if ∃ m, r[i]? = some (some m) then A i else []) → a ∈ A i := fun i a z => by
    split at z
    · exact z
    · cases z
  refine ⟨er.le.trans l, er.ls.trans l, fun i m e => ?_, fun i n => if_neg fun ⟨m, z⟩ => n m z, fun i => ?_, fun i j a z z' => er.dj i j a (sub i a z) (sub j a z'), er.tr, fun i a z => er.dn i a (sub i a z), er.pn, er.wt, fun i a z => er.wd i a (sub i a z)⟩
  · rw [if_pos ⟨m, e⟩]
    exact er.sl i m (q i m e)
  · split
    · exact er.nd i
    · exact List.nodup_nil
open Classical in
theorem s_ret {fa : En → Option (D × En)} (he : PE X e (tE c.K c.W c.P G G1 c.mr fa)) (ok : okRt c.Gr G1 = true := by rfl) : PS X (.Return (some e) pos) (tS c G G' Gb (sRt fa)) :=
  ps_weak (ps_ret he) fun D σ H ⟨env, N, A, r, er, ef, q⟩ => by
    obtain ⟨⟨d, e1⟩, ea, ef⟩ := opt_bind ef
    cases ef
    refine ⟨env, N, A, d, e1, er, ea, fun v H1 N1 A1 B s1 r1 hv bv => ?_⟩
    have sub : ∀ a, O (fun i => if ∃ m, c.Gr[i]? = some (some m) then A1 i else []) a → O A1 a := fun a ⟨i, z⟩ => by
      by_cases h : ∃ m, c.Gr[i]? = some (some m)
      · have z : a ∈ (if ∃ m, c.Gr[i]? = some (some m) then A1 i else []) := z
        rw [if_pos h] at z; exact ⟨i, z⟩
      · have z : a ∈ (if ∃ m, c.Gr[i]? = some (some m) then A1 i else []) := z
        rw [if_neg h] at z; cases z
    exact q v σ H1 N1 _ B ⟨s1.keep, s1.trk, fun a z => s1.own a (sub a z), s1.bf, s1.up, s1.fz⟩ (r1.cut ok) hv ⟨bv.bn, bv.bw, fun a z w => bv.ba a z (sub a w), bv.bd⟩
/-- if -/
def sIf (fc : En → Option (Bool × En)) (f g : En → Option Fl) : En → Option Fl := fun e => (fc e).bind fun x => if x.1 = true then f x.2 else g x.2
theorem s_if {t : Expr} {sa sb : List Stmt} {fc : En → Option (Bool × En)} {f g : En → Option Fl} (hc : PT X t (tB c.K c.W c.P G G1 fc)) (ha : PSs X sa (tS c G1 G2 Gb f)) (hb : PSs X sb (tS c G1 G2 Gb g)) : PS X (.If t sa sb pos) (tS c G G2 Gb (sIf fc f g)) :=
  ps_weak (ps_if hc ha hb) fun D σ H ⟨env, N, A, r, er, ef, q⟩ => by
    obtain ⟨⟨b, e1⟩, ea, ef⟩ := opt_bind ef
    refine ⟨env, N, A, b, e1, er, ea, fun H1 N1 A1 s1 r1 => ?_⟩
    cases b with
    | true =>
      rw [if_pos rfl] at ef ⊢
      exact ⟨e1, N1, A1, r, r1, ef, q.mono s1⟩
    | false =>
      rw [if_neg Bool.false_ne_true] at ef ⊢
      exact ⟨e1, N1, A1, r, r1, ef, q.mono s1⟩
/-- while: at most n turns -/
def sWhN (fc : En → Option (Bool × En)) (f : En → Option Fl) : Nat → En → Option Fl
  | 0, _ => none
  | n + 1, e => (fc e).bind fun x => if x.1 = true then (f x.2).bind fun r => match r with
      | .nx e => sWhN fc f n e
      | .ct e => sWhN fc f n e
      | .bk e => some (.nx e)
      | .rt d e => some (.rt d e)
    else some (.nx x.2)
open Classical in
noncomputable def sWh (fc : En → Option (Bool × En)) (f : En → Option Fl) : En → Option Fl := fun e => if h : ∃ n r, sWhN fc f n e = some r then some (Classical.choose (Classical.choose_spec h)) else none
theorem sWhN_mono {fc : En → Option (Bool × En)} {f : En → Option Fl} : ∀ {n : Nat} {e : En} {r : Fl}, sWhN fc f n e = some r → ∀ k, sWhN fc f (n + k) e = some r
  | 0, e, r, h, k => by cases h
  | n + 1, e, r, h, k => by
    rw [Nat.add_right_comm]
    unfold sWhN at h ⊢
    obtain ⟨⟨b, e1⟩, h1, h⟩ := opt_bind h
    rw [h1]
    show (if b = true then _ else _) = _
    have h : (if b = true then _ else _) = some r := h
    cases b with
    | false => exact h
    | true =>
      rw [if_pos rfl] at h ⊢
      obtain ⟨r1, h2, h⟩ := opt_bind h
      rw [h2]
      cases r1 with
      | nx e => exact sWhN_mono h k
      | ct e => exact sWhN_mono h k
      | bk e => exact h
      | rt d e => exact h
theorem sWh_of {fc : En → Option (Bool × En)} {f : En → Option Fl} {n : Nat} {e : En} {r : Fl} (h : sWhN fc f n e = some r) : sWh fc f e = some r := by
  have ex : ∃ n r, sWhN fc f n e = some r := ⟨n, r, h⟩
  unfold sWh
  rw [dif_pos ex]
  have hs := Classical.choose_spec (Classical.choose_spec ex)
  have h1 := sWhN_mono h (Classical.choose ex)
  have h2 := sWhN_mono hs n
  rw [Nat.add_comm] at h2
  rw [h1] at h2
  rw [Option.some.inj h2]
theorem of_sWh {fc : En → Option (Bool × En)} {f : En → Option Fl} {e : En} {r : Fl} (h : sWh fc f e = some r) : ∃ n, sWhN fc f n e = some r := by
  unfold sWh at h
  split at h
  · rename_i ex
    have hs := Classical.choose_spec (Classical.choose_spec ex)
    rw [Option.some.inj h] at hs
    exact ⟨_, hs⟩
  · cases h
theorem s_while {t : Expr} {body : List Stmt} {fc : En → Option (Bool × En)} {f : En → Option Fl} (hp : PassesOwn (model X.prog X.w) X.A X.env X.xe) (hc : PT X t (tB c.K c.W c.P G G fc)) (hb : PSs X body (tS c G G G f)) : PS X (.While t body [] pos) (tS c G G Gb (sWh fc f)) :=
  ps_weak (ps_while hp hc hb) fun D σ H ⟨env, N, A, r, er, ef, q⟩ => by
    obtain ⟨n, hn⟩ := of_sWh ef
    refine ⟨fun k σ' H' => ∃ env' N' A', Stp H N A H' N' A' [] ∧ ER c.K c.W c.P H' N' G env' σ' A' ∧ sWhN fc f k env' = some r, ⟨n, env, N, A, Stp.refl, er, hn⟩, ?_⟩
    rintro k σ1 H1 ⟨env1, N1, A1, s1, r1, h1⟩
    cases k with
    | zero => cases h1
    | succ k =>
      unfold sWhN at h1
      obtain ⟨⟨b, e2⟩, hb2, h1⟩ := opt_bind h1
      refine ⟨env1, N1, A1, b, e2, r1, hb2, fun H2 N2 A2 s2 r2 => ?_⟩
      have h1 : (if b = true then _ else _) = some r := h1
      cases b with
      | false =>
        rw [if_neg Bool.false_ne_true] at h1
        show (if false = true then _ else _)
        rw [if_neg Bool.false_ne_true]
        cases h1
        exact q σ1 H2 N2 A2 (s1.trans s2) r2
      | true =>
        rw [if_pos rfl] at h1
        show (if true = true then _ else _)
        rw [if_pos rfl]
        obtain ⟨r3, h3, h1⟩ := opt_bind h1
        refine ⟨fun σ' H' => ∃ env' N' A', Stp H N A H' N' A' [] ∧ ER c.K c.W c.P H' N' G env' σ' A' ∧ sWhN fc f k env' = some r, fun σ' H' h => ⟨k, Nat.lt_succ_self k, h⟩, e2, N2, A2, r3, r2, h3, ?_⟩
        cases r3 with
        | nx e3 => exact fun σ3 H3 N3 A3 s3 r3 => ⟨e3, N3, A3, (s1.trans s2).trans s3, r3, h1⟩
        | ct e3 => exact fun σ3 H3 N3 A3 s3 r3 => ⟨e3, N3, A3, (s1.trans s2).trans s3, r3, h1⟩
        | bk e3 => cases h1; exact fun σ3 H3 N3 A3 s3 r3 => q σ3 H3 N3 A3 ((s1.trans s2).trans s3) r3
        | rt d e3 => cases h1; exact fun v σ3 H3 N3 A3 B s3 r3 => q v σ3 H3 N3 A3 B ((s1.trans s2).trans s3) r3
end
end T3
end
set_option Elab.async false
set_option linter.all false
set_option maxRecDepth 100000
set_option maxHeartbeats 1000000
noncomputable section
namespace T3
open PySem PySem.Spec PyProof.Rows L2

/-! ### targets -/
section
variable {X : Cx} {K : Frg} {W : Addr → Prop} {P : Pin} {G G' G1 G2 : Gm} {pos : Pos}
def SameBut (vs : List Nat) (σ σ' : L2.St) : Prop := σ'.length = σ.length ∧ ∀ i, i ∉ vs → σ'[i]? = σ[i]?
def tGr (K : Frg) (W : Addr → Prop) (P : Pin) (vs : List Nat) (G G' : Gm) (tg : En → D → Option En) : TG := fun v σ H Q =>
  ∃ env N A d env', ER K W P H N G env σ A ∧ Rp K H N d v ∧ tg env d = some env' ∧ ∀ σ' H' N' A', SameBut vs σ σ' → Stp H N A H' N' A' [] → ER K W P H' N' G' env' σ' A' → Q σ' H'
def tGs (K : Frg) (W : Addr → Prop) (P : Pin) (vs : List Nat) (G G' : Gm) (tg : En → List D → Option En) : TGs := fun xs σ H Q =>
  ∃ env N A ds env', ER K W P H N G env σ A ∧ RpL K H N ds xs ∧ tg env ds = some env' ∧ ∀ σ' H' N' A', SameBut vs σ σ' → Stp H N A H' N' A' [] → ER K W P H' N' G' env' σ' A' → Q σ' H'
theorem pg_weak {t t' : TG} {tg : Expr} (h : PG X tg t) (w : ∀ v σ H Q, t' v σ H Q → t v σ H Q) : PG X tg t' := ⟨fun pins s σ H v u Q I r q => h.run pins s σ H v u Q I r (w v σ H Q q)⟩
theorem pgs_weak {t t' : TGs} {tg : List Expr} (h : PGs X tg t) (w : ∀ v σ H Q, t' v σ H Q → t v σ H Q) : PGs X tg t' := ⟨fun pins s σ H v u Q I r q => h.run pins s σ H v u Q I r (w v σ H Q q)⟩
def gN (i : Nat) : En → D → Option En := fun e d => some (e.set i d)
def gT (tgs : En → List D → Option En) : En → D → Option En := fun e d => match d with
  | .tuple ds => tgs e ds
  | _ => none
def gNil : En → List D → Option En := fun e ds => match ds with
  | [] => some e
  | _ => none
def gCons (t : En → D → Option En) (r : En → List D → Option En) : En → List D → Option En := fun e ds => match ds with
  | d :: ds => (t e d).bind fun e => r e ds
  | _ => none
theorem g_name {vs : List Nat} {i : Nat} {x : Str} (hN : X.N.Nodup) (hi : X.N[i]? = some x) (hx : Loc X.env.scope x) (hl : i < G.length := by decide) (hp : P i = none := by rfl) (hv : i ∈ vs := by decide)
    (hf : X.fn x = true ∨ X.env.scope.names.lookup x = some .local := by first | exact .inl rfl | exact .inr rfl | assumption) : PG X (.Name x pos) (tGr K W P vs G (G.set i (some .sh)) (gN i)) :=
  pg_weak (pg_name hN hi hx hf) fun v σ H Q ⟨env, N, A, d, env', r, hd, e, q⟩ => by
    cases e
    exact q (σ.set i (some v)) H N (A.put i []) ⟨by simp, fun j n => List.getElem?_set_ne fun (z : i = j) => n (z ▸ hv)⟩ Stp.refl.put (r.set hl hp Bok.nil (RpM.sh_of hd))
theorem gs_nil {vs : List Nat} : PGs X [] (tGs K W P vs G G gNil) := pgs_weak pgs_nil fun xs σ H Q ⟨env, N, A, ds, env', r, hv, e, q⟩ => by
  cases ds with
  | nil =>
    cases e
    unfold RpL at hv
    exact ⟨hv, q σ H N A ⟨rfl, fun _ _ => rfl⟩ Stp.refl r⟩
  | cons _ _ => cases e
theorem gs_cons {vs : List Nat} {t : Expr} {ts : List Expr} {f : En → D → Option En} {fr : En → List D → Option En} (h1 : PG X t (tGr K W P vs G G1 f)) (h2 : PGs X ts (tGs K W P vs G1 G2 fr))
    (hs : (assignEach (t :: ts) X.env).map (·.2) = assign t X.env :: (assignEach ts X.env).map (·.2) := by rfl) : PGs X (t :: ts) (tGs K W P vs G G2 (gCons f fr)) :=
  pgs_weak (pgs_cons h1 h2 hs) fun zs σ H Q ⟨env, N, A, ds, env', r, hv, e, q⟩ => by
    cases ds with
    | nil => cases e
    | cons d ds =>
      obtain ⟨e1, h1, e⟩ := opt_bind e
      unfold RpL at hv
      obtain ⟨x, xr, rfl, hx, hv⟩ := hv
      exact ⟨x, xr, rfl, env, N, A, d, e1, r, hx, h1, fun σ1 H1 N1 A1 w1 s1 r1 => ⟨e1, N1, A1, ds, env', r1, RpL.mono (s1.keeps r.dn) ds xr hv, e, fun σ2 H2 N2 A2 w2 s2 r2 => q σ2 H2 N2 A2 ⟨w2.1.trans w1.1, fun i n => (w2.2 i n).trans (w1.2 i n)⟩ (s1.trans s2) r2⟩⟩
theorem gCons_len {t : En → D → Option En} {r : En → List D → Option En} {n : Nat} (hr : ∀ e ds e', r e ds = some e' → ds.length = n) : ∀ e ds e', gCons t r e ds = some e' → ds.length = n + 1 := fun e ds e' h => by
  cases ds with
  | nil => cases h
  | cons d ds =>
    obtain ⟨e1, _, h⟩ := opt_bind h
    rw [List.length_cons, hr _ _ _ h]
theorem gNil_len : ∀ e ds e', gNil e ds = some e' → ds.length = 0 := fun e ds e' h => by
  cases ds with
  | nil => rfl
  | cons _ _ => cases h
theorem g_tup {vs : List Nat} {es : List Expr} {k : Nat} {n : Nat} {f : En → List D → Option En} (hc : X.calm = true) (h : PGs X es (tGs X.K W P vs G G' f)) (hl : ∀ e ds e', f e ds = some e' → ds.length = n)
    (hn : (assignEach es X.env).length = n := by rfl) (hst : (assignEach es X.env).findIdx? (·.1) = none := by rfl) : PG X (.Tuple es k pos) (tGr X.K W P vs G G' (gT f)) :=
  pg_weak (pg_tup hc h hn hst) fun v σ H Q ⟨env, N, A, d, env', r, hv, e, q⟩ => by
    cases d with
    | tuple ds =>
      obtain ⟨a, xs, ev, hs, hr⟩ := hv.sqt
      exact ⟨a, xs, ev, hs, by rw [hr.len]; exact hl _ _ _ e, env, N, A, ds, env', r, hr, e, q⟩
    | _ => cases e

/-! ### wiping -/
def wpE : List Nat → En → En
  | [], e => e
  | i :: is, e => wpE is (e.set i .none)
def wpG : List Nat → Gm → Gm
  | [], g => g
  | i :: is, g => wpG is (g.set i none)
theorem ER.blank {H : Hp} {N : Addr → Prop} {env : En} {σ : L2.St} {A : Ow} {i : Nat} {d : D} (r : ER K W P H N G env σ A) (g : ∀ m, G[i]? ≠ some (some m)) (hp : P i = none) : ER K W P H N G (env.set i d) σ A := by
  refine ⟨by simp [r.le], r.ls, fun j m e => ?_, r.no, r.nd, r.dj, r.tr, r.dn, fun j v od q => ?_, r.wt, r.wd⟩
  · have ne : j ≠ i := fun z => g m (by rw [← z]; exact e)
    obtain ⟨d', v, h1, h2, h3⟩ := r.sl j m e
    exact ⟨d', v, by rw [List.getElem?_set_ne (Ne.symm ne)]; exact h1, h2, h3⟩
  · have ne : j ≠ i := fun z => by rw [z, hp] at q; cases q
    rw [List.getElem?_set_ne (Ne.symm ne)]
    exact r.pn j v od q
theorem ER.wipe {H : Hp} {N : Addr → Prop} {σ : L2.St} : ∀ {is : List Nat} {G : Gm} {env : En} {A : Ow}, ER K W P H N G env σ A → (∀ i ∈ is, P i = none) → ∃ A', Stp H N A H N A' [] ∧ ER K W P H N (wpG is G) (wpE is env) σ A'
  | [], G, env, A, r, _ => ⟨A, Stp.refl, r⟩
  | i :: is, G, env, A, r, hp => by
    have r1 := r.forget (i := i)
    have r2 := r1.blank (i := i) (d := .none) (fun m e => by
      rw [List.getElem?_set] at e
      split at e
      · split at e <;> cases e
      · exact absurd rfl (by assumption)) (hp i List.mem_cons_self)
    obtain ⟨A', s, r'⟩ := ER.wipe r2 fun j z => hp j (List.mem_cons_of_mem _ z)
    exact ⟨A', Stp.forget.trans s, r'⟩
theorem ER.sig {H : Hp} {N : Addr → Prop} {env : En} {σ σ' : L2.St} {A : Ow} (r : ER K W P H N G env σ A) (hl : σ'.length = σ.length) (h : ∀ i v, ((∃ m, G[i]? = some (some m)) ∨ (∃ p, P i = some p)) → σ[i]? = some (some v) → σ'[i]? = some (some v)) : ER K W P H N G env σ' A :=
  ⟨r.le, hl.trans r.ls, fun i m e => by
    obtain ⟨d, v, h1, h2, h3⟩ := r.sl i m e
    exact ⟨d, v, h1, h i v (.inl ⟨m, e⟩) h2, h3⟩, r.no, r.nd, r.dj, r.tr, r.dn, fun i v od q => by
    obtain ⟨h1, h2⟩ := r.pn i v od q
    exact ⟨h i v (.inr ⟨_, q⟩) h1, h2⟩, r.wt, r.wd⟩

/-! ### what is walked -/
/-- J hands out the data ds, one by one, while S stands -/
structure Walk (K : Frg) (J : It) (ds : List D) (S : Hp → (Addr → Prop) → Prop) : Prop where
  keep : ∀ H N H' N', S H N → Keeps H N H' N' → S H' N'
  go : ∀ i H N, i < ds.length → S H N → J.go i H
  stop : ∀ i H N, ds.length ≤ i → S H N → J.stop i H
  yld : ∀ i H N x H' d, S H N → (∀ a, N a → ∃ o, H a = some o) → ds[i]? = some d → J.yld i H x H' → ∃ N', Ext H N H' N' [] ∧ Rp K H' N' d x
def tI (K : Frg) (W : Addr → Prop) (P : Pin) (G G' : Gm) (f : En → Option (List D × En)) : TI := fun σ H R =>
  ∃ env N A ds env', ER K W P H N G env σ A ∧ f env = some (ds, env') ∧ ∀ J S H' N' A', Walk K J ds S → S H' N' → Stp H N A H' N' A' [] → ER K W P H' N' G' env' σ A' → R J H'
theorem pi_weak {t t' : TI} {tg e : Expr} (h : PI X tg e t) (w : ∀ σ H R, t' σ H R → t σ H R) : PI X tg e t' := ⟨fun pins s σ H R I q => h.run pins s σ H R I (w σ H R q)⟩

def StL (K : Frg) (a : Addr) (xs : List V) (ds : List D) : Hp → (Addr → Prop) → Prop := fun H N => ((N a ∧ Rd H a (.lst xs)) ∨ KL K a xs) ∧ RpL K H N ds xs
theorem StL.sq {a : Addr} {xs : List V} {ds : List D} {H : Hp} {N : Addr → Prop} (h : StL K a xs ds H N) : SqL K H a xs := by
  rcases h.1 with q | q
  · exact .inl q.2
  · exact q.sq
theorem StL.keep {a : Addr} {xs : List V} {ds : List D} {H H' : Hp} {N N' : Addr → Prop} (h : StL K a xs ds H N) (k : Keeps H N H' N') : StL K a xs ds H' N' :=
  ⟨h.1.imp (fun q => k.rd q.1 q.2) id, RpL.mono k _ _ h.2⟩
theorem walk_list {a : Addr} {xs : List V} {ds : List D} : Walk K (Itl K a) ds (StL K a xs ds) where
  keep := fun H N H' N' h k => h.keep k
  go := fun i H N hi h => by
    obtain ⟨x, hx, _⟩ := h.2.get (List.getElem?_eq_getElem hi)
    exact ⟨xs, x, h.sq, hx⟩
  stop := fun i H N hi h => ⟨xs, h.sq, by rw [h.2.len]; exact hi⟩
  yld := fun i H N x H' d h _ hd y => by
    obtain ⟨e, y⟩ := y
    subst e
    obtain ⟨d', h1, h2⟩ := h.2.get' (y xs h.sq)
    rw [hd] at h1
    cases h1
    exact ⟨N, Ext.refl, h2⟩
def StT (K : Frg) (a : Addr) (xs : List V) (ds : List D) : Hp → (Addr → Prop) → Prop := fun H N => ((N a ∧ Rd H a (.tup xs)) ∨ KT K a xs) ∧ RpL K H N ds xs
theorem StT.sq {a : Addr} {xs : List V} {ds : List D} {H : Hp} {N : Addr → Prop} (h : StT K a xs ds H N) : SqT K H a xs := by
  rcases h.1 with q | q
  · exact .inl q.2
  · exact .inr q
theorem walk_tup {a : Addr} {xs : List V} {ds : List D} : Walk K (Itt K a) ds (StT K a xs ds) where
  keep := fun H N H' N' h k => ⟨h.1.imp (fun q => k.rd q.1 q.2) id, RpL.mono k _ _ h.2⟩
  go := fun i H N hi h => by
    obtain ⟨x, hx, _⟩ := h.2.get (List.getElem?_eq_getElem hi)
    exact ⟨xs, x, h.sq, hx⟩
  stop := fun i H N hi h => ⟨xs, h.sq, by rw [h.2.len]; exact hi⟩
  yld := fun i H N x H' d h _ hd y => by
    obtain ⟨e, y⟩ := y
    subst e
    obtain ⟨d', h1, h2⟩ := h.2.get' (y xs h.sq)
    rw [hd] at h1
    cases h1
    exact ⟨N, Ext.refl, h2⟩
def intsFrom (lo : Int) (n : Nat) : List D := (List.range n).map fun (i : Nat) => .int (lo + i)
theorem walk_range {lo : Int} {n : Nat} : Walk K (Itr lo n) (intsFrom lo n) (fun _ _ => True) where
  keep := fun _ _ _ _ _ _ => trivial
  go := fun i H N hi _ => by unfold intsFrom at hi; rw [List.length_map, List.length_range] at hi; exact hi
  stop := fun i H N hi _ => by unfold intsFrom at hi; rw [List.length_map, List.length_range] at hi; exact hi
  yld := fun i H N x H' d _ _ hd y => by
    obtain ⟨e, y⟩ := y
    subst e y
    unfold intsFrom at hd
    rw [List.getElem?_map] at hd
    have hi : i < n := by
      refine Decidable.byContradiction fun z => ?_
      rw [List.getElem?_eq_none (by rw [List.length_range]; omega)] at hd
      cases hd
    rw [List.getElem?_eq_getElem (by rw [List.length_range]; exact hi), List.getElem_range] at hd
    cases hd
    exact ⟨N, Ext.refl, rp_int⟩
/-- the items of a list -/
def iL (fa : En → Option (D × En)) : En → Option (List D × En) := fun e => (fa e).bind fun x => match x.1 with
  | .list ds => some (ds, x.2)
  | _ => none
def iT (fa : En → Option (D × En)) : En → Option (List D × En) := fun e => (fa e).bind fun x => match x.1 with
  | .tuple ds => some (ds, x.2)
  | _ => none
theorem iL_some {fa : En → Option (D × En)} {env env' : En} {ds : List D} (h : iL fa env = some (ds, env')) : fa env = some (.list ds, env') := by
  obtain ⟨⟨d, e1⟩, h1, h2⟩ := opt_bind h
  cases d <;> simp at h2
  obtain ⟨rfl, rfl⟩ := h2
  exact h1
theorem iT_some {fa : En → Option (D × En)} {env env' : En} {ds : List D} (h : iT fa env = some (ds, env')) : fa env = some (.tuple ds, env') := by
  obtain ⟨⟨d, e1⟩, h1, h2⟩ := opt_bind h
  cases d <;> simp at h2
  obtain ⟨rfl, rfl⟩ := h2
  exact h1
theorem i_list {tg e : Expr} {fa : En → Option (D × En)} (ha : PE X e (tE X.K W P G G' .sh fa)) : PI X tg e (tI X.K W P G G' (iL fa)) :=
  pi_weak (pi_list ha) fun σ H R ⟨env, N, A, ds, env', r, ef, q⟩ => ⟨env, N, A, _, env', r, iL_some ef, fun v H' N' A' B s r' hv _ => by
    unfold RpM at hv
    obtain ⟨hv, hb⟩ := hv
    subst hb
    unfold Rp at hv
    obtain ⟨a, xs, ev, h1, h2⟩ := hv
    have st : StL X.K a xs ds H' N' := ⟨h1, h2⟩
    exact ⟨a, ev, ⟨xs, st.sq⟩, q _ _ H' N' A' (walk_list (a := a) (xs := xs)) st s r'⟩⟩
theorem i_tup {tg e : Expr} {fa : En → Option (D × En)} (ha : PE X e (tE X.K W P G G' .sh fa)) : PI X tg e (tI X.K W P G G' (iT fa)) :=
  pi_weak (pi_tup ha) fun σ H R ⟨env, N, A, ds, env', r, ef, q⟩ => ⟨env, N, A, _, env', r, iT_some ef, fun v H' N' A' B s r' hv _ => by
    unfold RpM at hv
    obtain ⟨hv, hb⟩ := hv
    subst hb
    unfold Rp at hv
    obtain ⟨a, xs, ev, h1, h2⟩ := hv
    have st : StT X.K a xs ds H' N' := ⟨h1, h2⟩
    exact ⟨a, ev, ⟨xs, st.sq⟩, q _ _ H' N' A' (walk_tup (a := a) (xs := xs)) st s r'⟩⟩
/-- range: its bounds below 2 ^ 62 -/
def iR1 (fa : En → Option (List D × En)) : En → Option (List D × En) := fun e => (fa e).bind fun x => match x.1 with
  | [.int j] => @ite (Option _) (-(2 ^ 62) ≤ j ∧ j < 2 ^ 62) (Classical.propDecidable _) (some (intsFrom 0 j.toNat, x.2)) none
  | _ => none
def iR2 (fa : En → Option (List D × En)) : En → Option (List D × En) := fun e => (fa e).bind fun x => match x.1 with
  | [.int i, .int j] => @ite (Option _) (-(2 ^ 62) ≤ i ∧ i < 2 ^ 62 ∧ -(2 ^ 62) ≤ j ∧ j < 2 ^ 62) (Classical.propDecidable _) (some (intsFrom i (j - i).toNat, x.2)) none
  | _ => none
theorem args_int1 {H : Hp} {N : Addr → Prop} {env : En} {σ : L2.St} {A : Ow} {j : Int} {xs : List V} (h : ArgOk K W H N A env σ [.vl] [.int j] xs) : xs = [.int j] := by
  obtain ⟨d, dr, x, xr, e1, rfl, h1, e2, rfl⟩ := h
  cases e1
  have h1 : Rp K H N (.int j) x := h1
  unfold Rp at h1
  rw [h1]
theorem i_range1 {tg a : Expr} {p : Pos} {fs : En → Option (List D × En)} (hg : Gl X "range") (hm : X.mg "range" = none) (ha : PA X [a] (tAr X.K W P G G' [.vl] fs)) (hs : starEach [a] X.env = [(false, eval a X.env)] := by rfl) :
    PI X tg (.Call (.Name "range" p) [a] [] pos) (tI X.K W P G G' (iR1 fs)) :=
  pi_weak (pi_range1 hg hm ha hs) fun σ H R ⟨env, N, A, ds, env', r, ef, q⟩ => by
    obtain ⟨⟨es, e1⟩, ea, ef⟩ := opt_bind ef
    match es, ef with
    | [.int j], ef =>
      have ef : (@ite (Option _) (-(2 ^ 62) ≤ j ∧ j < 2 ^ 62) (Classical.propDecidable _) (some (intsFrom 0 j.toNat, e1)) none) = some (ds, env') := ef
      split at ef
      · rename_i hj
        cases ef
        refine ⟨env, N, A, [.int j], env', r, ea, fun xs H1 N1 A1 s1 r1 h1 => ?_⟩
        exact ⟨j, args_int1 h1, hj.1, hj.2, q _ _ H1 N1 A1 walk_range trivial s1 r1⟩
      · cases ef
theorem i_range2 {tg a b : Expr} {p : Pos} {fs : En → Option (List D × En)} (hg : Gl X "range") (hm : X.mg "range" = none) (ha : PA X [a, b] (tAr X.K W P G G' [.vl, .vl] fs)) (hs : starEach [a, b] X.env = [(false, eval a X.env), (false, eval b X.env)] := by rfl) (hs2 : starEach [b] X.env = [(false, eval b X.env)] := by rfl) :
    PI X tg (.Call (.Name "range" p) [a, b] [] pos) (tI X.K W P G G' (iR2 fs)) :=
  pi_weak (pi_range2 hg hm ha hs hs2) fun σ H R ⟨env, N, A, ds, env', r, ef, q⟩ => by
    obtain ⟨⟨es, e1⟩, ea, ef⟩ := opt_bind ef
    match es, ef with
    | [.int i, .int j], ef =>
      have ef : (@ite (Option _) (-(2 ^ 62) ≤ i ∧ i < 2 ^ 62 ∧ -(2 ^ 62) ≤ j ∧ j < 2 ^ 62) (Classical.propDecidable _) (some (intsFrom i (j - i).toNat, e1)) none) = some (ds, env') := ef
      split at ef
      · rename_i hj
        cases ef
        refine ⟨env, N, A, [.int i, .int j], env', r, ea, fun xs H1 N1 A1 s1 r1 h1 => ?_⟩
        obtain ⟨d, dr, x, xr, e1, rfl, h1, h2⟩ := h1
        cases e1
        have h1 : Rp X.K H1 N1 (.int i) x := h1
        unfold Rp at h1
        refine ⟨i, j, by rw [args_int1 h2, h1], hj, q _ _ H1 N1 A1 walk_range trivial s1 r1⟩
      · cases ef

/-! ### for -/
def sForN (tg : En → D → Option En) (is : List Nat) (f : En → Option Fl) : List D → En → Option Fl
  | [], e => some (.nx e)
  | d :: ds, e => (tg e d).bind fun e1 => (f e1).bind fun r => match r with
    | .nx e => sForN tg is f ds (wpE is e)
    | .ct e => sForN tg is f ds (wpE is e)
    | .bk e => some (.nx (wpE is e))
    | .rt d e => some (.rt d e)
def sFor (fi : En → Option (List D × En)) (tg : En → D → Option En) (is : List Nat) (f : En → Option Fl) : En → Option Fl := fun e => (fi e).bind fun x => sForN tg is f x.1 x.2
variable {c : Cc} {Gb Gt Ge Gc : Gm}
theorem s_for {tg iter : Expr} {body : List Stmt} {fi : En → Option (List D × En)} {ft : En → D → Option En} {is vs : List Nat} {f : En → Option Fl} (hp : PassesOwn (model X.prog X.w) X.A X.env X.xe) (hc : X.calm = true) (hi : PI X tg iter (tI c.K c.W c.P G G1 fi))
    (hg : PG X tg (tGr c.K c.W c.P vs G1 Gt ft)) (hb : PSs X body (tS c Gt Ge Gc f)) (h1 : wpG is Ge = G1) (h2 : wpG is Gc = G1) (hpn : ∀ i ∈ is, c.P i = none) (hs : ∀ x, foldedSetIterable iter X.env x = pure x := by intro _; rfl) :
    PS X (.For tg iter body [] pos) (tS c G G1 Gb (sFor fi ft is f)) :=
  ps_weak (ps_for hp hc hi hg hb hs) fun D σ H ⟨env, N, A, r, er, ef, q⟩ => by
    obtain ⟨⟨ds, e1⟩, ei, ef⟩ := opt_bind ef
    refine ⟨env, N, A, ds, e1, er, ei, fun J S H1 N1 A1 wk hS s1 r1 => ?_⟩
    refine ⟨fun i m σ' H' => m = ds.length - i ∧ ∃ env' N' A', i ≤ ds.length ∧ S H' N' ∧ Stp H N A H' N' A' [] ∧ ER c.K c.W c.P H' N' G1 env' σ' A' ∧ sForN ft is f (ds.drop i) env' = some r,
      ⟨ds.length, by simp, e1, N1, A1, Nat.zero_le _, hS, s1, r1, ef⟩, ?_⟩
    rintro i m σ' H' ⟨rfl, env2, N2, A2, hi, hS2, s2, r2, hr⟩
    by_cases hlt : i < ds.length
    · rw [List.drop_eq_getElem_cons hlt] at hr
      unfold sForN at hr
      obtain ⟨e3, ht, hr⟩ := opt_bind hr
      obtain ⟨fr, hf, hr⟩ := opt_bind hr
      refine .inr ⟨wk.go i H' N2 hlt hS2, fun σ' H' => ∃ env' N' A', S H' N' ∧ Stp H N A H' N' A' [] ∧ ER c.K c.W c.P H' N' G1 env' σ' A' ∧ sForN ft is f (ds.drop (i + 1)) env' = some r,
        fun σ5 H5 ⟨e5, N5, A5, hS5, s5, r5, h5⟩ => ⟨ds.length - (i + 1), by omega, rfl, e5, N5, A5, hlt, hS5, s5, r5, h5⟩, fun x H3 hy => ?_⟩
      obtain ⟨N3, ex, hx⟩ := wk.yld i H' N2 x H3 _ hS2 r2.tr (List.getElem?_eq_getElem hlt) hy
      refine ⟨env2, N3, A2, ds[i], e3, r2.ext ex, hx, ht, fun σ4 H4 N4 A4 _ s4 r4 => ?_⟩
      have s34 := (s2.trans ex.stp).trans s4
      have hS4 : S H4 N4 := wk.keep _ _ _ _ (wk.keep _ _ _ _ hS2 ex.keeps) (s4.keeps (r2.ext ex).dn)
      refine ⟨e3, N4, A4, fr, r4, hf, ?_⟩
      have turn : ∀ {Gx : Gm} {e6 : En}, wpG is Gx = G1 → sForN ft is f (ds.drop (i + 1)) (wpE is e6) = some r → ∀ σ6 H6 N6 A6, Stp H4 N4 A4 H6 N6 A6 [] → ER c.K c.W c.P H6 N6 Gx e6 σ6 A6 →
          ∃ env' N' A', S H6 N' ∧ Stp H N A H6 N' A' [] ∧ ER c.K c.W c.P H6 N' G1 env' σ6 A' ∧ sForN ft is f (ds.drop (i + 1)) env' = some r := fun {Gx e6} hG h σ6 H6 N6 A6 s6 r6 => by
        obtain ⟨A7, s7, r7⟩ := r6.wipe hpn
        rw [hG] at r7
        exact ⟨_, N6, A7, wk.keep _ _ _ _ hS4 (s6.keeps r4.dn), (s34.trans s6).trans s7, r7, h⟩
      cases fr with
      | nx e6 => exact turn h1 hr
      | ct e6 => exact turn h2 hr
      | bk e6 =>
        cases hr
        intro σ6 H6 N6 A6 s6 r6
        obtain ⟨A7, s7, r7⟩ := r6.wipe hpn
        rw [h2] at r7
        exact q σ6 H6 N6 A7 ((s34.trans s6).trans s7) r7
      | rt d e6 =>
        cases hr
        exact fun v σ6 H6 N6 A6 B s6 r6 => q v σ6 H6 N6 A6 B (s34.trans s6) r6
    · refine .inl ⟨wk.stop i H' N2 (by omega) hS2, ?_⟩
      have : ds.drop i = [] := List.drop_eq_nil_of_le (by omega)
      rw [this] at hr
      unfold sForN at hr
      cases hr
      exact q σ' H' N2 A2 s2 r2
end
end T3
end
set_option Elab.async false
set_option linter.all false
set_option maxRecDepth 100000
set_option maxHeartbeats 1000000
noncomputable section
namespace T3
open PySem PySem.Spec PyProof.Rows L2
section
variable {X : Cx} {K : Frg} {W : Addr → Prop} {P : Pin} {G G' G1 G2 Gt Gu Ge : Gm} {m : Md} {pos : Pos}
/-! ### comprehensions -/
def lcN (tg : En → D → Option En) (is : List Nat) (ft : En → Option (Bool × En)) (fe : En → Option (D × En)) : List D → En → Option (List D × En)
  | [], e => some ([], e)
  | d :: ds, e => (tg e d).bind fun e1 => (ft e1).bind fun b => if b.1 = true then (fe b.2).bind fun y => (lcN tg is ft fe ds (wpE is y.2)).bind fun z => some (y.1 :: z.1, z.2) else lcN tg is ft fe ds (wpE is b.2)
def fLc (fi : En → Option (List D × En)) (tg : En → D → Option En) (is : List Nat) (ft : En → Option (Bool × En)) (fe : En → Option (D × En)) : En → Option (D × En) := fun e =>
  (fi e).bind fun x => @ite (Option _) (x.1.length ≤ sizeLine) (Classical.propDecidable _) ((lcN tg is ft fe x.1 (wpE is x.2)).bind fun z => some (.list z.1, z.2)) none
def bYes : En → Option (Bool × En) := fun e => some (true, e)
theorem pts_weak {es : List Expr} {t t' : TT} (h : PTs X es t) (w : ∀ σ H Q, t' σ H Q → t σ H Q) : PTs X es t' := ⟨fun pins s σ H Q I q => h.run pins s σ H Q I (w σ H Q q)⟩
theorem t_yes : PTs X [] (tB K W P G G bYes) := pts_weak pts_nil fun σ H Q ⟨env, N, A, b, env', r, ef, q⟩ => by
  cases ef
  exact q H N A Stp.refl r
theorem t_one {c : Expr} {fc : En → Option (Bool × En)} (h : PT X c (tB K W P G G' fc)) : PTs X [c] (tB K W P G G' fc) := pts_one h

theorem wipe_in {σ : L2.St} {i : Nat} : ∀ {vs : List Nat}, i ∈ vs → ∀ v, (wipe σ vs)[i]? ≠ some (some v) := fun {vs} h v e => (wipe_some e).2 h
theorem wipe_same {vs : List Nat} {σ σ' : L2.St} (h : SameBut vs σ σ') : wipe σ' vs = wipe σ vs := by
  apply List.ext_getElem?
  intro i
  by_cases hi : i ∈ vs
  · have k : ∀ τ : L2.St, (wipe τ vs)[i]? = if i < τ.length then some none else none := fun τ => by
      by_cases l : i < τ.length
      · rw [if_pos l]
        have l' : i < (wipe τ vs).length := by rw [wipe_length]; exact l
        rw [List.getElem?_eq_getElem l']
        cases q : (wipe τ vs)[i] with
        | none => rfl
        | some v => exact absurd (show (wipe τ vs)[i]? = some (some v) by rw [List.getElem?_eq_getElem l', q]) (wipe_in hi v)
      · rw [if_neg l]
        exact List.getElem?_eq_none (by rw [wipe_length]; omega)
    rw [k, k, h.1]
  · rw [L2.wipe_out hi, L2.wipe_out hi]
    exact h.2 i hi
theorem wpG_len : ∀ {is : List Nat} {G : Gm}, (wpG is G).length = G.length
  | [], G => rfl
  | i :: is, G => by unfold wpG; rw [wpG_len]; simp
theorem wpG_in : ∀ {is : List Nat} {G : Gm} {i : Nat}, i ∈ is → ∀ m, (wpG is G)[i]? ≠ some (some m)
  | [], G, i, h, m, e => by cases h
  | j :: is, G, i, h, m, e => by
    unfold wpG at e
    by_cases hi : i ∈ is
    · exact wpG_in hi m e
    · have ij : i = j := by
        rcases List.mem_cons.mp h with z | z
        · exact z
        · exact absurd z hi
      subst ij
      have k : ∀ {is : List Nat} {G : Gm}, i ∉ is → (wpG is G)[i]? = G[i]? := fun {is} => by
        induction is with
        | nil => intro G _; rfl
        | cons b is ih =>
          intro G n
          unfold wpG
          rw [ih fun z => n (List.mem_cons_of_mem _ z), List.getElem?_set_ne fun z => n (by rw [z]; exact List.mem_cons_self)]
      rw [k hi, List.getElem?_set] at e
      split at e
      · split at e <;> cases e
      · exact absurd rfl (by assumption)
theorem AllM.mono {H H' : Hp} {N N' : Addr → Prop} (k : Keeps H N H' N') (kw : Keeps H (fun a => N a ∨ W a) H' (fun a => N' a ∨ W a)) {ds : List D} {xs : List V} {B : List Addr} (h : AllM (RpM K H N W m) ds xs B) (hB : ∀ a ∈ B, ∀ o, H a = some o → H' a = some o) :
    AllM (RpM K H' N' W m) ds xs B := h.imp fun d v B' hb q => RpM.mono k kw m d v B' (fun a z => hB a (hb a z)) q
theorem AllM.snoc {Pr : D → V → List Addr → Prop} {y : D} {v : V} {B' : List Addr} (h : Pr y v B') : ∀ {ds : List D} {xs : List V} {B : List Addr}, AllM Pr ds xs B → AllM Pr (ds ++ [y]) (xs ++ [v]) (B ++ B')
  | [], xs, B, ⟨e1, e2⟩ => by subst e1 e2; exact ⟨v, [], B', [], rfl, by simp, h, rfl, rfl⟩
  | d :: ds, xs, B, ⟨x, r, A1, A2, e1, e2, h1, h2⟩ => by
    subst e1 e2
    exact ⟨x, r ++ [v], A1, A2 ++ B', rfl, by simp, h1, AllM.snoc h h2⟩
theorem tLc_of {own : List (Str × Nat)} {fi : En → Option (List D × En)} {gt : En → D → Option En} {ft : En → Option (Bool × En)} {fe : En → Option (D × En)}
    (h1 : wpG (own.map (·.2)) Gu = wpG (own.map (·.2)) G1) (h2 : wpG (own.map (·.2)) Ge = wpG (own.map (·.2)) G1) (hpn : ∀ i ∈ own.map (·.2), P i = none) {σ : L2.St} {H : Hp} {Q : VK}
    (hh : tE X.K W P G (wpG (own.map (·.2)) G1) (.ow m) (fLc fi gt (own.map (·.2)) ft fe) σ H Q) :
    tLc (tI X.K W P G G1 fi) (tGr X.K W P (own.map (·.2)) (wpG (own.map (·.2)) G1) Gt gt) (tB X.K W P Gt Gu ft) (tE X.K W P Gu Ge m fe) (own.map (·.2)) σ H Q := by
  obtain ⟨env, N, A, d, env', er, ef, q⟩ := hh
  obtain ⟨⟨ds, e1⟩, ei, ef⟩ := opt_bind ef
  have ef : (@ite (Option _) (ds.length ≤ sizeLine) (Classical.propDecidable _) ((lcN gt (own.map (·.2)) ft fe ds (wpE (own.map (·.2)) e1)).bind fun z => some (PyData.list z.1, z.2)) none) = some (d, env') := ef
  split at ef
  · rename_i hsz
    obtain ⟨⟨zs, e2⟩, hz, ef⟩ := opt_bind ef
    cases ef
    refine ⟨env, N, A, ds, e1, er, ei, fun J S H1 N1 A1 wk hS s1 r1 D hD => ?_⟩
    obtain ⟨A1', s1', r1'⟩ := r1.wipe hpn
    have sg : ∀ {Gx : Gm} {H : Hp} {N : Addr → Prop} {env : En} {A : Ow} {σ1 σ2 : L2.St}, ER X.K W P H N (wpG (own.map (·.2)) Gx) env σ1 A → σ2.length = σ1.length → (∀ i, i ∉ own.map (·.2) → σ2[i]? = σ1[i]?) → ER X.K W P H N (wpG (own.map (·.2)) Gx) env σ2 A := fun r hl h =>
      r.sig hl fun i v c e => by
        have ni : i ∉ own.map (·.2) := fun z => by
          rcases c with ⟨m, c⟩ | ⟨p, c⟩
          · exact wpG_in z m c
          · rw [hpn i z] at c; cases c
        rw [h i ni]; exact e
    have rD : ER X.K W P (upd H1 D (.lst [])) N1 (wpG (own.map (·.2)) G1) (wpE (own.map (·.2)) e1) (wipe σ (own.map (·.2))) A1' := (sg r1' (wipe_length _ _) fun i n => L2.wipe_out n).new hD
    have sD : Stp H N A (upd H1 D (.lst [])) N1 A1' [] := (s1.trans s1').trans (Stp.new hD)
    refine ⟨fun i k H' => k = ds.length - i ∧ ∃ env2 N2 A2 acc dacc Bs rest, i ≤ ds.length ∧ S H' N2 ∧ Stp H N A H' N2 A2 [] ∧ ER X.K W P H' N2 (wpG (own.map (·.2)) G1) env2 (wipe σ (own.map (·.2))) A2 ∧ H' D = some (.lst acc) ∧ AllM (RpM X.K H' N2 W m) dacc acc Bs ∧
        Bok N2 W A2 (D :: Bs) ∧ (∀ a ∈ D :: Bs, O A a ∨ H a = none) ∧ acc.length ≤ i ∧ lcN gt (own.map (·.2)) ft fe (ds.drop i) env2 = some rest ∧ zs = dacc ++ rest.1 ∧ e2 = rest.2,
      ⟨ds.length, by simp, _, N1, A1', [], [], [], (zs, e2), Nat.zero_le _, wk.keep _ _ _ _ hS (Keeps.new hD), sD, rD, upd_same, ⟨rfl, rfl⟩, ⟨fun a z n => ?_, fun a z n => ?_, fun a z n => ?_, by simp⟩, fun a z => ?_, Nat.zero_le _, hz, rfl, rfl⟩, ?_⟩
    · have z : a = D := by simpa using z
      obtain ⟨o, e⟩ := r1.tr a n
      rw [z, hD] at e; cases e
    · have z : a = D := by simpa using z
      obtain ⟨o, e⟩ := r1.wt a n
      rw [z, hD] at e; cases e
    · have z : a = D := by simpa using z
      obtain ⟨o, e⟩ := r1'.otrk n
      rw [z, hD] at e; cases e
    · have z : a = D := by simpa using z
      rw [z]; exact .inr (s1.none_of hD)
    rintro i k H' ⟨rfl, env2, N2, A2, acc, dacc, Bs, rest, hi, hS2, s2, r2, hacc, hall, hB, hO, hl, hr, ez, ee⟩
    by_cases hlt : i < ds.length
    · rw [List.drop_eq_getElem_cons hlt] at hr
      unfold lcN at hr
      obtain ⟨e3, ht3, hr⟩ := opt_bind hr
      obtain ⟨⟨b, e4⟩, ht4, hr⟩ := opt_bind hr
      refine .inr ⟨wk.go i H' N2 hlt hS2, fun H' => ∃ env2 N2 A2 acc dacc Bs rest, S H' N2 ∧ Stp H N A H' N2 A2 [] ∧ ER X.K W P H' N2 (wpG (own.map (·.2)) G1) env2 (wipe σ (own.map (·.2))) A2 ∧ H' D = some (.lst acc) ∧ AllM (RpM X.K H' N2 W m) dacc acc Bs ∧
        Bok N2 W A2 (D :: Bs) ∧ (∀ a ∈ D :: Bs, O A a ∨ H a = none) ∧ acc.length ≤ i + 1 ∧ lcN gt (own.map (·.2)) ft fe (ds.drop (i + 1)) env2 = some rest ∧ zs = dacc ++ rest.1 ∧ e2 = rest.2,
        fun H5 ⟨e5, N5, A5, acc5, dacc5, B5, rest5, w⟩ => ⟨ds.length - (i + 1), by omega, rfl, e5, N5, A5, acc5, dacc5, B5, rest5, hlt, w⟩, fun x H3 hy => ?_⟩
      obtain ⟨N3, ex, hx⟩ := wk.yld i H' N2 x H3 _ hS2 r2.tr (List.getElem?_eq_getElem hlt) hy
      have tD : ∀ a ∈ D :: Bs, ∃ o, H' a = some o := fun a z => by
        rcases List.mem_cons.mp z with z | z
        · rw [z]; exact ⟨_, hacc⟩
        · exact AllM.trk (RpM.trk m) hall a z
      -- what was made so far stands behind a step
      have past : ∀ {H4 : Hp} {N4 : Addr → Prop} {A4 : Ow}, Stp H' N2 A2 H4 N4 A4 [] → (∀ a, O A4 a → O A2 a ∨ H' a = none) → H4 D = some (.lst acc) ∧ AllM (RpM X.K H4 N4 W m) dacc acc Bs ∧ Bok N4 W A4 (D :: Bs) := fun {H4 N4 A4} s4 ow => by
        have un : ∀ a ∈ D :: Bs, ∀ o, H' a = some o → H4 a = some o := fun a z o e => s4.keep a o e (hB.ba a z)
        refine ⟨un D List.mem_cons_self _ hacc, hall.mono (s4.keeps r2.dn) (s4.keepw r2.dn r2.wd) fun a z => un a (List.mem_cons_of_mem _ z), fun a z n => ?_, hB.bw, fun a z n => ?_, hB.bd⟩
        · obtain ⟨o, e⟩ := tD a z
          rcases s4.fz a n with n | n | n | n
          · exact hB.bn a z n
          · exact hB.ba a z n
          · rw [n] at e; cases e
          · rcases List.mem_cons.mp z with z | z
            · obtain ⟨ys, n⟩ := n
              rw [z, hacc] at n
              cases n
            · exact AllM.nt (RpM.nt m) hall a z n
        · obtain ⟨o, e⟩ := tD a z
          rcases ow a n with n | n
          · exact hB.ba a z n
          · rw [n] at e; cases e
      refine ⟨env2, N3, A2, ds[i], e3, r2.ext ex, hx, ht3, fun σ4 H4 N4 A4 w4 s4 r4 => ⟨?_, ?_⟩⟩
      · have := wipe_same w4
        rw [this]
        exact wipe_same ⟨wipe_length _ _, fun i n => L2.wipe_out n⟩
      have s34 : Stp H' N2 A2 H4 N4 A4 [] := ex.stp.trans s4
      have hS4 : S H4 N4 := wk.keep _ _ _ _ (wk.keep _ _ _ _ hS2 ex.keeps) (s4.keeps (r2.ext ex).dn)
      refine ⟨e3, N4, A4, b, e4, r4, ht4, fun H5 N5 A5 s5 r5 => ?_⟩
      have s45 := s34.trans s5
      have hS5 : S H5 N5 := wk.keep _ _ _ _ hS4 (s5.keeps r4.dn)
      have lenσ : σ4.length = (wipe σ (own.map (·.2))).length := w4.1
      have back : ∀ {Gx : Gm} {H : Hp} {N : Addr → Prop} {env : En} {A : Ow}, wpG (own.map (·.2)) Gx = wpG (own.map (·.2)) G1 → ER X.K W P H N Gx env σ4 A → ∃ A', Stp H N A H N A' [] ∧ ER X.K W P H N (wpG (own.map (·.2)) G1) (wpE (own.map (·.2)) env) (wipe σ (own.map (·.2))) A' := fun {Gx H N env A} hG r => by
        obtain ⟨A', s', r'⟩ := r.wipe hpn
        rw [hG] at r'
        exact ⟨A', s', sg r' lenσ.symm fun i n => (w4.2 i n).symm⟩
      have hr : (if b = true then _ else _) = some rest := hr
      cases b with
      | false =>
        rw [if_neg Bool.false_ne_true] at hr
        show (if false = true then _ else _)
        rw [if_neg Bool.false_ne_true]
        obtain ⟨A6, s6, r6⟩ := back h1 r5
        obtain ⟨p1, p2, p3⟩ := past (s45.trans s6) (s45.trans s6).own
        exact ⟨_, N5, A6, acc, dacc, Bs, rest, hS5, s2.trans (s45.trans s6), r6, p1, p2, p3, hO, by omega, hr, ez, ee⟩
      | true =>
        rw [if_pos rfl] at hr
        show (if true = true then _ else _)
        rw [if_pos rfl]
        obtain ⟨⟨y, e6⟩, hy6, hr⟩ := opt_bind hr
        obtain ⟨⟨ys, e9⟩, hr7, hr⟩ := opt_bind hr
        cases hr
        refine ⟨e4, N5, A5, y, e6, r5, hy6, fun v H6 N6 A6 B6 s6 r6 hv b6 => ?_⟩
        obtain ⟨A7, s7, r7⟩ := back h2 r6
        have s6' : Stp H5 N5 A5 H6 N6 A6 [] := ⟨s6.keep, s6.trk, s6.own, fun _ z => (nomatch z), s6.up, s6.fz⟩
        have s47 := (s45.trans s6').trans s7
        obtain ⟨p1, p2, p3⟩ := past s47 s47.own
        have b7 : Bok N6 W A7 B6 := s7.bok b6 hv
        have fr6 : ∀ a ∈ B6, O A2 a ∨ H' a = none := fun a z => by
          rcases s6.bf a z with z | z
          · exact s45.own a z
          · exact .inr (s45.none_of z)
        have ap : ∀ a ∈ D :: Bs, a ∉ B6 := fun a z z' => by
          obtain ⟨o, e⟩ := tD a z
          rcases fr6 a z' with n | n
          · exact hB.ba a z n
          · rw [n] at e; cases e
        refine ⟨acc, p1, Nat.lt_of_le_of_lt hl (Nat.lt_of_lt_of_le hlt hsz), ?_⟩
        -- the item is put behind
        have un : ∀ a o, a ≠ D → H6 a = some o → upd H6 D (.lst (acc ++ [v])) a = some o := fun a o n e => by rw [upd_ne n]; exact e
        have nD : ¬ N6 D := p3.bn D List.mem_cons_self
        have wD : ¬ W D := p3.bw D List.mem_cons_self
        have kp : Keeps H6 N6 (upd H6 D (.lst (acc ++ [v]))) N6 := fun a o e n => ⟨un a o (fun z => nD (z ▸ n)) e, n⟩
        have kw : Keeps H6 (fun a => N6 a ∨ W a) (upd H6 D (.lst (acc ++ [v]))) (fun a => N6 a ∨ W a) := fun a o e n => ⟨un a o (fun z => n.elim (fun n => nD (z ▸ n)) fun n => wD (z ▸ n)) e, n⟩
        have ndB := List.nodup_cons.mp p3.bd
        refine ⟨wpE (own.map (·.2)) e6, N6, A7, acc ++ [v], dacc ++ [y], Bs ++ B6, (ys, e9), wk.keep _ _ _ _ (wk.keep _ _ _ _ hS5 (s6.keeps r5.dn)) kp, ?_, ?_, upd_same, ?_, ⟨fun a z => ?_, fun a z => ?_, fun a z => ?_, ?_⟩, fun a z => ?_, by rw [List.length_append, List.length_singleton]; omega, hr7, by rw [ez]; simp, ee⟩
        · have t := s2.trans s47
          refine ⟨fun a o e n => un a o (fun z => ?_) (t.keep a o e n), fun a o e => ?_, t.own, t.bf, t.up, t.fz⟩
          · rcases hO D List.mem_cons_self with w | w
            · exact n (z ▸ w)
            · rw [z, w] at e; cases e
          · by_cases z : a = D
            · exact ⟨_, by rw [z]; exact upd_same⟩
            · obtain ⟨o', e'⟩ := t.trk a o e
              exact ⟨o', un a o' z e'⟩
        · refine ⟨r7.le, r7.ls, fun j mj gj => ?_, r7.no, r7.nd, r7.dj, fun a n => ?_, r7.dn, r7.pn, fun a n => ?_, r7.wd⟩
          · obtain ⟨d', v', k1, k2, k3⟩ := r7.sl j mj gj
            exact ⟨d', v', k1, k2, RpM.mono kp kw mj d' v' _ (fun a z o e => un a o (fun w => p3.ba D List.mem_cons_self ⟨j, w ▸ z⟩) e) k3⟩
          · obtain ⟨o, e⟩ := r7.tr a n
            exact ⟨o, un a o (fun z => nD (z ▸ n)) e⟩
          · obtain ⟨o, e⟩ := r7.wt a n
            exact ⟨o, un a o (fun z => wD (z ▸ n)) e⟩
        · refine AllM.snoc (RpM.mono kp kw m y v B6 (fun a z o e => un a o (fun w => ap D List.mem_cons_self (w ▸ z)) e) hv) (p2.mono kp kw fun a z o e => un a o (fun w => ndB.1 (w ▸ z)) e)
        · rcases List.mem_cons.mp z with z | z
          · rw [z]; exact nD
          · exact (List.mem_append.mp z).elim (fun z => p3.bn a (List.mem_cons_of_mem _ z)) (b7.bn a)
        · rcases List.mem_cons.mp z with z | z
          · rw [z]; exact wD
          · exact (List.mem_append.mp z).elim (fun z => p3.bw a (List.mem_cons_of_mem _ z)) (b7.bw a)
        · rcases List.mem_cons.mp z with z | z
          · rw [z]; exact p3.ba D List.mem_cons_self
          · exact (List.mem_append.mp z).elim (fun z => p3.ba a (List.mem_cons_of_mem _ z)) (b7.ba a)
        · refine List.nodup_cons.mpr ⟨fun z => ?_, List.nodup_append.mpr ⟨ndB.2, b6.bd, fun a z a' z' e => ?_⟩⟩
          · exact (List.mem_append.mp z).elim ndB.1 (ap D List.mem_cons_self)
          · exact ap a (List.mem_cons_of_mem _ z) (e ▸ z')
        · rcases List.mem_cons.mp z with z | z
          · rw [z]; exact hO D List.mem_cons_self
          · rcases List.mem_append.mp z with z | z
            · exact hO a (List.mem_cons_of_mem _ z)
            · rcases fr6 a z with z | z
              · exact s2.own a z
              · exact .inr (s2.none_of z)
    · have hd : ds.drop i = [] := List.drop_eq_nil_of_le (by omega)
      rw [hd] at hr
      unfold lcN at hr
      cases hr
      refine .inl ⟨wk.stop i H' N2 (by omega) hS2, ?_⟩
      have ee' : e2 = env2 := ee
      have ez' : zs = dacc := by rw [ez]; simp
      subst ee' ez'
      refine q (.ref D) H' N2 A2 (D :: Bs) ⟨s2.keep, s2.trk, s2.own, hO, s2.up, s2.fz⟩ (sg r2 (wipe_length _ _).symm fun i n => (L2.wipe_out n).symm) ?_ hB
      unfold RpM
      exact ⟨D, acc, zs, Bs, rfl, rfl, hacc, rfl, hall⟩
  · cases ef
theorem e_lc {elt tg iter : Expr} {ifs : List Expr} {scope : Scope} {own : List (Str × Nat)} {fi : En → Option (List D × En)} {gt : En → D → Option En} {ft : En → Option (Bool × En)} {fe : En → Option (D × En)}
    (hc : X.calm = true) (hN : X.N.Nodup) (hi : PI X tg iter (tI X.K W P G G1 fi)) (ok : BlkOk X.N X.env.scope scope own)
    (hg : ∀ (s : Shared) (H : Hp) (C : Addr) (cl : List (Str × Addr)) (fp : List Addr), PG (X.blk s H scope (compEnvC scope cl C X.env) fp) tg (tGr X.K W P (own.map (·.2)) (wpG (own.map (·.2)) G1) Gt gt))
    (ht : ∀ (s : Shared) (H : Hp) (C : Addr) (cl : List (Str × Addr)) (fp : List Addr), PTs (X.blk s H scope (compEnvC scope cl C X.env) fp) ifs (tB X.K W P Gt Gu ft))
    (he : ∀ (s : Shared) (H : Hp) (C : Addr) (cl : List (Str × Addr)) (fp : List Addr), PE (X.blk s H scope (compEnvC scope cl C X.env) fp) elt (tE X.K W P Gu Ge m fe))
    (h1 : wpG (own.map (·.2)) Gu = wpG (own.map (·.2)) G1) (h2 : wpG (own.map (·.2)) Ge = wpG (own.map (·.2)) G1) (hpn : ∀ i ∈ own.map (·.2), P i = none) (hs : ∀ x, foldedSetIterable iter X.env x = pure x := by intro _; rfl) (hG : wpG (own.map (·.2)) G1 = G2 := by rfl) :
    PE X (.ListComp elt [⟨tg, iter, ifs, 0⟩] scope pos) (tE X.K W P G G2 (.ow m) (fLc fi gt (own.map (·.2)) ft fe)) :=
  hG ▸ pe_weak (pe_lc hc hN hi ok hg ht he hs) fun σ H Q h => tLc_of h1 h2 hpn h
end
end T3
end
set_option Elab.async false
set_option linter.all false
set_option maxRecDepth 100000
set_option maxHeartbeats 1000000
noncomputable section
namespace T3
open PySem PySem.Spec PyProof.Rows L2

/-! ### a def's promise by its body -/
def noP : Pin := fun _ => none
def pinP (j : Nat) (u : V) : Pin := fun i => if i = j then some (u, none) else none
def isSh : Md → Bool
  | .sh => true
  | _ => false
/-- what a def gives back -/
def semQ (mr : Md) (n : Nat) (g : En → Option Fl) (ds : List D) : Option D := match g (ds ++ List.replicate n .none) with
  | some (.rt d _) => some d
  | some (.nx _) => if isSh mr = true then some .none else none
  | _ => none
def semI (mr : Md) (n j : Nat) (g : En → Option Fl) (ds : List D) : Option (D × D) := match g (ds ++ List.replicate n .none) with
  | some (.rt d e) => (e[j]?).bind fun x => some (d, x)
  | some (.nx e) => if isSh mr = true then (e[j]?).bind fun x => some (.none, x) else none
  | _ => none
section
variable {Pg : Program} {w : World} {K : Frg} {mg : Str → Option Value} {base : Heap}
theorem ER.start {W : Addr → Prop} {P : Pin} {H : Hp} {N : Addr → Prop} {Gp : Gm} {ds : List D} {vs : List V} {A : Ow} {n : Nat} (r : ER K W P0 H N Gp ds (vs.map some) A) (hp : ∀ i v od, P i = some (v, od) → vs[i]? = some v ∧ od = none) :
    ER K W P H N (Gp ++ List.replicate n none) (ds ++ List.replicate n .none) (vs.map some ++ List.replicate n none) A := by
  have lv : vs.length = Gp.length := by have := r.ls; rw [List.length_map] at this; exact this
  have gat : ∀ (i : Nat) (m : Md), (Gp ++ List.replicate n none)[i]? = some (some m) → Gp[i]? = some (some m) := fun i m e => by
    rw [List.getElem?_append] at e
    split at e
    · exact e
    · rw [List.getElem?_replicate] at e
      split at e <;> cases e
  refine ⟨by simp [r.le], by simp [lv], fun i m e => ?_, fun i e => r.no i fun m q => e m ?_, r.nd, r.dj, r.tr, r.dn, fun i v od q => ?_, r.wt, r.wd⟩
  · have e := gat i m e
    have hi : i < Gp.length := (List.getElem?_eq_some_iff.mp e).1
    obtain ⟨d, v, h1, h2, h3⟩ := r.sl i m e
    exact ⟨d, v, by rw [List.getElem?_append_left (by rw [r.le]; exact hi)]; exact h1, by rw [List.getElem?_append_left (by rw [List.length_map, lv]; exact hi)]; exact h2, h3⟩
  · have hi : i < Gp.length := (List.getElem?_eq_some_iff.mp q).1
    rw [List.getElem?_append_left hi]
    exact q
  · obtain ⟨h1, h2⟩ := hp i v od q
    refine ⟨?_, fun d e => by rw [h2] at e; cases e⟩
    have hi : i < vs.length := (List.getElem?_eq_some_iff.mp h1).1
    rw [List.getElem?_append_left (by rw [List.length_map]; exact hi), List.getElem?_map, h1]
    rfl
theorem start_eq {N : List Str} {vs : List V} : start N vs = vs.map some ++ List.replicate (N.length - vs.length) none := rfl
/-- the context of a def's body -/
abbrev cx (Pg : Program) (w : World) (K : Frg) (mg : Str → Option Value) (base : Heap) (N : List Str) (qual : Str) (st : Stmt) (f : Addr) (cdv : Value) (A : Around) (outer : List Env) (s : Shared) (H : Hp) (E : XK) : Cx :=
  (cxOf CX0 Pg w K mg base N qual (defScope st) f cdv A outer s H E).nox
theorem fn_q {x qual : Str} {st : Stmt} {f : Addr} {fd : FuncData} {N ps : List Str} {k n : Nat} {Gp G' Gb : Gm} {mr : Md} {g : En → Option Fl} (F : Fun K x qual st f fd) (S : FnScope N ps (defScope st)) (hG : Gp.length = ps.length) (hn : N.length = ps.length + n)
    (hb : ∀ (cdv : Value) (A : Around) (outer : List Env) (s : Shared) (H : Hp) (E : XK) (W : Addr → Prop), Room k (cx Pg w K mg base N qual st f cdv A outer s H E).A → (cx Pg w K mg base N qual st f cdv A outer s H E).A.guards = some [] →
      PSs (cx Pg w K mg base N qual st f cdv A outer s H E) (defBody st) (tS ⟨K, W, noP, List.replicate N.length none, mr⟩ (Gp ++ List.replicate n none) G' Gb g)) :
    FnG Pg w K mg base CX0 (k + 1) f fd ps (spQ K Gp mr (semQ mr n g)) := by
  refine fng_of F S (fun vs H Q E h => by rw [h.1, hG]) fun cdv A outer s H vs Q E hr hgd hsp => ?_
  obtain ⟨hl, W, Nf, ds, d, r, ef, q⟩ := hsp
  refine ⟨_, PSs.nox (hb cdv A outer s H E W hr hgd), ?_⟩
  have r0 := r.start (P := noP) (n := n) fun i v od e => by cases e
  have en : N.length - vs.length = n := by rw [hl, hG, hn]; omega
  unfold semQ at ef
  split at ef
  · rename_i d' env' eg
    cases ef
    refine ⟨_, Nf, fun _ => [], _, by rw [start_eq, en]; exact r0, eg, fun v σ' H' N' A' B s' r' hv bv => q v H' N' B ⟨fun a o e => s'.keep a o e fun ⟨_, z⟩ => (nomatch z), s'.up, fun a z => ?_, fun a z => ?_, bv.bn, bv.bd⟩ hv⟩
    · rcases s'.fz a z with z' | ⟨_, z'⟩ | z' | z'
      · exact .inl z'
      · cases z'
      · exact .inr (.inl ⟨z', r'.tr a z⟩)
      · exact .inr (.inr z')
    · rcases s'.bf a z with ⟨_, z⟩ | z
      · cases z
      · exact z
  · rename_i env' eg
    split at ef
    · rename_i hm
      cases ef
      cases mr <;> cases hm
      refine ⟨_, Nf, fun _ => [], _, by rw [start_eq, en]; exact r0, eg, fun σ' H' N' A' s' r' => q .non H' N' [] ⟨fun a o e => s'.keep a o e fun ⟨_, z⟩ => (nomatch z), s'.up, fun a z => ?_, fun _ z => (nomatch z), fun _ z => (nomatch z), List.nodup_nil⟩ (RpM.sh_of rp_non)⟩
      rcases s'.fz a z with z' | ⟨_, z'⟩ | z' | z'
      · exact .inl z'
      · cases z'
      · exact .inr (.inl ⟨z', r'.tr a z⟩)
      · exact .inr (.inr z')
    · cases ef
  · cases ef
theorem fn_i {x qual : Str} {st : Stmt} {f : Addr} {fd : FuncData} {N ps : List Str} {k n j : Nat} {Gp G' Gb : Gm} {m mr : Md} {g : En → Option Fl} (F : Fun K x qual st f fd) (S : FnScope N ps (defScope st)) (hG : Gp.length = ps.length) (hn : N.length = ps.length + n) (hj : Gp[j]? = some (some m))
    (hend : okRt ((List.replicate N.length none).set j (some m)) G' = true ∨ isSh mr = false)
    (hb : ∀ (cdv : Value) (A : Around) (outer : List Env) (s : Shared) (H : Hp) (E : XK) (W : Addr → Prop) (u : V), Room k (cx Pg w K mg base N qual st f cdv A outer s H E).A → (cx Pg w K mg base N qual st f cdv A outer s H E).A.guards = some [] →
      PSs (cx Pg w K mg base N qual st f cdv A outer s H E) (defBody st) (tS ⟨K, W, pinP j u, (List.replicate N.length none).set j (some m), mr⟩ (Gp ++ List.replicate n none) G' Gb g)) :
    FnG Pg w K mg base CX0 (k + 1) f fd ps (spI K Gp j m mr (semI mr n j g)) := by
  refine fng_of F S (fun vs H Q E h => by rw [h.1, hG]) fun cdv A outer s H vs Q E hr hgd hsp => ?_
  obtain ⟨hl, W, Nf, ds, d, d', Aj, u, r, hu, ef, q⟩ := hsp
  refine ⟨_, PSs.nox (hb cdv A outer s H E W u hr hgd), ?_⟩
  have r0 := r.start (P := pinP j u) (n := n) fun i v od e => by
    unfold pinP at e
    split at e
    · rename_i h; cases e; rw [h]; exact ⟨hu, rfl⟩
    · cases e
  have en : N.length - vs.length = n := by rw [hl, hG, hn]; omega
  have lj : j < N.length := by
    have := (List.getElem?_eq_some_iff.mp hj).1
    omega
  have gj : ((List.replicate N.length (none : Option Md)).set j (some m))[j]? = some (some m) := List.getElem?_set_self (by rw [List.length_replicate]; exact lj)
  have fin : ∀ {v : V} {σ' : L2.St} {H' : Hp} {N' : Addr → Prop} {A' : Ow} {B : List Addr} {env' : En} {dr : D}, Stp H Nf (fun i => if i = j then Aj else []) H' N' A' B → ER K W (pinP j u) H' N' ((List.replicate N.length none).set j (some m)) env' σ' A' → RpM K H' N' W mr dr v B → Bok N' W A' B →
      env'[j]? = some d' → dr = d → Q v H' := fun {v σ' H' N' A' B env' dr} s' r' hv bv e1 e2 => by
    subst e2
    obtain ⟨d2, v2, h1, h2, h3⟩ := r'.sl j m gj
    rw [e1] at h1
    cases h1
    have h4 := (r'.pn j u none (by unfold pinP; rw [if_pos rfl])).1
    rw [h2] at h4
    cases h4
    have hA : ∀ i, i ≠ j → A' i = [] := fun i n => r'.no i fun m' e => by
      rw [List.getElem?_set_ne (Ne.symm n), List.getElem?_replicate] at e
      split at e <;> cases e
    have hO : ∀ a, O (fun i => if i = j then A' j else []) a → O A' a := fun a ⟨i, z⟩ => by
      have z : a ∈ (if i = j then A' j else []) := z
      split at z
      · exact ⟨j, z⟩
      · cases z
    exact q v H' N' (A' j) B ⟨s'.keep, s'.trk, fun a z => s'.own a (hO a z), s'.bf, s'.up, s'.fz⟩ h3 ⟨fun a z => r'.dn j a z, fun a z => r'.wd j a z, fun a z ⟨_, w⟩ => (nomatch w), r'.nd j⟩ r'.tr hv ⟨bv.bn, bv.bw, fun a z w => bv.ba a z (hO a w), bv.bd⟩
  unfold semI at ef
  split at ef
  · rename_i d2 env' eg
    obtain ⟨x, ex, ef⟩ := opt_bind ef
    cases ef
    exact ⟨_, Nf, _, _, by rw [start_eq, en]; exact r0, eg, fun v σ' H' N' A' B s' r' hv bv => fin s' r' hv bv ex rfl⟩
  · rename_i env' eg
    split at ef
    · rename_i hm
      obtain ⟨x, ex, ef⟩ := opt_bind ef
      cases ef
      have hend2 : okRt ((List.replicate N.length none).set j (some m)) G' = true := hend.resolve_right (by rw [hm]; decide)
      cases mr <;> cases hm
      refine ⟨_, Nf, _, _, by rw [start_eq, en]; exact r0, eg, fun σ' H' N' A' s' r' => ?_⟩
      refine fin (B := []) ⟨s'.keep, s'.trk, fun a ⟨i, z⟩ => s'.own a ⟨i, ?_⟩, fun _ z => (nomatch z), s'.up, s'.fz⟩ (r'.cut hend2) (RpM.sh_of rp_non) Bok.nil ex rfl
      dsimp only at z
      split at z
      · exact z
      · cases z
    · cases ef
  · cases ef
end
end T3
end
set_option Elab.async false
set_option linter.all false
set_option maxRecDepth 100000
set_option maxHeartbeats 1000000
noncomputable section
namespace T3
open PySem PySem.Spec PyProof.Rows L2
/-! ### operators -/
section
variable {K : Frg} {H : Hp} {N : Addr → Prop}
theorem rp_int_v {i : Int} {v : V} (h : Rp K H N (.int i) v) : v = .int i := by unfold Rp at h; exact h
theorem rp_str_v {i : Str} {v : V} (h : Rp K H N (.str i) v) : v = .str i := by unfold Rp at h; exact h
theorem rp_bl_v {i : Bool} {v : V} (h : Rp K H N (.bool i) v) : v = .bl i := by unfold Rp at h; exact h
theorem rp_non_v {v : V} (h : Rp K H N .none v) : v = .non := by unfold Rp at h; exact h
mutual
theorem Rp.dp : ∀ (d : D) (v : V), d.canLay0 = true → Rp K H N d v → Dp K H v d
  | .none, v, _, h => by rw [rp_non_v h]; exact .non
  | .bool b, v, _, h => by rw [rp_bl_v h]; exact .bl b
  | .int i, v, _, h => by rw [rp_int_v h]; exact .int i
  | .str x, v, _, h => by rw [rp_str_v h]; exact .str x
  | .list ds, v, c, h => by
    obtain ⟨a, xs, e, q, r⟩ := h.sql
    rw [e]
    exact .lst q (RpL.dp ds xs (by simpa only [PyData.canLay0] using c) r)
  | .tuple ds, v, c, h => by
    obtain ⟨a, xs, e, q, r⟩ := h.sqt
    rw [e]
    exact .tup q (RpL.dp ds xs (by simpa only [PyData.canLay0] using c) r)
  | .dict _, v, c, h => by simp only [PyData.canLay0] at c; cases c
theorem RpL.dp : ∀ (ds : List D) (xs : List V), PyData.canLayAll0 ds = true → RpL K H N ds xs → DpAll K H xs ds
  | [], xs, _, h => by unfold RpL at h; rw [h]; exact .nil
  | d :: ds, xs, c, h => by
    unfold RpL at h
    obtain ⟨x, r, rfl, h1, h2⟩ := h
    simp only [PyData.canLayAll0] at c
    have c := (Bool.and_eq_true _ _).mp c
    exact .cons (Rp.dp d x c.1 h1) (RpL.dp ds r c.2 h2)
end
end
abbrev shp (d : D) : Bool := SeqAt.shaped d
theorem shp_lay {d : D} (h : shp d = true) : d.canLay0 = true := SeqAt.canLay_of_shaped h

def gAdd : D → D → Option D
  | .int i, .int j => some (.int (i + j))
  | .str x, .str y => @ite (Option _) (x.length + y.length ≤ sizeLine) (Classical.propDecidable _) (some (.str (x ++ y))) none
  | _, _ => none
def gSub : D → D → Option D
  | .int i, .int j => some (.int (i - j))
  | _, _ => none
def gMul : D → D → Option D
  | .int i, .int j => @ite (Option _) ((i.natAbs < 2 ^ 64 ∨ j.natAbs < 2 ^ 64) ∨ i.natAbs.log2 + j.natAbs.log2 < 1000000) (Classical.propDecidable _) (some (.int (i * j))) none
  | _, _ => none
def gFdiv : D → D → Option D
  | .int i, .int j => @ite (Option _) (j ≠ 0 ∧ j.natAbs.log2 < 9000) (Classical.propDecidable _) (some (.int (i.fdiv j))) none
  | _, _ => none
def gMod : D → D → Option D
  | .int i, .int j => @ite (Option _) (j ≠ 0) (Classical.propDecidable _) (some (.int (i.fmod j))) none
  | _, _ => none
def gPow : D → D → Option D
  | .int i, .int j => @ite (Option _) (0 ≤ j ∧ (i.natAbs.log2 + 1) * j.toNat ≤ 2 ^ 27) (Classical.propDecidable _) (some (.int (i ^ j.toNat))) none
  | _, _ => none
def gBand : D → D → Option D
  | .int i, .int j => some (.int (Builtin.bitAnd i j))
  | _, _ => none
def gBor : D → D → Option D
  | .int i, .int j => some (.int (Builtin.bitOr i j))
  | _, _ => none
def gBxor : D → D → Option D
  | .int i, .int j => some (.int (Builtin.bitXor i j))
  | _, _ => none
def gShl : D → D → Option D
  | .int i, .int j => @ite (Option _) (0 ≤ j ∧ j ≤ 1000000 ∧ i.natAbs < 2 ^ 64) (Classical.propDecidable _) (some (.int (i * 2 ^ j.toNat))) none
  | _, _ => none
def gShr : D → D → Option D
  | .int i, .int j => @ite (Option _) (0 ≤ j) (Classical.propDecidable _) (some (.int (i / 2 ^ j.toNat))) none
  | _, _ => none
def gCmp (p : Int → Int → Bool) : D → D → Option D
  | .int i, .int j => some (.bool (p i j))
  | _, _ => none
abbrev gLt : D → D → Option D := gCmp fun i j => decide (i < j)
abbrev gLe : D → D → Option D := gCmp fun i j => decide (i ≤ j)
abbrev gGt : D → D → Option D := gCmp fun i j => decide (j < i)
abbrev gGe : D → D → Option D := gCmp fun i j => decide (j ≤ i)
def gEq : D → D → Option D := fun a b => @ite (Option _) (shp a = true ∧ shp b = true) (Classical.propDecidable _) (some (.bool (PyData.eqv a b))) none
def gNe : D → D → Option D := fun a b => @ite (Option _) (shp a = true ∧ shp b = true) (Classical.propDecidable _) (some (.bool (!PyData.eqv a b))) none
def isNon : D → Bool
  | .none => true
  | _ => false
def gIsN : D → D → Option D
  | a, .none => some (.bool (isNon a))
  | _, _ => none
def gNotN : D → D → Option D
  | a, .none => some (.bool (!isNon a))
  | _, _ => none
def gIsB : D → D → Option D
  | .bool a, .bool b => some (.bool (decide (a = b)))
  | _, _ => none
def gNotB : D → D → Option D
  | .bool a, .bool b => some (.bool (!decide (a = b)))
  | _, _ => none
/-- in: lists of any data; dicts with flat keys; one sign in a text -/
def gInL (neg : Bool) : D → D → Option D
  | d, .list ds => @ite (Option _) (shp d = true ∧ shp (.list ds) = true) (Classical.propDecidable _) (some (.bool (neg ^^ (ds.any fun z => PyData.eqv z d)))) none
  | _, _ => none
section
variable {K : Frg} {X : Cx}
theorem fl_add : Flat2 K (fun x y H Q => rI0 (fun i j => .int (i + j)) x y H Q ∨ ∃ i j, x = .str i ∧ y = .str j ∧ i.length + j.length ≤ sizeLine ∧ Q (.str (i ++ j)) H) gAdd := by
  intro x y dx dy d H Q hx hy hg hq
  unfold gAdd at hg
  split at hg
  · cases hg
    exact .inl ⟨_, _, rp_int_v hx, rp_int_v hy, hq _ rfl⟩
  · split at hg
    · cases hg
      exact .inr ⟨_, _, rp_str_v hx, rp_str_v hy, by assumption, hq _ rfl⟩
    · cases hg
  · cases hg
theorem op_addA : OpR X (binaryOp .Add) (fun x y H Q => rI0 (fun i j => .int (i + j)) x y H Q ∨ ∃ i j, x = .str i ∧ y = .str j ∧ i.length + j.length ≤ sizeLine ∧ Q (.str (i ++ j)) H) := op_add.or op_add_str
theorem fl_sub : Flat2 K (rI0 fun i j => .int (i - j)) gSub := by
  intro x y dx dy d H Q hx hy hg hq
  unfold gSub at hg
  split at hg
  · cases hg
    exact ⟨_, _, rp_int_v hx, rp_int_v hy, hq _ rfl⟩
  · cases hg
def CMulA (i j : Int) : Prop := (i.natAbs < 2 ^ 64 ∨ j.natAbs < 2 ^ 64) ∨ i.natAbs.log2 + j.natAbs.log2 < 1000000
theorem op_mulA : OpR X (binaryOp .Mult) (rI CMulA fun i j => .int (i * j)) := by
  intro pins s σ H x y v u Q I rx ry h
  obtain ⟨i, j, rfl, rfl, hc, q⟩ := h
  rcases hc with hc | hc
  · exact op_mul pins s σ H _ _ v u Q I rx ry ⟨i, j, rfl, rfl, by unfold CMul; omega, q⟩
  · exact op_mulW pins s σ H _ _ v u Q I rx ry ⟨i, j, rfl, rfl, hc, q⟩
theorem fl_mul : Flat2 K (rI CMulA fun i j => .int (i * j)) gMul := by
  intro x y dx dy d H Q hx hy hg hq
  unfold gMul at hg
  split at hg
  · split at hg
    · cases hg
      exact ⟨_, _, rp_int_v hx, rp_int_v hy, by assumption, hq _ rfl⟩
    · cases hg
  · cases hg
def CDivA (_ j : Int) : Prop := j ≠ 0 ∧ j.natAbs.log2 < 9000
theorem op_fdivA : OpR X (binaryOp .FloorDiv) (rI CDivA fun i j => .int (i.fdiv j)) := opI fun _ _ _ _ _ _ _ hc q => PyProof.Rows.floordiv_int hc.1 q (.inl (PyProof.noPylong_of_log2 hc.2))
theorem fl_fdiv : Flat2 K (rI CDivA fun i j => .int (i.fdiv j)) gFdiv := by
  intro x y dx dy d H Q hx hy hg hq
  unfold gFdiv at hg
  split at hg
  · split at hg
    · cases hg
      exact ⟨_, _, rp_int_v hx, rp_int_v hy, by assumption, hq _ rfl⟩
    · cases hg
  · cases hg
theorem fl_mod : Flat2 K (rI (fun _ j => j ≠ 0) fun i j => .int (i.fmod j)) gMod := by
  intro x y dx dy d H Q hx hy hg hq
  unfold gMod at hg
  split at hg
  · split at hg
    · cases hg
      exact ⟨_, _, rp_int_v hx, rp_int_v hy, by assumption, hq _ rfl⟩
    · cases hg
  · cases hg
def CPowW (i j : Int) : Prop := 0 ≤ j ∧ (i.natAbs.log2 + 1) * j.toNat ≤ 2 ^ 27
theorem op_powW : OpR X (binaryOp .Pow) (rI CPowW fun i j => .int (i ^ j.toNat)) := opI fun i j _ _ _ _ _ hc q => by
  refine PyProof.Rows.pow_int hc.1 ?_ q
  have h1 : Builtin.Int.intBits i ≤ i.natAbs.log2 + 1 := by
    unfold Builtin.Int.intBits
    split <;> omega
  have h2 : ((Builtin.Int.intBits i * j.toNat : Nat) : Int) ≤ 2 ^ 27 := by
    have := Nat.le_trans (Nat.mul_le_mul_right j.toNat h1) hc.2
    omega
  have h3 : (j.toNat : Int) = j := Int.toNat_of_nonneg hc.1
  rw [Int.natCast_mul, h3] at h2
  exact h2
theorem fl_pow : Flat2 K (rI CPowW fun i j => .int (i ^ j.toNat)) gPow := by
  intro x y dx dy d H Q hx hy hg hq
  unfold gPow at hg
  split at hg
  · split at hg
    · cases hg
      exact ⟨_, _, rp_int_v hx, rp_int_v hy, by assumption, hq _ rfl⟩
    · cases hg
  · cases hg
theorem fl_band : Flat2 K (rI0 fun i j => .int (Builtin.bitAnd i j)) gBand := by
  intro x y dx dy d H Q hx hy hg hq
  unfold gBand at hg
  split at hg
  · cases hg
    exact ⟨_, _, rp_int_v hx, rp_int_v hy, hq _ rfl⟩
  · cases hg
theorem fl_bor : Flat2 K (rI0 fun i j => .int (Builtin.bitOr i j)) gBor := by
  intro x y dx dy d H Q hx hy hg hq
  unfold gBor at hg
  split at hg
  · cases hg
    exact ⟨_, _, rp_int_v hx, rp_int_v hy, hq _ rfl⟩
  · cases hg
theorem fl_bxor : Flat2 K (rI0 fun i j => .int (Builtin.bitXor i j)) gBxor := by
  intro x y dx dy d H Q hx hy hg hq
  unfold gBxor at hg
  split at hg
  · cases hg
    exact ⟨_, _, rp_int_v hx, rp_int_v hy, hq _ rfl⟩
  · cases hg
theorem fl_shl : Flat2 K (rI CPow fun i j => .int (i * 2 ^ j.toNat)) gShl := by
  intro x y dx dy d H Q hx hy hg hq
  unfold gShl at hg
  split at hg
  · split at hg
    · cases hg
      exact ⟨_, _, rp_int_v hx, rp_int_v hy, by assumption, hq _ rfl⟩
    · cases hg
  · cases hg
theorem fl_shr : Flat2 K (rI (fun _ j => 0 ≤ j) fun i j => .int (i / 2 ^ j.toNat)) gShr := by
  intro x y dx dy d H Q hx hy hg hq
  unfold gShr at hg
  split at hg
  · split at hg
    · cases hg
      exact ⟨_, _, rp_int_v hx, rp_int_v hy, by assumption, hq _ rfl⟩
    · cases hg
  · cases hg
theorem fl_cmp {p : Int → Int → Bool} : Flat2 K (rI0 fun i j => .bl (p i j)) (gCmp p) := by
  intro x y dx dy d H Q hx hy hg hq
  unfold gCmp at hg
  split at hg
  · cases hg
    exact ⟨_, _, rp_int_v hx, rp_int_v hy, hq _ rfl⟩
  · cases hg
theorem fl_eq : Flat2 K (rEqD K) gEq := by
  intro x y dx dy d H Q hx hy hg hq
  unfold gEq at hg
  split at hg
  · rename_i h
    cases hg
    exact ⟨dx, dy, Rp.dp dx x (shp_lay h.1) hx, Rp.dp dy y (shp_lay h.2) hy, h.1, h.2, hq _ rfl⟩
  · cases hg
theorem fl_ne : Flat2 K (rNeD K) gNe := by
  intro x y dx dy d H Q hx hy hg hq
  unfold gNe at hg
  split at hg
  · rename_i h
    cases hg
    exact ⟨dx, dy, Rp.dp dx x (shp_lay h.1) hx, Rp.dp dy y (shp_lay h.2) hy, h.1, h.2, hq _ rfl⟩
  · cases hg
theorem isNon_v {H : Hp} {N : Addr → Prop} : ∀ {d : D} {v : V}, Rp K H N d v → decide (v = .non) = isNon d
  | .none, v, h => by rw [rp_non_v h]; rfl
  | .bool _, v, h => by rw [rp_bl_v h]; rfl
  | .int _, v, h => by rw [rp_int_v h]; rfl
  | .str _, v, h => by rw [rp_str_v h]; rfl
  | .list _, v, h => by obtain ⟨a, xs, e, _⟩ := h.sql; rw [e]; rfl
  | .tuple _, v, h => by obtain ⟨a, xs, e, _⟩ := h.sqt; rw [e]; rfl
  | .dict _, v, h => by unfold Rp at h; obtain ⟨a, e, _⟩ := h; rw [e]; rfl
theorem fl_isN : Flat2 K (fun x y H Q => y = .non ∧ Q (.bl (decide (x = .non))) H) gIsN := by
  intro x y dx dy d H Q hx hy hg hq
  unfold gIsN at hg
  split at hg
  · cases hg
    exact ⟨rp_non_v hy, by rw [isNon_v hx]; exact hq _ rfl⟩
  · cases hg
theorem fl_notN : Flat2 K (fun x y H Q => y = .non ∧ Q (.bl (!decide (x = .non))) H) gNotN := by
  intro x y dx dy d H Q hx hy hg hq
  unfold gNotN at hg
  split at hg
  · cases hg
    exact ⟨rp_non_v hy, by rw [isNon_v hx]; exact hq _ rfl⟩
  · cases hg
theorem fl_isB : Flat2 K rIsB gIsB := by
  intro x y dx dy d H Q hx hy hg hq
  unfold gIsB at hg
  split at hg
  · cases hg
    exact ⟨_, _, rp_bl_v hx, rp_bl_v hy, hq _ rfl⟩
  · cases hg
theorem fl_notB : Flat2 K rNotB gNotB := by
  intro x y dx dy d H Q hx hy hg hq
  unfold gNotB at hg
  split at hg
  · cases hg
    exact ⟨_, _, rp_bl_v hx, rp_bl_v hy, hq _ rfl⟩
  · cases hg
theorem fl_inL : Flat2 K (rInD K) (gInL false) := by
  intro x y dx dy d H Q hx hy hg hq
  unfold gInL at hg
  split at hg
  · split at hg
    · rename_i h
      cases hg
      refine ⟨_, _, Rp.dp _ x (shp_lay h.1) hx, Rp.dp _ y (shp_lay h.2) hy, h.1, h.2, ?_⟩
      rw [Bool.false_xor] at hq
      exact hq _ rfl
    · cases hg
  · cases hg
theorem fl_notInL : Flat2 K (rNotInD K) (gInL true) := by
  intro x y dx dy d H Q hx hy hg hq
  unfold gInL at hg
  split at hg
  · split at hg
    · rename_i h
      cases hg
      refine ⟨_, _, Rp.dp _ x (shp_lay h.1) hx, Rp.dp _ y (shp_lay h.2) hy, h.1, h.2, ?_⟩
      rw [Bool.true_xor] at hq
      exact hq _ rfl
    · cases hg
  · cases hg
def gNeg : D → Option D
  | .int i => some (.int (-i))
  | _ => none
def gInv : D → Option D
  | .int i => some (.int (Builtin.bitNot i))
  | _ => none
theorem fl_neg : Flat1 K (rU fun i => .int (-i)) gNeg := by
  intro x dx d H Q hx hg hq
  unfold gNeg at hg
  split at hg
  · cases hg
    exact ⟨_, rp_int_v hx, hq _ rfl⟩
  · cases hg
theorem fl_inv : Flat1 K (rU fun i => .int (Builtin.bitNot i)) gInv := by
  intro x dx d H Q hx hg hq
  unfold gInv at hg
  split at hg
  · cases hg
    exact ⟨_, rp_int_v hx, hq _ rfl⟩
  · cases hg
end

/-! ### chains a < b < c -/
section
variable {X : Cx} {a b c : Expr} {K : Frg} {W : Addr → Prop} {P : Pin} {G : Gm} {pos : Pos}
def f3 (g g' : D → D → Option D) (fa fb fc : En → Option D) : En → Option D := fun e => (fa e).bind fun x => (fb e).bind fun y => (g x y).bind fun z => match z with
  | .bool true => (fc e).bind fun w => g' y w
  | .bool false => some (.bool false)
  | _ => none
theorem tK_chain {r r' : R2} {g g' : D → D → Option D} {fa fb fc : En → Option D} (hg : Flat2 K r g) (hg' : Flat2 K r' g') {σ : L2.St} {H : Hp} {Q : VK} (h : tQ K W P G .sh (f3 g g' fa fb fc) σ H Q) :
    tChain r r' (tK K W P G fa) (tK K W P G fb) (tK K W P G fc) σ H Q := by
  obtain ⟨env, N, A, d, er, ef, q⟩ := h
  obtain ⟨dx, ea, ef⟩ := opt_bind ef
  obtain ⟨dy, eb, ef⟩ := opt_bind ef
  obtain ⟨dz, eg, ef⟩ := opt_bind ef
  refine ⟨env, N, A, dx, er, ea, fun x H1 N1 e1 h1 => ⟨env, N1, A, dy, er.ext e1, eb, fun y H2 N2 e2 h2 => ?_⟩⟩
  cases dz with
  | bool k =>
    refine hg x y dx dy _ H2 _ (ext_tr e2 h1) h2 eg fun v hv => ⟨k, by cases hv; rfl, ?_⟩
    cases k with
    | true =>
      obtain ⟨dw, ec, ef⟩ := opt_bind ef
      show (if true = true then _ else _)
      rw [if_pos rfl]
      exact ⟨env, N2, A, dw, er.ext (e1.trans e2), ec, fun w H3 N3 e3 h3 => hg' y w dy dw d H3 Q (ext_tr e3 h2) h3 ef fun v hv => q v H3 N3 [] ((e1.trans e2).trans e3) (RpM.sh_of (flt_rp hv))⟩
    | false =>
      cases ef
      show (if false = true then _ else _)
      rw [if_neg Bool.false_ne_true]
      exact q _ H2 N2 [] (e1.trans e2) (RpM.sh_of rp_bl)
  | _ => cases ef
theorem q_chain {op op' : CmpOp} {r r' : R2} {g g' : D → D → Option D} {fa fb fc : En → Option D} (ho : OpR X (compareOp op) r) (ho' : OpR X (compareOp op') r') (hg : Flat2 K r g) (hg' : Flat2 K r' g') (ha : PE X a (tK K W P G fa)) (hb : PE X b (tK K W P G fb)) (hc : PE X c (tK K W P G fc)) (hm : lastMarks [op, op'] [b, c] = false := by with_unfolding_all rfl) :
    PE X (.Compare a [op, op'] [b, c] pos) (tQ K W P G .sh (f3 g g' fa fb fc)) := pe_weak (pe_chain ho ho' ha hb hc hm) fun σ H Q h => tK_chain hg hg' h
end
end T3
end
set_option Elab.async false
set_option linter.all false
set_option maxRecDepth 100000
set_option maxHeartbeats 1000000
noncomputable section
namespace T3
open PySem PySem.Spec PyProof.Rows L2
section
variable {X : Cx} {e a b : Expr} {es : List Expr} {K : Frg} {W : Addr → Prop} {P : Pin} {G G' G1 G2 : Gm} {m : Md} {ks : List Ak} {pos p : Pos} {x : Str}

/-! ### built-ins with a flat answer -/
def FlatC (K : Frg) (r : List V → Hp → VK → Prop) (g : List D → Option D) : Prop := ∀ xs ds d H Q, RpL K H Tr ds xs → g ds = some d → (∀ v, flt d = some v → Q v H) → r xs H Q
theorem ArgOk.tr {H : Hp} {N : Addr → Prop} {A : Ow} {env : En} {σ : L2.St} : ∀ {ks : List Ak} {ds : List D} {xs : List V}, ArgOk K W H N A env σ ks ds xs → RpL K H Tr ds xs
  | [], ds, xs, h => by obtain ⟨rfl, rfl⟩ := h; exact RpL.nil
  | k :: ks, ds, xs, h => by
    obtain ⟨d, dr, x, xr, rfl, rfl, h1, h2⟩ := h
    refine RpL.cons ?_ (ArgOk.tr h2)
    cases k with
    | vl => exact Rp.tr h1
    | lk => exact Rp.tr h1
    | sl i => exact Rp.tr h1.2.2
theorem tE_flatC {r : List V → Hp → VK → Prop} {g : List D → Option D} {fs : En → Option (List D × En)} {σ : L2.St} {H : Hp} {Q : VK} (hg : FlatC K r g) (h : tE K W P G G2 .sh (fCl g fs) σ H Q) : tCB r (tAr K W P G G2 ks fs) σ H Q := by
  obtain ⟨env, N, A, d, env', er, ef, q⟩ := h
  obtain ⟨⟨ds, e1⟩, ea, ef⟩ := opt_bind ef
  obtain ⟨d2, eg, ef⟩ := opt_bind ef
  cases ef
  exact ⟨env, N, A, ds, e1, er, ea, fun xs H1 N1 A1 s1 r1 h1 => hg xs ds d H1 Q h1.tr eg fun v hv => q v H1 N1 A1 [] s1 r1 (RpM.sh_of (flt_rp hv)) Bok.nil⟩
theorem e_callB {id : String} {r : List V → Hp → VK → Prop} {g : List D → Option D} {fs : En → Option (List D × En)} (hc : CallR X (.builtin id) r) (hfl : FlatC X.K r g) (hg : Gl X x) (hm : X.mg x = none) (hv : bootBuiltins x = some (.builtin id)) (ha : PA X (e :: es) (tAr X.K W P G G2 ks fs))
    (hn : x ≠ "__name__" := by decide) (hdb : (x == ("__debug__" : Str)) = false := by decide) (he : starEach (e :: es) X.env = (false, eval e X.env) :: starEach es X.env := by rfl) (hpl : (backTo pos (starEach es X.env)).any (·.1) = false := by rfl) :
    PE X (.Call (.Name x p) (e :: es) [] pos) (tE X.K W P G G2 .sh (fCl g fs)) := pe_weak (pe_callB hc hg hm hv ha hn hdb he hpl) fun σ H Q h => tE_flatC hfl h
theorem e_callT {T : String} {r : List V → Hp → VK → Prop} {g : List D → Option D} {fs : En → Option (List D × En)} (hc : CallR X (.type T) r) (hfl : FlatC X.K r g) (hg : Gl X x) (hm : X.mg x = none) (hv : bootBuiltins x = some (.type T)) (ha : PA X (e :: es) (tAr X.K W P G G2 ks fs))
    (hn : x ≠ "__name__" := by decide) (hdb : (x == ("__debug__" : Str)) = false := by decide) (he : starEach (e :: es) X.env = (false, eval e X.env) :: starEach es X.env := by rfl) (hpl : (backTo pos (starEach es X.env)).any (·.1) = false := by rfl) :
    PE X (.Call (.Name x p) (e :: es) [] pos) (tE X.K W P G G2 .sh (fCl g fs)) := pe_weak (pe_callTy hc hg hm hv ha hn hdb he hpl) fun σ H Q h => tE_flatC hfl h
theorem rpl1 {H : Hp} {N : Addr → Prop} {d : D} {xs : List V} (h : RpL K H N [d] xs) : ∃ v, xs = [v] ∧ Rp K H N d v := by
  unfold RpL at h
  obtain ⟨v, r, rfl, h1, h2⟩ := h
  unfold RpL at h2
  rw [h2]
  exact ⟨v, rfl, h1⟩
theorem rpl2 {H : Hp} {N : Addr → Prop} {d d' : D} {xs : List V} (h : RpL K H N [d, d'] xs) : ∃ v v', xs = [v, v'] ∧ Rp K H N d v ∧ Rp K H N d' v' := by
  unfold RpL at h
  obtain ⟨v, r, rfl, h1, h2⟩ := h
  obtain ⟨v', rfl, h3⟩ := rpl1 h2
  exact ⟨v, v', rfl, h1, h3⟩
theorem rpl0 {H : Hp} {N : Addr → Prop} {xs : List V} (h : RpL K H N [] xs) : xs = [] := by unfold RpL at h; exact h
/-! len -/
def gLen : List D → Option D
  | [.list ds] => some (.int ds.length)
  | [.tuple ds] => some (.int ds.length)
  | [.str z] => @ite (Option _) (z.length ≤ sizeLine) (Classical.propDecidable _) (some (.int z.length)) none
  | [.dict kvs] => some (.int kvs.length)
  | _ => none
theorem RpK.len {H : Hp} {N : Addr → Prop} : ∀ {kvs : List (D × D)} {ps : List (Key × V)}, RpK K H N kvs ps → ps.length = kvs.length
  | [], ps, h => by unfold RpK at h; rw [h]; rfl
  | (k, d) :: r, ps, h => by
    unfold RpK at h
    obtain ⟨key, x, t, rfl, _, _, h⟩ := h
    rw [List.length_cons, List.length_cons, RpK.len h]
theorem RpT.len {H : Hp} {N : Addr → Prop} : ∀ {kvs : List (D × D)} {ps : List (List Key × V)}, RpT K H N kvs ps → ps.length = kvs.length
  | [], ps, h => by unfold RpT at h; rw [h]; rfl
  | (k, d) :: r, ps, h => by
    unfold RpT at h
    obtain ⟨key, x, t, rfl, _, _, h⟩ := h
    rw [List.length_cons, List.length_cons, RpT.len h]
def rLenK : List V → Hp → VK → Prop := fun xs H Q => ∃ a kvs, xs = [V.ref a] ∧ Rd H a (.dK kvs) ∧ Q (.int kvs.length) H
theorem call_lenK : CallR X (.builtin "len") rLenK := by
  intro pins s σ H xs us Q I r h
  obtain ⟨a, kvs, rfl, ha, q⟩ := h
  obtain ⟨u, rfl, ru⟩ := vals1 r
  cases ru
  exact d_len I ha fun t s' I' => ⟨.int kvs.length, H, I', ⟨t, rfl⟩, q⟩
def rLenA (K : Frg) : List V → Hp → VK → Prop := fun xs H Q => (∃ x n, xs = [x] ∧ LenV K x H n ∧ Q (.int n) H) ∨ (rLenK xs H Q ∨ rLenT xs H Q)
theorem call_lenA : CallR X (.builtin "len") (rLenA X.K) := call_len.or (call_lenK.or call_len_dT)
theorem fl_len : FlatC K (rLenA K) gLen := by
  intro xs ds d H Q h hg hq
  unfold gLen at hg
  split at hg
  · cases hg
    obtain ⟨v, rfl, hh⟩ := rpl1 h
    clear h
    have h := hh
    obtain ⟨a, ys, rfl, q, r⟩ := h.sql
    exact .inl ⟨_, _, rfl, .inl ⟨ys, q, r.len.symm⟩, hq _ rfl⟩
  · cases hg
    obtain ⟨v, rfl, hh⟩ := rpl1 h
    clear h
    have h := hh
    obtain ⟨a, ys, rfl, q, r⟩ := h.sqt
    exact .inl ⟨_, _, rfl, .inr ⟨ys, q, r.len.symm⟩, hq _ rfl⟩
  · split at hg
    · cases hg
      obtain ⟨v, rfl, hh⟩ := rpl1 h
      clear h
      have h := hh
      rw [rp_str_v h]
      exact .inl ⟨_, _, rfl, ⟨by assumption, rfl⟩, hq _ rfl⟩
    · cases hg
  · cases hg
    obtain ⟨v, rfl, hh⟩ := rpl1 h
    clear h
    have h := hh
    unfold Rp at h
    obtain ⟨a, rfl, _, h⟩ := h
    rcases h with ⟨ps, h1, h2⟩ | ⟨ps, h1, h2⟩
    · exact .inr (.inl ⟨a, ps, rfl, h1, by rw [h2.len]; exact hq _ rfl⟩)
    · exact .inr (.inr ⟨a, ps, rfl, h1, by rw [h2.len]; exact hq _ rfl⟩)
  · cases hg
/-! numbers -/
def gAbs : List D → Option D
  | [.int i] => some (.int (if i < 0 then -i else i))
  | _ => none
theorem fl_abs : FlatC K (fun xs H Q => ∃ i, xs = [.int i] ∧ Q (.int (if i < 0 then -i else i)) H) gAbs := by
  intro xs ds d H Q h hg hq
  unfold gAbs at hg
  split at hg
  · cases hg
    obtain ⟨v, rfl, hh⟩ := rpl1 h
    clear h
    have h := hh
    rw [rp_int_v h]
    exact ⟨_, rfl, hq _ rfl⟩
  · cases hg
def gInt : List D → Option D
  | [.int i] => some (.int i)
  | [.bool b] => some (.int (if b then 1 else 0))
  | _ => none
theorem fl_int : FlatC K (fun xs H Q => (∃ i, xs = [.int i] ∧ Q (.int i) H) ∨ ∃ k, xs = [.bl k] ∧ Q (.int (if k then 1 else 0)) H) gInt := by
  intro xs ds d H Q h hg hq
  unfold gInt at hg
  split at hg
  · cases hg
    obtain ⟨v, rfl, hh⟩ := rpl1 h
    clear h
    have h := hh
    rw [rp_int_v h]
    exact .inl ⟨_, rfl, hq _ rfl⟩
  · cases hg
    obtain ⟨v, rfl, hh⟩ := rpl1 h
    clear h
    have h := hh
    rw [rp_bl_v h]
    exact .inr ⟨_, rfl, hq _ rfl⟩
  · cases hg
def gStr : List D → Option D
  | [.int i] => @ite (Option _) (i.natAbs.log2 < 1920) (Classical.propDecidable _) (some (.str (toString i))) none
  | _ => none
theorem fl_str : FlatC K (fun xs H Q => ∃ i, xs = [.int i] ∧ i.natAbs.log2 < 1920 ∧ Q (.str (toString i)) H) gStr := by
  intro xs ds d H Q h hg hq
  unfold gStr at hg
  split at hg
  · split at hg
    · cases hg
      obtain ⟨v, rfl, hh⟩ := rpl1 h
      clear h
      have h := hh
      rw [rp_int_v h]
      exact ⟨_, rfl, by assumption, hq _ rfl⟩
    · cases hg
  · cases hg
/-- a list of ints -/
def intsOf : List D → Option (List Int)
  | [] => some []
  | .int i :: r => (intsOf r).map (i :: ·)
  | _ => none
theorem intsOf_eq : ∀ {ds : List D} {ns : List Int}, intsOf ds = some ns → ds = ns.map .int
  | [], ns, h => by cases h; rfl
  | .int i :: r, ns, h => by
    unfold intsOf at h
    cases e : intsOf r with
    | none => rw [e] at h; cases h
    | some k =>
      rw [e] at h
      cases h
      rw [List.map_cons, ← intsOf_eq e]
  | .none :: _, _, h => by cases h
  | .bool _ :: _, _, h => by cases h
  | .str _ :: _, _, h => by cases h
  | .list _ :: _, _, h => by cases h
  | .tuple _ :: _, _, h => by cases h
  | .dict _ :: _, _, h => by cases h
theorem intsOf_map : ∀ ns : List Int, intsOf (ns.map .int) = some ns
  | [] => rfl
  | i :: r => by show (intsOf (r.map .int)).map (i :: ·) = _; rw [intsOf_map r]; rfl
theorem rpl_ints {H : Hp} {N : Addr → Prop} : ∀ {ns : List Int} {xs : List V}, RpL K H N (ns.map .int) xs → xs = ns.map V.int
  | [], xs, h => rpl0 h
  | i :: r, xs, h => by
    rw [List.map_cons] at h
    unfold RpL at h
    obtain ⟨x, t, rfl, h1, h2⟩ := h
    rw [rp_int_v h1, rpl_ints h2]
    rfl
theorem ints_rpl {H : Hp} {N : Addr → Prop} : ∀ (ns : List Int), RpL K H N (ns.map .int) (ns.map V.int)
  | [] => RpL.nil
  | i :: r => RpL.cons rp_int (ints_rpl r)
def gSum : List D → Option D
  | [.list ds] => (intsOf ds).map fun ns => .int ns.sum
  | _ => none
theorem fl_sum : FlatC K (rSum K) gSum := by
  intro xs ds d H Q h hg hq
  unfold gSum at hg
  split at hg
  · rename_i es
    cases e : intsOf es with
    | none => rw [e] at hg; cases hg
    | some ns =>
      rw [e] at hg
      cases hg
      rw [intsOf_eq e] at h
      obtain ⟨v, rfl, hh⟩ := rpl1 h
      clear h
      have h := hh
      obtain ⟨a, ys, rfl, q, r⟩ := h.sql
      rw [rpl_ints r] at q
      exact ⟨a, ns, rfl, q, hq _ rfl⟩
  · cases hg
/-- the greatest, the least -/
def maxL : List Int → Int
  | [] => 0
  | i :: r => r.foldl max i
def minL : List Int → Int
  | [] => 0
  | i :: r => r.foldl min i
theorem foldl_max_ge : ∀ (r : List Int) (i : Int), i ≤ r.foldl max i ∧ (∀ y ∈ r, y ≤ r.foldl max i) ∧ (r.foldl max i = i ∨ r.foldl max i ∈ r)
  | [], i => ⟨Int.le_refl _, fun _ z => (nomatch z), .inl rfl⟩
  | j :: r, i => by
    obtain ⟨h1, h2, h3⟩ := foldl_max_ge r (max i j)
    show i ≤ r.foldl max (max i j) ∧ _
    refine ⟨by omega, fun y hy => ?_, ?_⟩
    · rcases List.mem_cons.mp hy with e | hy
      · rw [e]; show j ≤ r.foldl max (max i j); omega
      · exact h2 y hy
    · show r.foldl max (max i j) = i ∨ r.foldl max (max i j) ∈ j :: r
      rcases h3 with e | e
      · rw [e]
        by_cases h : i ≤ j
        · right; rw [Int.max_eq_right h]; exact List.mem_cons_self
        · left; rw [Int.max_eq_left (by omega)]
      · right; exact List.mem_cons_of_mem _ e
theorem foldl_min_le : ∀ (r : List Int) (i : Int), r.foldl min i ≤ i ∧ (∀ y ∈ r, r.foldl min i ≤ y) ∧ (r.foldl min i = i ∨ r.foldl min i ∈ r)
  | [], i => ⟨Int.le_refl _, fun _ z => (nomatch z), .inl rfl⟩
  | j :: r, i => by
    obtain ⟨h1, h2, h3⟩ := foldl_min_le r (min i j)
    show r.foldl min (min i j) ≤ i ∧ _
    refine ⟨by omega, fun y hy => ?_, ?_⟩
    · rcases List.mem_cons.mp hy with e | hy
      · rw [e]; show r.foldl min (min i j) ≤ j; omega
      · exact h2 y hy
    · show r.foldl min (min i j) = i ∨ r.foldl min (min i j) ∈ j :: r
      rcases h3 with e | e
      · rw [e]
        by_cases h : i ≤ j
        · left; rw [Int.min_eq_left h]
        · right; rw [Int.min_eq_right (by omega)]; exact List.mem_cons_self
      · right; exact List.mem_cons_of_mem _ e
theorem maxL_spec {ns : List Int} (h : 0 < ns.length) : maxL ns ∈ ns ∧ ∀ y ∈ ns, y ≤ maxL ns := by
  cases ns with
  | nil => cases h
  | cons i r =>
    obtain ⟨h1, h2, h3⟩ := foldl_max_ge r i
    refine ⟨h3.elim (fun e => by show r.foldl max i ∈ _; rw [e]; exact List.mem_cons_self) (List.mem_cons_of_mem _), fun y hy => ?_⟩
    rcases List.mem_cons.mp hy with e | hy
    · rw [e]; exact h1
    · exact h2 y hy
theorem minL_spec {ns : List Int} (h : 0 < ns.length) : minL ns ∈ ns ∧ ∀ y ∈ ns, minL ns ≤ y := by
  cases ns with
  | nil => cases h
  | cons i r =>
    obtain ⟨h1, h2, h3⟩ := foldl_min_le r i
    refine ⟨h3.elim (fun e => by show r.foldl min i ∈ _; rw [e]; exact List.mem_cons_self) (List.mem_cons_of_mem _), fun y hy => ?_⟩
    rcases List.mem_cons.mp hy with e | hy
    · rw [e]; exact h1
    · exact h2 y hy
def gMax : List D → Option D
  | [.list ds] => (intsOf ds).bind fun ns => @ite (Option _) (0 < ns.length) (Classical.propDecidable _) (some (.int (maxL ns))) none
  | [.int i, .int j] => some (.int (if j > i then j else i))
  | _ => none
def gMin : List D → Option D
  | [.list ds] => (intsOf ds).bind fun ns => @ite (Option _) (0 < ns.length) (Classical.propDecidable _) (some (.int (minL ns))) none
  | [.int i, .int j] => some (.int (if j < i then j else i))
  | _ => none
theorem fl_max : FlatC K (fun xs H Q => rMax K xs H Q ∨ ∃ i j, xs = [.int i, .int j] ∧ Q (.int (if j > i then j else i)) H) gMax := by
  intro xs ds d H Q h hg hq
  unfold gMax at hg
  split at hg
  · obtain ⟨ns, e, hg⟩ := opt_bind hg
    split at hg
    · rename_i h0
      cases hg
      rw [intsOf_eq e] at h
      obtain ⟨v, rfl, hh⟩ := rpl1 h
      clear h
      have h := hh
      obtain ⟨a, ys, rfl, q, r⟩ := h.sql
      rw [rpl_ints r] at q
      refine .inl ⟨a, ns, rfl, q, h0, fun m hm hle => ?_⟩
      obtain ⟨h1, h2⟩ := maxL_spec h0
      have : m = maxL ns := Int.le_antisymm (h2 m hm) (hle _ h1)
      rw [this]
      exact hq _ rfl
    · cases hg
  · cases hg
    obtain ⟨v, v', rfl, h1, h2⟩ := rpl2 h
    rw [rp_int_v h1, rp_int_v h2]
    exact .inr ⟨_, _, rfl, hq _ rfl⟩
  · cases hg
theorem fl_min : FlatC K (fun xs H Q => rMin K xs H Q ∨ ∃ i j, xs = [.int i, .int j] ∧ Q (.int (if j < i then j else i)) H) gMin := by
  intro xs ds d H Q h hg hq
  unfold gMin at hg
  split at hg
  · obtain ⟨ns, e, hg⟩ := opt_bind hg
    split at hg
    · rename_i h0
      cases hg
      rw [intsOf_eq e] at h
      obtain ⟨v, rfl, hh⟩ := rpl1 h
      clear h
      have h := hh
      obtain ⟨a, ys, rfl, q, r⟩ := h.sql
      rw [rpl_ints r] at q
      refine .inl ⟨a, ns, rfl, q, h0, fun m hm hle => ?_⟩
      obtain ⟨h1, h2⟩ := minL_spec h0
      have : m = minL ns := Int.le_antisymm (hle _ h1) (h2 m hm)
      rw [this]
      exact hq _ rfl
    · cases hg
  · cases hg
    obtain ⟨v, v', rfl, h1, h2⟩ := rpl2 h
    rw [rp_int_v h1, rp_int_v h2]
    exact .inr ⟨_, _, rfl, hq _ rfl⟩
  · cases hg
theorem call_maxA (hc : X.calm = true) : CallR X (.builtin "max") (fun xs H Q => rMax X.K xs H Q ∨ ∃ i j, xs = [.int i, .int j] ∧ Q (.int (if j > i then j else i)) H) := (cr_max hc).or (call_max2 hc)
theorem call_minA (hc : X.calm = true) : CallR X (.builtin "min") (fun xs H Q => rMin X.K xs H Q ∨ ∃ i j, xs = [.int i, .int j] ∧ Q (.int (if j < i then j else i)) H) := (cr_min hc).or (call_min2 hc)
/-- a list of truths -/
def blsOf : List D → Option (List Bool)
  | [] => some []
  | .bool i :: r => (blsOf r).map (i :: ·)
  | _ => none
theorem blsOf_eq : ∀ {ds : List D} {ns : List Bool}, blsOf ds = some ns → ds = ns.map .bool
  | [], ns, h => by cases h; rfl
  | .bool i :: r, ns, h => by
    unfold blsOf at h
    cases e : blsOf r with
    | none => rw [e] at h; cases h
    | some k =>
      rw [e] at h
      cases h
      rw [List.map_cons, ← blsOf_eq e]
  | .none :: _, _, h => by cases h
  | .int _ :: _, _, h => by cases h
  | .str _ :: _, _, h => by cases h
  | .list _ :: _, _, h => by cases h
  | .tuple _ :: _, _, h => by cases h
  | .dict _ :: _, _, h => by cases h
theorem blsOf_map : ∀ ns : List Bool, blsOf (ns.map .bool) = some ns
  | [] => rfl
  | i :: r => by show (blsOf (r.map .bool)).map (i :: ·) = _; rw [blsOf_map r]; rfl
theorem rpl_bls {H : Hp} {N : Addr → Prop} : ∀ {ns : List Bool} {xs : List V}, RpL K H N (ns.map .bool) xs → xs = ns.map V.bl
  | [], xs, h => rpl0 h
  | i :: r, xs, h => by
    rw [List.map_cons] at h
    unfold RpL at h
    obtain ⟨x, t, rfl, h1, h2⟩ := h
    rw [rp_bl_v h1, rpl_bls h2]
    rfl
def gAll : List D → Option D
  | [.list ds] => (blsOf ds).map fun ns => .bool (ns.all id)
  | _ => none
def gAny : List D → Option D
  | [.list ds] => (blsOf ds).map fun ns => .bool (ns.any id)
  | _ => none
theorem fl_all : FlatC K (rAll K) gAll := by
  intro xs ds d H Q h hg hq
  unfold gAll at hg
  split at hg
  · rename_i es
    cases e : blsOf es with
    | none => rw [e] at hg; cases hg
    | some ns =>
      rw [e] at hg
      cases hg
      rw [blsOf_eq e] at h
      obtain ⟨v, rfl, hh⟩ := rpl1 h
      clear h
      have h := hh
      obtain ⟨a, ys, rfl, q, r⟩ := h.sql
      rw [rpl_bls r] at q
      exact ⟨a, ns, rfl, q, hq _ rfl⟩
  · cases hg
theorem fl_any : FlatC K (rAny K) gAny := by
  intro xs ds d H Q h hg hq
  unfold gAny at hg
  split at hg
  · rename_i es
    cases e : blsOf es with
    | none => rw [e] at hg; cases hg
    | some ns =>
      rw [e] at hg
      cases hg
      rw [blsOf_eq e] at h
      obtain ⟨v, rfl, hh⟩ := rpl1 h
      clear h
      have h := hh
      obtain ⟨a, ys, rfl, q, r⟩ := h.sql
      rw [rpl_bls r] at q
      exact ⟨a, ns, rfl, q, hq _ rfl⟩
  · cases hg

/-! isinstance -/
def tyName : D → String
  | .none => "NoneType"
  | .bool _ => "bool"
  | .int _ => "int"
  | .str _ => "str"
  | .list _ => "list"
  | .tuple _ => "tuple"
  | .dict _ => "dict"
theorem rp_tyx {H : Hp} {N : Addr → Prop} : ∀ {d : D} {v : V}, Rp K H N d v → TyX K H v (.type (tyName d))
  | .none, v, h => by rw [rp_non_v h]; exact .base .non
  | .bool b, v, h => by rw [rp_bl_v h]; exact .base (.bl b)
  | .int i, v, h => by rw [rp_int_v h]; exact .base (.int i)
  | .str x, v, h => by rw [rp_str_v h]; exact .base (.str x)
  | .list ds, v, h => by
    obtain ⟨a, xs, rfl, q, r⟩ := h.sql
    rcases q with (q | ⟨o, q⟩) | ⟨o, its, n, q, c, _⟩
    · exact .base (.lst q)
    · exact .base (.frz q)
    · exact .kList q c
  | .tuple ds, v, h => by
    obtain ⟨a, xs, rfl, q, r⟩ := h.sqt
    rcases q with (q | ⟨o, q⟩) | ⟨o, its, n, q, c, _⟩
    · exact .base (.tup q)
    · exact .fTuple q
    · exact .kTuple q c
  | .dict kvs, v, h => by
    unfold Rp at h
    obtain ⟨a, rfl, _, h⟩ := h
    rcases h with ⟨ps, (q | ⟨o, q⟩), _⟩ | ⟨ps, q, _⟩
    · exact .base (.dK q)
    · exact .fDict q
    · exact .base (.dT q)
/-- isinstance(x, T): the second argument is the type's name -/
def gIsi (T : String) : D → Option D := fun d => (kitB (tyName d) T).map fun b => .bool b
theorem e_isi {T : String} {fa : En → Option (D × En)} {p2 : Pos} (ha : PE X e (tE X.K W P G G1 .sh fa)) (hg : Gl X "isinstance") (hm : X.mg "isinstance" = none) (hgT : Gl X (Str.ofString T)) (hmT : X.mg (Str.ofString T) = none) (hvT : bootBuiltins (Str.ofString T) = some (.type T))
    (hnT : (Str.ofString T) ≠ "__name__" := by decide) (hdT : ((Str.ofString T) == ("__debug__" : Str)) = false := by decide) (he : starEach [e, .Name (Str.ofString T) p2] X.env = (false, eval e X.env) :: starEach [.Name (Str.ofString T) p2] X.env := by rfl)
    (he2 : starEach [.Name (Str.ofString T) p2] X.env = (false, eval (.Name (Str.ofString T) p2) X.env) :: starEach [] X.env := by rfl) (hpl : (backTo pos (starEach [.Name (Str.ofString T) p2] X.env)).any (·.1) = false := by rfl) :
    PE X (.Call (.Name "isinstance" p) [e, .Name (Str.ofString T) p2] [] pos) (tE X.K W P G G1 .sh (e1 (gIsi T) fa)) :=
  pe_weak (pe_callB call_isi hg hm PyProof.Rows.boot_isinstance (pa_cons ha (pa_cons (pe_bltn (v := .ty T) hgT hmT hvT rfl hnT hdT) pa_nil he2) he) (by decide) (by decide) he hpl) fun σ H Q ⟨env, N, A, d, env', er, ef, q⟩ => by
    obtain ⟨⟨dx, e1⟩, ea, ef⟩ := opt_bind ef
    obtain ⟨d2, eg, ef⟩ := opt_bind ef
    cases ef
    unfold gIsi at eg
    cases ek : kitB (tyName dx) T with
    | none => rw [ek] at eg; cases eg
    | some b =>
      rw [ek] at eg
      cases eg
      refine ⟨env, N, A, dx, e1, er, ea, fun v H1 N1 A1 B s1 r1 hv _ => ?_⟩
      unfold RpM at hv
      obtain ⟨hv, rfl⟩ := hv
      exact ⟨v, .ty T, _, _, b, rfl, .ty T, rp_tyx hv, kit_ty ek, q _ H1 N1 A1 [] s1 r1 (RpM.sh_of rp_bl) Bok.nil⟩
end
end T3
end
set_option Elab.async false
set_option linter.all false
set_option maxRecDepth 100000
set_option maxHeartbeats 1000000
noncomputable section
namespace T3
open PySem PySem.Spec PyProof.Rows L2
section
variable {X : Cx} {e a b : Expr} {es : List Expr} {K : Frg} {W : Addr → Prop} {P : Pin} {G G' G1 G2 : Gm} {m : Md} {ks : List Ak} {pos p : Pos} {x : Str}
/-! ### x[i] -/
def gIx : D → D → Option D
  | .list ds, .int i => atI ds i
  | .tuple ds, .int i => atI ds i
  | .str z, .int i => @ite (Option _) (z.length ≤ sizeLine) (Classical.propDecidable _) ((atI z.cps.toList i).map fun c => .str ⟨#[c]⟩) none
  | _, _ => none
theorem atI_rpl {H : Hp} {N : Addr → Prop} {ds : List D} {xs : List V} {i : Int} {d : D} (r : RpL K H N ds xs) (h : atI ds i = some d) : ∃ v, atI xs i = some v ∧ Rp K H N d v := by
  unfold atI at h ⊢
  rw [r.len]
  obtain ⟨j, h1, h2⟩ := opt_bind h
  rw [h1]
  exact r.get h2
theorem ix_ok {H : Hp} {N : Addr → Prop} {x y : V} {dx dy d : D} {Q : VK} (hx : RpR K H N dx x) (hy : Rp K H Tr dy y) (hg : gIx dx dy = some d) (hq : ∀ v, Rp K H N d v → Q v H) : rIx K x y H Q := by
  unfold gIx at hg
  split at hg
  · obtain ⟨a, xs, rfl, q, r⟩ := hx
    obtain ⟨v, h1, h2⟩ := atI_rpl r hg
    exact .inl ⟨a, xs, _, v, rfl, rp_int_v hy, SqL.of2 q, h1, hq v h2⟩
  · obtain ⟨a, xs, rfl, q, r⟩ := hx
    obtain ⟨v, h1, h2⟩ := atI_rpl r hg
    exact .inr (.inl ⟨a, xs, _, v, rfl, rp_int_v hy, q, h1, hq v h2⟩)
  · split at hg
    · rename_i z i h
      have hx : Rp K H N (.str z) x := hx
      cases e : atI z.cps.toList i with
      | none => rw [e] at hg; cases hg
      | some c =>
        rw [e] at hg
        cases hg
        exact .inr (.inr ⟨z, i, c, rp_str_v hx, rp_int_v hy, h, e, hq _ rp_str⟩)
    · cases hg
  · cases hg
theorem q_ix {fa fb : En → Option D} (ha : PE X a (tP X.K W P G fa)) (hb : PE X b (tK X.K W P G fb)) (hs : PlainIx b := by exact fun _ _ => rfl) : PE X (.Subscript a b pos) (tQ X.K W P G .sh (f2 gIx fa fb)) :=
  pe_weak (pe_ix ix_seq ha hb hs) fun σ H Q ⟨env, N, A, d, er, ef, q⟩ => by
    obtain ⟨dx, ea, ef⟩ := opt_bind ef
    obtain ⟨dy, eb, ef⟩ := opt_bind ef
    exact ⟨env, N, A, dx, er, ea, fun x H1 N1 e1 h1 => ⟨env, N1, A, dy, er.ext e1, eb, fun y H2 N2 e2 h2 => ix_ok (hr_ext e2 h1) h2 ef fun v hv => q v H2 N2 [] (e1.trans e2) (RpM.sh_of hv)⟩⟩
where hr_ext {H H' : Hp} {N N' : Addr → Prop} {B : List Addr} (e : Ext H N H' N' B) : ∀ {d : D} {v : V}, RpR X.K H N d v → RpR X.K H' N' d v
  | .none, _, h => Rp.mono e.keeps _ _ h
  | .bool _, _, h => Rp.mono e.keeps _ _ h
  | .int _, _, h => Rp.mono e.keeps _ _ h
  | .str _, _, h => Rp.mono e.keeps _ _ h
  | .list _, _, ⟨a, xs, h1, h2, h3⟩ => ⟨a, xs, h1, h2.imp (fun q => rd_mono q fun o => e.gr a o) id, RpL.mono e.keeps _ _ h3⟩
  | .tuple _, _, ⟨a, xs, h1, h2, h3⟩ => ⟨a, xs, h1, h2.imp (fun q => rd_mono q fun o => e.gr a o) id, RpL.mono e.keeps _ _ h3⟩
  | .dict _, _, ⟨a, h1, .inl ⟨ps, h2, h3⟩⟩ => ⟨a, h1, .inl ⟨ps, rd_mono h2 fun o => e.gr a o, RpK.mono e.keeps _ _ h3⟩⟩
  | .dict _, _, ⟨a, h1, .inr ⟨ps, h2, h3⟩⟩ => ⟨a, h1, .inr ⟨ps, e.gr a _ h2, RpT.mono e.keeps _ _ h3⟩⟩
/-- .. a look into a look -/
theorem k_ix {fa fb : En → Option D} (ha : PE X a (tK X.K W P G fa)) (hb : PE X b (tK X.K W P G fb)) (hs : PlainIx b := by exact fun _ _ => rfl) : PE X (.Subscript a b pos) (tK X.K W P G (f2 gIx fa fb)) :=
  pe_weak (pe_ix ix_seq ha hb hs) fun σ H Q ⟨env, N, A, d, er, ef, q⟩ => by
    obtain ⟨dx, ea, ef⟩ := opt_bind ef
    obtain ⟨dy, eb, ef⟩ := opt_bind ef
    exact ⟨env, N, A, dx, er, ea, fun x H1 N1 e1 h1 => ⟨env, N1, A, dy, er.ext e1, eb, fun y H2 N2 e2 h2 => ix_ok (ext_tr e2 h1).root h2 ef fun v hv => q v H2 N2 (e1.trans e2) hv⟩⟩
/-- a flat thing that was looked at is a value -/
def fFl (fa : En → Option D) : En → Option D := fun e => (fa e).bind fun d => (flt d).bind fun _ => some d
theorem k_flat {fa : En → Option D} (ha : PE X a (tK K W P G fa)) : PE X a (tQ K W P G .sh (fFl fa)) :=
  pe_weak ha fun σ H Q ⟨env, N, A, d, er, ef, q⟩ => by
    obtain ⟨dx, ea, ef⟩ := opt_bind ef
    obtain ⟨v0, ev, ef⟩ := opt_bind ef
    cases ef
    exact ⟨env, N, A, _, er, ea, fun v H1 N1 e1 h1 => q v H1 N1 [] e1 (RpM.sh_of (by rw [rp_flt h1 ev]; exact flt_rp ev))⟩
theorem e_ix {fa fb : En → Option (D × En)} (ha : PE X a (tE X.K W P G G1 .sh fa)) (hb : PE X b (tE X.K W P G1 G2 .sh fb)) (hs : PlainIx b := by exact fun _ _ => rfl) : PE X (.Subscript a b pos) (tE X.K W P G G2 .sh (e2 gIx fa fb)) :=
  pe_weak (pe_ix ix_seq ha hb hs) fun σ H Q ⟨env, N, A, d, env', er, ef, q⟩ => by
    obtain ⟨⟨dx, env1⟩, ea, ef⟩ := opt_bind ef
    obtain ⟨⟨dy, env2⟩, eb, ef⟩ := opt_bind ef
    obtain ⟨d', eg, ef⟩ := opt_bind ef
    cases ef
    refine ⟨env, N, A, dx, env1, er, ea, fun x H1 N1 A1 B1 s1 r1 h1 b1 => ⟨env1, N1, A1, dy, env2, r1, eb, fun y H2 N2 A2 B2 s2 r2 h2 b2 => ?_⟩⟩
    have h1' := s2.val r1 b1 h1
    unfold RpM at h1' h2
    obtain ⟨h1', rfl⟩ := h1'
    obtain ⟨h2, rfl⟩ := h2
    exact ix_ok h1'.root h2.tr eg fun v hv => q v H2 N2 A2 [] (s1.trans s2) r2 (RpM.sh_of hv) Bok.nil

/-! ### slices -/
def tOo (K : Frg) (W : Addr → Prop) (P : Pin) (G : Gm) (f : En → Option (Option Int)) : TO := fun σ H Q =>
  ∃ env N A o, ER K W P H N G env σ A ∧ f env = some o ∧ ∀ H' N', Ext H N H' N' [] → Q o H'
theorem po_weak {e : Option Expr} {t t' : TO} (h : PO X e t) (w : ∀ σ H Q, t' σ H Q → t σ H Q) : PO X e t' := ⟨fun pins s σ H Q I q => h.run pins s σ H Q I (w σ H Q q)⟩
def oN : En → Option (Option Int) := fun _ => some none
def oS (fa : En → Option D) : En → Option (Option Int) := fun e => (fa e).bind fun d => match d with
  | .int i => some (some i)
  | _ => none
theorem o_none : PO X none (tOo K W P G oN) := po_weak po_none fun σ H Q ⟨env, N, A, o, er, ef, q⟩ => by
  cases ef
  exact q H N Ext.refl
theorem o_some {fa : En → Option D} (h : PE X e (tK K W P G fa)) : PO X (some e) (tOo K W P G (oS fa)) := po_weak (po_some h) fun σ H Q ⟨env, N, A, o, er, ef, q⟩ => by
  obtain ⟨d, ea, ef⟩ := opt_bind ef
  refine ⟨env, N, A, d, er, ea, fun v H1 N1 e1 h1 => ?_⟩
  cases d with
  | int i =>
    cases ef
    exact ⟨i, rp_int_v h1, q H1 N1 e1⟩
  | _ => cases ef
def cutD (ds : List D) (lo hi : Option Int) : List D := (ds.drop (HT.sIx ds.length 0 lo)).take (HT.sIx ds.length ds.length hi - HT.sIx ds.length 0 lo)
theorem rpl_cut {H : Hp} {N : Addr → Prop} {ds : List D} {xs : List V} (r : RpL K H N ds xs) (lo hi : Option Int) : RpL K H N (cutD ds lo hi) (cutV xs lo hi) := by
  unfold cutD cutV
  rw [r.len]
  exact RpL.take _ (RpL.drop _ r)
def fSl (fa : En → Option D) (fl fh : En → Option (Option Int)) : En → Option D := fun e => (fa e).bind fun d => (fl e).bind fun lo => (fh e).bind fun hi => match d with
  | .list ds => some (.list (cutD ds lo hi))
  | _ => none
def eSl (fa : En → Option (D × En)) (fl fh : En → Option (Option Int)) : En → Option (D × En) := fun e => (fa e).bind fun d => (fl d.2).bind fun lo => (fh d.2).bind fun hi => match d.1 with
  | .list ds => some (.list (cutD ds lo hi), d.2)
  | _ => none
def fSs (fa : En → Option D) (fl fh : En → Option (Option Int)) : En → Option D := fun e => (fa e).bind fun d => (fl e).bind fun lo => (fh e).bind fun hi => match d with
  | .str z => @ite (Option _) (z.length ≤ sizeLine) (Classical.propDecidable _) (some (.str (cutS z lo hi))) none
  | _ => none
variable {lo hi : Option Expr} {p2 : Pos} {fl fh : En → Option (Option Int)}
theorem RpM.new_list {H : Hp} {N : Addr → Prop} {ds : List D} {xs : List V} {q : Addr} (nq : H q = none) (r : RpL K H N ds xs) : RpM K (upd H q (.lst xs)) N W (.ow .sh) (.list ds) (.ref q) [q] := by
  unfold RpM
  exact ⟨q, xs, ds, [], rfl, rfl, upd_same, rfl, AllM.of_sh (RpL.mono (Keeps.new nq) _ _ r)⟩
theorem q_sl {fa : En → Option D} (ha : PE X a (tP X.K W P G fa)) (hl : PO X lo (tOo X.K W P G fl)) (hh : PO X hi (tOo X.K W P G fh)) : PE X (.Subscript a (.Slice lo hi none p2) pos) (tQ X.K W P G (.ow .sh) (fSl fa fl fh)) :=
  pe_weak (pe_slice sl_list ha hl hh) fun σ H Q ⟨env, N, A, d, er, ef, q⟩ => by
    obtain ⟨dx, ea, ef⟩ := opt_bind ef
    obtain ⟨lo, el, ef⟩ := opt_bind ef
    obtain ⟨hi, eh, ef⟩ := opt_bind ef
    refine ⟨env, N, A, dx, er, ea, fun x H1 N1 e1 h1 => ⟨env, N1, A, lo, er.ext e1, el, fun H2 N2 e2 => ⟨env, N2, A, hi, (er.ext e1).ext e2, eh, fun H3 N3 e3 => ?_⟩⟩⟩
    cases dx with
    | list ds =>
      cases ef
      obtain ⟨y, xs, rfl, h2, h3⟩ := q_ix.hr_ext e3 (q_ix.hr_ext e2 h1)
      refine ⟨y, xs, rfl, SqL.of2 h2, fun p np => q (.ref p) _ N3 [p] (((e1.trans e2).trans e3).trans (Ext.new np (((er.ext e1).ext e2).ext e3).tr)) (RpM.new_list np (rpl_cut h3 lo hi))⟩
    | _ => cases ef
theorem e_sl {fa : En → Option (D × En)} (ha : PE X a (tE X.K W P G G1 .sh fa)) (hl : PO X lo (tOo X.K W P G1 fl)) (hh : PO X hi (tOo X.K W P G1 fh)) : PE X (.Subscript a (.Slice lo hi none p2) pos) (tE X.K W P G G1 (.ow .sh) (eSl fa fl fh)) :=
  pe_weak (pe_slice sl_list ha hl hh) fun σ H Q ⟨env, N, A, d, env', er, ef, q⟩ => by
    obtain ⟨⟨dx, env1⟩, ea, ef⟩ := opt_bind ef
    obtain ⟨lo, el, ef⟩ := opt_bind ef
    obtain ⟨hi, eh, ef⟩ := opt_bind ef
    refine ⟨env, N, A, dx, env1, er, ea, fun x H1 N1 A1 B1 s1 r1 h1 b1 => ⟨env1, N1, A1, lo, r1, el, fun H2 N2 e2 => ⟨env1, N2, A1, hi, r1.ext e2, eh, fun H3 N3 e3 => ?_⟩⟩⟩
    unfold RpM at h1
    obtain ⟨h1, rfl⟩ := h1
    cases dx with
    | list ds =>
      cases ef
      obtain ⟨y, xs, rfl, h2, h3⟩ := q_ix.hr_ext e3 (q_ix.hr_ext e2 h1.root)
      have r3 := (r1.ext e2).ext e3
      refine ⟨y, xs, rfl, SqL.of2 h2, fun p np => q (.ref p) _ N3 A1 [p] (((s1.trans e2.stp).trans e3.stp).newB np) (r3.new np) (RpM.new_list np (rpl_cut h3 lo hi)) (Bok.nil.newB r3 np fun _ z => (nomatch z))⟩
    | _ => cases ef
theorem q_ss {fa : En → Option D} (ha : PE X a (tK X.K W P G fa)) (hl : PO X lo (tOo X.K W P G fl)) (hh : PO X hi (tOo X.K W P G fh)) : PE X (.Subscript a (.Slice lo hi none p2) pos) (tQ X.K W P G .sh (fSs fa fl fh)) :=
  pe_weak (pe_slice sl_str ha hl hh) fun σ H Q ⟨env, N, A, d, er, ef, q⟩ => by
    obtain ⟨dx, ea, ef⟩ := opt_bind ef
    obtain ⟨lo, el, ef⟩ := opt_bind ef
    obtain ⟨hi, eh, ef⟩ := opt_bind ef
    refine ⟨env, N, A, dx, er, ea, fun x H1 N1 e1 h1 => ⟨env, N1, A, lo, er.ext e1, el, fun H2 N2 e2 => ⟨env, N2, A, hi, (er.ext e1).ext e2, eh, fun H3 N3 e3 => ?_⟩⟩⟩
    cases dx with
    | str z =>
      have ef : (@ite (Option _) (z.length ≤ sizeLine) (Classical.propDecidable _) (some (PyData.str (cutS z lo hi))) none) = some d := ef
      split at ef
      · cases ef
        exact ⟨z, rp_str_v h1, by assumption, q _ H3 N3 [] ((e1.trans e2).trans e3) (RpM.sh_of rp_str)⟩
      · cases ef
    | _ => cases ef
/-- x[::-1] -/
def fRev (fa : En → Option D) : En → Option D := f1 (fun d => match d with
  | .list ds => some (.list ds.reverse)
  | _ => none) fa
theorem q_rev {fa : En → Option D} {k : Nat} {p1 p3 p4 : Pos} (ha : PE X a (tP X.K W P G fa)) : PE X (.Subscript a (.Slice none none (some (.UnaryOp .USub (.Constant (.int 1) k p1) p3)) p4) pos) (tQ X.K W P G (.ow .sh) (fRev fa)) :=
  pe_weak (pe_revL ha) fun σ H Q ⟨env, N, A, d, er, ef, q⟩ => by
    obtain ⟨dx, ea, ef⟩ := opt_bind ef
    refine ⟨env, N, A, dx, er, ea, fun x H1 N1 e1 h1 => ?_⟩
    cases dx with
    | list ds =>
      cases ef
      obtain ⟨y, xs, rfl, h2, h3⟩ := h1
      exact ⟨y, xs, rfl, SqL.of2 h2, fun p np => q (.ref p) _ N1 [p] (e1.trans (Ext.new np (er.ext e1).tr)) (RpM.new_list np (RpL.reverse h3))⟩
    | _ => cases ef

/-! ### lists put together -/
def rCatL (K : Frg) : R2 := fun x y H Q => ∃ l b xs zs, x = .ref l ∧ y = .ref b ∧ SqL K H l xs ∧ SqL K H b zs ∧ xs.length + zs.length ≤ sizeLine ∧ ∀ p, H p = none → Q (.ref p) (upd H p (.lst (xs ++ zs)))
theorem op_catL : OpR X (binaryOp .Add) (rCatL X.K) := by
  intro pins s σ H x y v u Q I rx ry h
  obtain ⟨l, b, xs, zs, rfl, rfl, hl, hb, hz, q⟩ := h
  cases rx
  cases ry
  obtain ⟨its, r1, ⟨⟨c1, d1, t1, w1⟩, n1, o1, hc1, hd1, ht1⟩, z1⟩ := I.list hl
  obtain ⟨itz, r2, ⟨⟨c2, d2, t2, w2⟩, n2, o2, hc2, hd2, ht2⟩, z2⟩ := I.list hb
  simp only at hc1 hd1 ht1 hc2 hd2 ht2
  subst hc1 hd1 ht1 hc2 hd2 ht2
  have hsz : its.toArray.size + itz.toArray.size ≤ sizeLine := by rw [List.size_toArray, List.size_toArray, ← r1.length, ← r2.length]; exact hz
  refine concat_meets ⟨_, o1, rfl⟩ ⟨_, o2, rfl⟩ noFill_list_add seq_list_add PySem.F.slot_list_add PySem.F.entry_list_add (PySem.F.args_list_add_2 _ _) (list_addW l b its.toArray itz.toArray n1 n2 none none w1 w2 hsz) ⟨o1, o2, ?_⟩
  rw [show its.toArray ++ itz.toArray = (its ++ itz).toArray from by simp]
  exact ⟨.ref _, _, I.lnew (t' := s.toks) (r1.append r2) (by rw [List.length_append]; exact hz), rfl, q _ I.fresh⟩
def gCat : D → D → Option D
  | .list xs, .list ys => @ite (Option _) (xs.length + ys.length ≤ sizeLine) (Classical.propDecidable _) (some (.list (xs ++ ys))) none
  | _, _ => none
theorem cat_ok {H : Hp} {N : Addr → Prop} {x y : V} {dx dy d : D} {Q : VK} (hx : RpR K H N dx x) (hy : RpR K H N dy y) (hg : gCat dx dy = some d) (hq : ∀ p xs, H p = none → RpL K H N (match d with | .list ds => ds | _ => []) xs → (∃ ds, d = .list ds) → Q (.ref p) (upd H p (.lst xs))) : rCatL K x y H Q := by
  unfold gCat at hg
  split at hg
  · split at hg
    · cases hg
      obtain ⟨a, xs, rfl, q, r⟩ := hx
      obtain ⟨b, ys, rfl, q2, r2⟩ := hy
      exact ⟨a, b, xs, ys, rfl, rfl, SqL.of2 q, SqL.of2 q2, by rw [r.len, r2.len]; assumption, fun p np => hq p _ np (r.append r2) ⟨_, rfl⟩⟩
    · cases hg
  · cases hg
theorem q_cat {fa fb : En → Option D} (ha : PE X a (tP X.K W P G fa)) (hb : PE X b (tP X.K W P G fb)) : PE X (.BinOp a .Add b pos) (tQ X.K W P G (.ow .sh) (f2 gCat fa fb)) :=
  pe_weak (pe_op op_catL ha hb) fun σ H Q ⟨env, N, A, d, er, ef, q⟩ => by
    obtain ⟨dx, ea, ef⟩ := opt_bind ef
    obtain ⟨dy, eb, ef⟩ := opt_bind ef
    refine ⟨env, N, A, dx, er, ea, fun x H1 N1 e1 h1 => ⟨env, N1, A, dy, er.ext e1, eb, fun y H2 N2 e2 h2 => cat_ok (q_ix.hr_ext e2 h1) h2 ef fun p xs np r hd => ?_⟩⟩
    obtain ⟨ds, rfl⟩ := hd
    exact q (.ref p) _ N2 [p] ((e1.trans e2).trans (Ext.new np ((er.ext e1).ext e2).tr)) (RpM.new_list np r)
theorem e_cat {fa fb : En → Option (D × En)} (ha : PE X a (tE X.K W P G G1 .sh fa)) (hb : PE X b (tE X.K W P G1 G2 .sh fb)) : PE X (.BinOp a .Add b pos) (tE X.K W P G G2 (.ow .sh) (e2 gCat fa fb)) :=
  pe_weak (pe_op op_catL ha hb) fun σ H Q ⟨env, N, A, d, env', er, ef, q⟩ => by
    obtain ⟨⟨dx, env1⟩, ea, ef⟩ := opt_bind ef
    obtain ⟨⟨dy, env2⟩, eb, ef⟩ := opt_bind ef
    obtain ⟨d', eg, ef⟩ := opt_bind ef
    cases ef
    refine ⟨env, N, A, dx, env1, er, ea, fun x H1 N1 A1 B1 s1 r1 h1 b1 => ⟨env1, N1, A1, dy, env2, r1, eb, fun y H2 N2 A2 B2 s2 r2 h2 b2 => ?_⟩⟩
    have h1' := s2.val r1 b1 h1
    unfold RpM at h1' h2
    obtain ⟨h1', rfl⟩ := h1'
    obtain ⟨h2, rfl⟩ := h2
    refine cat_ok h1'.root h2.root eg fun p xs np r hd => ?_
    obtain ⟨ds, rfl⟩ := hd
    exact q (.ref p) _ N2 A2 [p] ((s1.trans s2).newB np) (r2.new np) (RpM.new_list np r) (Bok.nil.newB r2 np fun _ z => (nomatch z))
/-- [d, ..] * n -/
def gRep : D → D → Option D
  | .list xs, .int k => @ite (Option _) (-(2 ^ 63) ≤ k ∧ k < 2 ^ 63 ∧ xs.length * k.toNat ≤ sizeLine) (Classical.propDecidable _) (some (.list (List.replicate k.toNat xs).flatten)) none
  | _, _ => none
theorem RpL.rep {H : Hp} {N : Addr → Prop} {ds : List D} {xs : List V} (r : RpL K H N ds xs) : ∀ k : Nat, RpL K H N (List.replicate k ds).flatten (List.replicate k xs).flatten
  | 0 => RpL.nil
  | k + 1 => by
    rw [List.replicate_succ, List.replicate_succ, List.flatten_cons, List.flatten_cons]
    exact r.append (RpL.rep r k)
theorem e_rep {fa fb : En → Option (D × En)} (ha : PE X a (tE X.K W P G G1 (.ow .sh) fa)) (hb : PE X b (tE X.K W P G1 G2 .sh fb)) : PE X (.BinOp a .Mult b pos) (tE X.K W P G G2 (.ow .sh) (e2 gRep fa fb)) :=
  pe_weak (pe_op op_rep ha hb) fun σ H Q ⟨env, N, A, d, env', er, ef, q⟩ => by
    obtain ⟨⟨dx, env1⟩, ea, ef⟩ := opt_bind ef
    obtain ⟨⟨dy, env2⟩, eb, ef⟩ := opt_bind ef
    obtain ⟨d', eg, ef⟩ := opt_bind ef
    cases ef
    refine ⟨env, N, A, dx, env1, er, ea, fun x H1 N1 A1 B1 s1 r1 h1 b1 => ⟨env1, N1, A1, dy, env2, r1, eb, fun y H2 N2 A2 B2 s2 r2 h2 b2 => ?_⟩⟩
    have h1' := s2.val r1 b1 h1
    unfold RpM at h1' h2
    obtain ⟨l, xs, ds, As, rfl, rfl, hH, _, hall⟩ := h1'
    obtain ⟨h2, rfl⟩ := h2
    cases dy with
    | int k =>
      have eg : (@ite (Option _) (-(2 ^ 63) ≤ k ∧ k < 2 ^ 63 ∧ ds.length * k.toNat ≤ sizeLine) (Classical.propDecidable _) (some (PyData.list (List.replicate k.toNat ds).flatten)) none) = some d := eg
      split at eg
      · rename_i hk
        cases eg
        have hr := hall.sh.1
        refine ⟨l, k, xs, rfl, rp_int_v h2, hH, hk.1, hk.2.1, by rw [hr.len]; exact hk.2.2, fun p np => ?_⟩
        have t := s1.trans s2
        exact q (.ref p) _ N2 A2 [p] (t.newB np) (r2.new np) (RpM.new_list np (hr.rep k.toNat)) (Bok.nil.newB r2 np fun _ z => (nomatch z))
      · cases eg
    | _ => cases eg
/-- a text times an int -/
def gSmul : D → D → Option D
  | .str x, .int n => @ite (Option _) (-(2 ^ 63) ≤ n ∧ n < 2 ^ 63 ∧ x.length * n.toNat ≤ sizeLine) (Classical.propDecidable _) (some (.str (Txt.mul x n))) none
  | _, _ => none
theorem mulOk_of {x : Str} {n : Int} (h1 : -(2 ^ 63) ≤ n) (h2 : n < 2 ^ 63) (h3 : x.length * n.toNat ≤ sizeLine) : MulOk x n := by
  refine ⟨?_, fun hn _ => ?_, fun hn _ => ?_⟩
  · rw [Bool.or_eq_false_iff, decide_eq_false_iff_not, decide_eq_false_iff_not]
    exact ⟨by omega, by omega⟩
  · have hp : 0 < n := by omega
    have e : ((x.length * n.toNat : Nat) : Int) = (x.length : Int) * n := by rw [Int.natCast_mul, Int.toNat_of_nonneg (by omega)]
    have l : (sizeLine : Nat) ≤ 2 ^ 63 - 1 := by decide
    intro z
    have z2 : (2 ^ 63 - 1 : Int) < (x.length : Int) * n := Int.lt_mul_of_ediv_lt hp z
    omega
  · unfold Builtin.Str.tooLong
    first
      | exact decide_eq_false (by omega)
      | (simp; omega)
def rSmul : R2 := fun x y H Q => ∃ z n, x = .str z ∧ y = .int n ∧ MulOk z n ∧ Q (.str (Txt.mul z n)) H
theorem op_smul : OpR X (binaryOp .Mult) rSmul := by
  intro pins s σ H x y v u Q I rx ry h
  obtain ⟨z, n, rfl, rfl, ok, q⟩ := h
  obtain ⟨t, rfl⟩ := rx
  obtain ⟨t', rfl⟩ := ry
  exact SB.mul ok fun t' k => ⟨.str _, H, I.tok k, ⟨t', rfl⟩, q⟩
theorem fl_smul : Flat2 K rSmul gSmul := by
  intro x y dx dy d H Q hx hy hg hq
  unfold gSmul at hg
  split at hg
  · split at hg
    · rename_i h
      cases hg
      exact ⟨_, _, rp_str_v hx, rp_int_v hy, mulOk_of h.1 h.2.1 h.2.2, hq _ rfl⟩
    · cases hg
  · cases hg
end
end T3
end
set_option Elab.async false
set_option linter.all false
set_option maxRecDepth 100000
set_option maxHeartbeats 1000000
noncomputable section
namespace T3
open PySem PySem.Spec PyProof.Rows L2

/-! ### things that are changed in their place -/
section
variable {X : Cx} {e a b o : Expr} {K : Frg} {W : Addr → Prop} {P : Pin} {G G' G1 G2 : Gm} {m : Md} {pos p px apos cpos : Pos} {x : Str} {H H0 : Hp} {N N0 : Addr → Prop} {A A0 : Ow} {By B : List Addr} {env : En} {σ : L2.St} {i : Nat}

theorem Stp.mem (s : Stp H0 N0 A0 H N A By) {i : Nat} {a : Addr} (z : a ∈ A i) : O A0 a ∨ H0 a = none := s.own a ⟨i, z⟩
/-- one object that the slot i owns is changed; what comes in was By -/
theorem mut1 {d : D} {v : V} {c : Addr} {u : HO} (s : Stp H0 N0 A0 H N A By) (r : ER K W P H N G env σ A) (b : Bok N W A By) (tb : ∀ a ∈ By, ∃ o, H a = some o) (hp : ∀ v od, P i = some (v, od) → od = none) (g : G[i]? = some (some m)) (hv : σ[i]? = some (some v))
    (hc : c ∈ A i) (hB : ∀ x ∈ B, x ∈ A i ∨ x ∈ By) (hd : B.Nodup) (h : RpM K (upd H c u) N W m d v B) :
    Stp H0 N0 A0 (upd H c u) N (A.put i B) [] ∧ ER K W P (upd H c u) N G (env.set i d) σ (A.put i B) := by
  have hi : i < G.length := (List.getElem?_eq_some_iff.mp g).1
  have nc : ¬ N c := r.dn i c hc
  have wc : ¬ W c := r.wd i c hc
  have un : ∀ a o, a ≠ c → H a = some o → upd H c u a = some o := fun a o n e => by rw [upd_ne n]; exact e
  have kp : Keeps H N (upd H c u) N := fun a o e n => ⟨un a o (fun z => nc (z ▸ n)) e, n⟩
  have kw : Keeps H (fun a => N a ∨ W a) (upd H c u) (fun a => N a ∨ W a) := fun a o e n => ⟨un a o (fun z => n.elim (fun n => nc (z ▸ n)) fun n => wc (z ▸ n)) e, n⟩
  have tk : ∀ a o, H a = some o → ∃ o', upd H c u a = some o' := fun a o e => by
    by_cases z : a = c
    · exact ⟨_, by rw [z]; exact upd_same⟩
    · exact ⟨o, un a o z e⟩
  refine ⟨⟨fun a o q n => ?_, fun a o q => ?_, fun a z => ?_, fun _ z => (nomatch z), s.up, s.fz⟩, by simp [r.le], r.ls, fun j m' g' => ?_, fun j g' => ?_, fun j => ?_, fun j k a h1 h2 => ?_, fun a n => ?_, fun j a z n => ?_, fun j w od q => ?_, fun a n => ?_, fun j a z n => ?_⟩
  · refine un a o (fun z => ?_) (s.keep a o q n)
    rcases s.mem hc with w | w
    · exact n (z ▸ w)
    · rw [z, w] at q; cases q
  · obtain ⟨o', q'⟩ := s.trk a o q
    exact tk a o' q'
  · rcases own_put z with z | z
    · exact s.own a z
    · rcases hB a z with z | z
      · exact s.mem z
      · exact s.bf a z
  · by_cases e : j = i
    · subst e
      rw [g] at g'
      cases g'
      exact ⟨d, v, by rw [List.getElem?_set_self (by rw [r.le]; exact hi)], hv, by rw [put_same]; exact h⟩
    · rw [put_ne e]
      obtain ⟨d', v', h1, h2, h3⟩ := r.sl j m' g'
      exact ⟨d', v', by rw [List.getElem?_set_ne (Ne.symm e)]; exact h1, h2, RpM.mono kp kw m' d' v' _ (fun a z o q => un a o (fun z' => e (r.dj j i a z (z' ▸ hc))) q) h3⟩
  · by_cases e : j = i
    · subst e; exact absurd g (g' m)
    · rw [put_ne e]; exact r.no j g'
  · by_cases e : j = i
    · rw [e, put_same]; exact hd
    · rw [put_ne e]; exact r.nd j
  · have key : ∀ j, j ≠ i → a ∈ A j → a ∈ B → False := fun j e z zb => by
      rcases hB a zb with q | q
      · exact e (r.dj j i a z q)
      · exact b.ba a q ⟨j, z⟩
    by_cases e : j = i
    · by_cases e' : k = i
      · rw [e, e']
      · rw [e, put_same] at h1
        rw [put_ne e'] at h2
        exact (key k e' h2 h1).elim
    · rw [put_ne e] at h1
      by_cases e' : k = i
      · rw [e', put_same] at h2
        exact (key j e h1 h2).elim
      · rw [put_ne e'] at h2
        exact r.dj j k a h1 h2
  · obtain ⟨o, q⟩ := r.tr a n
    exact tk a o q
  · by_cases e : j = i
    · rw [e, put_same] at z
      rcases hB a z with q | q
      · exact r.dn i a q n
      · exact b.bn a q n
    · rw [put_ne e] at z
      exact r.dn j a z n
  · obtain ⟨q1, q2⟩ := r.pn j w od q
    refine ⟨q1, fun d' e' => ?_⟩
    by_cases e : j = i
    · rw [e] at q
      rw [hp w od q] at e'; cases e'
    · rw [List.getElem?_set_ne (Ne.symm e)]
      exact q2 d' e'
  · obtain ⟨o, q⟩ := r.wt a n
    exact tk a o q
  · by_cases e : j = i
    · rw [e, put_same] at z
      rcases hB a z with q | q
      · exact r.wd i a q n
      · exact b.bw a q n
    · rw [put_ne e] at z; exact r.wd j a z n

/-! items alike, one by one -/
theorem AllM.get {Q : D → V → List Addr → Prop} : ∀ {ds : List D} {xs : List V} {A : List Addr} {k : Nat} {d : D}, AllM Q ds xs A → ds[k]? = some d →
    ∃ x A1 B A2, xs[k]? = some x ∧ A = A1 ++ (B ++ A2) ∧ Q d x B ∧ (∀ (Q' : D → V → List Addr → Prop) d' x' B', (∀ d v C, (∀ a ∈ C, a ∈ A1 ∨ a ∈ A2) → Q d v C → Q' d v C) → Q' d' x' B' → AllM Q' (ds.set k d') (xs.set k x') (A1 ++ (B' ++ A2)))
  | [], xs, A, k, d, h, e => by simp at e
  | d0 :: ds, xs, A, 0, d, h, e => by
    obtain ⟨x, r, A1, A2, rfl, rfl, h1, h2⟩ := h
    have : d0 = d := by simpa using e
    subst this
    exact ⟨x, [], A1, A2, rfl, rfl, h1, fun Q' d' x' B' f q => ⟨x', r, B', A2, rfl, rfl, q, h2.imp fun d v C hc q => f d v C (fun a z => .inr (hc a z)) q⟩⟩
  | d0 :: ds, xs, A, k + 1, d, h, e => by
    obtain ⟨x, r, A1, A2, rfl, rfl, h1, h2⟩ := h
    obtain ⟨y, C1, B, C2, e1, e2, e3, e4⟩ := AllM.get (k := k) h2 (by simpa using e)
    subst e2
    refine ⟨y, A1 ++ C1, B, C2, by simpa using e1, by simp, e3, fun Q' d' x' B' f q => ?_⟩
    exact ⟨x, r.set k x', A1, C1 ++ (B' ++ C2), rfl, by simp, f _ _ _ (fun a z => .inl (List.mem_append_left _ z)) h1, e4 Q' d' x' B' (fun d v C hc q => f d v C (fun a z => (hc a z).imp (List.mem_append_right _) id) q) q⟩
theorem AllM.snoc' {Q : D → V → List Addr → Prop} : ∀ {ds : List D} {xs : List V} {A B : List Addr} {d : D} {x : V}, AllM Q ds xs A → Q d x B → AllM Q (ds ++ [d]) (xs ++ [x]) (A ++ B)
  | [], xs, A, B, d, x, h, q => by
    obtain ⟨rfl, rfl⟩ := h
    exact ⟨x, [], B, [], rfl, by simp, q, rfl, rfl⟩
  | d0 :: ds, xs, A, B, d, x, h, q => by
    obtain ⟨y, r, A1, A2, rfl, rfl, h1, h2⟩ := h
    exact ⟨y, r ++ [x], A1, A2 ++ B, rfl, by simp, h1, AllM.snoc' h2 q⟩

/-! ### x.append(e) -/
def fApp (i : Nat) (fa : En → Option (D × En)) : En → Option (D × En) := fun e => (fa e).bind fun x => (x.2[i]?).bind fun l => match l with
  | .list ds => @ite (Option _) (ds.length < sizeLine) (Classical.propDecidable _) (some (.none, x.2.set i (.list (ds ++ [x.1])))) none
  | _ => none
theorem ow_rd {m : Md} {d : D} {v : V} {As : List Addr} (h : RpM K H N W (.ow m) d v As) : ∃ c xs ds Bs, v = .ref c ∧ d = .list ds ∧ H c = some (.lst xs) ∧ As = c :: Bs ∧ AllM (RpM K H N W m) ds xs Bs := by
  unfold RpM at h
  exact h
theorem ow_mk {m : Md} {c : Addr} {xs : List V} {ds : List D} {Bs : List Addr} (h1 : H c = some (.lst xs)) (h2 : AllM (RpM K H N W m) ds xs Bs) : RpM K H N W (.ow m) (.list ds) (.ref c) (c :: Bs) := by
  unfold RpM
  exact ⟨c, xs, ds, Bs, rfl, rfl, h1, rfl, h2⟩
/-- away from what was changed -/
theorem RpM.off {m : Md} {d : D} {v : V} {C : List Addr} {c : Addr} {u : HO} (h : RpM K H N W m d v C) (nc : ¬ N c) (wc : ¬ W c) (cc : c ∉ C) : RpM K (upd H c u) N W m d v C :=
  RpM.mono (fun a o e n => ⟨by rw [upd_ne (fun (z : a = c) => nc (z ▸ n))]; exact e, n⟩) (fun a o e n => ⟨by rw [upd_ne (fun (z : a = c) => n.elim (fun n => nc (z ▸ n)) fun n => wc (z ▸ n))]; exact e, n⟩) m d v C (fun a z o e => by rw [upd_ne (fun (w : a = c) => cc (w ▸ z))]; exact e) h
theorem AllM.off {ds : List D} {xs : List V} {m : Md} {C : List Addr} {c : Addr} {u : HO} (h : AllM (RpM K H N W m) ds xs C) (nc : ¬ N c) (wc : ¬ W c) (cc : c ∉ C) : AllM (RpM K (upd H c u) N W m) ds xs C :=
  h.imp fun d v B hb q => RpM.off q nc wc fun z => cc (hb c z)
theorem e_app {fa : En → Option (D × En)} (hN : X.N[i]? = some x) (hv : Vis X.env.scope x) (g : G[i]? = some (some (.ow m))) (g1 : G1[i]? = some (some (.ow m))) (ha : PE X e (tE X.K W P G G1 m fa)) (hp : ∀ v od, P i = some (v, od) → od = none)
    (hd : (x == ("__debug__" : Str)) = false := by decide) (hcd : (x == ("__classdict__" : Str)) = false := by decide)
    (hbase : attributeBase (.Name x px) "append" X.env (eval (.Name x px) X.env) = eval (.Name x px) X.env := by rfl)
    (hfew : ((backTo cpos (starEach [e] X.env)).all (fun x => !x.1) && (backToKw cpos (keywordEach [] X.env)).all (fun x => x.1.isSome) && decide ([e].length + ([] : List Keyword).length + (if ([] : List Keyword).isEmpty then 0 else 1) < 30)) = true := by rfl)
    (hline : (apos.endLine == cpos.line) = true := by rfl) (hs : starEach [e] X.env = (false, eval e X.env) :: starEach [] X.env := by rfl) (hplain : (backTo cpos (starEach [] X.env)).any (·.1) = false := by rfl) :
    PE X (.Call (.Attribute (.Name x px) "append" apos) [e] [] cpos) (tE X.K W P G G1 .sh (fApp i fa)) :=
  pe_weak (pe_bm F.plainAttrs_list F.slot_list_append F.type_list_append mt_append (pe_var hN hv hd hcd) (pa_cons ha pa_nil hs) hbase hfew hline hs hplain) fun σ H Q ⟨env, N, A, d, env', r, ef, q⟩ => by
    obtain ⟨⟨dx, env1⟩, ea, ef⟩ := opt_bind ef
    obtain ⟨dl, ei, ef⟩ := opt_bind ef
    obtain ⟨d0, v0, h1, h2, h3⟩ := r.sl i _ g
    obtain ⟨c, xs, ds0, Bs, rfl, rfl, hH, _, _⟩ := ow_rd h3
    refine ⟨_, h2, .inl ⟨rfl, xs, .inl (.inl hH)⟩, env, N, A, dx, env1, r, ea, fun y H1 N1 A1 By s1 r1 hy by1 => ?_⟩
    obtain ⟨d1, v1, k1, k2, k3⟩ := r1.sl i _ g1
    rw [h2] at k2
    cases k2
    rw [ei] at k1
    cases k1
    obtain ⟨c', xs1, ds, Bs1, e1, rfl, hH1, hA1, hall⟩ := ow_rd k3
    cases e1
    have ef : (@ite (Option _) (ds.length < sizeLine) (Classical.propDecidable _) (some (PyData.none, env1.set i (.list (ds ++ [dx])))) none) = some (d, env') := ef
    split at ef
    · rename_i hz
      cases ef
      refine ⟨c, xs1, y, rfl, rfl, hH1, by rw [hall.len]; exact hz, ?_⟩
      have mc : c ∈ A1 i := by rw [hA1]; exact List.mem_cons_self
      have nc := r1.dn i c mc
      have wc := r1.wd i c mc
      have nd := r1.nd i
      rw [hA1] at nd
      have nd := List.nodup_cons.mp nd
      have cy : c ∉ By := fun z => by1.ba c z ⟨i, mc⟩
      obtain ⟨s2, r2⟩ := mut1 (B := c :: (Bs1 ++ By)) s1 r1 by1 (RpM.trk m dx y By hy) hp g1 h2 mc (fun w z => by
        rcases List.mem_cons.mp z with z | z
        · exact .inl (z ▸ mc)
        · rcases List.mem_append.mp z with z | z
          · exact .inl (by rw [hA1]; exact List.mem_cons_of_mem _ z)
          · exact .inr z) (List.nodup_cons.mpr ⟨fun z => (List.mem_append.mp z).elim nd.1 cy, List.nodup_append.mpr ⟨nd.2, by1.bd, fun a z b z' e => by1.ba b z' ⟨i, by rw [hA1, ← e]; exact List.mem_cons_of_mem _ z⟩⟩⟩)
        (ow_mk (xs := xs1 ++ [y]) (ds := ds ++ [dx]) upd_same (AllM.snoc' (hall.off nc wc nd.1) (RpM.off hy nc wc cy)))
      exact q .non _ N1 _ [] s2 r2 (RpM.sh_of rp_non) Bok.nil
    · cases ef

/-! ### x[j].append(e) -/
def fApp2 (i : Nat) (fj : En → Option D) (fa : En → Option D) : En → Option (D × En) := fun e => (fj e).bind fun j => (fa e).bind fun x => (e[i]?).bind fun l => match l, j with
  | .list ds, .int k => (ixN ds.length k).bind fun n => (ds[n]?).bind fun r => match r with
    | .list rs => @ite (Option _) (rs.length < sizeLine) (Classical.propDecidable _) (some (.none, e.set i (.list (ds.set n (.list (rs ++ [x])))))) none
    | _ => none
  | _, _ => none
theorem atI_ixN {α : Type} {xs : List α} {k : Int} {n : Nat} {y : α} (h : ixN xs.length k = some n) (e : xs[n]? = some y) : atI xs k = some y := by
  obtain ⟨h1, h2, h3, h4⟩ := ixN_seq h
  unfold atI
  rw [h]
  exact e
/-- the place x[k] of a list of lists: its object, and how it is changed -/
theorem row_at {ds : List D} {v : V} {rs : List D} {k : Int} {n : Nat} (r : ER K W P H N G env σ A) (g : G[i]? = some (some (.ow (.ow m)))) (ei : env[i]? = some (.list ds)) (hv : σ[i]? = some (some v)) (en : ixN ds.length k = some n) (er : ds[n]? = some (.list rs)) :
    ∃ c xs b ys, v = .ref c ∧ H c = some (.lst xs) ∧ atI xs k = some (.ref b) ∧ H b = some (.lst ys) ∧ ys.length = rs.length ∧ b ∈ A i ∧ ∃ Cs, AllM (RpM K H N W m) rs ys Cs ∧ b ∉ Cs ∧ Cs.Nodup ∧ (∀ z ∈ Cs, z ∈ A i) ∧
      ∀ (ys' : List V) (rs' : List D) (Cs' By : List Addr), (∀ a ∈ Cs', a ∈ Cs ∨ a ∈ By) → (b :: Cs').Nodup → (∀ a ∈ By, ∀ j, a ∉ A j) → AllM (RpM K (upd H b (.lst ys')) N W m) rs' ys' Cs' →
        ∃ B, (∀ a ∈ B, a ∈ A i ∨ a ∈ By) ∧ B.Nodup ∧ RpM K (upd H b (.lst ys')) N W (.ow (.ow m)) (.list (ds.set n (.list rs'))) (.ref c) B := by
  obtain ⟨d1, v1, k1, k2, k3⟩ := r.sl i _ g
  rw [hv] at k2
  cases k2
  rw [ei] at k1
  cases k1
  obtain ⟨c, xs, ds', As, rfl, e1, hH, hA, hall⟩ := ow_rd k3
  cases e1
  obtain ⟨y, A1, B, A2, ey, eA, hB, hset⟩ := hall.get er
  obtain ⟨b, ys, rs', Cs, rfl, e1, hb, hBs, hrows⟩ := ow_rd hB
  cases e1
  subst hBs
  have nd := r.nd i
  rw [hA, eA] at nd
  have nd1 := List.nodup_cons.mp nd
  have nd2 := List.nodup_append.mp nd1.2
  have nd3 := List.nodup_append.mp nd2.2.1
  have nd4 := List.nodup_cons.mp nd3.1
  have mb : b ∈ A i := by rw [hA, eA]; simp
  have sz : xs.length = ds.length := hall.len
  have mem1 : ∀ z, z ∈ A1 → z ∈ A i := fun z h => by rw [hA, eA]; simp [h]
  have mem2 : ∀ z, z ∈ A2 → z ∈ A i := fun z h => by rw [hA, eA]; simp [h]
  have memC : ∀ z, z ∈ Cs → z ∈ A i := fun z h => by rw [hA, eA]; simp [h]
  have memc : c ∈ A i := by rw [hA]; simp
  refine ⟨c, xs, b, ys, rfl, hH, atI_ixN (by rw [sz]; exact en) ey, hb, hrows.len, mb, Cs, hrows, nd4.1, nd4.2, memC, fun ys' rs' Cs' By hC hd hBy hr => ?_⟩
  have nb := r.dn i b mb
  have wb := r.wd i b mb
  have cb : c ≠ b := fun z => nd1.1 (by rw [z]; simp)
  have hd2 := List.nodup_cons.mp hd
  refine ⟨c :: (A1 ++ ((b :: Cs') ++ A2)), fun a z => ?_, ?_, ?_⟩
  · rcases List.mem_cons.mp z with z | z
    · exact .inl (z ▸ memc)
    · rcases List.mem_append.mp z with z | z
      · exact .inl (mem1 a z)
      · rcases List.mem_append.mp z with z | z
        · rcases List.mem_cons.mp z with z | z
          · exact .inl (z ▸ mb)
          · exact (hC a z).imp (memC a) _root_.id
        · exact .inl (mem2 a z)
  · have out : ∀ a, a ∈ b :: Cs' → (a ∈ b :: Cs) ∨ a ∈ By := fun a z => by
      rcases List.mem_cons.mp z with z | z
      · exact .inl (z ▸ List.mem_cons_self)
      · exact (hC a z).imp (List.mem_cons_of_mem _) _root_.id
    refine List.nodup_cons.mpr ⟨fun z => ?_, List.nodup_append.mpr ⟨nd2.1, List.nodup_append.mpr ⟨hd, nd3.2.1, fun a z a' z' e => ?_⟩, fun a z a' z' e => ?_⟩⟩
    · rcases List.mem_append.mp z with z | z
      · exact nd1.1 (List.mem_append_left _ z)
      · rcases List.mem_append.mp z with z | z
        · rcases out c z with z | z
          · exact nd1.1 (List.mem_append_right _ (List.mem_append_left _ z))
          · exact hBy c z i memc
        · exact nd1.1 (List.mem_append_right _ (List.mem_append_right _ z))
    · subst e
      rcases out a z with z | z
      · exact nd3.2.2 a z a z' rfl
      · exact hBy a z i (mem2 a z')
    · subst e
      rcases List.mem_append.mp z' with z' | z'
      · rcases out a z' with w | w
        · exact nd2.2.2 a z a (List.mem_append_left _ w) rfl
        · exact hBy a w i (mem1 a z)
      · exact nd2.2.2 a z a (List.mem_append_right _ z') rfl
  · have hx : xs.set n (.ref b) = xs := by
      refine List.ext_getElem? fun j => ?_
      rw [List.getElem?_set]
      split
      · rename_i e
        subst e
        split
        · exact ey.symm
        · rename_i h; rw [List.getElem?_eq_none (by omega)]
      · rfl
    refine ow_mk (xs := xs) (by rw [upd_ne cb]; exact hH) ?_
    have := hset (RpM K (upd H b (.lst ys')) N W (.ow m)) (.list rs') (.ref b) (b :: Cs') (fun d v C hc q => q.off nb wb fun z => ?_) (ow_mk upd_same hr)
    · rw [hx] at this; exact this
    · rcases hc b z with z | z
      · exact nd2.2.2 b z b (List.mem_append_left _ List.mem_cons_self) rfl
      · exact nd3.2.2 b List.mem_cons_self b z rfl
theorem e_app2 {j : Expr} {fj : En → Option D} {fa : En → Option D} {ps : Pos} (hN : X.N[i]? = some x) (hv : Vis X.env.scope x) (g : G[i]? = some (some (.ow (.ow m)))) (hj : PE X j (tK X.K W P G fj)) (ha : PE X e (tQ X.K W P G m fa)) (hp : ∀ v od, P i = some (v, od) → od = none)
    (hd : (x == ("__debug__" : Str)) = false := by decide) (hcd : (x == ("__classdict__" : Str)) = false := by decide) (hix : PlainIx j := by exact fun _ _ => rfl)
    (hbase : attributeBase (.Subscript (.Name x px) j ps) "append" X.env (eval (.Subscript (.Name x px) j ps) X.env) = eval (.Subscript (.Name x px) j ps) X.env := by rfl)
    (hfew : ((backTo cpos (starEach [e] X.env)).all (fun x => !x.1) && (backToKw cpos (keywordEach [] X.env)).all (fun x => x.1.isSome) && decide ([e].length + ([] : List Keyword).length + (if ([] : List Keyword).isEmpty then 0 else 1) < 30)) = true := by rfl)
    (hline : (apos.endLine == cpos.line) = true := by rfl) (hs : starEach [e] X.env = (false, eval e X.env) :: starEach [] X.env := by rfl) (hplain : (backTo cpos (starEach [] X.env)).any (·.1) = false := by rfl) :
    PE X (.Call (.Attribute (.Subscript (.Name x px) j ps) "append" apos) [e] [] cpos) (tE X.K W P G G .sh (fApp2 i fj fa)) :=
  pe_weak (pe_bm F.plainAttrs_list F.slot_list_append F.type_list_append mt_append (pe_ix ix_seq (pe_var hN hv hd hcd) hj hix) (pa_cons ha pa_nil hs) hbase hfew hline hs hplain) fun σ H Q ⟨env, N, A, d, env', r, ef, q⟩ => by
    obtain ⟨dj, ej, ef⟩ := opt_bind ef
    obtain ⟨dx, ea, ef⟩ := opt_bind ef
    obtain ⟨dl, ei, ef⟩ := opt_bind ef
    obtain ⟨d0, v0, h1, h2, h3⟩ := r.sl i _ g
    cases dl with
    | list ds =>
      cases dj with
      | int k =>
        obtain ⟨n, en, ef⟩ := opt_bind ef
        obtain ⟨dr, er, ef⟩ := opt_bind ef
        cases dr with
        | list rs =>
          have ef : (@ite (Option _) (rs.length < sizeLine) (Classical.propDecidable _) (some (PyData.none, env.set i (.list (ds.set n (.list (rs ++ [dx])))))) none) = some (d, env') := ef
          split at ef
          · rename_i hz
            cases ef
            refine ⟨_, h2, env, N, A, _, r, ej, fun vk H0 N0 ex hk => ?_⟩
            have r0 := r.ext ex
            obtain ⟨c, xs, b, ys, rfl, hH, hat, hb, _, _, _⟩ := row_at r0 g ei h2 en er
            refine .inl ⟨c, xs, k, .ref b, rfl, rp_int_v hk, .inl (.inl hH), hat, .inl ⟨rfl, ys, .inl (.inl hb)⟩, env, N0, A, dx, r0, ea, fun y H1 N1 By ex1 hy => ?_⟩
            have r1 := r0.ext ex1
            have by1 := r0.bok ex1
            obtain ⟨c', xs', b', ys1, e1, hH1, hat1, hb1, hlen, mb, Cs, hrows, nC, ndC, mC, fin⟩ := row_at r1 g ei h2 en er
            cases e1
            have hx : xs' = xs := by
              have z := ex1.gr c _ hH
              rw [hH1] at z
              cases z
              rfl
            subst hx
            have hb' : b' = b := by
              rw [hat] at hat1
              cases hat1
              rfl
            subst hb'
            have ty := RpM.trk m dx y By hy
            have nb := r1.dn i _ mb
            have wb := r1.wd i _ mb
            have cy : b' ∉ By := fun z => by1.ba _ z ⟨i, mb⟩
            refine ⟨b', ys1, y, rfl, rfl, hb1, by rw [hlen]; exact hz, ?_⟩
            obtain ⟨B, hB1, hB2, hB3⟩ := fin (ys1 ++ [y]) (rs ++ [dx]) (Cs ++ By) By (fun a z => List.mem_append.mp z) (List.nodup_cons.mpr ⟨fun z => (List.mem_append.mp z).elim nC cy, List.nodup_append.mpr ⟨ndC, by1.bd, fun a z a' z' e => by1.ba a' z' ⟨i, mC _ (e ▸ z)⟩⟩⟩) (fun a z j w => by1.ba a z ⟨j, w⟩) (AllM.snoc' (hrows.off nb wb nC) (RpM.off hy nb wb cy))
            obtain ⟨s2, r2⟩ := mut1 ((ex.trans ex1).stp (A := A)) r1 by1 ty hp g h2 mb hB1 hB2 hB3
            exact q .non _ N1 _ [] s2 r2 (RpM.sh_of rp_non) Bok.nil
          · cases ef
        | _ => cases ef
      | _ => cases ef
    | _ => cases ef
end
end T3
end
set_option Elab.async false
set_option linter.all false
set_option maxRecDepth 100000
set_option maxHeartbeats 1000000
noncomputable section
namespace T3
open PySem PySem.Spec PyProof.Rows L2
section
variable {X : Cx} {c : Cc} {e a b o j : Expr} {K : Frg} {W : Addr → Prop} {P : Pin} {G G' G1 G2 Gb : Gm} {m : Md} {pos p px apos cpos ps : Pos} {x : Str} {i : Nat}

/-! ### x[j] = e -/
def sSetI (i : Nat) (fa fj : En → Option (D × En)) : En → Option Fl := fun e => (fa e).bind fun x => (fj x.2).bind fun j => (j.2[i]?).bind fun l => match l, j.1 with
  | .list ds, .int k => (ixN ds.length k).bind fun n => some (.nx (j.2.set i (.list (ds.set n x.1))))
  | _, _ => none
theorem ixN_lt {n : Nat} {k : Int} {j : Nat} (h : ixN n k = some j) : j < n := (ixN_seq h).2.1
theorem AllM.drop1 {Q : D → V → List Addr → Prop} {ds : List D} {xs : List V} {A : List Addr} {k : Nat} (h : AllM Q ds xs A) (hk : k < ds.length) : ∃ A1 B A2, A = A1 ++ (B ++ A2) ∧
    ∀ (Q' : D → V → List Addr → Prop) d' x' B', (∀ d v C, (∀ a ∈ C, a ∈ A1 ∨ a ∈ A2) → Q d v C → Q' d v C) → Q' d' x' B' → AllM Q' (ds.set k d') (xs.set k x') (A1 ++ (B' ++ A2)) := by
  obtain ⟨x, A1, B, A2, _, e, _, f⟩ := h.get (List.getElem?_eq_getElem hk)
  exact ⟨A1, B, A2, e, f⟩
theorem s_setI {fa fj : En → Option (D × En)} (hN : X.N[i]? = some x) (hv : Vis X.env.scope x) (ha : PE X e (tE X.K W P G G1 m fa)) (hj : PE X j (tE X.K W P G1 G2 .sh fj)) (g1 : G1[i]? = some (some (.ow m))) (g2 : G2[i]? = some (some (.ow m)))
    (hK : c.K = X.K) (hW : c.W = W) (hP : c.P = P) (hp : ∀ v od, P i = some (v, od) → od = none)
    (hd : (x == ("__debug__" : Str)) = false := by decide) (hcd : (x == ("__classdict__" : Str)) = false := by decide)
    (hsub : ∀ v, assign (.Subscript (.Name x px) j ps) X.env v = (do
      let ov ← holding [v] (eval (.Name x px) X.env)
      let iv ← holding [v, ov] (eval j X.env)
      standAt ps
      holding [v, ov, iv] (setItem ov iv v)
      release [v, ov, iv] []) := by intro _; rfl)
    (hs : swapsWithSole [.Subscript (.Name x px) j ps] e pos.line X.env = pure false := by rfl) (hw : swappedStores [.Subscript (.Name x px) j ps] e X.env = pure none := by rfl)
    (h1 : (assignEach [.Subscript (.Name x px) j ps] X.env).map (·.2) = [assign (.Subscript (.Name x px) j ps) X.env] := by rfl) :
    PS X (.Assign [.Subscript (.Name x px) j ps] e pos) (tS c G G2 Gb (sSetI i fa fj)) :=
  ps_weak (ps_asg ha (pg_sub (pe_var hN hv hd hcd) hj set_list hsub) hs hw h1) fun D σ H ⟨env, N, A, rr, r, ef, q⟩ => by
    obtain ⟨K, W', P', Gr, mr⟩ := c
    simp only at hK hW hP
    subst hK hW hP
    obtain ⟨⟨dx, env1⟩, ea, ef⟩ := opt_bind ef
    obtain ⟨⟨dj, env2⟩, ej, ef⟩ := opt_bind ef
    obtain ⟨dl, ei, ef⟩ := opt_bind ef
    refine ⟨env, N, A, dx, env1, r, ea, fun y H1 N1 A1 By s1 r1 hy by1 => ?_⟩
    obtain ⟨d0, v0, h1, h2, h3⟩ := r1.sl i _ g1
    refine ⟨_, h2, env1, N1, A1, dj, env2, r1, ej, fun vk H2 N2 A2 Bk s2 r2 hk bk => ?_⟩
    obtain ⟨d1, v1, k1, k2, k3⟩ := r2.sl i _ g2
    rw [h2] at k2
    cases k2
    rw [ei] at k1
    cases k1
    cases dl with
    | list ds =>
      cases dj with
      | int k =>
        obtain ⟨n, en, ef⟩ := opt_bind ef
        cases ef
        obtain ⟨cc, xs1, ds', Bs1, rfl, e1, hH1, hA1, hall⟩ := ow_rd k3
        cases e1
        unfold RpM at hk
        obtain ⟨hk, rfl⟩ := hk
        have hy2 := s2.val r1 by1 hy
        have by2 := s2.bok by1 hy
        refine ⟨cc, xs1, k, n, rfl, rp_int_v hk, hH1, by rw [hall.len]; exact en, ?_⟩
        have mc : cc ∈ A2 i := by rw [hA1]; exact List.mem_cons_self
        have nc := r2.dn i cc mc
        have wc := r2.wd i cc mc
        have nd := r2.nd i
        rw [hA1] at nd
        have nd := List.nodup_cons.mp nd
        have cy : cc ∉ By := fun z => by2.ba cc z ⟨i, mc⟩
        obtain ⟨C1, Bo, C2, eB, fset⟩ := hall.drop1 (ixN_lt en)
        subst eB
        have nd2 := List.nodup_append.mp nd.2
        have nd3 := List.nodup_append.mp nd2.2.1
        have m1 : ∀ a, a ∈ C1 → a ∈ A2 i := fun a z => by rw [hA1]; simp [z]
        have m2 : ∀ a, a ∈ C2 → a ∈ A2 i := fun a z => by rw [hA1]; simp [z]
        have s12 := s1.trans s2
        have st : Stp H N A H2 N2 A2 By := ⟨s12.keep, s12.trk, s12.own, fun a z => by
          rcases s1.bf a z with z' | z'
          · exact .inl z'
          · exact .inr z', s12.up, s12.fz⟩
        obtain ⟨s3, r3⟩ := mut1 (u := .lst (xs1.set n y)) (d := .list (ds.set n dx)) (B := cc :: (C1 ++ (By ++ C2))) st r2 by2 (RpM.trk m dx y By hy2) hp g2 h2 mc (fun w z => by
          rcases List.mem_cons.mp z with z | z
          · exact .inl (z ▸ mc)
          · rcases List.mem_append.mp z with z | z
            · exact .inl (m1 w z)
            · rcases List.mem_append.mp z with z | z
              · exact .inr z
              · exact .inl (m2 w z)) (List.nodup_cons.mpr ⟨fun z => by
          rcases List.mem_append.mp z with z | z
          · exact nd.1 (List.mem_append_left _ z)
          · rcases List.mem_append.mp z with z | z
            · exact cy z
            · exact nd.1 (List.mem_append_right _ (List.mem_append_right _ z)), List.nodup_append.mpr ⟨nd2.1, List.nodup_append.mpr ⟨by2.bd, nd3.2.1, fun a z a' z' e => by2.ba a z ⟨i, m2 a (e ▸ z')⟩⟩, fun a z a' z' e => by
          subst e
          rcases List.mem_append.mp z' with z' | z'
          · exact by2.ba a z' ⟨i, m1 a z⟩
          · exact nd2.2.2 a z a (List.mem_append_right _ z') rfl⟩⟩)
          (ow_mk upd_same (fset _ _ _ _ (fun d v C hc q => q.off nc wc fun z => by
            rcases hc cc z with z | z
            · exact nd.1 (List.mem_append_left _ z)
            · exact nd.1 (List.mem_append_right _ (List.mem_append_right _ z))) (RpM.off hy2 nc wc cy)))
        exact q σ _ N2 _ s3 r3
      | _ => cases ef
    | _ => cases ef

/-! ### x[i][j] = e -/
def sSetI2 (i : Nat) (fa : En → Option (D × En)) (fi fj : En → Option D) : En → Option Fl := fun e => (fa e).bind fun x => (fi x.2).bind fun k => (fj x.2).bind fun j => (x.2[i]?).bind fun l => match l, k, j with
  | .list ds, .int k, .int j => (ixN ds.length k).bind fun n => (ds[n]?).bind fun r => match r with
    | .list rs => (ixN rs.length j).bind fun n2 => some (.nx (x.2.set i (.list (ds.set n (.list (rs.set n2 x.1))))))
    | _ => none
  | _, _, _ => none
theorem s_setI2 {j1 : Expr} {ps1 : Pos} {fa : En → Option (D × En)} {fi fj : En → Option D} (hN : X.N[i]? = some x) (hv : Vis X.env.scope x) (ha : PE X e (tE X.K W P G G1 .sh fa)) (hi : PE X j1 (tK X.K W P G1 fi)) (hj : PE X j (tK X.K W P G1 fj)) (g1 : G1[i]? = some (some (.ow (.ow .sh))))
    (hK : c.K = X.K) (hW : c.W = W) (hP : c.P = P) (hp : ∀ v od, P i = some (v, od) → od = none)
    (hd : (x == ("__debug__" : Str)) = false := by decide) (hcd : (x == ("__classdict__" : Str)) = false := by decide) (hix : PlainIx j1 := by exact fun _ _ => rfl)
    (hsub : ∀ v, assign (.Subscript (.Subscript (.Name x px) j1 ps1) j ps) X.env v = (do
      let ov ← holding [v] (eval (.Subscript (.Name x px) j1 ps1) X.env)
      let iv ← holding [v, ov] (eval j X.env)
      standAt ps
      holding [v, ov, iv] (setItem ov iv v)
      release [v, ov, iv] []) := by intro _; rfl)
    (hs : swapsWithSole [.Subscript (.Subscript (.Name x px) j1 ps1) j ps] e pos.line X.env = pure false := by rfl) (hw : swappedStores [.Subscript (.Subscript (.Name x px) j1 ps1) j ps] e X.env = pure none := by rfl)
    (h1 : (assignEach [.Subscript (.Subscript (.Name x px) j1 ps1) j ps] X.env).map (·.2) = [assign (.Subscript (.Subscript (.Name x px) j1 ps1) j ps) X.env] := by rfl) :
    PS X (.Assign [.Subscript (.Subscript (.Name x px) j1 ps1) j ps] e pos) (tS c G G1 Gb (sSetI2 i fa fi fj)) :=
  ps_weak (ps_asg ha (pg_sub (pe_ix ix_seq (pe_var hN hv hd hcd) hi hix) hj set_list hsub) hs hw h1) fun D σ H ⟨env, N, A, rr, r, ef, q⟩ => by
    obtain ⟨K, W', P', Gr, mr⟩ := c
    simp only at hK hW hP
    subst hK hW hP
    obtain ⟨⟨dx, env1⟩, ea, ef⟩ := opt_bind ef
    obtain ⟨dk, ek, ef⟩ := opt_bind ef
    obtain ⟨dj, ej, ef⟩ := opt_bind ef
    obtain ⟨dl, ei, ef⟩ := opt_bind ef
    refine ⟨env, N, A, dx, env1, r, ea, fun y H1 N1 A1 By s1 r1 hy by1 => ?_⟩
    obtain ⟨d0, v0, h1, h2, h3⟩ := r1.sl i _ g1
    refine ⟨_, h2, env1, N1, A1, dk, r1, ek, fun vk H2 N2 ex2 hk => ?_⟩
    have r2 := r1.ext ex2
    cases dl with
    | list ds =>
      cases dk with
      | int k =>
        cases dj with
        | int jj =>
          obtain ⟨n, en, ef⟩ := opt_bind ef
          obtain ⟨dr, er, ef⟩ := opt_bind ef
          cases dr with
          | list rs =>
            obtain ⟨n2, en2, ef⟩ := opt_bind ef
            cases ef
            obtain ⟨cc, xs, bb, ys, rfl, hH, hat, hb, hlen, mb, Cs, hrows, nC, ndC, mC, fin⟩ := row_at r2 g1 ei h2 en er
            refine .inl ⟨cc, xs, k, .ref bb, rfl, rp_int_v hk, .inl (.inl hH), hat, env1, N2, A1, _, r2, ej, fun vj H3 N3 ex3 hj3 => ?_⟩
            have r3 := r2.ext ex3
            obtain ⟨cc', xs', bb', ys1, e1, hH1, hat1, hb1, hlen, mb, Cs, hrows, nC, ndC, mC, fin⟩ := row_at r3 g1 ei h2 en er
            cases e1
            have hx : xs' = xs := by
              have z := ex3.gr _ _ hH
              rw [hH1] at z
              cases z
              rfl
            subst hx
            have hb' : bb' = bb := by
              rw [hat] at hat1
              cases hat1
              rfl
            subst hb'
            have hy3 := ((ex2.trans ex3).stp (A := A1)).val r1 by1 hy
            unfold RpM at hy3
            obtain ⟨hy3, rfl⟩ := hy3
            obtain ⟨hrl, hCs⟩ := hrows.sh
            subst hCs
            refine ⟨bb', ys1, jj, n2, rfl, rp_int_v hj3, hb1, by rw [hlen]; exact en2, ?_⟩
            have nb := r3.dn i _ mb
            have hrows2 : RpL X.K (upd H3 bb' (.lst (ys1.set n2 y))) N3 (rs.set n2 dx) (ys1.set n2 y) := by
              have kp : Keeps H3 N3 (upd H3 bb' (.lst (ys1.set n2 y))) N3 := fun a o e n => ⟨by rw [upd_ne (fun (z : a = bb') => nb (z ▸ n))]; exact e, n⟩
              exact RpL.mono kp _ _ (hrl.set n2 hy3)
            obtain ⟨B, hB1, hB2, hB3⟩ := fin (ys1.set n2 y) (rs.set n2 dx) [] [] (fun a z => .inl z) (by simp) (fun a z => (nomatch z)) (AllM.of_sh hrows2)
            have s3 : Stp H N A H3 N3 A1 [] := s1.trans ((ex2.trans ex3).drop.stp)
            obtain ⟨s4, r4⟩ := mut1 s3 r3 Bok.nil (fun a z => (nomatch z)) hp g1 h2 mb hB1 hB2 hB3
            exact q σ _ N3 _ s4 r4
          | _ => cases ef
        | _ => cases ef
      | _ => cases ef
    | _ => cases ef

/-! ### x.pop(), x.pop(j) -/
def fPop (i : Nat) : En → Option (D × En) := fun e => (e[i]?).bind fun l => match l with
  | .list ds => (ds[ds.length - 1]?).bind fun d => some (d, e.set i (.list ds.dropLast))
  | _ => none
def fPopA (i : Nat) (fa : En → Option (D × En)) : En → Option (D × En) := fun e => (fa e).bind fun x => (x.2[i]?).bind fun l => match l, x.1 with
  | .list ds, .int k => @ite (Option _) (-(2 ^ 63) ≤ k ∧ k < 2 ^ 63) (Classical.propDecidable _) ((ixN ds.length k).bind fun n => (ds[n]?).bind fun d => some (d, x.2.set i (.list (ds.eraseIdx n)))) none
  | _, _ => none
theorem RpL.dropLast {H : Hp} {N : Addr → Prop} {ds : List D} {xs : List V} (r : RpL K H N ds xs) : RpL K H N ds.dropLast xs.dropLast := by
  rw [List.dropLast_eq_take, List.dropLast_eq_take, r.len]
  exact RpL.take _ r
theorem rows_put {H : Hp} {N : Addr → Prop} {cc : Addr} {u : HO} {ds : List D} {xs : List V} (nc : ¬ N cc) (r : RpL K H N ds xs) : RpL K (upd H cc u) N ds xs :=
  RpL.mono (fun a o e n => ⟨by rw [upd_ne (fun (z : a = cc) => nc (z ▸ n))]; exact e, n⟩) _ _ r
theorem Rp.put {H : Hp} {N : Addr → Prop} {cc : Addr} {u : HO} {d : D} {v : V} (nc : ¬ N cc) (r : Rp K H N d v) : Rp K (upd H cc u) N d v :=
  Rp.mono (fun a o e n => ⟨by rw [upd_ne (fun (z : a = cc) => nc (z ▸ n))]; exact e, n⟩) _ _ r
/-- a flat list of one's own is changed -/
theorem mutF {H H0 : Hp} {N N0 : Addr → Prop} {A A0 : Ow} {env : En} {σ : L2.St} {cc : Addr} {ys : List V} {rs : List D} (s : Stp H0 N0 A0 H N A []) (r : ER K W P H N G env σ A) (hp : ∀ v od, P i = some (v, od) → od = none) (g : G[i]? = some (some (.ow .sh))) (hv : σ[i]? = some (some (.ref cc)))
    (hA : A i = [cc]) (h : RpL K H N rs ys) : Stp H0 N0 A0 (upd H cc (.lst ys)) N (A.put i [cc]) [] ∧ ER K W P (upd H cc (.lst ys)) N G (env.set i (.list rs)) σ (A.put i [cc]) := by
  have mc : cc ∈ A i := by rw [hA]; simp
  exact mut1 s r Bok.nil (fun a z => (nomatch z)) hp g hv mc (fun a z => .inl (by rw [hA]; exact z)) (by simp) (ow_mk upd_same (AllM.of_sh (rows_put (r.dn i cc mc) h)))
theorem flat_at {H : Hp} {N : Addr → Prop} {A : Ow} {env : En} {σ : L2.St} (r : ER K W P H N G env σ A) (g : G[i]? = some (some (.ow .sh))) : ∃ cc xs ds, env[i]? = some (.list ds) ∧ σ[i]? = some (some (.ref cc)) ∧ H cc = some (.lst xs) ∧ A i = [cc] ∧ RpL K H N ds xs := by
  obtain ⟨d0, v0, h1, h2, h3⟩ := r.sl i _ g
  obtain ⟨cc, xs, ds, Bs, rfl, rfl, hH, hA, hall⟩ := ow_rd h3
  obtain ⟨hr, rfl⟩ := hall.sh
  exact ⟨cc, xs, ds, h1, h2, hH, hA, hr⟩
theorem e_pop (hN : X.N[i]? = some x) (hv : Vis X.env.scope x) (g : G[i]? = some (some (.ow .sh))) (hp : ∀ v od, P i = some (v, od) → od = none)
    (hd : (x == ("__debug__" : Str)) = false := by decide) (hcd : (x == ("__classdict__" : Str)) = false := by decide)
    (hbase : attributeBase (.Name x px) "pop" X.env (eval (.Name x px) X.env) = eval (.Name x px) X.env := by rfl) (hline : (apos.endLine == cpos.line) = true := by rfl) :
    PE X (.Call (.Attribute (.Name x px) "pop" apos) [] [] cpos) (tE X.K W P G G .sh (fPop i)) :=
  pe_weak (pe_bm0 F.plainAttrs_list F.slot_list_pop F.type_list_pop mt_pop (pe_var hN hv hd hcd) hbase hline) fun σ H Q ⟨env, N, A, d, env', r, ef, q⟩ => by
    obtain ⟨dl, ei, ef⟩ := opt_bind ef
    obtain ⟨cc, xs, ds, h1, h2, hH, hA, hr⟩ := flat_at r g
    rw [ei] at h1
    cases h1
    obtain ⟨dd, ed, ef⟩ := opt_bind ef
    cases ef
    obtain ⟨y, ey, hy⟩ := hr.get ed
    refine ⟨_, h2, .inl ⟨rfl, xs, .inl (.inl hH)⟩, cc, xs, y, rfl, rfl, hH, by rw [hr.len]; exact ey, ?_⟩
    obtain ⟨s2, r2⟩ := mutF Stp.refl r hp g h2 hA hr.dropLast
    exact q y _ N _ [] s2 r2 (RpM.sh_of (hy.put (r.dn i cc (by rw [hA]; simp)))) Bok.nil
theorem e_popA {fa : En → Option (D × En)} (hN : X.N[i]? = some x) (hv : Vis X.env.scope x) (g : G[i]? = some (some (.ow .sh))) (g1 : G1[i]? = some (some (.ow .sh))) (ha : PE X e (tE X.K W P G G1 .sh fa)) (hp : ∀ v od, P i = some (v, od) → od = none)
    (hd : (x == ("__debug__" : Str)) = false := by decide) (hcd : (x == ("__classdict__" : Str)) = false := by decide)
    (hbase : attributeBase (.Name x px) "pop" X.env (eval (.Name x px) X.env) = eval (.Name x px) X.env := by rfl)
    (hfew : ((backTo cpos (starEach [e] X.env)).all (fun x => !x.1) && (backToKw cpos (keywordEach [] X.env)).all (fun x => x.1.isSome) && decide ([e].length + ([] : List Keyword).length + (if ([] : List Keyword).isEmpty then 0 else 1) < 30)) = true := by rfl)
    (hline : (apos.endLine == cpos.line) = true := by rfl) (hs : starEach [e] X.env = (false, eval e X.env) :: starEach [] X.env := by rfl) (hplain : (backTo cpos (starEach [] X.env)).any (·.1) = false := by rfl) :
    PE X (.Call (.Attribute (.Name x px) "pop" apos) [e] [] cpos) (tE X.K W P G G1 .sh (fPopA i fa)) :=
  pe_weak (pe_bm F.plainAttrs_list F.slot_list_pop F.type_list_pop mt_popAt (pe_var hN hv hd hcd) (pa_cons ha pa_nil hs) hbase hfew hline hs hplain) fun σ H Q ⟨env, N, A, d, env', r, ef, q⟩ => by
    obtain ⟨⟨dx, env1⟩, ea, ef⟩ := opt_bind ef
    obtain ⟨dl, ei, ef⟩ := opt_bind ef
    obtain ⟨c0, xs0, ds0, _, h2, hH0, _, _⟩ := flat_at r g
    refine ⟨_, h2, .inl ⟨rfl, xs0, .inl (.inl hH0)⟩, env, N, A, dx, env1, r, ea, fun y H1 N1 A1 By s1 r1 hy by1 => ?_⟩
    obtain ⟨cc, xs, ds, h1', h2', hH, hA, hr⟩ := flat_at r1 g1
    rw [h2] at h2'
    cases h2'
    rw [ei] at h1'
    cases h1'
    unfold RpM at hy
    obtain ⟨hy, rfl⟩ := hy
    cases dx with
    | int k =>
      have ef : (@ite (Option _) (-(2 ^ 63) ≤ k ∧ k < 2 ^ 63) (Classical.propDecidable _) ((ixN ds.length k).bind fun n => (ds[n]?).bind fun d => some (d, env1.set i (PyData.list (ds.eraseIdx n)))) none) = some (d, env') := ef
      split at ef
      · rename_i hk
        obtain ⟨n, en, ef⟩ := opt_bind ef
        obtain ⟨dd, ed, ef⟩ := opt_bind ef
        cases ef
        obtain ⟨z, ez, hz⟩ := hr.get ed
        refine ⟨_, xs, k, n, z, rfl, by rw [rp_int_v hy], hH, hk.1, hk.2, by rw [hr.len]; exact (ixN_seq en).1, ez, ?_⟩
        obtain ⟨s2, r2⟩ := mutF s1 r1 hp g1 h2 hA (hr.eraseIdx n)
        exact q z _ N1 _ [] s2 r2 (RpM.sh_of (hz.put (r1.dn i _ (by rw [hA]; simp)))) Bok.nil
      · cases ef
    | _ => cases ef

/-! ### x.extend(e) -/
def rExtL (K : Frg) : V → List V → Hp → VK → Prop := fun x vs H Q => ∃ l b xs zs, x = .ref l ∧ vs = [.ref b] ∧ H l = some (.lst xs) ∧ (Rd H b (.lst zs) ∨ KL K b zs) ∧ xs.length + zs.length ≤ sizeLine ∧ Q .non (upd H l (.lst (xs ++ zs)))
theorem exact_list {pins : List (Addr × Obj)} {σ : L2.St} {H : Hp} {s : Shared} {b : Addr} {xs : List V} (I : Inv X pins σ H s) (h : Rd H b (.lst xs) ∨ KL X.K b xs) : ∃ (its : List Value) (n : Nat), Vals xs its ∧ s.heap.get? b = some { cls := .type "list", data := .seq its.toArray n } := by
  rcases h with h | ⟨its, n, hk, hz, r⟩
  · obtain ⟨z, its, n, r, e⟩ := h.ok I.hok
    exact ⟨its, n, r, e⟩
  · exact ⟨its.toList, n, r, by rw [Array.toArray_toList]; exact I.kIn b _ hk⟩
theorem mt_extL : MtM X "list.extend" (rExtL X.K) := by
  intro pins s σ H x vs v us Q I rx rv h
  obtain ⟨l, b, xs, zs, rfl, rfl, hH, hB, hz, q⟩ := h
  cases rx
  obtain ⟨u, rfl, ru⟩ := rv.one
  cases ru
  obtain ⟨z, its, n, r, hl, e⟩ := I.lstM hH
  obtain ⟨its2, n2, r2, e2⟩ := exact_list I hB
  have hl2 := r2.length
  have hsz : its.toArray.size + its2.toArray.size ≤ sizeLine := by rw [List.size_toArray, List.size_toArray]; omega
  have hlong : ¬ (!its.toArray.isEmpty && Builtin.List.listTooLong (its.toArray.size + its2.toArray.size)) = true := by
    rw [notLongL hsz, Bool.and_false]
    exact Bool.false_ne_true
  refine call_meets F.slot_list_extend ⟨_, e, rfl⟩ F.entry_list_extend (F.args_list_extend_2 _ _)
    (AutoSeq1.list_extend_list_list_0 l its.toArray n b its2.toArray n2 hlong (by rw [List.size_toArray]; omega) (by omega)) ⟨e, e2, ?_⟩
  refine ⟨.non, _, I.lset (its' := its ++ its2) hH e (by simp) (r.append r2) ?_, rfl, q⟩
  rw [List.length_append]
  omega
def fExt (i : Nat) (fa : En → Option (D × En)) : En → Option (D × En) := fun e => (fa e).bind fun x => (x.2[i]?).bind fun l => match l, x.1 with
  | .list ds, .list es => @ite (Option _) (ds.length + es.length ≤ sizeLine) (Classical.propDecidable _) (some (.none, x.2.set i (.list (ds ++ es)))) none
  | _, _ => none
theorem e_ext {fa : En → Option (D × En)} (hN : X.N[i]? = some x) (hv : Vis X.env.scope x) (g : G[i]? = some (some (.ow .sh))) (g1 : G1[i]? = some (some (.ow .sh))) (ha : PE X e (tE X.K W P G G1 .sh fa)) (hp : ∀ v od, P i = some (v, od) → od = none)
    (hd : (x == ("__debug__" : Str)) = false := by decide) (hcd : (x == ("__classdict__" : Str)) = false := by decide)
    (hbase : attributeBase (.Name x px) "extend" X.env (eval (.Name x px) X.env) = eval (.Name x px) X.env := by rfl)
    (hfew : ((backTo cpos (starEach [e] X.env)).all (fun x => !x.1) && (backToKw cpos (keywordEach [] X.env)).all (fun x => x.1.isSome) && decide ([e].length + ([] : List Keyword).length + (if ([] : List Keyword).isEmpty then 0 else 1) < 30)) = true := by rfl)
    (hline : (apos.endLine == cpos.line) = true := by rfl) (hs : starEach [e] X.env = (false, eval e X.env) :: starEach [] X.env := by rfl) (hplain : (backTo cpos (starEach [] X.env)).any (·.1) = false := by rfl) :
    PE X (.Call (.Attribute (.Name x px) "extend" apos) [e] [] cpos) (tE X.K W P G G1 .sh (fExt i fa)) :=
  pe_weak (pe_bm F.plainAttrs_list F.slot_list_extend F.type_list_extend mt_extL (pe_var hN hv hd hcd) (pa_cons ha pa_nil hs) hbase hfew hline hs hplain) fun σ H Q ⟨env, N, A, d, env', r, ef, q⟩ => by
    obtain ⟨⟨dx, env1⟩, ea, ef⟩ := opt_bind ef
    obtain ⟨dl, ei, ef⟩ := opt_bind ef
    obtain ⟨c0, xs0, ds0, _, h2, hH0, _, _⟩ := flat_at r g
    refine ⟨_, h2, .inl ⟨rfl, xs0, .inl (.inl hH0)⟩, env, N, A, dx, env1, r, ea, fun y H1 N1 A1 By s1 r1 hy by1 => ?_⟩
    obtain ⟨cc, xs, ds, h1', h2', hH, hA, hr⟩ := flat_at r1 g1
    rw [h2] at h2'
    cases h2'
    rw [ei] at h1'
    cases h1'
    unfold RpM at hy
    obtain ⟨hy, rfl⟩ := hy
    cases dx with
    | list es =>
      have ef : (@ite (Option _) (ds.length + es.length ≤ sizeLine) (Classical.propDecidable _) (some (PyData.none, env1.set i (PyData.list (ds ++ es)))) none) = some (d, env') := ef
      split at ef
      · rename_i hz
        cases ef
        obtain ⟨bb, zs, rfl, hb, hzs⟩ := hy.root
        refine ⟨_, bb, xs, zs, rfl, rfl, hH, hb, by rw [hr.len, hzs.len]; exact hz, ?_⟩
        obtain ⟨s2, r2⟩ := mutF s1 r1 hp g1 h2 hA (hr.append hzs)
        exact q .non _ N1 _ [] s2 r2 (RpM.sh_of rp_non) Bok.nil
      · cases ef
    | _ => cases ef
end
end T3
end
set_option Elab.async false
set_option linter.all false
set_option maxRecDepth 100000
set_option maxHeartbeats 1000000
noncomputable section
namespace T3
open PySem PySem.Spec PyProof.Rows L2

/-! ### dicts -/
def dkey : D → Option Key
  | .int i => some (.inl i)
  | .str x => some (.inr x)
  | _ => none
def dkeys : List D → Option (List Key)
  | [] => some []
  | d :: ds => (dkey d).bind fun k => (dkeys ds).bind fun ks => some (k :: ks)
def tkey : D → Option (List Key)
  | .tuple ds => dkeys ds
  | _ => none
/-- one key -/
def sameKey (a b : D) : Bool := match dkey a, dkey b with
  | some x, some y => decide (x = y)
  | none, none => match tkey a, tkey b with
    | some x, some y => decide (x = y)
    | _, _ => false
  | _, _ => false
def putD (kvs : List (D × D)) (k v : D) : List (D × D) := if (kvs.any fun kv => sameKey kv.1 k) = true then kvs.map (fun kv => if sameKey kv.1 k = true then (kv.1, v) else kv) else kvs ++ [(k, v)]
def getD (kvs : List (D × D)) (k : D) : Option D := (kvs.find? fun kv => sameKey kv.1 k).map (·.2)
theorem dkey_keyD (k : Key) : dkey (keyD k) = some k := by cases k <;> rfl
theorem dkeys_keyD : ∀ ks : List Key, dkeys (ks.map keyD) = some ks
  | [] => rfl
  | k :: ks => by
    show (dkey (keyD k)).bind (fun k => (dkeys (ks.map keyD)).bind fun ks => some (k :: ks)) = _
    rw [dkey_keyD, dkeys_keyD ks]
    rfl
theorem keyD_of_dkey : ∀ {d : D} {k : Key}, dkey d = some k → d = keyD k
  | .int i, k, h => by cases h; rfl
  | .str i, k, h => by cases h; rfl
  | .none, k, h => nomatch h
  | .bool _, k, h => nomatch h
  | .list _, k, h => nomatch h
  | .tuple _, k, h => nomatch h
  | .dict _, k, h => nomatch h
theorem keyD_of_dkeys : ∀ {ds : List D} {ks : List Key}, dkeys ds = some ks → ds = ks.map keyD
  | [], ks, h => by cases h; rfl
  | d :: ds, ks, h => by
    obtain ⟨k, h1, h⟩ := opt_bind h
    obtain ⟨kr, h2, h⟩ := opt_bind h
    cases h
    rw [keyD_of_dkey h1, keyD_of_dkeys h2]
    rfl
theorem keyD_of_tkey {d : D} {ks : List Key} (h : tkey d = some ks) : d = .tuple (ks.map keyD) := by
  cases d with
  | tuple ds => rw [keyD_of_dkeys (ds := ds) h]
  | _ => cases h
theorem sameKey_k (a b : Key) : sameKey (keyD a) (keyD b) = decide (a = b) := by
  unfold sameKey
  rw [dkey_keyD, dkey_keyD]
theorem sameKey_t (a b : List Key) : sameKey (.tuple (a.map keyD)) (.tuple (b.map keyD)) = decide (a = b) := by
  have e : ∀ z : List Key, tkey (.tuple (z.map keyD)) = some z := fun z => dkeys_keyD z
  show (match tkey (.tuple (a.map keyD)), tkey (.tuple (b.map keyD)) with | some x, some y => decide (x = y) | _, _ => false) = _
  rw [e, e]
section
variable {K : Frg} {H : Hp} {N : Addr → Prop}
theorem rpk_any (key : Key) : ∀ {kvs : List (D × D)} {ps : List (Key × V)}, RpK K H N kvs ps → (kvs.any fun kv => sameKey kv.1 (keyD key)) = (ps.any fun kv => decide (kv.1 = key))
  | [], ps, h => by unfold RpK at h; rw [h]; rfl
  | (k, d) :: r, ps, h => by
    unfold RpK at h
    obtain ⟨q, x, t, rfl, rfl, h1, h2⟩ := h
    rw [List.any_cons, List.any_cons, rpk_any key h2, sameKey_k]
theorem rpt_any (key : List Key) : ∀ {kvs : List (D × D)} {ps : List (List Key × V)}, RpT K H N kvs ps → (kvs.any fun kv => sameKey kv.1 (.tuple (key.map keyD))) = (ps.any fun kv => decide (kv.1 = key))
  | [], ps, h => by unfold RpT at h; rw [h]; rfl
  | (k, d) :: r, ps, h => by
    unfold RpT at h
    obtain ⟨q, x, t, rfl, rfl, h1, h2⟩ := h
    rw [List.any_cons, List.any_cons, rpt_any key h2, sameKey_t]
theorem rpk_map {key : Key} {d : D} {v : V} (hv : Rp K H N d v) : ∀ {kvs : List (D × D)} {ps : List (Key × V)}, RpK K H N kvs ps →
    RpK K H N (kvs.map fun kv => if sameKey kv.1 (keyD key) = true then (kv.1, d) else kv) (ps.map fun kv => if kv.1 = key then (kv.1, v) else kv)
  | [], ps, h => by unfold RpK at h; rw [h]; unfold RpK; rfl
  | (k, d0) :: r, ps, h => by
    unfold RpK at h
    obtain ⟨q, x, t, rfl, rfl, h1, h2⟩ := h
    rw [List.map_cons, List.map_cons]
    dsimp only
    rw [sameKey_k]
    by_cases e : q = key
    · rw [if_pos e, if_pos (decide_eq_true e)]
      unfold RpK
      exact ⟨q, v, _, rfl, rfl, hv, rpk_map hv h2⟩
    · rw [if_neg e, if_neg (by simpa using e)]
      unfold RpK
      exact ⟨q, x, _, rfl, rfl, h1, rpk_map hv h2⟩
theorem rpt_map {key : List Key} {d : D} {v : V} (hv : Rp K H N d v) : ∀ {kvs : List (D × D)} {ps : List (List Key × V)}, RpT K H N kvs ps →
    RpT K H N (kvs.map fun kv => if sameKey kv.1 (.tuple (key.map keyD)) = true then (kv.1, d) else kv) (ps.map fun kv => if kv.1 = key then (kv.1, v) else kv)
  | [], ps, h => by unfold RpT at h; rw [h]; unfold RpT; rfl
  | (k, d0) :: r, ps, h => by
    unfold RpT at h
    obtain ⟨q, x, t, rfl, rfl, h1, h2⟩ := h
    rw [List.map_cons, List.map_cons]
    dsimp only
    rw [sameKey_t]
    by_cases e : q = key
    · rw [if_pos e, if_pos (decide_eq_true e)]
      unfold RpT
      exact ⟨q, v, _, rfl, rfl, hv, rpt_map hv h2⟩
    · rw [if_neg e, if_neg (by simpa using e)]
      unfold RpT
      exact ⟨q, x, _, rfl, rfl, h1, rpt_map hv h2⟩
theorem rpk_snoc {key : Key} {d : D} {v : V} (hv : Rp K H N d v) : ∀ {kvs : List (D × D)} {ps : List (Key × V)}, RpK K H N kvs ps → RpK K H N (kvs ++ [(keyD key, d)]) (ps ++ [(key, v)])
  | [], ps, h => by
    unfold RpK at h; rw [h]
    show RpK K H N [(keyD key, d)] [(key, v)]
    unfold RpK
    exact ⟨key, v, [], rfl, rfl, hv, by unfold RpK; rfl⟩
  | (k, d0) :: r, ps, h => by
    unfold RpK at h
    obtain ⟨q, x, t, rfl, rfl, h1, h2⟩ := h
    show RpK K H N ((keyD q, d0) :: (r ++ _)) ((q, x) :: (t ++ _))
    unfold RpK
    exact ⟨q, x, _, rfl, rfl, h1, rpk_snoc hv h2⟩
theorem rpt_snoc {key : List Key} {d : D} {v : V} (hv : Rp K H N d v) : ∀ {kvs : List (D × D)} {ps : List (List Key × V)}, RpT K H N kvs ps → RpT K H N (kvs ++ [(.tuple (key.map keyD), d)]) (ps ++ [(key, v)])
  | [], ps, h => by
    unfold RpT at h; rw [h]
    show RpT K H N [(.tuple (key.map keyD), d)] [(key, v)]
    unfold RpT
    exact ⟨key, v, [], rfl, rfl, hv, by unfold RpT; rfl⟩
  | (k, d0) :: r, ps, h => by
    unfold RpT at h
    obtain ⟨q, x, t, rfl, rfl, h1, h2⟩ := h
    show RpT K H N ((.tuple (q.map keyD), d0) :: (r ++ _)) ((q, x) :: (t ++ _))
    unfold RpT
    exact ⟨q, x, _, rfl, rfl, h1, rpt_snoc hv h2⟩
theorem rpk_put {key : Key} {d : D} {v : V} {kvs : List (D × D)} {ps : List (Key × V)} (h : RpK K H N kvs ps) (hv : Rp K H N d v) : RpK K H N (putD kvs (keyD key) d) (putK ps key v) := by
  unfold putD putK
  rw [rpk_any key h]
  split
  · exact rpk_map hv h
  · exact rpk_snoc hv h
theorem rpt_put {key : List Key} {d : D} {v : V} {kvs : List (D × D)} {ps : List (List Key × V)} (h : RpT K H N kvs ps) (hv : Rp K H N d v) : RpT K H N (putD kvs (.tuple (key.map keyD)) d) (putK ps key v) := by
  unfold putD putK
  rw [rpt_any key h]
  split
  · exact rpt_map hv h
  · exact rpt_snoc hv h
theorem rpk_len : ∀ {kvs : List (D × D)} {ps : List (Key × V)}, RpK K H N kvs ps → ps.length = kvs.length
  | [], ps, h => by unfold RpK at h; rw [h]; rfl
  | (k, d) :: r, ps, h => by
    unfold RpK at h
    obtain ⟨q, x, t, rfl, rfl, h1, h2⟩ := h
    rw [List.length_cons, List.length_cons, rpk_len h2]
theorem rpt_len : ∀ {kvs : List (D × D)} {ps : List (List Key × V)}, RpT K H N kvs ps → ps.length = kvs.length
  | [], ps, h => by unfold RpT at h; rw [h]; rfl
  | (k, d) :: r, ps, h => by
    unfold RpT at h
    obtain ⟨q, x, t, rfl, rfl, h1, h2⟩ := h
    rw [List.length_cons, List.length_cons, rpt_len h2]
end

section
variable {X : Cx} {c : Cc} {e a b o j : Expr} {K : Frg} {W : Addr → Prop} {P : Pin} {G G' G1 G2 Gb : Gm} {m : Md} {pos p px apos cpos ps : Pos} {x : Str} {i : Nat}
/-- {} -/
theorem e_dictK : PE X (.Dict [] [] pos) (tE K W P G G (.dc false) (lq (fC (.dict [])))) := pe_weak pe_dnewK fun σ H Q ⟨env, N, A, d, env', r, ef, q⟩ => by
  cases ef
  exact fun p np => q (.ref p) _ N A [p] (Stp.refl.newB np) (r.new np) (by unfold RpM; exact ⟨p, [], rfl, rfl, rfl, .inl ⟨rfl, [], upd_same, by unfold RpK; rfl⟩⟩) (Bok.nil.newB r np fun _ z => (nomatch z))
theorem e_dictT : PE X (.Dict [] [] pos) (tE K W P G G (.dc true) (lq (fC (.dict [])))) := pe_weak pe_dnewT fun σ H Q ⟨env, N, A, d, env', r, ef, q⟩ => by
  cases ef
  exact fun p np => q (.ref p) _ N A [p] (Stp.refl.newB np) (r.new np) (by unfold RpM; exact ⟨p, [], rfl, rfl, rfl, .inr ⟨rfl, [], upd_same, by unfold RpT; rfl⟩⟩) (Bok.nil.newB r np fun _ z => (nomatch z))
end
end T3
end
set_option Elab.async false
set_option linter.all false
set_option maxRecDepth 100000
set_option maxHeartbeats 1000000
noncomputable section
namespace T3
open PySem PySem.Spec PyProof.Rows L2
section
variable {X : Cx} {c : Cc} {e a b o j : Expr} {K : Frg} {W : Addr → Prop} {P : Pin} {G G' G1 G2 G3 Gb : Gm} {m : Md} {pos p px apos cpos ps : Pos} {x : Str} {i : Nat}

/-! ### d[k] = e -/
def isKK (d : D) : Bool := (dkey d).isSome
def isKT (d : D) : Bool := (tkey d).isSome
def sPut (ok : D → Bool) (i : Nat) (fa fj : En → Option (D × En)) : En → Option Fl := fun e => (fa e).bind fun x => (fj x.2).bind fun j => (j.2[i]?).bind fun l => match l with
  | .dict kvs => @ite (Option _) (ok j.1 = true ∧ kvs.length < sizeLine) (Classical.propDecidable _) (some (.nx (j.2.set i (.dict (putD kvs j.1 x.1))))) none
  | _ => none
theorem dc_at {H : Hp} {N : Addr → Prop} {A : Ow} {env : En} {σ : L2.St} {t : Bool} (r : ER K W P H N G env σ A) (g : G[i]? = some (some (.dc t))) : ∃ cc kvs, env[i]? = some (.dict kvs) ∧ σ[i]? = some (some (.ref cc)) ∧ A i = [cc] ∧
    ((t = false ∧ ∃ ps, H cc = some (.dK ps) ∧ RpK K H N kvs ps) ∨ (t = true ∧ ∃ ps, H cc = some (.dT ps) ∧ RpT K H N kvs ps)) := by
  obtain ⟨d0, v0, h1, h2, h3⟩ := r.sl i _ g
  unfold RpM at h3
  obtain ⟨a, kvs, rfl, rfl, e3, h⟩ := h3
  exact ⟨a, kvs, h1, h2, e3, h⟩
theorem kV_of {H : Hp} {N : Addr → Prop} {k : Key} {v : V} (h : Rp K H N (keyD k) v) : v = kV k := by
  cases k with
  | inl i => exact rp_int_v h
  | inr x => exact rp_str_v h
theorem kVs_of {H : Hp} {N : Addr → Prop} : ∀ {ks : List Key} {xs : List V}, RpL K H N (ks.map keyD) xs → xs = ks.map kV
  | [], xs, h => by
    have h : RpL K H N [] xs := h
    unfold RpL at h; exact h
  | k :: ks, xs, h => by
    have h : RpL K H N (keyD k :: ks.map keyD) xs := h
    unfold RpL at h
    obtain ⟨x, r, rfl, h1, h2⟩ := h
    rw [kV_of h1, kVs_of h2]
    rfl
/-- a key that is flat -/
theorem s_putK {fa fj : En → Option (D × En)} (hu : X.A.units + 64 < cLine) (hN : X.N[i]? = some x) (hv : Vis X.env.scope x) (ha : PE X e (tE X.K W P G G1 .sh fa)) (hj : PE X j (tE X.K W P G1 G2 .sh fj)) (g1 : G1[i]? = some (some (.dc false))) (g2 : G2[i]? = some (some (.dc false)))
    (hK : c.K = X.K) (hW : c.W = W) (hP : c.P = P) (hp : ∀ v od, P i = some (v, od) → od = none)
    (hd : (x == ("__debug__" : Str)) = false := by decide) (hcd : (x == ("__classdict__" : Str)) = false := by decide)
    (hs : swapsWith e (some (.Subscript (.Name x px) j ps)) pos.line X.env = pure false := by rfl) :
    PS X (.Assign [.Subscript (.Name x px) j ps] e pos) (tS c G G2 Gb (sPut isKK i fa fj)) :=
  ps_weak (ps_dput (by omega) (pe_var hN hv hd hcd) hj ha hs) fun D σ H ⟨env, N, A, rr, r, ef, q⟩ => by
    obtain ⟨K, W', P', Gr, mr⟩ := c
    simp only at hK hW hP
    subst hK hW hP
    obtain ⟨⟨dx, env1⟩, ea, ef⟩ := opt_bind ef
    obtain ⟨⟨dj, env2⟩, ej, ef⟩ := opt_bind ef
    obtain ⟨dl, ei, ef⟩ := opt_bind ef
    refine ⟨env, N, A, dx, env1, r, ea, fun y H1 N1 A1 By s1 r1 hy by1 => ?_⟩
    obtain ⟨c0, kvs0, _, h2, _⟩ := dc_at r1 g1
    refine ⟨_, h2, env1, N1, A1, dj, env2, r1, ej, fun vk H2 N2 A2 Bk s2 r2 hk bk => ?_⟩
    obtain ⟨cc, kvs, h1', h2', hA, hd⟩ := dc_at r2 g2
    rw [h2] at h2'
    cases h2'
    rw [ei] at h1'
    cases h1'
    have ef : (@ite (Option _) (isKK dj = true ∧ kvs.length < sizeLine) (Classical.propDecidable _) (some (Fl.nx (env2.set i (.dict (putD kvs dj dx))))) none) = some rr := ef
    split at ef
    · rename_i hc
      cases ef
      rcases hd with ⟨_, ps, hps, hrp⟩ | ⟨t, _⟩
      · unfold RpM at hk
        obtain ⟨hk, rfl⟩ := hk
        have hy2 := s2.val r1 by1 hy
        unfold RpM at hy2
        obtain ⟨hy2, rfl⟩ := hy2
        obtain ⟨key, hkey⟩ := Option.isSome_iff_exists.mp hc.1
        have ek := keyD_of_dkey hkey
        subst ek
        have hkv := kV_of hk
        subst hkv
        have mc : c0 ∈ A2 i := by rw [hA]; simp
        have nc := r2.dn i c0 mc
        refine ⟨c0, _, rfl, DPut.k hps (by rw [rpk_len hrp]; exact hc.2), ?_⟩
        obtain ⟨s3, r3⟩ := mut1 (u := .dK (putK ps key y)) (d := .dict (putD kvs (keyD key) dx)) (B := [c0]) (s1.trans s2) r2 Bok.nil (fun a z => (nomatch z)) hp g2 h2 mc (fun a z => .inl (by rw [hA]; exact z)) (by simp) (by
          unfold RpM
          exact ⟨c0, _, rfl, rfl, rfl, .inl ⟨rfl, _, upd_same, RpK.mono (fun a o e n => ⟨by rw [upd_ne (fun (z : a = c0) => nc (z ▸ n))]; exact e, n⟩) _ _ (rpk_put hrp hy2)⟩⟩)
        exact q σ _ N2 _ s3 r3
      · cases t
    · cases ef
def Md.shs : List Md → Bool
  | [] => true
  | .sh :: ms => Md.shs ms
  | _ => false
theorem RpMt.shs {H : Hp} {N : Addr → Prop} : ∀ {ms : List Md} {ds : List D} {xs : List V} {B : List Addr}, RpMt K H N W ms ds xs B → Md.shs ms = true → RpL K H N ds xs ∧ B = []
  | [], ds, xs, B, h, _ => by
    unfold RpMt at h
    obtain ⟨rfl, rfl, e⟩ := h
    exact ⟨RpL.nil, e⟩
  | .sh :: ms, ds, xs, B, h, c => by
    unfold RpMt at h
    obtain ⟨d, dr, x, r, A1, A2, rfl, rfl, e, h1, h2⟩ := h
    obtain ⟨h3, e3⟩ := RpMt.shs h2 c
    unfold RpM at h1
    exact ⟨RpL.cons h1.1 h3, by rw [e, h1.2, e3]; rfl⟩
  | .pk :: _, _, _, _, _, c => nomatch c
  | .ow _ :: _, _, _, _, _, c => nomatch c
  | .tu _ :: _, _, _, _, _, c => nomatch c
  | .dc _ :: _, _, _, _, _, c => nomatch c
/-- a key that is a tuple, written down -/
theorem s_putT {fa fj : En → Option (D × En)} (hu : X.A.units + 64 < cLine) (hN : X.N[i]? = some x) (hv : Vis X.env.scope x) (ha : PE X e (tE X.K W P G G1 .sh fa)) {ms : List Md} (hj : PE X j (tE X.K W P G1 G2 (.tu ms) fj)) (hms : Md.shs ms = true := by rfl) (g1 : G1[i]? = some (some (.dc true))) (g2 : G2[i]? = some (some (.dc true)))
    (hK : c.K = X.K) (hW : c.W = W) (hP : c.P = P) (hp : ∀ v od, P i = some (v, od) → od = none)
    (hd : (x == ("__debug__" : Str)) = false := by decide) (hcd : (x == ("__classdict__" : Str)) = false := by decide)
    (hs : swapsWith e (some (.Subscript (.Name x px) j ps)) pos.line X.env = pure false := by rfl) :
    PS X (.Assign [.Subscript (.Name x px) j ps] e pos) (tS c G G2 Gb (sPut isKT i fa fj)) :=
  ps_weak (ps_dput (by omega) (pe_var hN hv hd hcd) hj ha hs) fun D σ H ⟨env, N, A, rr, r, ef, q⟩ => by
    obtain ⟨K, W', P', Gr, mr⟩ := c
    simp only at hK hW hP
    subst hK hW hP
    obtain ⟨⟨dx, env1⟩, ea, ef⟩ := opt_bind ef
    obtain ⟨⟨dj, env2⟩, ej, ef⟩ := opt_bind ef
    obtain ⟨dl, ei, ef⟩ := opt_bind ef
    refine ⟨env, N, A, dx, env1, r, ea, fun y H1 N1 A1 By s1 r1 hy by1 => ?_⟩
    obtain ⟨c0, kvs0, _, h2, _⟩ := dc_at r1 g1
    refine ⟨_, h2, env1, N1, A1, dj, env2, r1, ej, fun vk H2 N2 A2 Bk s2 r2 hk bk => ?_⟩
    obtain ⟨cc, kvs, h1', h2', hA, hd⟩ := dc_at r2 g2
    rw [h2] at h2'
    cases h2'
    rw [ei] at h1'
    cases h1'
    have ef : (@ite (Option _) (isKT dj = true ∧ kvs.length < sizeLine) (Classical.propDecidable _) (some (Fl.nx (env2.set i (.dict (putD kvs dj dx))))) none) = some rr := ef
    split at ef
    · rename_i hc
      cases ef
      rcases hd with ⟨t, _⟩ | ⟨_, ps, hps, hrp⟩
      · cases t
      · unfold RpM at hk
        obtain ⟨at_, xs, ds, rfl, rfl, _, hat, hms'⟩ := hk
        obtain ⟨hrs, rfl⟩ := hms'.shs hms
        have hy2 := s2.val r1 by1 hy
        unfold RpM at hy2
        obtain ⟨hy2, rfl⟩ := hy2
        obtain ⟨key, hkey⟩ := Option.isSome_iff_exists.mp hc.1
        have ek := keyD_of_dkeys (ds := ds) hkey
        subst ek
        have hkv := kVs_of hrs
        subst hkv
        have mc : c0 ∈ A2 i := by rw [hA]; simp
        have nc := r2.dn i c0 mc
        refine ⟨c0, _, rfl, DPut.t hps hat (by rw [rpt_len hrp]; exact hc.2), ?_⟩
        obtain ⟨s3, r3⟩ := mut1 (u := .dT (putK ps key y)) (d := .dict (putD kvs (.tuple (key.map keyD)) dx)) (B := [c0]) (s1.trans s2) r2 Bok.nil (fun a z => (nomatch z)) hp g2 h2 mc (fun a z => .inl (by rw [hA]; exact z)) (by simp) (by
          unfold RpM
          exact ⟨c0, _, rfl, rfl, rfl, .inr ⟨rfl, _, upd_same, RpT.mono (fun a o e n => ⟨by rw [upd_ne (fun (z : a = c0) => nc (z ▸ n))]; exact e, n⟩) _ _ (rpt_put hrp hy2)⟩⟩)
        exact q σ _ N2 _ s3 r3
    · cases ef

/-! ### a, b = x, y -/
def sPar2 (i j : Nat) (fs : En → Option (List D × En)) : En → Option Fl := fun e => (fs e).bind fun y => match y.1 with
  | [d1, d2] => some (.nx ((y.2.set i d1).set j d2))
  | _ => none
def sPar3 (i j l : Nat) (fs : En → Option (List D × En)) : En → Option Fl := fun e => (fs e).bind fun y => match y.1 with
  | [d1, d2, d3] => some (.nx (((y.2.set i d1).set j d2).set l d3))
  | _ => none
theorem Bok.split {N : Addr → Prop} {A : Ow} {B1 B2 : List Addr} (b : Bok N W A (B1 ++ B2)) : Bok N W A B1 ∧ Bok N W A B2 ∧ ∀ i, i = i → Bok N W (A.put i B1) B2 := by
  have nd := List.nodup_append.mp b.bd
  refine ⟨⟨fun a z => b.bn a (List.mem_append_left _ z), fun a z => b.bw a (List.mem_append_left _ z), fun a z => b.ba a (List.mem_append_left _ z), nd.1⟩, ⟨fun a z => b.bn a (List.mem_append_right _ z), fun a z => b.bw a (List.mem_append_right _ z), fun a z => b.ba a (List.mem_append_right _ z), nd.2.1⟩, fun i _ => ⟨fun a z => b.bn a (List.mem_append_right _ z), fun a z => b.bw a (List.mem_append_right _ z), fun a z w => ?_, nd.2.1⟩⟩
  rcases own_put w with w | w
  · exact b.ba a (List.mem_append_right _ z) w
  · exact nd.2.2 a w a z rfl
theorem Stp.put2 {H H' : Hp} {N N' : Addr → Prop} {A A' : Ow} {B1 B2 : List Addr} {i : Nat} (s : Stp H N A H' N' A' (B1 ++ B2)) : Stp H N A H' N' (A'.put i B1) B2 := by
  refine ⟨s.keep, s.trk, fun a z => ?_, fun a z => s.bf a (List.mem_append_right _ z), s.up, s.fz⟩
  rcases own_put z with z | z
  · exact s.own a z
  · exact s.bf a (List.mem_append_left _ z)
theorem s_par2 {i j : Nat} {x y : Str} {m1 m2 : Md} {fs : En → Option (List D × En)} {px py pt : Pos} {kt k2 pt2} (hc : X.calm = true) (hN : X.N.Nodup) (hi : X.N[i]? = some x) (hj : X.N[j]? = some y)
    (hx : X.env.scope.names.lookup x = some .local) (hy : X.env.scope.names.lookup y = some .local) (ha : PA X [a, b] (tEs c.K c.W c.P G G1 [m1, m2] fs))
    (hw : swappedStores [.Tuple [.Name x px, .Name y py] kt pt] (.Tuple [a, b] k2 pt2) X.env = pure (some [x, y]))
    (hij : i ≠ j := by decide) (hl1 : i < G1.length := by decide) (hl2 : j < G1.length := by decide) (hp1 : c.P i = none := by rfl) (hp2 : c.P j = none := by rfl)
    (hs : swapsWithSole [.Tuple [.Name x px, .Name y py] kt pt] (.Tuple [a, b] k2 pt2) pos.line X.env = pure false := by rfl) (hG : (G1.set i (some m1)).set j (some m2) = G2 := by rfl) :
    PS X (.Assign [.Tuple [.Name x px, .Name y py] kt pt] (.Tuple [a, b] k2 pt2) pos) (tS c G G2 Gb (sPar2 i j fs)) :=
  hG ▸ ps_weak (ps_par hc hN hi hj hij hx hy ha hw hs) fun D σ H ⟨env, N, A, rr, r, ef, q⟩ => by
    obtain ⟨⟨ds, e1⟩, ea, ef⟩ := opt_bind ef
    match ds, ef with
    | [d1, d2], ef =>
      cases ef
      refine ⟨env, N, A, _, e1, r, ea, fun vs H1 N1 A1 B s1 r1 hv bv => ?_⟩
      unfold RpMt at hv
      obtain ⟨_, _, v1, xr, B1, B', h0, rfl, rfl, h1, hv⟩ := hv
      cases h0
      unfold RpMt at hv
      obtain ⟨_, _, v2, xr2, B2, B3, h0, rfl, rfl, h2, hv⟩ := hv
      cases h0
      unfold RpMt at hv
      obtain ⟨_, rfl, rfl⟩ := hv
      rw [List.append_nil] at bv s1
      refine ⟨v1, v2, rfl, ?_⟩
      obtain ⟨b1, _, b3⟩ := bv.split
      have r2 := r1.set hl1 hp1 b1 h1
      have r3 := r2.set (i := j) (by simp [hl2]) hp2 (b3 i rfl) h2
      exact q _ H1 N1 _ (s1.put2 (i := i)).put r3
theorem s_par3 {i j l : Nat} {x y z : Str} {d : Expr} {m1 m2 m3 : Md} {fs : En → Option (List D × En)} {px py pz pt : Pos} {kt k2 pt2} (hc : X.calm = true) (hN : X.N.Nodup) (hi : X.N[i]? = some x) (hj : X.N[j]? = some y) (hk : X.N[l]? = some z)
    (hx : X.env.scope.names.lookup x = some .local) (hy : X.env.scope.names.lookup y = some .local) (hz : X.env.scope.names.lookup z = some .local) (ha : PA X [a, b, d] (tEs c.K c.W c.P G G1 [m1, m2, m3] fs))
    (hw : swappedStores [.Tuple [.Name x px, .Name y py, .Name z pz] kt pt] (.Tuple [a, b, d] k2 pt2) X.env = pure (some [x, y, z]))
    (hij : i ≠ j := by decide) (hil : i ≠ l := by decide) (hjl : j ≠ l := by decide) (hl1 : i < G1.length := by decide) (hl2 : j < G1.length := by decide) (hl3 : l < G1.length := by decide) (hp1 : c.P i = none := by rfl) (hp2 : c.P j = none := by rfl) (hp3 : c.P l = none := by rfl)
    (hs : swapsWithSole [.Tuple [.Name x px, .Name y py, .Name z pz] kt pt] (.Tuple [a, b, d] k2 pt2) pos.line X.env = pure false := by rfl) (hG : ((G1.set i (some m1)).set j (some m2)).set l (some m3) = G2 := by rfl) :
    PS X (.Assign [.Tuple [.Name x px, .Name y py, .Name z pz] kt pt] (.Tuple [a, b, d] k2 pt2) pos) (tS c G G2 Gb (sPar3 i j l fs)) :=
  hG ▸ ps_weak (ps_par3 hc hN hi hj hk hij hil hjl hx hy hz ha hw hs) fun D σ H ⟨env, N, A, rr, r, ef, q⟩ => by
    obtain ⟨⟨ds, e1⟩, ea, ef⟩ := opt_bind ef
    match ds, ef with
    | [d1, d2, d3], ef =>
      cases ef
      refine ⟨env, N, A, _, e1, r, ea, fun vs H1 N1 A1 B s1 r1 hv bv => ?_⟩
      unfold RpMt at hv
      obtain ⟨_, _, v1, xr, B1, B', h0, rfl, rfl, h1, hv⟩ := hv
      cases h0
      unfold RpMt at hv
      obtain ⟨_, _, v2, xr2, B2, B3, h0, rfl, rfl, h2, hv⟩ := hv
      cases h0
      unfold RpMt at hv
      obtain ⟨_, _, v3, xr3, B4, B5, h0, rfl, rfl, h3, hv⟩ := hv
      cases h0
      unfold RpMt at hv
      obtain ⟨_, rfl, rfl⟩ := hv
      rw [List.append_nil] at bv s1
      refine ⟨v1, v2, v3, rfl, ?_⟩
      obtain ⟨b1, _, b3⟩ := bv.split
      have r2 := r1.set hl1 hp1 b1 h1
      obtain ⟨b4, _, b5⟩ := (b3 i rfl).split
      have r3 := r2.set (i := j) (by simp [hl2]) hp2 b4 h2
      have r4 := r3.set (i := l) (by simp [hl3]) hp3 (b5 j rfl) h3
      exact q _ H1 N1 _ ((s1.put2 (i := i)).put2 (i := j)).put r4

/-! ### target = e -/
def sAsg (fa : En → Option (D × En)) (tg : En → D → Option En) : En → Option Fl := fun e => (fa e).bind fun x => (tg x.2 x.1).bind fun e => some (.nx e)
theorem s_asg {vs : List Nat} {tg : Expr} {fa : En → Option (D × En)} {f : En → D → Option En} (he : PE X e (tE c.K c.W c.P G G1 .sh fa)) (hg : PG X tg (tGr c.K c.W c.P vs G1 G2 f))
    (hs : swapsWithSole [tg] e pos.line X.env = pure false := by rfl) (hw : swappedStores [tg] e X.env = pure none := by rfl) (h1 : (assignEach [tg] X.env).map (·.2) = [assign tg X.env] := by rfl) :
    PS X (.Assign [tg] e pos) (tS c G G2 Gb (sAsg fa f)) :=
  ps_weak (ps_asg he hg hs hw h1) fun D σ H ⟨env, N, A, rr, r, ef, q⟩ => by
    obtain ⟨⟨d, e1⟩, ea, ef⟩ := opt_bind ef
    obtain ⟨e2, et, ef⟩ := opt_bind ef
    cases ef
    refine ⟨env, N, A, d, e1, r, ea, fun v H1 N1 A1 B s1 r1 hv bv => ?_⟩
    unfold RpM at hv
    obtain ⟨hv, rfl⟩ := hv
    exact ⟨e1, N1, A1, d, e2, r1, hv, et, fun σ' H2 N2 A2 w s2 r2 => q σ' H2 N2 A2 (s1.trans s2) r2⟩
end
end T3
end
set_option Elab.async false
set_option linter.all false
set_option maxRecDepth 100000
set_option maxHeartbeats 1000000
noncomputable section
namespace T3
open PySem PySem.Spec PyProof.Rows L2

/-! ### zip, enumerate -/
def pairD (x y : D) : D := .tuple [x, y]
def zipD (a b : List D) : List D := List.zipWith pairD a b
def enumD : Nat → List D → List D
  | _, [] => []
  | n, d :: ds => pairD (.int n) d :: enumD (n + 1) ds
theorem enumD_get : ∀ {ds : List D} {n i : Nat}, (enumD n ds)[i]? = (ds[i]?).map fun d => pairD (.int ((n + i : Nat) : Int)) d
  | [], n, i => by simp [enumD]
  | d :: ds, n, 0 => by simp [enumD]
  | d :: ds, n, i + 1 => by
    show (enumD (n + 1) ds)[i]? = (ds[i]?).map _
    rw [enumD_get, show n + 1 + i = n + (i + 1) by omega]
theorem enumD_len : ∀ {ds : List D} {n : Nat}, (enumD n ds).length = ds.length
  | [], n => rfl
  | d :: ds, n => by show (enumD (n + 1) ds).length + 1 = _; rw [enumD_len, List.length_cons]
section
variable {X : Cx} {e ee a b o j : Expr} {K : Frg} {W : Addr → Prop} {P : Pin} {G G' G1 G2 G3 Gb : Gm} {m : Md} {pos p px apos cpos tpos : Pos} {x : Str} {i : Nat}
theorem ext_tup {H : Hp} {N : Addr → Prop} {T : Addr} {xs : List V} (np : H T = none) : Ext H N (upd H T (.tup xs)) (fun a => N a ∨ a = T) [] :=
  ⟨fun a o e => by rw [upd_ne (ne_of_none e np)]; exact e, fun a n => .inl n, fun a n => n.imp _root_.id fun z => by rw [z]; exact .inl ⟨np, _, upd_same⟩, fun _ z => (nomatch z), fun _ z => (nomatch z), List.nodup_nil⟩
theorem rp_pair {H : Hp} {N : Addr → Prop} {T : Addr} {x y : V} {d1 d2 : D} (np : H T = none) (h1 : Rp K H N d1 x) (h2 : Rp K H N d2 y) : Rp K (upd H T (.tup [x, y])) (fun a => N a ∨ a = T) (pairD d1 d2) (.ref T) := by
  have k := (ext_tup (N := N) (xs := [x, y]) np).keeps
  unfold pairD Rp
  exact ⟨T, [x, y], rfl, .inl ⟨.inr rfl, .inl upd_same⟩, RpL.cons (Rp.mono k _ _ h1) (RpL.cons (Rp.mono k _ _ h2) RpL.nil)⟩
theorem walk_zip {a b : Addr} {xs ys : List V} {ds es : List D} : Walk K (Itz K a b) (zipD ds es) (fun H N => StL K a xs ds H N ∧ StL K b ys es H N) where
  keep := fun H N H' N' h k => ⟨h.1.keep k, h.2.keep k⟩
  go := fun i H N hi h => by
    unfold zipD at hi
    rw [List.length_zipWith] at hi
    obtain ⟨x, hx, _⟩ := h.1.2.get (List.getElem?_eq_getElem (show i < ds.length by omega))
    obtain ⟨y, hy, _⟩ := h.2.2.get (List.getElem?_eq_getElem (show i < es.length by omega))
    exact ⟨xs, ys, x, y, h.1.sq, h.2.sq, hx, hy⟩
  stop := fun i H N hi h => by
    unfold zipD at hi
    rw [List.length_zipWith] at hi
    exact ⟨xs, ys, h.1.sq, h.2.sq, by rw [h.1.2.len, h.2.2.len]; omega⟩
  yld := fun i H N v H' d h tr hd y => by
    obtain ⟨T, x, z, rfl, np, rfl, hx, hz⟩ := y
    obtain ⟨d1, h1, h2⟩ := h.1.2.get' (hx xs h.1.sq)
    obtain ⟨d2, h3, h4⟩ := h.2.2.get' (hz ys h.2.sq)
    unfold zipD at hd
    rw [List.getElem?_zipWith, h1, h3] at hd
    cases hd
    exact ⟨_, ext_tup np, rp_pair np h2 h4⟩
def iZ (fs : En → Option (List D × En)) : En → Option (List D × En) := fun e => (fs e).bind fun x => match x.1 with
  | [.list a, .list b] => some (zipD a b, x.2)
  | _ => none
theorem args_lists {H : Hp} {N : Addr → Prop} {A : Ow} {env : En} {σ : L2.St} {ds es : List D} {xs : List V} (h : ArgOk K W H N A env σ [.vl, .vl] [.list ds, .list es] xs) :
    ∃ a b ys zs, xs = [.ref a, .ref b] ∧ StL K a ys ds H N ∧ StL K b zs es H N := by
  obtain ⟨d, dr, x, xr, e1, rfl, h1, d2, dr2, y, yr, e2, rfl, h2, e3, rfl⟩ := h
  cases e1
  cases e2
  have h1 : Rp K H N (.list ds) x := h1
  have h2 : Rp K H N (.list es) y := h2
  unfold Rp at h1 h2
  obtain ⟨a, ys, rfl, q1, r1⟩ := h1
  obtain ⟨b, zs, rfl, q2, r2⟩ := h2
  exact ⟨a, b, ys, zs, rfl, ⟨q1, r1⟩, ⟨q2, r2⟩⟩
theorem i_zip {elts : List Expr} {kk : Nat} {fs : En → Option (List D × En)} (hg : Gl X "zip") (hm : X.mg "zip" = none) (ha : PA X [e, ee] (tAr X.K W P G G' [.vl, .vl] fs))
    (hs : starEach [e, ee] X.env = (false, eval e X.env) :: starEach [ee] X.env := by rfl) (hpl : (backTo pos (starEach [ee] X.env)).any (·.1) = false := by rfl) :
    PI X (.Tuple elts kk tpos) (.Call (.Name "zip" p) [e, ee] [] pos) (tI X.K W P G G' (iZ fs)) :=
  pi_weak (pi_zip hg hm ha hs hpl) fun σ H R ⟨env, N, A, ds, env', r, ef, q⟩ => by
    obtain ⟨⟨es, ev⟩, ea, ef⟩ := opt_bind ef
    match es, ef with
    | [.list d1, .list d2], ef =>
      cases ef
      refine ⟨env, N, A, _, ev, r, ea, fun xs H1 N1 A1 s1 r1 h1 => ?_⟩
      obtain ⟨a, b, ys, zs, rfl, q1, q2⟩ := args_lists h1
      exact ⟨a, b, ys, zs, rfl, q1.sq, q2.sq, q _ _ H1 N1 A1 (walk_zip (a := a) (b := b) (xs := ys) (ys := zs)) ⟨q1, q2⟩ s1 r1⟩
theorem walk_enum {a : Addr} {xs : List V} {ds : List D} : Walk K (Ite K a) (enumD 0 ds) (StL K a xs ds) where
  keep := fun H N H' N' h k => h.keep k
  go := fun i H N hi h => by
    rw [enumD_len] at hi
    obtain ⟨x, hx, _⟩ := h.2.get (List.getElem?_eq_getElem hi)
    exact ⟨xs, x, h.sq, hx⟩
  stop := fun i H N hi h => by
    rw [enumD_len] at hi
    exact ⟨xs, h.sq, by rw [h.2.len]; exact hi⟩
  yld := fun i H N v H' d h tr hd y => by
    obtain ⟨T, x, rfl, np, rfl, hx⟩ := y
    obtain ⟨d1, h1, h2⟩ := h.2.get' (hx xs h.sq)
    rw [enumD_get, h1] at hd
    cases hd
    rw [Nat.zero_add]
    exact ⟨_, ext_tup np, rp_pair np rp_int h2⟩
def iE (fs : En → Option (List D × En)) : En → Option (List D × En) := fun e => (fs e).bind fun x => match x.1 with
  | [.list a] => some (enumD 0 a, x.2)
  | _ => none
theorem i_enum {elts : List Expr} {kk : Nat} {fs : En → Option (List D × En)} (hg : Gl X "enumerate") (hm : X.mg "enumerate" = none) (ha : PA X [e] (tAr X.K W P G G' [.vl] fs)) (hs : starEach [e] X.env = [(false, eval e X.env)] := by rfl) :
    PI X (.Tuple elts kk tpos) (.Call (.Name "enumerate" p) [e] [] pos) (tI X.K W P G G' (iE fs)) :=
  pi_weak (pi_enum hg hm ha hs) fun σ H R ⟨env, N, A, ds, env', r, ef, q⟩ => by
    obtain ⟨⟨es, ev⟩, ea, ef⟩ := opt_bind ef
    match es, ef with
    | [.list d1], ef =>
      cases ef
      refine ⟨env, N, A, _, ev, r, ea, fun xs H1 N1 A1 s1 r1 h1 => ?_⟩
      obtain ⟨d, dr, x, xr, e1, rfl, h1, e3, rfl⟩ := h1
      cases e1
      have h1 : Rp X.K H1 N1 (.list d1) x := h1
      unfold Rp at h1
      obtain ⟨a, ys, rfl, q1, r2⟩ := h1
      have st : StL X.K a ys d1 H1 N1 := ⟨q1, r2⟩
      exact ⟨a, ys, rfl, st.sq, q _ _ H1 N1 A1 (walk_enum (a := a) (xs := ys)) st s1 r1⟩

/-! ### new lists of one thing: list(x), sorted(x) -/
def New1 (K : Frg) (r : List V → Hp → VK → Prop) (g : D → Option D) : Prop := ∀ N x d d' H Q, RpR K H N d x → g d = some d' → (∀ N' p ys dl, Ext H N H N' [] → H p = none → d' = .list dl → RpL K H N' dl ys → Q (.ref p) (upd H p (.lst ys))) → r [x] H Q
theorem tQ_new {r : List V → Hp → VK → Prop} {g : D → Option D} {fa : En → Option D} {σ : L2.St} {H : Hp} {Q : VK} (hg : New1 K r g) (h : tQ K W P G (.ow .sh) (f1 g fa) σ H Q) : tCB r (tCons (tP K W P G fa) tNil) σ H Q := by
  obtain ⟨env, N, A, d, er, ef, q⟩ := h
  obtain ⟨dx, ea, ef⟩ := opt_bind ef
  refine ⟨env, N, A, dx, er, ea, fun v H' N' ex hv => hg N' v dx d H' _ hv ef fun N2 p ys dl ex2 np ed hr => ?_⟩
  subst ed
  exact q (.ref p) _ N2 [p] ((ex.trans ex2).trans (Ext.new np (er.ext (ex.trans ex2)).tr)) (RpM.new_list np hr)
theorem tE_new {r : List V → Hp → VK → Prop} {g : D → Option D} {fa : En → Option (D × En)} {σ : L2.St} {H : Hp} {Q : VK} (hg : New1 K r g) (h : tE K W P G G1 (.ow .sh) (e1 g fa) σ H Q) : tCB r (tCons (tE K W P G G1 .sh fa) tNil) σ H Q := by
  obtain ⟨env, N, A, d, env', er, ef, q⟩ := h
  obtain ⟨⟨dx, env1⟩, ea, ef⟩ := opt_bind ef
  obtain ⟨d', eg, ef⟩ := opt_bind ef
  cases ef
  refine ⟨env, N, A, dx, env1, er, ea, fun v H1 N1 A1 B1 s1 r1 hv _ => ?_⟩
  unfold RpM at hv
  obtain ⟨hv, rfl⟩ := hv
  refine hg N1 v dx d H1 _ hv.root eg fun N2 p ys dl ex2 np ed hr => ?_
  subst ed
  have r2 := r1.ext ex2
  exact q (.ref p) _ N2 A1 [p] ((s1.trans ex2.stp).newB np) (r2.new np) (RpM.new_list np hr) (Bok.nil.newB r2 np fun _ z => (nomatch z))
section
variable {id : String} {r : List V → Hp → VK → Prop} {g : D → Option D}
theorem q_newB {fa : En → Option D} (hc : CallR X (.builtin id) r) (hfl : New1 X.K r g) (hg : Gl X x) (hm : X.mg x = none) (hv : bootBuiltins x = some (.builtin id)) (ha : PE X e (tP X.K W P G fa))
    (hn : x ≠ "__name__" := by decide) (hdb : (x == ("__debug__" : Str)) = false := by decide) (he : starEach [e] X.env = (false, eval e X.env) :: starEach [] X.env := by rfl) (hpl : (backTo pos (starEach [] X.env)).any (·.1) = false := by rfl) :
    PE X (.Call (.Name x p) [e] [] pos) (tQ X.K W P G (.ow .sh) (f1 g fa)) := pe_weak (pe_callB hc hg hm hv (pa_cons ha pa_nil he) hn hdb he hpl) fun σ H Q h => tQ_new hfl h
theorem q_newT {fa : En → Option D} (hc : CallR X (.type id) r) (hfl : New1 X.K r g) (hg : Gl X x) (hm : X.mg x = none) (hv : bootBuiltins x = some (.type id)) (ha : PE X e (tP X.K W P G fa))
    (hn : x ≠ "__name__" := by decide) (hdb : (x == ("__debug__" : Str)) = false := by decide) (he : starEach [e] X.env = (false, eval e X.env) :: starEach [] X.env := by rfl) (hpl : (backTo pos (starEach [] X.env)).any (·.1) = false := by rfl) :
    PE X (.Call (.Name x p) [e] [] pos) (tQ X.K W P G (.ow .sh) (f1 g fa)) := pe_weak (pe_callTy hc hg hm hv (pa_cons ha pa_nil he) hn hdb he hpl) fun σ H Q h => tQ_new hfl h
theorem e_newB {fa : En → Option (D × En)} (hc : CallR X (.builtin id) r) (hfl : New1 X.K r g) (hg : Gl X x) (hm : X.mg x = none) (hv : bootBuiltins x = some (.builtin id)) (ha : PE X e (tE X.K W P G G1 .sh fa))
    (hn : x ≠ "__name__" := by decide) (hdb : (x == ("__debug__" : Str)) = false := by decide) (he : starEach [e] X.env = (false, eval e X.env) :: starEach [] X.env := by rfl) (hpl : (backTo pos (starEach [] X.env)).any (·.1) = false := by rfl) :
    PE X (.Call (.Name x p) [e] [] pos) (tE X.K W P G G1 (.ow .sh) (e1 g fa)) := pe_weak (pe_callB hc hg hm hv (pa_cons ha pa_nil he) hn hdb he hpl) fun σ H Q h => tE_new hfl h
theorem e_newT {fa : En → Option (D × En)} (hc : CallR X (.type id) r) (hfl : New1 X.K r g) (hg : Gl X x) (hm : X.mg x = none) (hv : bootBuiltins x = some (.type id)) (ha : PE X e (tE X.K W P G G1 .sh fa))
    (hn : x ≠ "__name__" := by decide) (hdb : (x == ("__debug__" : Str)) = false := by decide) (he : starEach [e] X.env = (false, eval e X.env) :: starEach [] X.env := by rfl) (hpl : (backTo pos (starEach [] X.env)).any (·.1) = false := by rfl) :
    PE X (.Call (.Name x p) [e] [] pos) (tE X.K W P G G1 (.ow .sh) (e1 g fa)) := pe_weak (pe_callTy hc hg hm hv (pa_cons ha pa_nil he) hn hdb he hpl) fun σ H Q h => tE_new hfl h
end

/-- list(x) -/
def gList : D → Option D
  | .list ds => some (.list ds)
  | .tuple ds => some (.list ds)
  | _ => none
theorem nw_list : New1 K (fun xs H Q => ∃ p ys, xs = [.ref p] ∧ (SqL K H p ys ∨ SqT K H p ys) ∧ ∀ l, H l = none → Q (.ref l) (upd H l (.lst ys))) gList := by
  intro N x d d' H Q hr hg hq
  unfold gList at hg
  split at hg
  · cases hg
    obtain ⟨a, xs, rfl, q, r⟩ := hr
    exact ⟨a, xs, rfl, .inl (SqL.of2 q), fun l nl => hq _ l xs _ Ext.refl nl rfl r⟩
  · cases hg
    obtain ⟨a, xs, rfl, q, r⟩ := hr
    exact ⟨a, xs, rfl, .inr q, fun l nl => hq _ l xs _ Ext.refl nl rfl r⟩
  · cases hg

/-! ### sorted -/
def sortI (ns : List Int) : List Int := ns.mergeSort fun a b => decide (a ≤ b)
def leP (p q : Int × Int) : Bool := decide (p.1 < q.1) || (decide (p.1 = q.1) && decide (p.2 ≤ q.2))
def sortP (ps : List (Int × Int)) : List (Int × Int) := ps.mergeSort leP
theorem leP_iff {p q : Int × Int} : leP p q = true ↔ p.1 < q.1 ∨ (p.1 = q.1 ∧ p.2 ≤ q.2) := by
  unfold leP
  rw [Bool.or_eq_true, Bool.and_eq_true, decide_eq_true_eq, decide_eq_true_eq, decide_eq_true_eq]
theorem leP_trans (a b c : Int × Int) (h : leP a b = true) (h' : leP b c = true) : leP a c = true := by
  rw [leP_iff] at *
  omega
theorem leP_total (a b : Int × Int) : (leP a b || leP b a) = true := by
  rw [Bool.or_eq_true, leP_iff, leP_iff]
  omega
theorem leP_anti {a b : Int × Int} (h : leP a b = true) (h' : leP b a = true) : a = b := by
  rw [leP_iff] at *
  exact Prod.ext (by omega) (by omega)
theorem sortP_perm (ps : List (Int × Int)) : (sortP ps).Perm ps := List.mergeSort_perm ps _
theorem sortP_sorted (ps : List (Int × Int)) : (sortP ps).Pairwise fun a b => leP a b = true := List.pairwise_mergeSort leP_trans leP_total ps
theorem sortI_perm (ns : List Int) : (sortI ns).Perm ns := List.mergeSort_perm ns _
theorem sortI_sorted (ns : List Int) : (sortI ns).Pairwise (· ≤ ·) := (List.pairwise_mergeSort (le := fun a b : Int => decide (a ≤ b)) (fun a b c h h' => by simp only [decide_eq_true_eq] at *; omega) (fun a b => by simp only [Bool.or_eq_true, decide_eq_true_eq]; omega) ns).imp fun h => by simpa using h
theorem sortI_uniq {ns ms : List Int} (h : ms.Perm ns) (s : ms.Pairwise (· ≤ ·)) : ms = sortI ns :=
  List.Perm.eq_of_pairwise (le := (· ≤ ·)) (fun a b _ _ h h' => Int.le_antisymm h h') s (sortI_sorted ns) (h.trans (sortI_perm ns).symm)
theorem sortP_uniq {ns ms : List (Int × Int)} (h : ms.Perm ns) (s : ms.Pairwise fun a b => leP a b = true) : ms = sortP ns :=
  List.Perm.eq_of_pairwise (le := fun a b => leP a b = true) (fun a b _ _ h h' => leP_anti h h') s (sortP_sorted ns) (h.trans (sortP_perm ns).symm)
def pairOf : D → Option (Int × Int)
  | .tuple [.int a, .int b] => some (a, b)
  | _ => none
def pairsOf : List D → Option (List (Int × Int))
  | [] => some []
  | d :: ds => (pairOf d).bind fun p => (pairsOf ds).bind fun ps => some (p :: ps)
def ofPair (p : Int × Int) : D := .tuple [.int p.1, .int p.2]
theorem pairOf_eq {d : D} {p : Int × Int} (h : pairOf d = some p) : d = ofPair p := by
  unfold pairOf at h
  split at h
  · cases h; rfl
  · cases h
theorem pairsOf_eq : ∀ {ds : List D} {ps : List (Int × Int)}, pairsOf ds = some ps → ds = ps.map ofPair
  | [], ps, h => by cases h; rfl
  | d :: ds, ps, h => by
    obtain ⟨p, h1, h⟩ := opt_bind h
    obtain ⟨pr, h2, h⟩ := opt_bind h
    cases h
    rw [pairOf_eq h1, pairsOf_eq h2]
    rfl
theorem pairsOf_map : ∀ ps : List (Int × Int), pairsOf (ps.map ofPair) = some ps
  | [] => rfl
  | p :: ps => by
    show (pairOf (ofPair p)).bind (fun p => (pairsOf (ps.map ofPair)).bind fun ps => some (p :: ps)) = _
    rw [pairsOf_map ps]
    rfl
def gSortL (ds : List D) : Option D := match intsOf ds with
  | some ns => some (.list ((sortI ns).map .int))
  | none => (pairsOf ds).map fun ps => .list ((sortP ps).map ofPair)
def gSorted : D → Option D
  | .list ds => gSortL ds
  | .dict kvs => gSortL (kvs.map (·.1))
  | _ => none
end
end T3
end
set_option Elab.async false
set_option linter.all false
set_option maxRecDepth 100000
set_option maxHeartbeats 1000000
noncomputable section
namespace T3
open PySem PySem.Spec PyProof.Rows L2
section
variable {prog : Program} {w : World} {A : Around} {E : Value → Shared → Prop} {s : Shared} {T : String} {r d : Addr} {n : Nat} {PI : Nat → Value → Prop} {OK : Heap → Prop}
/-- what is walked, as a list -/
theorem kdl_collect {R : List Value → Shared → Prop} (S : PySem.W.KdlSrc prog w T r d n PI OK) (hh : A.handled = none) (hok : OK s.heap) (hn : n ≤ sizeLine)
    (h : ∀ (h' : Heap) (tk : Nat) (acc : Array Value), (∀ b o, s.heap.get? b = some o → h'.get? b = some o) → s.heap.objs.size < h'.objs.size → ItemsOf PI acc n → R acc.toList { s with heap := h', toks := tk }) :
    wpAny (model prog w) A (collect (.ref r)) R E s := by
  have hlt := S.there _ hok
  unfold collect
  refine wpAny_bind (wpAny_runValue (codeAny_builtin entry_proto_collect' ?_))
  rw [Around.under_plainId PySem.F.plain_proto_collect _]
  show wpAny _ A.in1 (newList [] >>= fun l => again (.builtin "list.__iadd__" ⟨[l, .ref r], []⟩)) _ _ s
  refine wpAny_bind (wpAny_newObj_type ?_)
  refine wpAny_pure ⟨plainId_quiet PySem.F.plain_list_iadd _, codeAny_builtin entry_list_iadd' ?_⟩
  rw [Around.under_plainId PySem.F.plain_list_iadd _]
  have hS₁ : (s.heap.push { cls := .type "list", data := .seq ([] : List Value).toArray }).get? s.heap.objs.size = some { cls := .type "list", data := .seq #[] } := Heap.get?_push_size _ rfl
  show wpAny _ A.in1 (Builtin.List.listExtendWith (.ref s.heap.objs.size) (.ref r) (.ref s.heap.objs.size)) _ _ _
  have key := PySem.W.kdl_extend (A := A) (s := { s with heap := s.heap.push { cls := .type "list", data := .seq ([] : List Value).toArray } })
    (R := fun (q : Result) (s' : Shared) => ∃ (h' : Heap) (tk : Nat) (acc' : Array Value) (c' : Nat), q = .ok (.ret (.ref s.heap.objs.size)) ∧ s' = { s with heap := h', toks := tk } ∧
      (∀ b o, s.heap.get? b = some o → h'.get? b = some o) ∧ h'.get? s.heap.objs.size = some { cls := .type "list", dict := none, data := .seq acc' c', slots := #[] } ∧ ItemsOf PI acc' n)
    S hh (S.keep _ _ hok fun b _ o e => Heap.get?_push_of_some _ e) s.heap.objs.size (Nat.ne_of_gt hlt.1) (Nat.ne_of_gt hlt.2) (.ref s.heap.objs.size) 0 hS₁
    (fun h' tk acc' c' hk hS' hacc => ⟨h', tk, acc', c', rfl, rfl, fun b o e => hk b o (Nat.ne_of_lt (Heap.lt_size e)) (Heap.get?_push_of_some _ e), hS', hacc⟩) hn
  refine wpAny_mono key (fun fin s' x => ?_) fun e s' x => ?_
  · cases fin with
    | done f =>
      obtain ⟨h', tk, acc', c', e, rfl, hk, hS', hacc⟩ := x
      cases e
      show wpAny _ A (load s.heap.objs.size >>= _) _ _ _
      refine wpAny_bind (wpAny_load hS' ?_)
      refine wpAny_pure ?_
      exact h h' tk acc' hk (Heap.lt_size hS') hacc
    | again c₁ =>
      refine ⟨x.1, codeAny_mono x.2 fun q s₂ y => ?_⟩
      obtain ⟨h', tk, acc', c', rfl, rfl, hk, hS', hacc⟩ := y
      show wpAny _ A (load s.heap.objs.size >>= _) _ _ _
      refine wpAny_bind (wpAny_load hS' ?_)
      refine wpAny_pure ?_
      exact h h' tk acc' hk (Heap.lt_size hS') hacc
  · obtain ⟨_, _, _, _, e', _⟩ := x
    cases e'
/-- sorted(what is walked) -/
theorem kdl_sorted {Q : Value → Shared → Prop} {ltv : Value → Value → Bool} (S : PySem.W.KdlSrc prog w T r d n PI OK) (hh : A.handled = none) (hok : OK s.heap) (hn : n ≤ sizeLine) (O : SrtO.Swo ltv)
    (hS : ∀ (acc : Array Value) (h1 : Heap) (a : Addr) (tk : Nat), ItemsOf PI acc n → 2 ≤ acc.toList.length → h1.get? a = some (seqObj "list" acc.toList.toArray 0) → (∀ b o, s.heap.get? b = some o → b ≠ a ∧ h1.get? b = some o) → SrtO.SortableO prog w A.in1.in1 { s with heap := h1, toks := tk } a acc.toList ltv)
    (h : ∀ (acc : Array Value) (out : List Value) (h' : Heap) (tk : Nat) (a : Addr), ItemsOf PI acc n → SrtO.Srtd ltv out → SrtO.Stb ltv out acc.toList → (∀ b o, s.heap.get? b = some o → h'.get? b = some o) → s.heap.objs.size ≤ a → (∃ k, h'.get? a = some (seqObj "list" out.toArray k)) → Q (.ref a) { s with heap := h', toks := tk }) :
    wpAny (model prog w) A (call (.builtin "sorted") [.ref r]) Q E s := by
  refine Calls.call_function_entry kind_sorted plain_sorted entry_sorted (args_sorted1 _) ?_
  unfold Builtin.«sorted»
  refine wpAny_bind (m := checkCount "sorted" 1 1 _) (wpAny_pure ?_)
  refine wpAny_bind (kdl_collect (A := A.in1) S hh hok hn fun h1 tk acc hk hlt hacc => ?_)
  have hz : acc.toList.length ≤ sizeLine := by rw [Array.length_toList, hacc.1]; exact hn
  refine wpAny_bind (wpAny_newList ?_ hz)
  have hoL : (h1.push (seqObj "list" acc.toList.toArray 0)).get? h1.objs.size = some (seqObj "list" acc.toList.toArray 0) := Heap.get?_push_size _ rfl
  have keep : ∀ b o, s.heap.get? b = some o → b ≠ h1.objs.size ∧ (h1.push (seqObj "list" acc.toList.toArray 0)).get? b = some o := fun b o q =>
    ⟨Nat.ne_of_lt (Nat.lt_trans (Heap.lt_size q) hlt), Heap.get?_push_of_some _ (hk b o q)⟩
  refine wpAny_bind (wpAny_holding (wpAny_call_entry slot_list_sort ⟨_, hoL, rfl⟩ entry_list_sort (SrtO.list_sort_ord O hoL hz (fun h2 => hS acc _ _ tk hacc h2 hoL keep) fun out hs hb => ⟨_, rfl, ?_⟩) (args_list_sort _)))
  refine wpAny_pure ⟨_, rfl, h acc out _ tk _ hacc hs hb (fun b o q => ?_) (Nat.le_of_lt hlt) (sortedHeap_at (vs := acc.toList) (out := out.toArray) hoL)⟩
  obtain ⟨q1, q2⟩ := keep b o q
  have := sortedHeap_old (h := h1.push (seqObj "list" acc.toList.toArray 0)) (vs := acc.toList) (out := out.toArray) q1 (Heap.lt_size q2)
  rw [this]
  exact q2
/-! the pair that stands at a value -/
theorem isPair_inj {h : Heap} {v : Value} {a b c d : Int} (p : Srt.IsPair h v a b) (q : Srt.IsPair h v c d) : a = c ∧ b = d := by
  obtain ⟨x, o, t, u, n, rfl, e1, _, e2⟩ := p
  obtain ⟨x', o', t', u', n', e, e3, _, e4⟩ := q
  cases e
  rw [e1] at e3
  cases e3
  rw [e2] at e4
  cases e4
  exact ⟨rfl, rfl⟩
open Classical in
noncomputable def pv (h : Heap) (v : Value) : Int × Int := if q : ∃ p : Int × Int, Srt.IsPair h v p.1 p.2 then Classical.choose q else (0, 0)
theorem pv_eq {h : Heap} {v : Value} {a b : Int} (p : Srt.IsPair h v a b) : pv h v = (a, b) := by
  have q : ∃ p : Int × Int, Srt.IsPair h v p.1 p.2 := ⟨(a, b), p⟩
  unfold pv
  rw [dif_pos q]
  have := isPair_inj (Classical.choose_spec q) p
  exact Prod.ext this.1 this.2
theorem leP_lex {p q : Int × Int} (h : SrtO.lexB q p = false) : leP p q = true := by
  rw [leP_iff]
  have := SrtO.lexB_no.mp h
  omega
end
section
variable {X : Cx}
theorem isPair_of {pins : List (Addr × Obj)} {σ : L2.St} {H : Hp} {s : Shared} {t : Addr} {a b : Int} (I : Inv X pins σ H s) (h : SqT X.K H t [.int a, .int b]) : Srt.IsPair s.heap (.ref t) a b := by
  obtain ⟨its, rv, ⟨o, ho, hc, n, hd⟩, _⟩ := I.tuple h
  obtain ⟨u1, u2, rfl, ri, rj⟩ := vals2 rv
  obtain ⟨t1, rfl⟩ := ri
  obtain ⟨t2, rfl⟩ := rj
  exact ⟨t, o, t1, t2, n, rfl, ho, hc, hd⟩
/-- sorted of a list of pairs -/
def rSortP2 (K : Frg) : List V → Hp → VK → Prop := fun vs H Q => ∃ (a : Addr) (ts : List (Addr × Int × Int)), vs = [.ref a] ∧ SqL K H a (ts.map fun z => V.ref z.1) ∧ (∀ z ∈ ts, SqT K H z.1 [.int z.2.1, .int z.2.2]) ∧
  ∀ (zs : List (Addr × Int × Int)) p, H p = none → zs.Perm ts → (zs.map (·.2)).Pairwise (fun x y => leP x y = true) → Q (.ref p) (upd H p (.lst (zs.map fun z => V.ref z.1)))
theorem refs_of {ts : List (Addr × Int × Int)} : ∀ {us : List Value}, Vals (ts.map fun z => V.ref z.1) us → us = ts.map fun z => Value.ref z.1 := by
  induction ts with
  | nil => intro us h; cases h; rfl
  | cons t ts ih =>
    intro us h
    cases h with
    | cons r rr =>
      cases r
      rw [ih rr]
      rfl
theorem zs_of {h : Heap} {ts : List (Addr × Int × Int)} {out : List Value} (ht : ∀ z ∈ ts, Srt.IsPair h (.ref z.1) z.2.1 z.2.2) (hs : SrtO.Srtd (fun v u => SrtO.lexB (pv h v) (pv h u)) out) (hp : out.Perm (ts.map fun z => Value.ref z.1)) :
    ∃ zs : List (Addr × Int × Int), zs.Perm ts ∧ out = zs.map (fun z => Value.ref z.1) ∧ (zs.map (·.2)).Pairwise fun x y => leP x y = true := by
  let ad : Value → Addr × Int × Int := fun v => match v with
    | .ref a => (a, pv h v)
    | _ => (0, (0, 0))
  have e : ∀ z ∈ ts, ad (Value.ref z.1) = z := fun z m => by
    show (z.1, pv h (.ref z.1)) = z
    rw [pv_eq (ht z m)]
  have e2 : (ts.map fun z => Value.ref z.1).map ad = ts := by
    rw [List.map_map]
    exact (List.map_congr_left fun z m => e z m).trans (List.map_id ts)
  have pm : (out.map ad).Perm ts := by
    have := hp.map ad
    rw [e2] at this
    exact this
  have mem : ∀ v ∈ out, ∃ z ∈ ts, v = Value.ref z.1 := fun v m => by
    obtain ⟨z, hz, ez⟩ := List.mem_map.mp (hp.mem_iff.mp m)
    exact ⟨z, hz, ez.symm⟩
  refine ⟨out.map ad, pm, ?_, ?_⟩
  · rw [List.map_map]
    refine ((List.map_congr_left fun v m => ?_).trans (List.map_id out)).symm
    obtain ⟨z, hz, rfl⟩ := mem v m
    rfl
  · rw [List.map_map, List.pairwise_map]
    refine List.Pairwise.imp_of_mem (fun {v u} mv mu q => ?_) hs
    obtain ⟨z, hz, rfl⟩ := mem v mv
    obtain ⟨y, hy, rfl⟩ := mem u mu
    exact leP_lex q
theorem cr_sortP2 : CallR X (.builtin "sorted") (rSortP2 X.K) := by
  intro pins s σ H vs us Q I r h
  obtain ⟨a, ts, rfl, hs, hx, q⟩ := h
  obtain ⟨its, rv, hl, hz⟩ := I.list hs
  obtain ⟨u, rfl, ru⟩ := vals1 r
  obtain rfl : u = Value.ref a := ru
  have hits := refs_of rv
  subst hits
  have hp : ∀ z ∈ ts, Srt.IsPair s.heap (.ref z.1) z.2.1 z.2.2 := fun z m => isPair_of I (hx z m)
  refine SrtO.sorted_pairsO (k := pv s.heap) hl.isList (by rw [← rv.length]; exact hz) (fun v hv => ?_) fun h' d out h1 h2 kp hd hn => ?_
  · obtain ⟨z, hm, rfl⟩ := List.mem_map.mp hv
    rw [pv_eq (hp z hm)]
    exact hp z hm
  · obtain ⟨zs, z1, rfl, z3⟩ := zs_of hp h1 h2.perm
    obtain ⟨n, hn⟩ := hn
    refine ⟨.ref d, upd H d (.lst (zs.map fun z => V.ref z.1)), I.laid (t' := s.toks) kp hd ⟨?_, zs.map (fun z => Value.ref z.1), n, ?_, hn⟩, rfl, q zs d (I.hok.fresh hd) z1 z3⟩
    · rw [List.length_map, z1.length_eq]
      rw [List.length_map] at hz
      exact hz
    · have := vals_refs (zs.map (·.1))
      rw [List.map_map, List.map_map] at this
      exact this
/-- sorted of a dict, its keys pairs -/
def rSortDT : List V → Hp → VK → Prop := fun vs H Q => ∃ (d : Addr) (kvs : List (List Key × V)) (ps : List (Int × Int)), vs = [.ref d] ∧ Rd H d (.dT kvs) ∧ kvs.map (·.1) = ps.map (fun p => [.inl p.1, .inl p.2]) ∧
  ∀ (zs : List (Addr × Int × Int)) p, H p = none → (∀ z ∈ zs, H z.1 = some (.tup [.int z.2.1, .int z.2.2])) → (zs.map (·.2)).Perm ps → (zs.map (·.2)).Pairwise (fun x y => leP x y = true) → Q (.ref p) (upd H p (.lst (zs.map fun z => V.ref z.1)))
theorem keys_zip {H : Hp} : ∀ {kvs : List (List Key × V)} {bs : List Addr} {ps : List (Int × Int)}, IsKeys H kvs bs → kvs.map (·.1) = ps.map (fun p => [.inl p.1, .inl p.2]) → ∃ ts : List (Addr × Int × Int), ts.map (·.1) = bs ∧ ts.map (·.2) = ps ∧ ∀ z ∈ ts, H z.1 = some (.tup [.int z.2.1, .int z.2.2])
  | [], bs, ps, h, e => by
    unfold IsKeys at h
    cases h
    cases ps with
    | nil => exact ⟨[], rfl, rfl, fun z m => nomatch m⟩
    | cons _ _ => cases e
  | kv :: kvs, bs, ps, h, e => by
    unfold IsKeys at h
    cases h with
    | cons h1 h2 =>
      rename_i b bs
      cases ps with
      | nil => cases e
      | cons p ps =>
        rw [List.map_cons, List.map_cons] at e
        obtain ⟨e1, e2⟩ := List.cons.inj e
        obtain ⟨ts, t1, t2, t3⟩ := keys_zip h2 e2
        refine ⟨(b, p) :: ts, by rw [List.map_cons, t1], by rw [List.map_cons, t2], fun z m => ?_⟩
        rcases List.mem_cons.mp m with m | m
        · subst m
          rw [e1] at h1
          exact h1
        · exact t3 z m
theorem cr_sortDT (hc : X.calm = true) : CallR X (.builtin "sorted") rSortDT := by
  intro pins s σ H xs us Q I r h
  obtain ⟨d, kvs, ps, rfl, hd, hk, q⟩ := h
  obtain ⟨u, rfl, rx⟩ := r.one
  cases rx
  obtain ⟨z, hs, ks, pr, o, es, ep, ho, hx, hdt, he, hn⟩ := (show ObjOk X.prog X.w H s.heap d (.dT kvs) from hd.ok I.hok)
  have l1 : es.size = ks.length := size_of_entries he
  have l2 : kvs.length = ks.length := Paired.length pr
  obtain ⟨ts, t1, t2, t3⟩ := keys_zip (isKeys_of pr) hk
  have hacc : ∀ acc' : Array Value, ItemsOf (fun i v => ∃ en : DictEntry, es[i]? = some en ∧ v = en.key) acc' es.size → acc'.toList = ts.map fun z => Value.ref z.1 := fun acc' it => by
    have ea : acc'.toList = ks.map fun x => Value.ref x.2.1 := by
      have hl : acc'.toList.length = ks.length := by rw [Array.length_toList, it.1]; exact l1
      apply List.ext_getElem?
      intro j
      rw [List.getElem?_map]
      cases hj : acc'.toList[j]? with
      | none =>
        have h1 := List.getElem?_eq_none_iff.mp hj
        rw [List.getElem?_eq_none (by omega)]
        all_goals rfl
      | some v =>
        obtain ⟨en, hen, hv⟩ := it.2 j v (by rw [← Array.getElem?_toList]; exact hj)
        have qe := entry_at he j
        rw [hen] at qe
        cases hb : ks[j]? with
        | none =>
          rw [hb] at qe
          exact nomatch (show some en = none from qe)
        | some b =>
          rw [hb] at qe
          have e2 : en = entryOfKey (tupleKind (mixKind X.prog X.w)) b := Option.some.inj qe
          rw [hv, e2]
          all_goals rfl
    have e3 : (ts.map fun z => Value.ref z.1) = (ts.map (·.1)).map Value.ref := by rw [List.map_map]; rfl
    rw [ea, e3, t1, List.map_map]
    rfl
  have hp : ∀ z ∈ ts, Srt.IsPair s.heap (.ref z.1) z.2.1 z.2.2 := fun z m => isPair_of I (.inl (.inl (t3 z m)))
  refine kdl_sorted (kdl_raw hs hx hdt) (I.ok.hd hc) ho (by omega) (SrtO.swo_lex (pv s.heap)) (fun acc h1 a tk it h2 ha kk => ?_) fun acc out h' tk a it h1 h2 kp hle hn => ?_
  · refine SrtO.pairs_sortableO (s := { s with heap := h1, toks := tk }) (by omega) (fun v hm => ?_) fun o e => ?_
    · rw [hacc acc it] at hm
      obtain ⟨z, hz, rfl⟩ := List.mem_map.mp hm
      have := hp z hz
      rw [pv_eq this]
      exact this.keeps fun b o e _ => (kk b o e).2
    · have e' : some o = some (seqObj "list" acc.toList.toArray 0) := e.symm.trans ha
      cases e'
      intro c
      exact absurd (Value.type.inj c) (by decide)
  · have hpm := h2.perm
    rw [hacc acc it] at hpm
    obtain ⟨zs, z1, rfl, z3⟩ := zs_of hp h1 hpm
    obtain ⟨n, hn⟩ := hn
    refine ⟨.ref a, upd H a (.lst (zs.map fun z => V.ref z.1)), I.laid (t' := tk) kp hle ⟨?_, zs.map (fun z => Value.ref z.1), n, ?_, hn⟩, rfl, q zs a (I.hok.fresh hle) (fun z m => t3 z (z1.mem_iff.mp m)) (by rw [← t2]; exact z1.map _) z3⟩
    · have hlen : ts.length = kvs.length := by
        have := congrArg List.length hk
        rw [List.length_map, List.length_map] at this
        rw [this, ← t2, List.length_map]
      rw [List.length_map, z1.length_eq, hlen]
      exact z
    · have := vals_refs (zs.map (·.1))
      rw [List.map_map, List.map_map] at this
      exact this
/-- sorted of a dict, its keys ints -/
def rSortDK : List V → Hp → VK → Prop := fun vs H Q => ∃ (d : Addr) (kvs : List (Key × V)) (ns : List Int), vs = [.ref d] ∧ Rd H d (.dK kvs) ∧ kvs.map (·.1) = ns.map .inl ∧
  ∀ (ns' : List Int) p, H p = none → ns'.Perm ns → ns'.Pairwise (· ≤ ·) → Q (.ref p) (upd H p (.lst (ns'.map V.int)))
theorem cr_sortDK (hc : X.calm = true) : CallR X (.builtin "sorted") rSortDK := by
  intro pins s σ H xs us Q I r h
  obtain ⟨p, kvs, ns, rfl, hk, hns, q⟩ := h
  obtain ⟨u, eu, rx⟩ := vals1 r
  subst eu
  obtain rfl : u = Value.ref p := rx
  obtain ⟨z, lo, vs, rk, hd⟩ := (show ObjOk X.prog X.w H s.heap p (.dK kvs) from hk.ok I.hok)
  obtain ⟨ep, hat⟩ := hd.dictAt
  have hl : kvs.length = vs.length := Paired.length rk
  have hln : ns.length = kvs.length := by
    have := congrArg List.length hns
    rw [List.length_map, List.length_map] at this
    exact this.symm
  have hv : ∀ acc' : Array Value, ItemsOf (fun i v => ∃ k x, vs[i]? = some (k, x) ∧ (mixKind X.prog X.w).is k v = true) acc' vs.length → Vals (ns.map V.int) acc'.toList := fun acc' hacc => by
    have el : acc'.toList.length = acc'.size := by simp
    refine vals_of_at (by rw [List.length_map, el, hacc.1, ← hl, hln]) fun j x w h1 h2 => ?_
    obtain ⟨k, y, hky, hi⟩ := hacc.2 j w (by rw [← Array.getElem?_toList]; exact h2)
    have e1 : (kvs.map (·.1))[j]? = some k := by
      rw [KV.keys rk, List.getElem?_map, hky] <;> rfl
    rw [hns, List.getElem?_map] at e1
    rw [List.getElem?_map] at h1
    cases hj : ns[j]? with
    | none => rw [hj] at e1; cases e1
    | some n =>
      rw [hj] at e1 h1
      cases e1
      cases h1
      exact (show RelV (kV (.inl n)) w from keyIs_rel hi)
  refine kdl_sorted (PySem.W.kdl_dict (knd := mixKind X.prog X.w) (kvs := vs) (ep := ep) lo) (I.ok.hd hc) hat (by rw [← hl]; exact z) SrtO.swo_int (fun acc h1 a tk it h2 ha kk => SrtO.ints_sortable (hv acc it).ints h2) fun acc out h' tk a it h1 h2 kp hle hn => ?_
  obtain ⟨k1, k2, k3⟩ := SrtO.ints_out (hv acc it).ints h1 h2
  obtain ⟨n, hn⟩ := hn
  exact ⟨.ref a, upd H a (.lst ((out.map SrtO.iv).map V.int)), I.laid (t' := tk) kp hle ⟨by rw [List.length_map, k2.length_eq, hln]; exact z, out, n, vals_of_ints k1, hn⟩, rfl, q _ a (I.hok.fresh hle) k2 k3⟩

/-! all of them -/
def rSortedA (K : Frg) : List V → Hp → VK → Prop := fun xs H Q => rSortedI K xs H Q ∨ (rSortP2 K xs H Q ∨ (rSortDT xs H Q ∨ rSortDK xs H Q))
theorem cr_sortedA (hc : X.calm = true) : CallR X (.builtin "sorted") (rSortedA X.K) := cr_sortedI.or (cr_sortP2.or ((cr_sortDT hc).or (cr_sortDK hc)))
section
variable {K : Frg}
theorem rpl_pairs {H : Hp} {N : Addr → Prop} : ∀ {ps : List (Int × Int)} {xs : List V}, RpL K H N (ps.map ofPair) xs → ∃ ts : List (Addr × Int × Int), xs = ts.map (fun z => V.ref z.1) ∧ ts.map (·.2) = ps ∧ ∀ z ∈ ts, SqT K H z.1 [.int z.2.1, .int z.2.2] ∧ Rp K H N (ofPair z.2) (.ref z.1)
  | [], xs, h => by
    have h : RpL K H N [] xs := h
    unfold RpL at h
    exact ⟨[], h, rfl, fun z m => nomatch m⟩
  | p :: ps, xs, h => by
    have h : RpL K H N (ofPair p :: ps.map ofPair) xs := h
    unfold RpL at h
    obtain ⟨x, r, rfl, h1, h2⟩ := h
    obtain ⟨ts, rfl, t2, t3⟩ := rpl_pairs h2
    obtain ⟨a, ys, rfl, hs, hr⟩ := Rp.sqt (ds := [.int p.1, .int p.2]) h1
    obtain ⟨v1, v2, rfl, w1, w2⟩ := rpl2 hr
    rw [rp_int_v w1, rp_int_v w2] at hs
    refine ⟨(a, p) :: ts, rfl, by rw [List.map_cons, t2], fun z m => ?_⟩
    rcases List.mem_cons.mp m with m | m
    · subst m
      exact ⟨hs, h1⟩
    · exact t3 z m
theorem rpl_of {H : Hp} {N : Addr → Prop} : ∀ {ts : List (Addr × Int × Int)}, (∀ z ∈ ts, Rp K H N (ofPair z.2) (.ref z.1)) → RpL K H N ((ts.map (·.2)).map ofPair) (ts.map fun z => V.ref z.1)
  | [], _ => RpL.nil
  | t :: ts, h => RpL.cons (h t List.mem_cons_self) (rpl_of fun z m => h z (List.mem_cons_of_mem _ m))
theorem dk_ints {H : Hp} {N : Addr → Prop} : ∀ {kvs : List (D × D)} {ps : List (Key × V)} {ns : List Int}, RpK K H N kvs ps → kvs.map (·.1) = ns.map .int → ps.map (·.1) = ns.map .inl
  | [], ps, ns, h, e => by
    unfold RpK at h
    subst h
    cases ns with
    | nil => rfl
    | cons _ _ => cases e
  | (k, d) :: r, ps, ns, h, e => by
    unfold RpK at h
    obtain ⟨q, x, t, rfl, rfl, h1, h2⟩ := h
    cases ns with
    | nil => cases e
    | cons n ns =>
      rw [List.map_cons, List.map_cons] at e
      obtain ⟨e1, e2⟩ := List.cons.inj e
      rw [List.map_cons, List.map_cons, dk_ints h2 e2]
      cases q with
      | inl i => cases e1; rfl
      | inr i => cases e1
theorem dk_pairs {H : Hp} {N : Addr → Prop} : ∀ {kvs : List (D × D)} {ps : List (Key × V)} {ns : List (Int × Int)}, RpK K H N kvs ps → kvs.map (·.1) = ns.map ofPair → kvs = [] ∧ ps = [] ∧ ns = []
  | [], ps, ns, h, e => by
    unfold RpK at h
    cases ns with
    | nil => exact ⟨rfl, h, rfl⟩
    | cons _ _ => cases e
  | (k, d) :: r, ps, ns, h, e => by
    unfold RpK at h
    obtain ⟨q, x, t, rfl, rfl, h1, h2⟩ := h
    cases ns with
    | nil => cases e
    | cons n ns =>
      rw [List.map_cons, List.map_cons] at e
      obtain ⟨e1, e2⟩ := List.cons.inj e
      cases q <;> cases e1
theorem dt_pairs {H : Hp} {N : Addr → Prop} : ∀ {kvs : List (D × D)} {ps : List (List Key × V)} {ns : List (Int × Int)}, RpT K H N kvs ps → kvs.map (·.1) = ns.map ofPair → ps.map (·.1) = ns.map fun p => [.inl p.1, .inl p.2]
  | [], ps, ns, h, e => by
    unfold RpT at h
    subst h
    cases ns with
    | nil => rfl
    | cons _ _ => cases e
  | (k, d) :: r, ps, ns, h, e => by
    unfold RpT at h
    obtain ⟨q, x, t, rfl, rfl, h1, h2⟩ := h
    cases ns with
    | nil => cases e
    | cons n ns =>
      rw [List.map_cons, List.map_cons] at e
      obtain ⟨e1, e2⟩ := List.cons.inj e
      rw [List.map_cons, List.map_cons, dt_pairs h2 e2]
      have e1 : PyData.tuple (q.map keyD) = .tuple [.int n.1, .int n.2] := e1
      have e3 : q.map keyD = [.int n.1, .int n.2] := by injection e1
      have e4 := congrArg dkeys e3
      rw [dkeys_keyD] at e4
      have e5 : dkeys [PyData.int n.1, PyData.int n.2] = some [.inl n.1, .inl n.2] := rfl
      rw [e5] at e4
      rw [Option.some.inj e4]
theorem dt_ints {H : Hp} {N : Addr → Prop} : ∀ {kvs : List (D × D)} {ps : List (List Key × V)} {ns : List Int}, RpT K H N kvs ps → kvs.map (·.1) = ns.map .int → ps = [] ∧ ns = []
  | [], ps, ns, h, e => by
    unfold RpT at h
    cases ns with
    | nil => exact ⟨h, rfl⟩
    | cons _ _ => cases e
  | (k, d) :: r, ps, ns, h, e => by
    unfold RpT at h
    obtain ⟨q, x, t, rfl, rfl, h1, h2⟩ := h
    cases ns with
    | nil => cases e
    | cons n ns =>
      rw [List.map_cons, List.map_cons] at e
      obtain ⟨e1, e2⟩ := List.cons.inj e
      cases e1
theorem nw_sorted : New1 K (rSortedA K) gSorted := by
  intro N x d d' H Q hr hg hq
  unfold gSorted at hg
  split at hg
  · rename_i ds
    obtain ⟨a, xs, rfl, q, r⟩ := hr
    unfold gSortL at hg
    split at hg
    · rename_i ns hns
      cases hg
      have := intsOf_eq hns
      subst this
      have hxs := rpl_ints r
      subst hxs
      refine .inl ⟨a, ns, rfl, SqL.of2 q, fun ns' p hp hs np => ?_⟩
      rw [sortI_uniq hp hs]
      exact hq N p _ _ Ext.refl np rfl (ints_rpl _)
    · cases hps : pairsOf ds with
      | none => rw [hps] at hg; cases hg
      | some ps =>
        rw [hps] at hg
        cases hg
        have := pairsOf_eq hps
        subst this
        obtain ⟨ts, rfl, t2, t3⟩ := rpl_pairs r
        refine .inr (.inl ⟨a, ts, rfl, SqL.of2 q, fun z m => (t3 z m).1, fun zs p np hz hs => ?_⟩)
        have e := sortP_uniq (hz.map (·.2)) hs
        rw [t2] at e
        exact hq N p _ _ Ext.refl np rfl (by rw [← e]; exact rpl_of fun z m => (t3 z (hz.mem_iff.mp m)).2)
  · rename_i kvs
    obtain ⟨a, rfl, hd⟩ := hr
    unfold gSortL at hg
    split at hg
    · rename_i ns hns
      cases hg
      have hk := intsOf_eq hns
      rcases hd with ⟨ps, q, r⟩ | ⟨ps, q, r⟩
      · refine .inr (.inr (.inr ⟨a, ps, ns, rfl, q, dk_ints r hk, fun ns' p np hp hs => ?_⟩))
        rw [sortI_uniq hp hs]
        exact hq N p _ _ Ext.refl np rfl (ints_rpl _)
      · obtain ⟨rfl, rfl⟩ := dt_ints r hk
        refine .inr (.inr (.inl ⟨a, [], [], rfl, .inl q, rfl, fun zs p np hz hp hs => ?_⟩))
        have : zs = [] := List.map_eq_nil_iff.mp (List.Perm.eq_nil hp)
        subst this
        exact hq N p _ _ Ext.refl np rfl (by rw [show sortI [] = [] from List.mergeSort_nil]; exact RpL.nil)
    · cases hps : pairsOf (kvs.map (·.1)) with
      | none => rw [hps] at hg; cases hg
      | some ps =>
        rw [hps] at hg
        cases hg
        have hk := pairsOf_eq hps
        rcases hd with ⟨qs, q, r⟩ | ⟨qs, q, r⟩
        · obtain ⟨rfl, rfl, rfl⟩ := dk_pairs r hk
          refine .inr (.inr (.inr ⟨a, [], [], rfl, q, rfl, fun ns' p np hp hs => ?_⟩))
          have := List.Perm.eq_nil hp
          subst this
          exact hq N p _ _ Ext.refl np rfl (by show RpL K H N ((sortP []).map ofPair) []; rw [show sortP [] = [] from List.mergeSort_nil]; exact RpL.nil)
        · refine .inr (.inr (.inl ⟨a, qs, ps, rfl, .inl q, dt_pairs r hk, fun zs p np hz hp hs => ?_⟩))
          have e := sortP_uniq hp hs
          refine hq (fun b => N b ∨ Tu H b) p _ _ ⟨fun _ _ e => e, fun _ n => .inl n, fun b n => n.elim .inl fun n => .inr (.inr n), fun _ z => (nomatch z), fun _ z => (nomatch z), List.nodup_nil⟩ np rfl (by rw [← e]; refine rpl_of fun z m => ?_; unfold ofPair Rp; exact ⟨z.1, _, rfl, .inl ⟨.inr ⟨_, hz z m⟩, .inl (hz z m)⟩, RpL.cons rp_int (RpL.cons rp_int RpL.nil)⟩)
  · cases hg
end
end
end T3
end
set_option Elab.async false
set_option linter.all false
set_option maxRecDepth 100000
set_option maxHeartbeats 1000000
noncomputable section
namespace T3
open PySem PySem.Spec PyProof.Rows L2
section
variable {X : Cx} {e ee a b o j : Expr} {es : List Expr} {K : Frg} {W : Addr → Prop} {P : Pin} {G G' G1 G2 G3 Gb : Gm} {m mr : Md} {ks : List Ak} {pos p px apos cpos tpos : Pos} {x : Str} {i : Nat}
theorem room190 {k : Nat} {A : Around} (r : Room k A) : A.units + 190 < cLine := by have := r.un; omega

/-! ### repr -/
def shwD (d : D) : Bool := shp d && (d.showable && decide (d.shown.length ≤ sizeLine))
def rRepr (K : Frg) : List V → Hp → VK → Prop := fun xs H Q => ∃ x d, xs = [x] ∧ Dp K H x d ∧ shwD d = true ∧ Q (.str d.shown) H
theorem noDict_lay : (∀ d : D, d.canLay0 = true → d.hasDict = false) := fun d h => by
  exact PyData.hasDict_of_canLay d h
theorem cr_repr (hu : X.A.units + 190 < cLine) (hgd : X.A.guards = some []) : CallR X (.builtin "repr") (rRepr X.K) := by
  intro pins s σ H xs us Q I r h
  obtain ⟨x, d, rfl, hd, hs, q⟩ := h
  obtain ⟨u, rfl, ru⟩ := vals1 r
  unfold shwD at hs
  have h1 := (Bool.and_eq_true _ _).mp hs
  have h2 := (Bool.and_eq_true _ _).mp h1.2
  have hz := of_decide_eq_true h2.2
  obtain ⟨as, rd⟩ := Dp.reads I d x u hd ru
  have hdep := SeqAt.depth_of_shaped h1.1
  have nd := noDict_lay d (shp_lay h1.1)
  cases hd with
  | non => cases ru; exact PySem.P.repr_of_none ⟨.str _, H, I.tok _, ⟨_, rfl⟩, q⟩
  | bl b => cases ru; exact PySem.P.repr_of_bool ⟨.str _, H, I.tok _, ⟨_, rfl⟩, q⟩
  | int i =>
    obtain ⟨t, rfl⟩ := ru
    exact PySem.P.repr_of_int (by have := h2.1; simpa only [PyData.showable, decide_eq_true_eq] using this) ⟨.str _, H, I.tok _, ⟨_, rfl⟩, q⟩
  | str z =>
    obtain ⟨t, rfl⟩ := ru
    exact PySem.P.repr_of_str (hsz := hz) ⟨.str _, H, I.tok _, ⟨_, rfl⟩, q⟩
  | lst _ _ =>
    obtain ⟨a, rfl⟩ := isRef_of_reads rd rfl
    exact repr_of_reads' rd h2.1 (PyData.noDict_hsm nd) hgd (by omega) (fun _ _ e => e) (fun h' u tk hk => ⟨.str _, H, I.kept (t' := tk) hk, ⟨_, rfl⟩, q⟩) hz
  | tup _ _ =>
    obtain ⟨a, rfl⟩ := isRef_of_reads rd rfl
    exact repr_of_reads' rd h2.1 (PyData.noDict_hsm nd) hgd (by omega) (fun _ _ e => e) (fun h' u tk hk => ⟨.str _, H, I.kept (t' := tk) hk, ⟨_, rfl⟩, q⟩) hz
def gRepr : List D → Option D
  | [d] => @ite (Option _) (shwD d = true) (Classical.propDecidable _) (some (.str d.shown)) none
  | _ => none
theorem fl_repr : FlatC K (rRepr K) gRepr := by
  intro xs ds d H Q hr hg hq
  unfold gRepr at hg
  split at hg
  · split at hg
    · rename_i d0 hs
      cases hg
      obtain ⟨v, rfl, hv⟩ := rpl1 hr
      have h1 := (Bool.and_eq_true _ _).mp (show (shp d0 && _) = true from hs)
      exact ⟨v, d0, rfl, Rp.dp _ _ (shp_lay h1.1) hv, hs, hq _ rfl⟩
    · cases hg
  · cases hg

/-! ### sep.join(list of texts) -/
def strsOf : List D → Option (List Str)
  | [] => some []
  | .str x :: ds => (strsOf ds).bind fun xs => some (x :: xs)
  | _ => none
theorem strsOf_eq : ∀ {ds : List D} {ns : List Str}, strsOf ds = some ns → ds = ns.map .str
  | [], ns, h => by cases h; rfl
  | .str x :: ds, ns, h => by
    obtain ⟨r, h1, h⟩ := opt_bind (show (strsOf ds).bind (fun xs => some (x :: xs)) = some ns from h)
    cases h
    rw [strsOf_eq h1]
    rfl
  | .none :: _, _, h => nomatch h
  | .bool _ :: _, _, h => nomatch h
  | .int _ :: _, _, h => nomatch h
  | .list _ :: _, _, h => nomatch h
  | .tuple _ :: _, _, h => nomatch h
  | .dict _ :: _, _, h => nomatch h
theorem strsOf_map : ∀ ns : List Str, strsOf (ns.map .str) = some ns
  | [] => rfl
  | x :: ns => by
    show (strsOf (ns.map .str)).bind (fun xs => some (x :: xs)) = _
    rw [strsOf_map ns]
    rfl
theorem rpl_strs {H : Hp} {N : Addr → Prop} : ∀ {ns : List Str} {xs : List V}, RpL K H N (ns.map .str) xs → xs = ns.map V.str
  | [], xs, h => by
    have h : RpL K H N [] xs := h
    unfold RpL at h; exact h
  | x :: ns, xs, h => by
    have h : RpL K H N (.str x :: ns.map .str) xs := h
    unfold RpL at h
    obtain ⟨v, r, rfl, h1, h2⟩ := h
    rw [rp_str_v h1, rpl_strs h2]
    rfl
def gJoin (d l : D) : Option D := match d, l with
  | .str a, .list ds => (strsOf ds).bind fun ys => @ite (Option _) ((ys.map (·.length)).sum + ys.length * a.length ≤ 16777216) (Classical.propDecidable _) (some (.str (Txt.join a ys))) none
  | _, _ => none
theorem e_join {fa fb : En → Option (D × En)} (ho : PE X o (tE X.K W P G G1 .sh fa)) (he : PE X e (tE X.K W P G1 G2 .sh fb)) (hs : starEach [e] X.env = [(false, eval e X.env)] := by rfl) (hbase : attributeBase o "join" X.env (eval o X.env) = eval o X.env := by rfl) (hline : (apos.endLine == pos.line) = true := by rfl) :
    PE X (.Call (.Attribute o "join" apos) [e] [] pos) (tE X.K W P G G2 .sh (e2 gJoin fa fb)) :=
  pe_weak (pe_join ho he hs hbase hline) fun σ H Q ⟨env, N, A, d, env', er, ef, q⟩ => by
    obtain ⟨⟨dx, env1⟩, ea, ef⟩ := opt_bind ef
    obtain ⟨⟨dy, env2⟩, eb, ef⟩ := opt_bind ef
    obtain ⟨d', eg, ef⟩ := opt_bind ef
    cases ef
    refine ⟨env, N, A, dx, env1, er, ea, fun x H1 N1 A1 B1 s1 r1 h1 b1 => ?_⟩
    unfold RpM at h1
    obtain ⟨h1, rfl⟩ := h1
    match dx, dy, eg with
    | .str z, .list ds, eg =>
      obtain ⟨ys, ey, eg⟩ := opt_bind eg
      have eg : (@ite (Option _) ((ys.map (·.length)).sum + ys.length * z.length ≤ 16777216) (Classical.propDecidable _) (some (PyData.str (Txt.join z ys))) none) = some d := eg
      split at eg
      · rename_i hz
        cases eg
        refine ⟨⟨z, rp_str_v h1⟩, env1, N1, A1, _, env2, r1, eb, fun y H2 N2 A2 B2 s2 r2 h2 b2 => ?_⟩
        unfold RpM at h2
        obtain ⟨h2, rfl⟩ := h2
        have := strsOf_eq ey
        subst this
        obtain ⟨c, xs, rfl, hq, hr⟩ := h2.sql
        have hxs := rpl_strs hr
        subst hxs
        exact ⟨z, c, ys, rp_str_v h1, rfl, .inl hq, hz, q _ H2 N2 A2 [] (s1.trans s2) r2 (RpM.sh_of rp_str) Bok.nil⟩
      · cases eg

/-! ### pairs of ints one before the other -/
def gLtP (x y : D) : Option D := match pairOf x, pairOf y with
  | some p, some q => some (.bool (!leP q p))
  | _, _ => none
theorem lexLt_pair (p q : Int × Int) : HT.lexLt [p.1, p.2] [q.1, q.2] = !leP q p := by
  have h : HT.lexLt [p.1, p.2] [q.1, q.2] = if p.1 = q.1 then (if p.2 = q.2 then false else decide (p.2 < q.2)) else decide (p.1 < q.1) := rfl
  have e : (!leP q p) = true ↔ ¬ (leP q p = true) := by cases leP q p <;> simp
  rw [h, Bool.eq_iff_iff, e, leP_iff]
  split
  · split
    · simp
      omega
    · rw [decide_eq_true_eq]
      omega
  · rw [decide_eq_true_eq]
    omega
theorem fl_ltP : Flat2 K (rLtT K) gLtP := by
  intro x y dx dy d H Q hx hy hg hq
  unfold gLtP at hg
  split at hg
  · rename_i p q hp hqq
    cases hg
    rw [pairOf_eq hp] at hx
    rw [pairOf_eq hqq] at hy
    obtain ⟨a, xs, rfl, hs, hr⟩ := Rp.sqt (ds := [.int p.1, .int p.2]) hx
    obtain ⟨v1, v2, rfl, w1, w2⟩ := rpl2 hr
    obtain ⟨b, ys, rfl, hs2, hr2⟩ := Rp.sqt (ds := [.int q.1, .int q.2]) hy
    obtain ⟨v3, v4, rfl, w3, w4⟩ := rpl2 hr2
    rw [rp_int_v w1, rp_int_v w2] at hs
    rw [rp_int_v w3, rp_int_v w4] at hs2
    exact ⟨a, b, [p.1, p.2], [q.1, q.2], rfl, rfl, hs, hs2, by rw [lexLt_pair]; exact hq _ rfl⟩
  · cases hg

/-! ### list(range(n)) -/
def gLr1 : D → Option D
  | .int n => @ite (Option _) (n ≤ 16777216 ∧ -(2 ^ 62) ≤ n) (Classical.propDecidable _) (some (.list (intsFrom 0 n.toNat))) none
  | _ => none
theorem e_lr1 {fa : En → Option (D × En)} {p2 pos2 : Pos} (hc : X.calm = true) (hg : Gl X "list") (hm : X.mg "list" = none) (hg2 : Gl X "range") (hm2 : X.mg "range" = none) (ha : PE X e (tE X.K W P G G1 .sh fa)) (na : starEach [.Call (.Name "range" p2) [e] [] pos2] X.env = (false, eval (.Call (.Name "range" p2) [e] [] pos2) X.env) :: starEach [] X.env := by rfl)
    (na2 : starEach [e] X.env = (false, eval e X.env) :: starEach [] X.env := by rfl) :
    PE X (.Call (.Name "list" p) [.Call (.Name "range" p2) [e] [] pos2] [] pos) (tE X.K W P G G1 (.ow .sh) (e1 gLr1 fa)) :=
  pe_weak (pe_listRg hc hg hm (prg_1 hg2 hm2 ha na2) na) fun σ H Q ⟨env, N, A, d, env', er, ef, q⟩ => by
    obtain ⟨⟨dx, env1⟩, ea, ef⟩ := opt_bind ef
    obtain ⟨d', eg, ef⟩ := opt_bind ef
    cases ef
    refine ⟨env, N, A, dx, env1, er, ea, fun v H1 N1 A1 B1 s1 r1 h1 b1 => ?_⟩
    unfold RpM at h1
    obtain ⟨h1, rfl⟩ := h1
    cases dx with
    | int n =>
      have eg : (@ite (Option _) (n ≤ 16777216 ∧ -(2 ^ 62) ≤ n) (Classical.propDecidable _) (some (PyData.list (intsFrom 0 n.toNat))) none) = some d := eg
      split at eg
      · rename_i hn
        cases eg
        refine ⟨n, rp_int_v h1, ⟨by omega, by omega, by omega, by omega, by omega⟩, fun p np => ?_⟩
        have hr : RpL X.K H1 N1 (intsFrom 0 n.toNat) (rgV 0 n) := by
          unfold intsFrom rgV
          rw [show n - 0 = n by omega]
          have := ints_rpl (K := X.K) (H := H1) (N := N1) ((List.range n.toNat).map fun i => (0 : Int) + (i : Nat))
          rw [List.map_map, List.map_map] at this
          exact this
        exact q (.ref p) _ N1 A1 [p] (s1.newB np) (r1.new np) (RpM.new_list np hr) (Bok.nil.newB r1 np fun _ z => (nomatch z))
      · cases eg
    | _ => cases eg
end
end T3
end
set_option Elab.async false
set_option linter.all false
set_option maxRecDepth 100000
set_option maxHeartbeats 1000000
noncomputable section
namespace T3
open PySem PySem.Spec PyProof.Rows L2
/-! ### a call that changes a thing made for it (its first argument) -/
section
variable {X : Cx} {e ee a b o j : Expr} {es : List Expr} {K : Frg} {W : Addr → Prop} {P : Pin} {G G' G1 G2 G3 Gb : Gm} {m mr : Md} {ks : List Ak} {pos p px apos cpos tpos : Pos} {x : Str} {i : Nat}
theorem ER.side {H H' : Hp} {N N' : Addr → Prop} {env : En} {σ : L2.St} {A A0 A0' : Ow} {B B' : List Addr} (r : ER K W P H N G env σ A) (b : Bok N W A B) (s : Stp H N A0 H' N' A0' B') (h0 : ∀ a, O A0 a → a ∈ B) (tr : ∀ a, N' a → ∃ o, H' a = some o) : ER K W P H' N' G env σ A := by
  have kp : Keeps H N H' N' := fun a o e n => ⟨s.keep a o e fun z => b.bn a (h0 a z) n, s.up a n⟩
  have kw : Keeps H (fun a => N a ∨ W a) H' (fun a => N' a ∨ W a) := fun a o e n => ⟨s.keep a o e fun z => n.elim (b.bn a (h0 a z)) (b.bw a (h0 a z)), n.imp (s.up a) id⟩
  refine ⟨r.le, r.ls, fun i m g => ?_, r.no, r.nd, r.dj, tr, fun i a z n => ?_, r.pn, fun a n => ?_, r.wd⟩
  · obtain ⟨d, v, h1, h2, h3⟩ := r.sl i m g
    exact ⟨d, v, h1, h2, RpM.mono kp kw m d v _ (fun a z o q => s.keep a o q fun w => b.ba a (h0 a w) ⟨i, z⟩) h3⟩
  · rcases s.fz a n with n | n | n | n
    · exact r.dn i a z n
    · exact b.ba a (h0 a n) ⟨i, z⟩
    · obtain ⟨o, q⟩ := r.trk z
      rw [n] at q; cases q
    · exact r.nt z n
  · obtain ⟨o, q⟩ := r.wt a n
    exact ⟨o, s.keep a o q fun w => b.bw a (h0 a w) n⟩
theorem Stp.side {H H' H'' : Hp} {N N' N'' : Addr → Prop} {A A' A0 A0' : Ow} {B B' : List Addr} (s1 : Stp H N A H' N' A' B) (s : Stp H' N' A0 H'' N'' A0' B') (h0 : ∀ a, O A0 a → a ∈ B) : Stp H N A H'' N'' A' B' := by
  have nb : ∀ a o, H a = some o → ¬ O A a → a ∉ B := fun a o e n z => by
    rcases s1.bf a z with w | w
    · exact n w
    · rw [w] at e; cases e
  refine ⟨fun a o e n => s.keep a o (s1.keep a o e n) fun z => nb a o e n (h0 a z), fun a o e => ?_, s1.own, fun a z => ?_, fun a n => s.up a (s1.up a n), fun a n => ?_⟩
  · obtain ⟨o', e'⟩ := s1.trk a o e
    exact s.trk a o' e'
  · rcases s.bf a z with z | z
    · exact s1.bf a (h0 a z)
    · exact .inr (s1.none_of z)
  · rcases s.fz a n with n | n | n | ⟨xs, n⟩
    · exact s1.fz a n
    · exact .inr ((s1.bf a (h0 a n)).imp id .inl)
    · exact .inr (.inr (.inl (s1.none_of n)))
    · by_cases o : O A a
      · exact .inr (.inl o)
      · cases h : H a with
        | none => exact .inr (.inr (.inl rfl))
        | some u =>
          have q := s1.keep a u h o
          rw [n] at q
          cases q
          exact .inr (.inr (.inr ⟨xs, h⟩))
def fClM (F : List D → Option (D × D)) (fa : En → Option (D × En)) (fs : En → Option (List D × En)) : En → Option (D × En) := fun e => (fa e).bind fun x => (fs x.2).bind fun y => (F (x.1 :: y.1)).bind fun z => some (z.1, y.2)
theorem tE_callM {Gp : Gm} {F : List D → Option (D × D)} {fa : En → Option (D × En)} {fs : En → Option (List D × En)} {σ : L2.St} {H : Hp} {Q : VK} {E : L2.St → XK} (ok : okAks Gp ks = true) (np : mr.np = true) (npm : m.np = true)
    (h : tE K W P G G2 mr (fClM F fa fs) σ H Q) : tCl (spI K (some m :: Gp) 0 m mr F) E (tCons (tE K W P G G1 m fa) (tAr K W P G1 G2 ks fs)) σ H Q := by
  obtain ⟨env, N, A, d, env', r, ef, q⟩ := h
  obtain ⟨⟨d1, env1⟩, ea, ef⟩ := opt_bind ef
  obtain ⟨⟨ds, env2⟩, es, ef⟩ := opt_bind ef
  obtain ⟨⟨d0, d'⟩, eF, ef⟩ := opt_bind ef
  cases ef
  refine ⟨env, N, A, d1, env1, r, ea, fun u H1 N1 A1 B1 s1 r1 hu bu => ⟨env1, N1, A1, ds, env2, r1, es, fun xs H2 N2 A2 s2 r2 h2 => ?_⟩⟩
  have hu2 := s2.val r1 bu hu
  have bu2 := s2.bok bu hu
  obtain ⟨l1, l2, hat⟩ := h2.at
  obtain ⟨lg, gat⟩ := okAks.at ok
  have own : ∀ a, O (fun k => if k = 0 then B1 else []) a → a ∈ B1 := fun a ⟨k, z⟩ => by
    have z : a ∈ (if k = 0 then B1 else []) := z
    split at z
    · exact z
    · cases z
  refine ⟨by show xs.length + 1 = Gp.length + 1; rw [l2, lg], fun a => W a ∨ O A2 a, N2, d1 :: ds, d0, d', B1, u, ?_, rfl, eF, fun v H3 N3 A3 B s3 hm bm tr hv bv => ?_⟩
  · refine ⟨by show ds.length + 1 = Gp.length + 1; rw [l1, lg], by show (xs.map some).length + 1 = Gp.length + 1; rw [List.length_map, l2, lg], fun l ml gl => ?_, fun l no => ?_, fun l => ?_, fun l l' a z z' => ?_, r2.tr, fun l a z => ?_, fun _ _ _ z => (nomatch z), fun a n => n.elim (r2.wt a) r2.otrk, fun l a z => ?_⟩
    · cases l with
      | zero =>
        cases gl
        exact ⟨d1, u, rfl, rfl, by rw [if_pos rfl]; exact RpM.nw _ _ _ _ npm hu2⟩
      | succ l =>
        have gl : Gp[l]? = some (some ml) := by simpa using gl
        obtain ⟨k, ek, ok1⟩ := gat l _ gl
        obtain ⟨dl, xl, e1, e2, e3⟩ := hat l k ek
        refine ⟨dl, xl, by simpa using e1, by simp [e2], ?_⟩
        rw [if_neg (by omega)]
        cases ml with
        | sh =>
          cases k with
          | vl => exact RpM.sh_of e3
          | lk => cases ok1
          | sl i => cases ok1
        | pk =>
          unfold RpM
          refine ⟨?_, rfl⟩
          cases k with
          | vl => exact Rp.mono (fun a o e n => ⟨e, .inl n⟩) _ _ e3
          | lk => exact Rp.mono (fun a o e n => ⟨e, n.imp id .inl⟩) _ _ e3
          | sl i => exact Rp.mono (fun a o e n => ⟨e, n.imp id fun n => n.imp id fun n => ⟨i, n⟩⟩) _ _ e3.2.2
        | ow _ => cases k <;> cases ok1
        | tu _ => cases k <;> cases ok1
        | dc _ => cases k <;> cases ok1
    · have : l ≠ 0 := fun z => no m (by rw [z]; rfl)
      rw [if_neg this]
    · split
      · exact bu2.bd
      · exact List.nodup_nil
    · split at z
      · split at z'
        · rename_i a1 a2; rw [a1, a2]
        · cases z'
      · cases z
    · split at z
      · exact bu2.bn a z
      · cases z
    · split at z
      · exact fun n => n.elim (bu2.bw a z) (bu2.ba a z)
      · cases z
  · have s12 := s1.trans s2
    have st : Stp H N A H2 N2 A2 B1 := ⟨s12.keep, s12.trk, s12.own, fun a z => s1.bf a z, s12.up, s12.fz⟩
    exact q v H3 N3 A2 B (st.side s3 own) (r2.side bu2 s3 own tr) (RpM.nw _ _ _ _ np hv) ⟨bv.bn, fun a z w => bv.bw a z (.inl w), fun a z w => bv.bw a z (.inr w), bv.bd⟩
theorem e_callM {k : Nat} {f : Addr} {fd : FuncData} {ps : List Str} {Gp : Gm} {F : List D → Option (D × D)} {fa : En → Option (D × En)} {fs : En → Option (List D × En)} (Fn : FnG X.prog X.w X.K X.mg X.base CX0 k f fd ps (spI X.K (some m :: Gp) 0 m mr F)) (hr : Room k X.A) (hgd : X.A.guards = some []) (hg : Gl X x) (hm : X.mg x = some (.ref f)) (hk : PySem.W.keepIn X.K (.ref f) = true)
    (hb : Binds X.K fd ps []) (ha : PE X e (tE X.K W P G G1 m fa)) (har : PA X es (tAr X.K W P G1 G2 ks fs)) (ok : okAks Gp ks = true := by rfl) (np : mr.np = true := by rfl) (npm : m.np = true := by rfl) (hdb : (x == ("__debug__" : Str)) = false := by decide)
    (he : starEach (e :: es) X.env = (false, eval e X.env) :: starEach es X.env := by rfl) (hpl : (backTo pos (starEach es X.env)).any (·.1) = false := by rfl) :
    PE X (.Call (.Name x p) (e :: es) [] pos) (tE X.K W P G G2 mr (fClM F fa fs)) :=
  pe_weak (pe_g (E := fun _ => E0) Fn hr hgd hg hm hk hb (fun _ _ _ _ _ _ _ h => h.elim) (pa_cons ha har he) hdb he hpl) fun σ H Q h => tE_callM ok np npm h
end
end T3
end
set_option Elab.async false
set_option linter.all false
set_option maxRecDepth 100000
set_option maxHeartbeats 1000000
noncomputable section
namespace T3
open PySem PySem.Spec PyProof.Rows L2
section
variable {X : Cx} {c : Cc} {K : Frg} {W : Addr → Prop} {P : Pin} {G G' G1 G2 Gb Gt Gu Ge : Gm} {m : Md} {pos spos : Pos}
theorem tE_s {f : En → Option (D × En)} (np : m.np = true) {σ : L2.St} {H : Hp} {Q : VK} (h : tE K W P G G' .sh f σ H Q) : tE K W P G G' m f σ H Q := by
  obtain ⟨env, N, A, d, env', r, ef, q⟩ := h
  exact ⟨env, N, A, d, env', r, ef, fun v H' N' A' B st r' hv b =>
    q v H' _ A' [] st.frz (r'.frz b (RpM.trk m d v B hv)) (RpM.sh_of (RpM.freeze (fun a n => .inl n) m d v B np (fun a z => .inr z) hv)) Bok.nil⟩
/-- name = [.. for ..], all on one line -/
theorem s_setLc {i : Nat} {y : Str} {py : Pos} {elt tg iter : Expr} {ifs : List Expr} {scope : Scope} {own : List (Str × Nat)} {fi : En → Option (List D × En)} {gt : En → D → Option En} {ft : En → Option (Bool × En)} {fe : En → Option (D × En)}
    (hc : X.calm = true) (hN : X.N.Nodup) (hy : X.N[i]? = some y) (hyl : X.env.scope.names.lookup y = some .local) (hsw : swapsWith (.ListComp elt [⟨tg, iter, ifs, 0⟩] scope pos) (some (.Name y py)) spos.line X.env = pure true)
    (hi : PI X tg iter (tI c.K c.W c.P G G1 fi)) (ok : BlkOk X.N X.env.scope scope own)
    (hg : ∀ (s : Shared) (H : Hp) (C : Addr) (cl : List (Str × Addr)) (fp : List Addr), PG (X.blk s H scope (compEnvC scope cl C X.env) fp) tg (tGr c.K c.W c.P (own.map (·.2)) (wpG (own.map (·.2)) G1) Gt gt))
    (ht : ∀ (s : Shared) (H : Hp) (C : Addr) (cl : List (Str × Addr)) (fp : List Addr), PTs (X.blk s H scope (compEnvC scope cl C X.env) fp) ifs (tB c.K c.W c.P Gt Gu ft))
    (he : ∀ (s : Shared) (H : Hp) (C : Addr) (cl : List (Str × Addr)) (fp : List Addr), PE (X.blk s H scope (compEnvC scope cl C X.env) fp) elt (tE c.K c.W c.P Gu Ge m fe))
    (hK : c.K = X.K) (h1 : wpG (own.map (·.2)) Gu = wpG (own.map (·.2)) G1) (h2 : wpG (own.map (·.2)) Ge = wpG (own.map (·.2)) G1) (hpn : ∀ i ∈ own.map (·.2), c.P i = none) (hl : i < (wpG (own.map (·.2)) G1).length) (hp : c.P i = none) (hs : ∀ x, foldedSetIterable iter X.env x = pure x := by intro _; rfl) (hG : (wpG (own.map (·.2)) G1).set i (some (.ow m)) = G2 := by rfl) :
    PS X (.Assign [.Name y py] (.ListComp elt [⟨tg, iter, ifs, 0⟩] scope pos) spos) (tS c G G2 Gb (sSet i (fLc fi gt (own.map (·.2)) ft fe))) := by
  obtain ⟨K, W', P', Gr, mr⟩ := c
  simp only at hK
  subst hK hG
  refine ps_weak (ps_setLc hc hN hy hyl hsw hi ok hg ht he hs) fun D σ H h => ?_
  obtain ⟨env, N, A, rr, r, ef, q⟩ := h
  obtain ⟨⟨d, e1⟩, ea, ef⟩ := opt_bind ef
  cases ef
  exact tLc_of h1 h2 hpn ⟨env, N, A, d, e1, r, ea, fun v H1 N1 A1 B s1 r1 hv bv => q (σ.set i (some v)) H1 N1 (A1.put i B) s1.put (r1.set hl hp bv hv)⟩
/-- .. its items and itself frozen -/
theorem s_setLcS {i : Nat} {y : Str} {py : Pos} {elt tg iter : Expr} {ifs : List Expr} {scope : Scope} {own : List (Str × Nat)} {fi : En → Option (List D × En)} {gt : En → D → Option En} {ft : En → Option (Bool × En)} {fe : En → Option (D × En)}
    (hc : X.calm = true) (hN : X.N.Nodup) (hy : X.N[i]? = some y) (hyl : X.env.scope.names.lookup y = some .local) (hsw : swapsWith (.ListComp elt [⟨tg, iter, ifs, 0⟩] scope pos) (some (.Name y py)) spos.line X.env = pure true)
    (hi : PI X tg iter (tI c.K c.W c.P G G1 fi)) (ok : BlkOk X.N X.env.scope scope own)
    (hg : ∀ (s : Shared) (H : Hp) (C : Addr) (cl : List (Str × Addr)) (fp : List Addr), PG (X.blk s H scope (compEnvC scope cl C X.env) fp) tg (tGr c.K c.W c.P (own.map (·.2)) (wpG (own.map (·.2)) G1) Gt gt))
    (ht : ∀ (s : Shared) (H : Hp) (C : Addr) (cl : List (Str × Addr)) (fp : List Addr), PTs (X.blk s H scope (compEnvC scope cl C X.env) fp) ifs (tB c.K c.W c.P Gt Gu ft))
    (he : ∀ (s : Shared) (H : Hp) (C : Addr) (cl : List (Str × Addr)) (fp : List Addr), PE (X.blk s H scope (compEnvC scope cl C X.env) fp) elt (tE c.K c.W c.P Gu Ge .sh fe))
    (hK : c.K = X.K) (h1 : wpG (own.map (·.2)) Gu = wpG (own.map (·.2)) G1) (h2 : wpG (own.map (·.2)) Ge = wpG (own.map (·.2)) G1) (hpn : ∀ i ∈ own.map (·.2), c.P i = none) (hl : i < (wpG (own.map (·.2)) G1).length) (hp : c.P i = none) (hs : ∀ x, foldedSetIterable iter X.env x = pure x := by intro _; rfl) (hG : (wpG (own.map (·.2)) G1).set i (some .sh) = G2 := by rfl) :
    PS X (.Assign [.Name y py] (.ListComp elt [⟨tg, iter, ifs, 0⟩] scope pos) spos) (tS c G G2 Gb (sSet i (fLc fi gt (own.map (·.2)) ft fe))) := by
  obtain ⟨K, W', P', Gr, mr⟩ := c
  simp only at hK
  subst hK hG
  refine ps_weak (ps_setLc hc hN hy hyl hsw hi ok hg ht he hs) fun D σ H h => ?_
  obtain ⟨env, N, A, rr, r, ef, q⟩ := h
  obtain ⟨⟨d, e1⟩, ea, ef⟩ := opt_bind ef
  cases ef
  exact tLc_of h1 h2 hpn (tE_s rfl ⟨env, N, A, d, e1, r, ea, fun v H1 N1 A1 B s1 r1 hv bv => q (σ.set i (some v)) H1 N1 (A1.put i B) s1.put (r1.set hl hp bv hv)⟩)
end

/-! ### the end: the law is called -/
theorem law_callG {Pg : Program} {w : World} {K : Frg} {mg mb : Str → Option Value} {k : Nat} {fa a : Addr} {fd : FuncData} {x : Str} {sp : Sp} {s₁ : Shared} {vs : List Value} {ns : List Int}
    (KX : K.In s₁.heap) (hns : s₁.heap.Ns mainGlobals mg) (hb : s₁.heap.Ns builtinsNs mb) (hbb : ∀ x : Str, x ≠ "__name__" → mb x = bootBuiltins x) (hlim : s₁.heap.NoLimit) (hg : s₁.gens = #[])
    (ha : s₁.heap.get? a = some { cls := .type "list", data := .seq vs.toArray }) (hi : IntsAre vs ns) (hl : ns.length ≤ sizeLine) (hr : Room k callerA)
    (F : ∀ base : Heap, K.In base → base.Ns mainGlobals mg → FnG Pg w K mg base CX0 k fa fd [x] sp) (hbind : ∀ (s : Shared) (u : Value), BindsTo s fd ⟨[u], []⟩ [(x, u)])
    (hsp : ∀ (H : Hp) (N : Addr → Prop), (∀ b, N b → ∃ o, H b = some o) → Rp K H N (.list (ns.map .int)) (.ref a) → sp [.ref a] H (fun v _ => v = .bl true) fun _ _ _ => False) :
    codeAny (model Pg w) callerA (.call (.ref fa) ⟨[.ref a], []⟩) (fun r s' => r = .ok (.ret (.bool true)) ∧ OldK s₁.heap s'.heap ∧ s'.os = s₁.os ∧ AllBare s'.gens) s₁ := by
  have rv := vals_ints hi
  have lenV := hi.length
  have core : ∀ H : Hp, Only H → sp [.ref a] H (fun v _ => v = .bl true) (fun _ _ _ => False) → HOk Pg w H s₁.heap → (∀ b, H b ≠ none → b = a) → (H a ≠ none → K.lookup a = none) →
      codeAny (model Pg w) callerA (.call (.ref fa) ⟨[.ref a], []⟩) (fun r s' => r = .ok (.ret (.bool true)) ∧ OldK s₁.heap s'.heap ∧ s'.os = s₁.os ∧ AllBare s'.gens) s₁ := by
    intro H only hq hok at_a hK
    have base_of : ∀ {b : Addr} {o : Obj}, s₁.heap.get? b = some o → H b = none → (hidT s₁.heap H).get? b = some o := fun e n => hidT_get e n
    have noA : ∀ {b : Addr} {o : Obj} {es : Array DictEntry} {ep : Nat}, s₁.heap.get? b = some o → o.data = .dict es ep → H b = none := by
      intro b o es ep e d
      cases q : H b with
      | none => rfl
      | some u =>
        have eb : b = a := at_a b (by rw [q]; simp)
        subst eb
        rw [ha] at e
        cases e
        cases (show Data.seq vs.toArray _ = Data.dict es ep from d)
    have nsK : ∀ {b : Addr} {m : Str → Option Value}, s₁.heap.Ns b m → (hidT s₁.heap H).Ns b m := by
      rintro b m ⟨o, es, ep, e, d, r⟩
      exact ⟨o, es, ep, base_of e (noA e d), d, r⟩
    have hKb : K.In (hidT s₁.heap H) := by
      intro b o e
      refine base_of (KX b o e) ?_
      cases q : H b with
      | none => rfl
      | some u =>
        have eb : b = a := at_a b (by rw [q]; simp)
        subst eb
        rw [hK (by rw [q]; simp)] at e
        cases e
    obtain ⟨mc, c1, c2⟩ := hlim
    have hM : Mod K mg (hidT s₁.heap H) := ⟨hKb, nsK hns, ⟨mb, nsK hb, hbb⟩, mc, nsK c1, c2⟩
    have e0 : Env0 Pg w K mg (hidT s₁.heap H) callerA [] s₁ H := ⟨rfl, hM, fun b o e => of_hidT e, Nat.le_of_eq (hidT_size _ _), trivial, fun b hb => absurd (show b ∈ ([] : List Addr) from hb) (by simp), hok, .of_eq hg⟩
    refine codeAny_mono ((F _ hKb (nsK hns)).run callerA [] s₁ H ⟨[.ref a], []⟩ [.ref a] [.ref a] _ _ hr rfl e0 (hbind s₁ (.ref a)) (.cons rfl .nil) hq) ?_
    intro r s' h
    cases r with
    | error e => exact False.elim h
    | ok fl =>
      cases fl with
      | next => exact False.elim h
      | brk => exact False.elim h
      | cont => exact False.elim h
      | ret u =>
        obtain ⟨v, H', os, bare, un, hok', r', hv⟩ := h
        have hv : v = .bl true := hv
        subst hv
        cases (show u = Value.bool true from r')
        refine ⟨rfl, OldK.of_keep fun b o e => ?_, os, bare⟩
        cases q : H b with
        | none => exact un.keep b o e q (by intro z; cases z) (by simp)
        | some u =>
          rcases only b with z | ⟨ob, xs, z⟩
          · rw [q] at z
            cases z
          · have z2 := un.frzs b ob _ z
            obtain ⟨w1, _⟩ := hok b _ z
            obtain ⟨w2, _⟩ := hok' b _ z2
            rw [e] at w1
            cases w1
            exact w2
  have hints : ∀ {H : Hp} {N : Addr → Prop}, RpL K H N (ns.map .int) (ns.map V.int) := fun {H N} => ints_rpl ns
  cases hk : K.lookup a with
  | some o =>
    have e := KX a o hk
    rw [ha] at e
    cases e
    refine core (fun _ => none) (fun _ => .inl rfl) (hsp _ (fun _ => False) (fun b n => n.elim) ?_) (fun b u z => nomatch (show (none : Option HO) = some u from z)) (fun b z => absurd rfl z) fun z => absurd rfl z
    unfold Rp
    exact ⟨a, ns.map V.int, rfl, .inr ⟨vs.toArray, _, hk, by rw [List.size_toArray, lenV]; exact hl, by simpa using rv⟩, hints⟩
  | none =>
    let H0 : Hp := fun b => if b = a then some (.frz { cls := .type "list", data := .seq vs.toArray } (.lst (ns.map V.int))) else none
    have at0 : H0 a = some (.frz { cls := .type "list", data := .seq vs.toArray } (.lst (ns.map V.int))) := if_pos rfl
    have off : ∀ b, b ≠ a → H0 b = none := fun b n => if_neg n
    refine core H0 (fun b => ?_) (hsp H0 (fun b => b = a) (fun b n => ⟨_, (show H0 b = some _ from (show b = a from n) ▸ at0)⟩) ?_) (fun b u z => ?_) (fun b z => ?_) fun _ => hk
    · by_cases e : b = a
      · exact .inr ⟨_, _, by rw [e]; exact at0⟩
      · exact .inl (off b e)
    · unfold Rp
      exact ⟨a, ns.map V.int, rfl, .inl ⟨rfl, .inr ⟨_, at0⟩⟩, hints⟩
    · by_cases e : b = a
      · subst e
        rw [at0] at z
        cases z
        exact ⟨ha, by rw [List.length_map]; exact hl, vs, _, rv, ha⟩
      · rw [off b e] at z
        cases z
    · by_cases e : b = a
      · exact e
      · exact absurd (off b e) z
theorem walk_law {l : PySem.W.OpenLaw} {k : Nat} {q : Program} {loose : List Str} {XP : (Str → Option Value) → Heap → Prop} {YP : World → Heap → Prop} {d : DefRec} {K : Params → Frg} {x : Str} {Fl : List D → Option D}
    (hn : l.most = some 63) (hdf : d.params.defaults = []) (hr : Room k callerA) (hY : ∀ (w : World) (h : Heap), YP w h → (K w.params).In h)
    (F : ∀ (w : World) (mg : Str → Option Value) (fa : Addr) (h : Heap), (K w.params).In h → h.Ns mainGlobals mg → mg d.name = some (.ref fa) →
      ∃ fd : FuncData, (∀ (s : Shared) (u : Value), BindsTo s fd ⟨[u], []⟩ [(x, u)]) ∧ ∀ base : Heap, (K w.params).In base → base.Ns mainGlobals mg → FnG l.prog w (K w.params) mg base CX0 k fa fd [x] (spQ (K w.params) [some .sh] .sh Fl))
    (law : ∀ ns : List Int, ns.length ≤ 63 → (∀ z ∈ ns, Builtin.Int.intBits z ≤ 1048576) → Fl [.list (ns.map .int)] = some (.bool true)) :
    PySem.W.WalkO q loose XP YP l.row.toRowW d [] (fun f vs => PySem.call f vs) := by
  refine Att.attach_callB hn hdf fun w s₀ s₁ mg mb fa o pm cd doc a vs ns G Y ho hd hcd hmg hobj hints hlen hbits hg => ?_
  have KX := hY w _ Y
  obtain ⟨fd, hb, hF⟩ := F w mg fa _ KX G.T.g hmg
  refine law_callG KX G.T.g G.T.b G.T.builtins G.T.nolimit hg hobj hints (Nat.le_trans hlen (by decide)) hr hF hb fun H N tr hrp => ?_
  refine ⟨rfl, fun _ => False, N, [.list (ns.map .int)], .bool true, ?_, law ns hlen hbits, fun v H' N' B ex hv => ?_⟩
  · refine ⟨rfl, rfl, fun i m g => ?_, fun _ _ => rfl, fun _ => List.nodup_nil, fun _ _ _ z => (nomatch z), tr, fun _ _ z => (nomatch z), fun _ _ _ z => (nomatch z), fun _ n => n.elim, fun _ _ z => (nomatch z)⟩
    cases i with
    | zero =>
      cases g
      exact ⟨_, _, rfl, rfl, RpM.sh_of hrp⟩
    | succ i => simp at g
  · exact (bool_val hv).1
end T3
end
set_option Elab.async false
set_option linter.all false
set_option maxRecDepth 100000
set_option maxHeartbeats 1000000
noncomputable section
namespace T3
open PySem PySem.Spec PyProof.Rows L2
/-! ### short names for printed terms -/
def visB (sc : Scope) (x : Str) : Bool := match sc.names.lookup x with
  | some .local => true
  | some .cell => true
  | some .free => true
  | _ => false
def locB (sc : Scope) (x : Str) : Bool := match sc.names.lookup x with
  | some .local => true
  | some .cell => true
  | _ => false
theorem vs_ {sc : Scope} {x : Str} (h : visB sc x = true) : Vis sc x := by
  unfold visB at h
  unfold Vis
  split at h
  · rename_i e; exact .inl e
  · rename_i e; exact .inr (.inl e)
  · rename_i e; exact .inr (.inr e)
  · cases h
theorem lc_ {sc : Scope} {x : Str} (h : locB sc x = true) : L2.Loc sc x := by
  unfold locB at h
  unfold L2.Loc
  split at h
  · rename_i e; exact .inl e
  · rename_i e; exact .inr e
  · cases h
section
variable {X : Cx} {e ee a b o j : Expr} {es : List Expr} {K : Frg} {W : Addr → Prop} {P : Pin} {G G' G1 G2 G3 Gb : Gm} {m mr : Md} {ks : List Ak} {pos p px apos cpos tpos : Pos} {x : Str} {i k : Nat} {fs : En → Option (List D × En)} {fa : En → Option D} {fe : En → Option (D × En)}
theorem b_len (hm : X.mg "len" = none) (ha : PA X (e :: es) (tAr X.K W P G G2 ks fs)) (hg : Gl X "len" := by rfl) (he : starEach (e :: es) X.env = (false, eval e X.env) :: starEach es X.env := by rfl) (hpl : (backTo pos (starEach es X.env)).any (·.1) = false := by rfl) :
    PE X (.Call (.Name "len" p) (e :: es) [] pos) (tE X.K W P G G2 .sh (fCl gLen fs)) := e_callB call_lenA fl_len hg hm boot_len ha (by decide) (by decide) he hpl
theorem b_abs (hm : X.mg "abs" = none) (ha : PA X (e :: es) (tAr X.K W P G G2 ks fs)) (hg : Gl X "abs" := by rfl) (he : starEach (e :: es) X.env = (false, eval e X.env) :: starEach es X.env := by rfl) (hpl : (backTo pos (starEach es X.env)).any (·.1) = false := by rfl) :
    PE X (.Call (.Name "abs" p) (e :: es) [] pos) (tE X.K W P G G2 .sh (fCl gAbs fs)) := e_callB call_abs fl_abs hg hm boot_abs ha (by decide) (by decide) he hpl
theorem b_int (hm : X.mg "int" = none) (ha : PA X (e :: es) (tAr X.K W P G G2 ks fs)) (hg : Gl X "int" := by rfl) (he : starEach (e :: es) X.env = (false, eval e X.env) :: starEach es X.env := by rfl) (hpl : (backTo pos (starEach es X.env)).any (·.1) = false := by rfl) :
    PE X (.Call (.Name "int" p) (e :: es) [] pos) (tE X.K W P G G2 .sh (fCl gInt fs)) := e_callT call_int1 fl_int hg hm PyProof.Rows.boot_int ha (by decide) (by decide) he hpl
theorem b_str (hm : X.mg "str" = none) (ha : PA X (e :: es) (tAr X.K W P G G2 ks fs)) (hg : Gl X "str" := by rfl) (he : starEach (e :: es) X.env = (false, eval e X.env) :: starEach es X.env := by rfl) (hpl : (backTo pos (starEach es X.env)).any (·.1) = false := by rfl) :
    PE X (.Call (.Name "str" p) (e :: es) [] pos) (tE X.K W P G G2 .sh (fCl gStr fs)) := e_callT call_str_int fl_str hg hm PyProof.Rows.boot_str ha (by decide) (by decide) he hpl
theorem b_sum (hc : X.calm = true) (hm : X.mg "sum" = none) (ha : PA X (e :: es) (tAr X.K W P G G2 ks fs)) (hg : Gl X "sum" := by rfl) (he : starEach (e :: es) X.env = (false, eval e X.env) :: starEach es X.env := by rfl) (hpl : (backTo pos (starEach es X.env)).any (·.1) = false := by rfl) :
    PE X (.Call (.Name "sum" p) (e :: es) [] pos) (tE X.K W P G G2 .sh (fCl gSum fs)) := e_callB (cr_sum hc) fl_sum hg hm PyProof.Rows.boot_sum ha (by decide) (by decide) he hpl
theorem b_max (hc : X.calm = true) (hm : X.mg "max" = none) (ha : PA X (e :: es) (tAr X.K W P G G2 ks fs)) (hg : Gl X "max" := by rfl) (he : starEach (e :: es) X.env = (false, eval e X.env) :: starEach es X.env := by rfl) (hpl : (backTo pos (starEach es X.env)).any (·.1) = false := by rfl) :
    PE X (.Call (.Name "max" p) (e :: es) [] pos) (tE X.K W P G G2 .sh (fCl gMax fs)) := e_callB (call_maxA hc) fl_max hg hm PyProof.Rows.boot_max ha (by decide) (by decide) he hpl
theorem b_min (hc : X.calm = true) (hm : X.mg "min" = none) (ha : PA X (e :: es) (tAr X.K W P G G2 ks fs)) (hg : Gl X "min" := by rfl) (he : starEach (e :: es) X.env = (false, eval e X.env) :: starEach es X.env := by rfl) (hpl : (backTo pos (starEach es X.env)).any (·.1) = false := by rfl) :
    PE X (.Call (.Name "min" p) (e :: es) [] pos) (tE X.K W P G G2 .sh (fCl gMin fs)) := e_callB (call_minA hc) fl_min hg hm PyProof.Rows.boot_min ha (by decide) (by decide) he hpl
theorem b_all (hc : X.calm = true) (hm : X.mg "all" = none) (ha : PA X (e :: es) (tAr X.K W P G G2 ks fs)) (hg : Gl X "all" := by rfl) (he : starEach (e :: es) X.env = (false, eval e X.env) :: starEach es X.env := by rfl) (hpl : (backTo pos (starEach es X.env)).any (·.1) = false := by rfl) :
    PE X (.Call (.Name "all" p) (e :: es) [] pos) (tE X.K W P G G2 .sh (fCl gAll fs)) := e_callB (cr_all hc) fl_all hg hm PyProof.Rows.boot_all ha (by decide) (by decide) he hpl
theorem b_any (hc : X.calm = true) (hm : X.mg "any" = none) (ha : PA X (e :: es) (tAr X.K W P G G2 ks fs)) (hg : Gl X "any" := by rfl) (he : starEach (e :: es) X.env = (false, eval e X.env) :: starEach es X.env := by rfl) (hpl : (backTo pos (starEach es X.env)).any (·.1) = false := by rfl) :
    PE X (.Call (.Name "any" p) (e :: es) [] pos) (tE X.K W P G G2 .sh (fCl gAny fs)) := e_callB (cr_any hc) fl_any hg hm PyProof.Rows.boot_any ha (by decide) (by decide) he hpl
theorem b_repr (hr : Room k X.A) (hgd : X.A.guards = some []) (hm : X.mg "repr" = none) (ha : PA X (e :: es) (tAr X.K W P G G2 ks fs)) (hg : Gl X "repr" := by rfl) (he : starEach (e :: es) X.env = (false, eval e X.env) :: starEach es X.env := by rfl) (hpl : (backTo pos (starEach es X.env)).any (·.1) = false := by rfl) :
    PE X (.Call (.Name "repr" p) (e :: es) [] pos) (tE X.K W P G G2 .sh (fCl gRepr fs)) := e_callB (cr_repr (room190 hr) hgd) fl_repr hg hm PyProof.Rows.boot_repr ha (by decide) (by decide) he hpl
theorem q_list (hm : X.mg "list" = none) (ha : PE X e (tP X.K W P G fa)) (hg : Gl X "list" := by rfl) (he : starEach [e] X.env = (false, eval e X.env) :: starEach [] X.env := by rfl) : PE X (.Call (.Name "list" p) [e] [] pos) (tQ X.K W P G (.ow .sh) (f1 gList fa)) :=
  q_newT call_list_of nw_list hg hm PyProof.Rows.boot_list ha (by decide) (by decide) he (by rfl)
theorem e_lst (hm : X.mg "list" = none) (ha : PE X e (tE X.K W P G G1 .sh fe)) (hg : Gl X "list" := by rfl) (he : starEach [e] X.env = (false, eval e X.env) :: starEach [] X.env := by rfl) : PE X (.Call (.Name "list" p) [e] [] pos) (tE X.K W P G G1 (.ow .sh) (e1 gList fe)) :=
  e_newT call_list_of nw_list hg hm PyProof.Rows.boot_list ha (by decide) (by decide) he (by rfl)
theorem q_srt (hc : X.calm = true) (hm : X.mg "sorted" = none) (ha : PE X e (tP X.K W P G fa)) (hg : Gl X "sorted" := by rfl) (he : starEach [e] X.env = (false, eval e X.env) :: starEach [] X.env := by rfl) : PE X (.Call (.Name "sorted" p) [e] [] pos) (tQ X.K W P G (.ow .sh) (f1 gSorted fa)) :=
  q_newB (cr_sortedA hc) nw_sorted hg hm PyProof.Rows.boot_sorted ha (by decide) (by decide) he (by rfl)
theorem e_srt (hc : X.calm = true) (hm : X.mg "sorted" = none) (ha : PE X e (tE X.K W P G G1 .sh fe)) (hg : Gl X "sorted" := by rfl) (he : starEach [e] X.env = (false, eval e X.env) :: starEach [] X.env := by rfl) : PE X (.Call (.Name "sorted" p) [e] [] pos) (tE X.K W P G G1 (.ow .sh) (e1 gSorted fe)) :=
  e_newB (cr_sortedA hc) nw_sorted hg hm PyProof.Rows.boot_sorted ha (by decide) (by decide) he (by rfl)
theorem o_eq (hr : Room k X.A) : OpR X (compareOp .Eq) (rEqD X.K) := op_eqD hr.units
theorem o_ne (hr : Room k X.A) : OpR X (compareOp .NotEq) (rNeD X.K) := op_neD hr.units
theorem o_in (hr : Room k X.A) : OpR X (compareOp .In) (rInD X.K) := op_inD (by have := hr.un; omega)
theorem o_ni (hr : Room k X.A) : OpR X (compareOp .NotIn) (rNotInD X.K) := op_notInD (by have := hr.un; omega)
theorem o_lt : OpR X (compareOp .Lt) (rI0 fun i j => .bl (decide (i < j))) := op_lt
theorem o_ltP (hr : Room k X.A) : OpR X (compareOp .Lt) (rLtT X.K) := op_ltT hr.units0
end
/-! a def as it stands in the module -/
structure Is (K : Frg) (mg : Str → Option Value) (x : Str) (st : Stmt) (f : Addr) (fd : FuncData) (ps : List Str) : Prop where
  F : Fun K x x st f fd
  m : mg x = some (.ref f)
  b : Binds K fd ps []
end T3
end
set_option Elab.async false
set_option linter.all false
set_option maxRecDepth 100000
set_option maxHeartbeats 1000000
noncomputable section
namespace T3
open PySem PySem.Spec PyProof.Rows L2
theorem od0 {i : Nat} : ∀ v od, noP i = some (v, od) → od = none := fun v od h => by cases h
theorem od1 {i j : Nat} {u : V} : ∀ v od, pinP j u i = some (v, od) → od = none := fun v od h => by
  unfold pinP at h
  split at h
  · cases h; rfl
  · cases h
theorem pin_off {j : Nat} {u : V} {is : List Nat} (h : j ∉ is) : ∀ i ∈ is, pinP j u i = none := fun i m => if_neg fun (e : i = j) => h (e ▸ m)
section
variable {X : Cx} {e : Expr} {es : List Expr} {K : Frg} {W : Addr → Prop} {P : Pin} {G : Gm} {pos p : Pos} {x : Str} {k : Nat} {fs : En → Option (List D)} {g : List D → Option D}
/-- [] to look at -/
theorem q_nil : PE X (.List [] pos) (tQ X.K W P G (.ow .sh) (fC (.list []))) :=
  pe_weak (pe_lst pa_nil) fun σ H Q ⟨env, N, A, d, r, ef, q⟩ => by
    cases ef
    exact ⟨Nat.zero_le _, fun p np => q (.ref p) _ N [p] (Ext.new np r.tr) (RpM.new_list np RpL.nil)⟩
/-! ### built-ins with a flat answer, nothing changed -/
def kNil : En → Option (List D) := fun _ => some []
def kCons (fa : En → Option D) (fr : En → Option (List D)) : En → Option (List D) := fun e => (fa e).bind fun d => (fr e).bind fun ds => some (d :: ds)
def fQ (g : List D → Option D) (fs : En → Option (List D)) : En → Option D := fun e => (fs e).bind g
theorem ks_nil : PA X [] (tKs K W P G kNil) := pa_weak pa_nil fun σ H Q ⟨env, N, A, ds, r, ef, q⟩ => by
  cases ef
  exact q [] H N Ext.refl RpL.nil
theorem ks_cons {fa : En → Option D} {fr : En → Option (List D)} (ha : PE X e (tK K W P G fa)) (hr : PA X es (tKs K W P G fr)) (hs : starEach (e :: es) X.env = (false, eval e X.env) :: starEach es X.env := by rfl) : PA X (e :: es) (tKs K W P G (kCons fa fr)) :=
  pa_weak (pa_cons ha hr hs) fun σ H Q ⟨env, N, A, ds, r, ef, q⟩ => by
    obtain ⟨d, ea, ef⟩ := opt_bind ef
    obtain ⟨dr, er, ef⟩ := opt_bind ef
    cases ef
    exact ⟨env, N, A, d, r, ea, fun x H1 N1 e1 h1 => ⟨env, N1, A, dr, r.ext e1, er, fun xs H2 N2 e2 h2 => q (x :: xs) H2 N2 (e1.trans e2) (RpL.cons (ext_tr e2 h1) h2)⟩⟩
theorem tQ_flatC {r : List V → Hp → VK → Prop} {σ : L2.St} {H : Hp} {Q : VK} (hg : FlatC K r g) (h : tQ K W P G .sh (fQ g fs) σ H Q) : tCB r (tKs K W P G fs) σ H Q := by
  obtain ⟨env, N, A, d, er, ef, q⟩ := h
  obtain ⟨ds, ea, ef⟩ := opt_bind ef
  exact ⟨env, N, A, ds, er, ea, fun xs H' N' ex hx => hg xs ds d H' Q hx ef fun v hv => q v H' N' [] ex (RpM.sh_of (flt_rp hv))⟩
theorem q_callB {id : String} {r : List V → Hp → VK → Prop} (hc : CallR X (.builtin id) r) (hfl : FlatC X.K r g) (hg : Gl X x) (hm : X.mg x = none) (hv : bootBuiltins x = some (.builtin id)) (ha : PA X (e :: es) (tKs X.K W P G fs))
    (hn : x ≠ "__name__" := by decide) (hdb : (x == ("__debug__" : Str)) = false := by decide) (he : starEach (e :: es) X.env = (false, eval e X.env) :: starEach es X.env := by rfl) (hpl : (backTo pos (starEach es X.env)).any (·.1) = false := by rfl) :
    PE X (.Call (.Name x p) (e :: es) [] pos) (tQ X.K W P G .sh (fQ g fs)) := pe_weak (pe_callB hc hg hm hv ha hn hdb he hpl) fun σ H Q h => tQ_flatC hfl h
theorem q_callT {T : String} {r : List V → Hp → VK → Prop} (hc : CallR X (.type T) r) (hfl : FlatC X.K r g) (hg : Gl X x) (hm : X.mg x = none) (hv : bootBuiltins x = some (.type T)) (ha : PA X (e :: es) (tKs X.K W P G fs))
    (hn : x ≠ "__name__" := by decide) (hdb : (x == ("__debug__" : Str)) = false := by decide) (he : starEach (e :: es) X.env = (false, eval e X.env) :: starEach es X.env := by rfl) (hpl : (backTo pos (starEach es X.env)).any (·.1) = false := by rfl) :
    PE X (.Call (.Name x p) (e :: es) [] pos) (tQ X.K W P G .sh (fQ g fs)) := pe_weak (pe_callTy hc hg hm hv ha hn hdb he hpl) fun σ H Q h => tQ_flatC hfl h
theorem n_len (hm : X.mg "len" = none) (ha : PA X (e :: es) (tKs X.K W P G fs)) (hg : Gl X "len" := by rfl) (he : starEach (e :: es) X.env = (false, eval e X.env) :: starEach es X.env := by rfl) (hpl : (backTo pos (starEach es X.env)).any (·.1) = false := by rfl) :
    PE X (.Call (.Name "len" p) (e :: es) [] pos) (tQ X.K W P G .sh (fQ gLen fs)) := q_callB call_lenA fl_len hg hm boot_len ha (by decide) (by decide) he hpl
theorem n_abs (hm : X.mg "abs" = none) (ha : PA X (e :: es) (tKs X.K W P G fs)) (hg : Gl X "abs" := by rfl) (he : starEach (e :: es) X.env = (false, eval e X.env) :: starEach es X.env := by rfl) (hpl : (backTo pos (starEach es X.env)).any (·.1) = false := by rfl) :
    PE X (.Call (.Name "abs" p) (e :: es) [] pos) (tQ X.K W P G .sh (fQ gAbs fs)) := q_callB call_abs fl_abs hg hm boot_abs ha (by decide) (by decide) he hpl
theorem n_int (hm : X.mg "int" = none) (ha : PA X (e :: es) (tKs X.K W P G fs)) (hg : Gl X "int" := by rfl) (he : starEach (e :: es) X.env = (false, eval e X.env) :: starEach es X.env := by rfl) (hpl : (backTo pos (starEach es X.env)).any (·.1) = false := by rfl) :
    PE X (.Call (.Name "int" p) (e :: es) [] pos) (tQ X.K W P G .sh (fQ gInt fs)) := q_callT call_int1 fl_int hg hm PyProof.Rows.boot_int ha (by decide) (by decide) he hpl
theorem n_str (hm : X.mg "str" = none) (ha : PA X (e :: es) (tKs X.K W P G fs)) (hg : Gl X "str" := by rfl) (he : starEach (e :: es) X.env = (false, eval e X.env) :: starEach es X.env := by rfl) (hpl : (backTo pos (starEach es X.env)).any (·.1) = false := by rfl) :
    PE X (.Call (.Name "str" p) (e :: es) [] pos) (tQ X.K W P G .sh (fQ gStr fs)) := q_callT call_str_int fl_str hg hm PyProof.Rows.boot_str ha (by decide) (by decide) he hpl
theorem n_sum (hc : X.calm = true) (hm : X.mg "sum" = none) (ha : PA X (e :: es) (tKs X.K W P G fs)) (hg : Gl X "sum" := by rfl) (he : starEach (e :: es) X.env = (false, eval e X.env) :: starEach es X.env := by rfl) (hpl : (backTo pos (starEach es X.env)).any (·.1) = false := by rfl) :
    PE X (.Call (.Name "sum" p) (e :: es) [] pos) (tQ X.K W P G .sh (fQ gSum fs)) := q_callB (cr_sum hc) fl_sum hg hm PyProof.Rows.boot_sum ha (by decide) (by decide) he hpl
theorem n_max (hc : X.calm = true) (hm : X.mg "max" = none) (ha : PA X (e :: es) (tKs X.K W P G fs)) (hg : Gl X "max" := by rfl) (he : starEach (e :: es) X.env = (false, eval e X.env) :: starEach es X.env := by rfl) (hpl : (backTo pos (starEach es X.env)).any (·.1) = false := by rfl) :
    PE X (.Call (.Name "max" p) (e :: es) [] pos) (tQ X.K W P G .sh (fQ gMax fs)) := q_callB (call_maxA hc) fl_max hg hm PyProof.Rows.boot_max ha (by decide) (by decide) he hpl
theorem n_min (hc : X.calm = true) (hm : X.mg "min" = none) (ha : PA X (e :: es) (tKs X.K W P G fs)) (hg : Gl X "min" := by rfl) (he : starEach (e :: es) X.env = (false, eval e X.env) :: starEach es X.env := by rfl) (hpl : (backTo pos (starEach es X.env)).any (·.1) = false := by rfl) :
    PE X (.Call (.Name "min" p) (e :: es) [] pos) (tQ X.K W P G .sh (fQ gMin fs)) := q_callB (call_minA hc) fl_min hg hm PyProof.Rows.boot_min ha (by decide) (by decide) he hpl
theorem n_all (hc : X.calm = true) (hm : X.mg "all" = none) (ha : PA X (e :: es) (tKs X.K W P G fs)) (hg : Gl X "all" := by rfl) (he : starEach (e :: es) X.env = (false, eval e X.env) :: starEach es X.env := by rfl) (hpl : (backTo pos (starEach es X.env)).any (·.1) = false := by rfl) :
    PE X (.Call (.Name "all" p) (e :: es) [] pos) (tQ X.K W P G .sh (fQ gAll fs)) := q_callB (cr_all hc) fl_all hg hm PyProof.Rows.boot_all ha (by decide) (by decide) he hpl
theorem n_any (hc : X.calm = true) (hm : X.mg "any" = none) (ha : PA X (e :: es) (tKs X.K W P G fs)) (hg : Gl X "any" := by rfl) (he : starEach (e :: es) X.env = (false, eval e X.env) :: starEach es X.env := by rfl) (hpl : (backTo pos (starEach es X.env)).any (·.1) = false := by rfl) :
    PE X (.Call (.Name "any" p) (e :: es) [] pos) (tQ X.K W P G .sh (fQ gAny fs)) := q_callB (cr_any hc) fl_any hg hm PyProof.Rows.boot_any ha (by decide) (by decide) he hpl
theorem n_repr (hr : Room k X.A) (hgd : X.A.guards = some []) (hm : X.mg "repr" = none) (ha : PA X (e :: es) (tKs X.K W P G fs)) (hg : Gl X "repr" := by rfl) (he : starEach (e :: es) X.env = (false, eval e X.env) :: starEach es X.env := by rfl) (hpl : (backTo pos (starEach es X.env)).any (·.1) = false := by rfl) :
    PE X (.Call (.Name "repr" p) (e :: es) [] pos) (tQ X.K W P G .sh (fQ gRepr fs)) := q_callB (cr_repr (room190 hr) hgd) fl_repr hg hm PyProof.Rows.boot_repr ha (by decide) (by decide) he hpl
/-- a slot forgotten behind an expression -/
theorem e_out {G' : Gm} {m : Md} {f : En → Option (D × En)} {i : Nat} (h : PE X e (tE K W P G G' m f)) : PE X e (tE K W P G (G'.set i none) m f) :=
  pe_weak h fun σ H Q ⟨env, N, A, d, env', r, ef, q⟩ => ⟨env, N, A, d, env', r, ef, fun v H' N' A' B st r' hv b =>
    q v H' N' (A'.put i []) B ⟨st.keep, st.trk, fun a z => (own_put z).elim (st.own a) fun z => (nomatch z), st.bf, st.up, st.fz⟩ (r'.forget (i := i)) hv ⟨b.bn, b.bw, fun a z w => (own_put w).elim (b.ba a z) fun z => (nomatch z), b.bd⟩⟩
end
/-! ### a, b, c = a tuple whose parts are one's own -/
section
variable {X : Cx} {c : Cc} {e : Expr} {G G1 G2 Gb : Gm} {pos : Pos}
def sUnp2 (i j : Nat) (fa : En → Option (D × En)) : En → Option Fl := fun e => (fa e).bind fun x => match x.1 with
  | .tuple [d1, d2] => some (.nx ((x.2.set i d1).set j d2))
  | _ => none
def sUnp3 (i j l : Nat) (fa : En → Option (D × En)) : En → Option Fl := fun e => (fa e).bind fun x => match x.1 with
  | .tuple [d1, d2, d3] => some (.nx (((x.2.set i d1).set j d2).set l d3))
  | _ => none
theorem s_unp2 {i j : Nat} {x y : Str} {m1 m2 : Md} {fa : En → Option (D × En)} {px py pt : Pos} {kt} (hc : X.calm = true) (hN : X.N.Nodup) (hi : X.N[i]? = some x) (hj : X.N[j]? = some y) (hx : L2.Loc X.env.scope x) (hy : L2.Loc X.env.scope y)
    (he : PE X e (tE c.K c.W c.P G G1 (.tu [m1, m2]) fa)) (hK : c.K = X.K) (fx : X.fn x = true ∨ X.env.scope.names.lookup x = some .local := by first | exact .inl rfl | exact .inr rfl) (fy : X.fn y = true ∨ X.env.scope.names.lookup y = some .local := by first | exact .inl rfl | exact .inr rfl)
    (hs : swapsWithSole [.Tuple [.Name x px, .Name y py] kt pt] e pos.line X.env = pure false := by rfl) (hw : swappedStores [.Tuple [.Name x px, .Name y py] kt pt] e X.env = pure none := by rfl)
    (h1 : (assignEach [.Tuple [.Name x px, .Name y py] kt pt] X.env).map (·.2) = [assign (.Tuple [.Name x px, .Name y py] kt pt) X.env] := by rfl)
    (a1 : (assignEach [.Name x px, .Name y py] X.env).map (·.2) = assign (.Name x px) X.env :: (assignEach [.Name y py] X.env).map (·.2) := by rfl) (a2 : (assignEach [.Name y py] X.env).map (·.2) = assign (.Name y py) X.env :: (assignEach [] X.env).map (·.2) := by rfl)
    (hn : (assignEach [.Name x px, .Name y py] X.env).length = 2 := by rfl) (hst : (assignEach [.Name x px, .Name y py] X.env).findIdx? (·.1) = none := by rfl)
    (hl1 : i < G1.length := by decide) (hl2 : j < G1.length := by decide) (hp1 : c.P i = none := by rfl) (hp2 : c.P j = none := by rfl) (hG : (G1.set i (some m1)).set j (some m2) = G2 := by rfl) :
    PS X (.Assign [.Tuple [.Name x px, .Name y py] kt pt] e pos) (tS c G G2 Gb (sUnp2 i j fa)) :=
  hG ▸ ps_weak (ps_asg he (pg_tup hc (pgs_cons (pg_name hN hi hx fx) (pgs_cons (pg_name hN hj hy fy) pgs_nil a2) a1) hn hst) hs hw h1) fun D σ H ⟨env, N, A, rr, r, ef, q⟩ => by
    obtain ⟨⟨d, e1⟩, ea, ef⟩ := opt_bind ef
    match d, ef with
    | .tuple [d1, d2], ef =>
      cases ef
      refine ⟨env, N, A, _, e1, r, ea, fun v H1 N1 A1 B s1 r1 hv bv => ?_⟩
      unfold RpM at hv
      obtain ⟨a, xs, ds, rfl, e0, na, hat, hv⟩ := hv
      cases e0
      have hlen := hv.len.1
      unfold RpMt at hv
      obtain ⟨_, _, v1, xr, B1, B', h0, rfl, rfl, h1, hv⟩ := hv
      cases h0
      unfold RpMt at hv
      obtain ⟨_, _, v2, xr2, B2, B3, h0, rfl, rfl, h2, hv⟩ := hv
      cases h0
      unfold RpMt at hv
      obtain ⟨_, rfl, rfl⟩ := hv
      rw [List.append_nil] at bv s1
      refine ⟨a, [v1, v2], rfl, .inl (.inl hat), rfl, v1, [v2], rfl, v2, [], rfl, rfl, ?_⟩
      obtain ⟨b1, _, b3⟩ := bv.split
      have r2 := r1.set hl1 hp1 b1 h1
      have r3 := r2.set (i := j) (by simp [hl2]) hp2 (b3 i rfl) h2
      exact q _ H1 N1 _ (s1.put2 (i := i)).put r3
theorem s_unp3 {i j l : Nat} {x y z : Str} {m1 m2 m3 : Md} {fa : En → Option (D × En)} {px py pz pt : Pos} {kt} (hc : X.calm = true) (hN : X.N.Nodup) (hi : X.N[i]? = some x) (hj : X.N[j]? = some y) (hk : X.N[l]? = some z) (hx : L2.Loc X.env.scope x) (hy : L2.Loc X.env.scope y) (hz : L2.Loc X.env.scope z)
    (he : PE X e (tE c.K c.W c.P G G1 (.tu [m1, m2, m3]) fa)) (hK : c.K = X.K) (fx : X.fn x = true ∨ X.env.scope.names.lookup x = some .local := by first | exact .inl rfl | exact .inr rfl) (fy : X.fn y = true ∨ X.env.scope.names.lookup y = some .local := by first | exact .inl rfl | exact .inr rfl) (fz : X.fn z = true ∨ X.env.scope.names.lookup z = some .local := by first | exact .inl rfl | exact .inr rfl)
    (hs : swapsWithSole [.Tuple [.Name x px, .Name y py, .Name z pz] kt pt] e pos.line X.env = pure false := by rfl) (hw : swappedStores [.Tuple [.Name x px, .Name y py, .Name z pz] kt pt] e X.env = pure none := by rfl)
    (h1 : (assignEach [.Tuple [.Name x px, .Name y py, .Name z pz] kt pt] X.env).map (·.2) = [assign (.Tuple [.Name x px, .Name y py, .Name z pz] kt pt) X.env] := by rfl)
    (a1 : (assignEach [.Name x px, .Name y py, .Name z pz] X.env).map (·.2) = assign (.Name x px) X.env :: (assignEach [.Name y py, .Name z pz] X.env).map (·.2) := by rfl) (a2 : (assignEach [.Name y py, .Name z pz] X.env).map (·.2) = assign (.Name y py) X.env :: (assignEach [.Name z pz] X.env).map (·.2) := by rfl) (a3 : (assignEach [.Name z pz] X.env).map (·.2) = assign (.Name z pz) X.env :: (assignEach [] X.env).map (·.2) := by rfl)
    (hn : (assignEach [.Name x px, .Name y py, .Name z pz] X.env).length = 3 := by rfl) (hst : (assignEach [.Name x px, .Name y py, .Name z pz] X.env).findIdx? (·.1) = none := by rfl)
    (hl1 : i < G1.length := by decide) (hl2 : j < G1.length := by decide) (hl3 : l < G1.length := by decide) (hp1 : c.P i = none := by rfl) (hp2 : c.P j = none := by rfl) (hp3 : c.P l = none := by rfl) (hG : ((G1.set i (some m1)).set j (some m2)).set l (some m3) = G2 := by rfl) :
    PS X (.Assign [.Tuple [.Name x px, .Name y py, .Name z pz] kt pt] e pos) (tS c G G2 Gb (sUnp3 i j l fa)) :=
  hG ▸ ps_weak (ps_asg he (pg_tup hc (pgs_cons (pg_name hN hi hx fx) (pgs_cons (pg_name hN hj hy fy) (pgs_cons (pg_name hN hk hz fz) pgs_nil a3) a2) a1) hn hst) hs hw h1) fun D σ H ⟨env, N, A, rr, r, ef, q⟩ => by
    obtain ⟨⟨d, e1⟩, ea, ef⟩ := opt_bind ef
    match d, ef with
    | .tuple [d1, d2, d3], ef =>
      cases ef
      refine ⟨env, N, A, _, e1, r, ea, fun v H1 N1 A1 B s1 r1 hv bv => ?_⟩
      unfold RpM at hv
      obtain ⟨a, xs, ds, rfl, e0, na, hat, hv⟩ := hv
      cases e0
      unfold RpMt at hv
      obtain ⟨_, _, v1, xr, B1, B', h0, rfl, rfl, h1, hv⟩ := hv
      cases h0
      unfold RpMt at hv
      obtain ⟨_, _, v2, xr2, B2, B3, h0, rfl, rfl, h2, hv⟩ := hv
      cases h0
      unfold RpMt at hv
      obtain ⟨_, _, v3, xr3, B4, B5, h0, rfl, rfl, h3, hv⟩ := hv
      cases h0
      unfold RpMt at hv
      obtain ⟨_, rfl, rfl⟩ := hv
      rw [List.append_nil] at bv s1
      refine ⟨a, [v1, v2, v3], rfl, .inl (.inl hat), rfl, v1, [v2, v3], rfl, v2, [v3], rfl, v3, [], rfl, rfl, ?_⟩
      obtain ⟨b1, _, b3⟩ := bv.split
      have r2 := r1.set hl1 hp1 b1 h1
      obtain ⟨b4, _, b5⟩ := (b3 i rfl).split
      have r3 := r2.set (i := j) (by simp [hl2]) hp2 b4 h2
      have r4 := r3.set (i := l) (by simp [hl3]) hp3 (b5 j rfl) h3
      exact q _ H1 N1 _ ((s1.put2 (i := i)).put2 (i := j)).put r4
end
end T3
end
set_option Elab.async false
set_option linter.all false
set_option maxRecDepth 100000
set_option maxHeartbeats 1000000
noncomputable section
namespace T3
open PySem PySem.Spec PyProof.Rows L2
/-- all items flat -/
def fltAll (es : List D) : Bool := es.all fun d => (flt d).isSome
theorem fltAll_rp {K : Frg} {H : Hp} {N : Addr → Prop} : ∀ {es : List D} {xs : List V}, fltAll es = true → RpL K H Tr es xs → RpL K H N es xs
  | [], xs, _, h => by unfold RpL at h ⊢; exact h
  | d :: es, xs, a, h => by
    unfold RpL at h
    obtain ⟨x, r, e, h1, h2⟩ := h
    unfold fltAll at a
    rw [List.all_cons, Bool.and_eq_true] at a
    obtain ⟨v, ev⟩ := Option.isSome_iff_exists.mp a.1
    subst e
    exact RpL.cons (by rw [rp_flt h1 ev]; exact flt_rp ev) (fltAll_rp a.2 h2)
/-- a list is grown by what another one holds, whoever owns it -/
def fExtF (i : Nat) (fa : En → Option D) : En → Option (D × En) := fun e => (fa e).bind fun x => (e[i]?).bind fun l => match l, x with
  | .list ds, .list es => @ite (Option _) (ds.length + es.length ≤ sizeLine ∧ fltAll es = true) (Classical.propDecidable _) (some (.none, e.set i (.list (ds ++ es)))) none
  | _, _ => none
section
variable {X : Cx} {P : Pin} {G : Gm} {i : Nat} {x : Str} {e : Expr} {px apos cpos : Pos} {W : Addr → Prop}
theorem e_extF {fa : En → Option D} (hN : X.N[i]? = some x) (hv : Vis X.env.scope x) (g : G[i]? = some (some (.ow .sh))) (ha : PE X e (tK X.K W P G fa)) (hp : ∀ v od, P i = some (v, od) → od = none)
    (hd : (x == ("__debug__" : Str)) = false := by decide) (hcd : (x == ("__classdict__" : Str)) = false := by decide)
    (hbase : attributeBase (.Name x px) "extend" X.env (eval (.Name x px) X.env) = eval (.Name x px) X.env := by rfl)
    (hfew : ((backTo cpos (starEach [e] X.env)).all (fun x => !x.1) && (backToKw cpos (keywordEach [] X.env)).all (fun x => x.1.isSome) && decide ([e].length + ([] : List Keyword).length + (if ([] : List Keyword).isEmpty then 0 else 1) < 30)) = true := by rfl)
    (hline : (apos.endLine == cpos.line) = true := by rfl) (hs : starEach [e] X.env = (false, eval e X.env) :: starEach [] X.env := by rfl) (hplain : (backTo cpos (starEach [] X.env)).any (·.1) = false := by rfl) :
    PE X (.Call (.Attribute (.Name x px) "extend" apos) [e] [] cpos) (tE X.K W P G G .sh (fExtF i fa)) :=
  pe_weak (pe_bm F.plainAttrs_list F.slot_list_extend F.type_list_extend mt_extL (pe_var hN hv hd hcd) (pa_cons ha pa_nil hs) hbase hfew hline hs hplain) fun σ H Q ⟨env, N, A, d, env', r, ef, q⟩ => by
    obtain ⟨dx, ea, ef⟩ := opt_bind ef
    obtain ⟨dl, ei, ef⟩ := opt_bind ef
    obtain ⟨c0, xs0, ds0, _, h2, hH0, _, _⟩ := flat_at r g
    refine ⟨_, h2, .inl ⟨rfl, xs0, .inl (.inl hH0)⟩, env, N, A, dx, r, ea, fun y H1 N1 ex hy => ?_⟩
    have r1 := r.ext ex
    obtain ⟨cc, xs, ds, h1', h2', hH, hA, hr⟩ := flat_at r1 g
    rw [h2] at h2'
    cases h2'
    rw [ei] at h1'
    cases h1'
    cases dx with
    | list es =>
      have ef : (@ite (Option _) (ds.length + es.length ≤ sizeLine ∧ fltAll es = true) (Classical.propDecidable _) (some (PyData.none, env.set i (PyData.list (ds ++ es)))) none) = some (d, env') := ef
      split at ef
      · rename_i hz
        cases ef
        obtain ⟨bb, zs, rfl, hb, hzs⟩ := hy.root
        refine ⟨_, bb, xs, zs, rfl, rfl, hH, hb, by rw [hr.len, hzs.len]; exact hz.1, ?_⟩
        obtain ⟨s2, r2⟩ := mutF ex.stp r1 hp g h2 hA (hr.append (fltAll_rp hz.2 hzs))
        exact q .non _ N1 _ [] s2 r2 (RpM.sh_of rp_non) Bok.nil
      · cases ef
    | _ => cases ef
end
end T3
end
set_option Elab.async false
set_option linter.all false
set_option maxRecDepth 100000
set_option maxHeartbeats 1000000
noncomputable section
namespace T3
open PySem PySem.Spec PyProof.Rows L2
section
variable {X : Cx} {a : Expr} {K : Frg} {W : Addr → Prop} {P : Pin} {G : Gm} {pos apos : Pos}
/-! ### x.bit_length() -/
def gBits : D → Option D
  | .int i => some (.int (Builtin.Int.intBits i : Nat))
  | _ => none
theorem q_bits {fa : En → Option D} (ha : PE X a (tK K W P G fa)) (hbase : attributeBase a "bit_length" X.env (eval a X.env) = eval a X.env := by rfl) (hline : (apos.endLine == pos.line) = true := by rfl) :
    PE X (.Call (.Attribute a "bit_length" apos) [] [] pos) (tQ K W P G .sh (f1 gBits fa)) :=
  pe_weak (pe_bits ha hbase hline) fun σ H Q ⟨env, N, A, d, r, ef, q⟩ => by
    obtain ⟨dx, ea, ef⟩ := opt_bind ef
    refine ⟨env, N, A, dx, r, ea, fun x H1 N1 e1 h1 => ?_⟩
    cases dx with
    | int i =>
      cases ef
      exact ⟨i, rp_int_v h1, q _ H1 N1 [] e1 (RpM.sh_of rp_int)⟩
    | _ => cases ef
/-! ### int(text) -/
def gIntS : List D → Option D
  | [.str x] => (PySem.intText? x).bind fun n => @ite (Option _) (x.length ≤ 640) (Classical.propDecidable _) (some (.int n)) none
  | _ => none
theorem fl_intS : FlatC K (fun xs H Q => ∃ a n, xs = [.str a] ∧ PySem.intText? a = some n ∧ a.length ≤ 640 ∧ Q (.int n) H) gIntS := by
  intro xs ds d H Q h hg hq
  unfold gIntS at hg
  split at hg
  · obtain ⟨n, hn, hg⟩ := opt_bind hg
    split at hg
    · rename_i hz
      cases hg
      obtain ⟨v, rfl, hh⟩ := rpl1 h
      rw [rp_str_v hh]
      exact ⟨_, n, rfl, hn, hz, hq _ rfl⟩
    · cases hg
  · cases hg
variable {e : Expr} {es : List Expr} {G2 : Gm} {ks : List Ak} {p : Pos} {fk : En → Option (List D)} {fs : En → Option (List D × En)}
theorem n_intS (hm : X.mg "int" = none) (ha : PA X (e :: es) (tKs X.K W P G fk)) (hg : Gl X "int" := by rfl) (he : starEach (e :: es) X.env = (false, eval e X.env) :: starEach es X.env := by rfl) (hpl : (backTo pos (starEach es X.env)).any (·.1) = false := by rfl) :
    PE X (.Call (.Name "int" p) (e :: es) [] pos) (tQ X.K W P G .sh (fQ gIntS fk)) := q_callT call_int_str fl_intS hg hm PyProof.Rows.boot_int ha (by decide) (by decide) he hpl
theorem b_intS (hm : X.mg "int" = none) (ha : PA X (e :: es) (tAr X.K W P G G2 ks fs)) (hg : Gl X "int" := by rfl) (he : starEach (e :: es) X.env = (false, eval e X.env) :: starEach es X.env := by rfl) (hpl : (backTo pos (starEach es X.env)).any (·.1) = false := by rfl) :
    PE X (.Call (.Name "int" p) (e :: es) [] pos) (tE X.K W P G G2 .sh (fCl gIntS fs)) := e_callT call_int_str fl_intS hg hm PyProof.Rows.boot_int ha (by decide) (by decide) he hpl
end
end T3
end
set_option Elab.async false
set_option linter.all false
set_option maxRecDepth 100000
set_option maxHeartbeats 1000000
noncomputable section
namespace T3
open PySem PySem.Spec PyProof.Rows L2
/-! ### a dict of one's own is asked -/
section
variable {K : Frg} {H : Hp} {N : Addr → Prop}
theorem rpk_get (key : Key) : ∀ {kvs : List (D × D)} {ps : List (Key × V)}, RpK K H N kvs ps →
    (getD kvs (keyD key) = none ∧ valV ps key = none) ∨ ∃ d v, getD kvs (keyD key) = some d ∧ valV ps key = some v ∧ Rp K H N d v
  | [], ps, h => by
    unfold RpK at h
    subst h
    exact .inl ⟨rfl, rfl⟩
  | (k, d) :: r, ps, h => by
    unfold RpK at h
    obtain ⟨q, x, t, rfl, rfl, h1, h2⟩ := h
    by_cases e : q = key
    · refine .inr ⟨d, x, ?_, valV_pos (p := (q, x)) e, h1⟩
      unfold getD
      rw [List.find?_cons_of_pos (by show sameKey (keyD q) (keyD key) = true; rw [sameKey_k]; exact decide_eq_true e)]
      rfl
    · have e1 : getD ((keyD q, d) :: r) (keyD key) = getD r (keyD key) := by
        unfold getD
        rw [List.find?_cons_of_neg (by show ¬ sameKey (keyD q) (keyD key) = true; rw [sameKey_k]; simpa using e)]
      rw [e1, valV_neg (p := (q, x)) e]
      exact rpk_get key h2
end
section
variable {X : Cx} {e a b o j : Expr} {K : Frg} {W : Addr → Prop} {P : Pin} {G G' G1 G2 : Gm} {pos p px apos cpos ps tpos : Pos} {x : Str} {i : Nat}
def fDIn (neg : Bool) (i : Nat) (fj : En → Option D) : En → Option D := fun e => (fj e).bind fun k => (e[i]?).bind fun l => match l with
  | .dict kvs => @ite (Option _) (isKK k = true) (Classical.propDecidable _) (some (.bool (xor neg (getD kvs k).isSome))) none
  | _ => none
def fDGet (i : Nat) (fj : En → Option D) : En → Option D := fun e => (fj e).bind fun k => (e[i]?).bind fun l => match l with
  | .dict kvs => @ite (Option _) (isKK k = true) (Classical.propDecidable _) (getD kvs k) none
  | _ => none
theorem dk_ask {H : Hp} {N : Addr → Prop} {A : Ow} {env : En} {σ : L2.St} {v : V} {dk : D} {kvs : List (D × D)} (r : ER K W P H N G env σ A) (g : G[i]? = some (some (.dc false))) (ei : env[i]? = some (.dict kvs)) (hk : isKK dk = true) (hv : Rp K H Tr dk v) :
    ∃ cc, σ[i]? = some (some (.ref cc)) ∧ ∃ ov, DGet H cc v ov ∧ ov.isSome = (getD kvs dk).isSome ∧ ∀ d, getD kvs dk = some d → ∃ u, ov = some u ∧ Rp K H N d u := by
  obtain ⟨cc, kvs', h1, h2, hA, hd⟩ := dc_at r g
  rw [ei] at h1
  cases h1
  obtain ⟨key, hkey⟩ := Option.isSome_iff_exists.mp hk
  have ek := keyD_of_dkey hkey
  subst ek
  rw [kV_of hv]
  rcases hd with ⟨_, ps, hps, hrp⟩ | ⟨t, _⟩
  · refine ⟨cc, h2, valV ps key, DGet.k hps, ?_⟩
    rcases rpk_get key hrp with ⟨e1, e2⟩ | ⟨d, u, e1, e2, e3⟩
    · rw [e1, e2]
      exact ⟨rfl, fun d z => nomatch z⟩
    · rw [e1, e2]
      exact ⟨rfl, fun d' z => ⟨u, rfl, by cases z; exact e3⟩⟩
  · cases t
theorem q_din {fj : En → Option D} (hu : X.A.units + 64 < cLine) (hN : X.N[i]? = some x) (hv : Vis X.env.scope x) (g : G[i]? = some (some (.dc false))) (hj : PE X j (tK X.K W P G fj))
    (hd : (x == ("__debug__" : Str)) = false := by decide) (hcd : (x == ("__classdict__" : Str)) = false := by decide) (hm : behindInMarks .In (.Name x px) = false := by rfl) :
    PE X (.Compare j [.In] [.Name x px] pos) (tQ X.K W P G .sh (fDIn false i fj)) :=
  pe_weak (pe_cmp (pc_din (by omega) hj (pe_var hN hv hd hcd)) hm) fun σ H Q ⟨env, N, A, d, r, ef, q⟩ => by
    obtain ⟨dk, ej, ef⟩ := opt_bind ef
    obtain ⟨dl, ei, ef⟩ := opt_bind ef
    refine ⟨env, N, A, dk, r, ej, fun v H1 N1 ex h1 => ?_⟩
    cases dl with
    | dict kvs =>
      have ef : (@ite (Option _) (isKK dk = true) (Classical.propDecidable _) (some (PyData.bool (xor false (getD kvs dk).isSome))) none) = some d := ef
      split at ef
      · rename_i hk
        cases ef
        obtain ⟨cc, h2, ov, h3, h4, h5⟩ := dk_ask (r.ext ex) g ei hk h1
        refine ⟨_, h2, cc, ov, rfl, h3, ?_⟩
        rw [h4]
        refine q _ H1 N1 [] ex ?_
        rw [Bool.false_xor]
        exact RpM.sh_of rp_bl
      · cases ef
    | _ => cases ef
theorem q_dni {fj : En → Option D} (hu : X.A.units + 64 < cLine) (hN : X.N[i]? = some x) (hv : Vis X.env.scope x) (g : G[i]? = some (some (.dc false))) (hj : PE X j (tK X.K W P G fj))
    (hd : (x == ("__debug__" : Str)) = false := by decide) (hcd : (x == ("__classdict__" : Str)) = false := by decide) (hm : behindInMarks .NotIn (.Name x px) = false := by rfl) :
    PE X (.Compare j [.NotIn] [.Name x px] pos) (tQ X.K W P G .sh (fDIn true i fj)) :=
  pe_weak (pe_cmp (pc_dnotin (by omega) hj (pe_var hN hv hd hcd)) hm) fun σ H Q ⟨env, N, A, d, r, ef, q⟩ => by
    obtain ⟨dk, ej, ef⟩ := opt_bind ef
    obtain ⟨dl, ei, ef⟩ := opt_bind ef
    refine ⟨env, N, A, dk, r, ej, fun v H1 N1 ex h1 => ?_⟩
    cases dl with
    | dict kvs =>
      have ef : (@ite (Option _) (isKK dk = true) (Classical.propDecidable _) (some (PyData.bool (xor true (getD kvs dk).isSome))) none) = some d := ef
      split at ef
      · rename_i hk
        cases ef
        obtain ⟨cc, h2, ov, h3, h4, h5⟩ := dk_ask (r.ext ex) g ei hk h1
        refine ⟨_, h2, cc, ov, rfl, h3, ?_⟩
        rw [h4]
        refine q _ H1 N1 [] ex ?_
        rw [Bool.true_xor]
        exact RpM.sh_of rp_bl
      · cases ef
    | _ => cases ef
theorem q_dget {fj : En → Option D} (hu : X.A.units + 64 < cLine) (hN : X.N[i]? = some x) (hv : Vis X.env.scope x) (g : G[i]? = some (some (.dc false))) (hj : PE X j (tK X.K W P G fj))
    (hd : (x == ("__debug__" : Str)) = false := by decide) (hcd : (x == ("__classdict__" : Str)) = false := by decide) (hs : NoSl j := by exact fun _ _ => rfl) :
    PE X (.Subscript (.Name x px) j pos) (tQ X.K W P G .sh (fDGet i fj)) :=
  pe_weak (pe_dget (by omega) (pe_var hN hv hd hcd) hj hs) fun σ H Q ⟨env, N, A, d, r, ef, q⟩ => by
    obtain ⟨dk, ej, ef⟩ := opt_bind ef
    obtain ⟨dl, ei, ef⟩ := opt_bind ef
    obtain ⟨cc0, kvs0, _, h20, _⟩ := dc_at r g
    refine ⟨_, h20, env, N, A, dk, r, ej, fun v H1 N1 ex h1 => ?_⟩
    cases dl with
    | dict kvs =>
      have ef : (@ite (Option _) (isKK dk = true) (Classical.propDecidable _) (getD kvs dk) none) = some d := ef
      split at ef
      · rename_i hk
        obtain ⟨cc, h2, ov, h3, h4, h5⟩ := dk_ask (r.ext ex) g ei hk h1
        rw [h20] at h2
        cases h2
        obtain ⟨u, rfl, hu'⟩ := h5 d ef
        exact ⟨_, u, rfl, h3, q u H1 N1 [] ex (RpM.sh_of hu')⟩
      · cases ef
    | _ => cases ef

/-! ### one sign in a text -/
def gInS (neg : Bool) : D → D → Option D
  | .str a, .str b => match a.cps.toList with
    | [c] => some (.bool (xor neg (decide (c ∈ b.cps.toList))))
    | _ => none
  | _, _ => none
theorem sign_one {a : Str} {c : Nat} (h : a.cps.toList = [c]) : a = ⟨#[c]⟩ := by
  cases a with
  | mk cps =>
    have h : cps.toList = [c] := h
    have e : cps = #[c] := by
      apply Array.toList_inj.mp
      rw [h]
    rw [e]
theorem fl_inS : Flat2 K (fun x y H Q => ∃ (c : Nat) (z : Str), x = .str ⟨#[c]⟩ ∧ y = .str z ∧ Q (.bl (decide (c ∈ z.cps.toList))) H) (gInS false) := by
  intro x y dx dy d H Q hx hy hg hq
  unfold gInS at hg
  split at hg
  · split at hg
    · rename_i a b _ c hc
      cases hg
      have ea := sign_one hc
      subst ea
      refine ⟨c, b, rp_str_v hx, rp_str_v hy, ?_⟩
      rw [Bool.false_xor] at hq
      exact hq _ rfl
    · cases hg
  · cases hg
theorem fl_niS : Flat2 K (fun x y H Q => ∃ (c : Nat) (z : Str), x = .str ⟨#[c]⟩ ∧ y = .str z ∧ Q (.bl (!decide (c ∈ z.cps.toList))) H) (gInS true) := by
  intro x y dx dy d H Q hx hy hg hq
  unfold gInS at hg
  split at hg
  · split at hg
    · rename_i a b _ c hc
      cases hg
      have ea := sign_one hc
      subst ea
      refine ⟨c, b, rp_str_v hx, rp_str_v hy, ?_⟩
      rw [Bool.true_xor] at hq
      exact hq _ rfl
    · cases hg
  · cases hg

/-! ### l.index(x) -/
def gIdx : D → D → Option D
  | .list ds, d => @ite (Option _) (shp (.list ds) = true ∧ shp d = true) (Classical.propDecidable _) ((ds.findIdx? fun z => PyData.eqv z d).map fun n => .int (n : Nat)) none
  | _, _ => none
theorem q_idx {fa fb : En → Option D} (hu : X.A.units + 65 < cLine) (ha : PE X a (tK X.K W P G fa)) (hb : PE X b (tK X.K W P G fb))
    (hbase : attributeBase a "index" X.env (eval a X.env) = eval a X.env := by rfl)
    (hfew : ((backTo cpos (starEach [b] X.env)).all (fun x => !x.1) && (backToKw cpos (keywordEach [] X.env)).all (fun x => x.1.isSome) && decide ([b].length + ([] : List Keyword).length + (if ([] : List Keyword).isEmpty then 0 else 1) < 30)) = true := by rfl)
    (hline : (apos.endLine == cpos.line) = true := by rfl) (hs : starEach [b] X.env = (false, eval b X.env) :: starEach [] X.env := by rfl) (hplain : (backTo cpos (starEach [] X.env)).any (·.1) = false := by rfl) :
    PE X (.Call (.Attribute a "index" apos) [b] [] cpos) (tQ X.K W P G .sh (f2 gIdx fa fb)) :=
  pe_weak (pe_bm F.plainAttrs_list F.slot_list_index F.type_list_index (mt_indexD hu) ha (pa_cons hb pa_nil hs) hbase hfew hline hs hplain) fun σ H Q ⟨env, N, A, d, r, ef, q⟩ => by
    obtain ⟨da, ea, ef⟩ := opt_bind ef
    obtain ⟨db, eb, ef⟩ := opt_bind ef
    refine ⟨env, N, A, da, r, ea, fun v H1 N1 ex h1 => ?_⟩
    cases da with
    | list ds =>
      have ef : (@ite (Option _) (shp (.list ds) = true ∧ shp db = true) (Classical.propDecidable _) ((ds.findIdx? fun z => PyData.eqv z db).map fun n => PyData.int (n : Nat)) none) = some d := ef
      split at ef
      · rename_i hs
        obtain ⟨n, hn, ef⟩ := Option.map_eq_some_iff.mp ef
        cases ef
        obtain ⟨a0, xs, rfl, hsq, hr⟩ := h1.sql
        refine ⟨.inl ⟨rfl, xs, hsq⟩, env, N1, A, db, r.ext ex, eb, fun y H2 N2 ex2 hy => ?_⟩
        have h1' := Rp.mono (N' := Tr) (fun a o q _ => ⟨ex2.gr a o q, trivial⟩) _ _ h1
        obtain ⟨hlt, hp, hno⟩ := List.findIdx?_eq_some_iff_getElem.mp hn
        refine ⟨a0, y, db, ds, n, ds[n], rfl, rfl, Rp.dp _ _ (shp_lay hs.1) h1', Rp.dp _ _ (shp_lay hs.2) hy, hs.1, hs.2, List.getElem?_eq_getElem hlt, hp, fun m z' hm hz => ?_, q _ H2 N2 [] (ex.trans ex2) (RpM.sh_of rp_int)⟩
        have hml : m < ds.length := Nat.lt_trans hm hlt
        rw [List.getElem?_eq_getElem hml] at hz
        cases hz
        have := hno m hm
        simpa using this
      · cases ef
    | _ => cases ef
end
end T3
end
set_option Elab.async false
set_option linter.all false
set_option maxRecDepth 100000
set_option maxHeartbeats 1000000
noncomputable section
namespace T3
open PySem PySem.Spec PyProof.Rows L2
/-! ### the signs of a text, one by one -/
def signsD (x : Str) : List D := x.cps.toList.map fun c => .str ⟨#[c]⟩
theorem signsD_get {x : Str} {i : Nat} : (signsD x)[i]? = (x.cps[i]?).map fun c => PyData.str ⟨#[c]⟩ := by
  unfold signsD
  rw [List.getElem?_map, Array.getElem?_toList]
theorem signsD_len {x : Str} : (signsD x).length = x.cps.size := by
  unfold signsD
  rw [List.length_map, Array.length_toList]
theorem walk_str {K : Frg} {x : Str} : Walk K (Its x) (signsD x) (fun _ _ => True) where
  keep := fun _ _ _ _ _ _ => trivial
  go := fun i H N hi _ => by rw [signsD_len] at hi; exact hi
  stop := fun i H N hi _ => by rw [signsD_len] at hi; exact hi
  yld := fun i H N v H' d _ _ hd y => by
    obtain ⟨rfl, c, hc, rfl⟩ := y
    rw [signsD_get, hc] at hd
    cases hd
    exact ⟨N, Ext.refl, rp_str⟩
def iStrD (fa : En → Option (D × En)) : En → Option (List D × En) := fun e => (fa e).bind fun x => match x.1 with
  | .str x1 => some (signsD x1, x.2)
  | _ => none
section
variable {X : Cx} {K : Frg} {W : Addr → Prop} {P : Pin} {G G' : Gm} {pos p tpos : Pos} {e ee : Expr}
theorem i_str {tg : Expr} {fa : En → Option (D × En)} (ha : PE X e (tE X.K W P G G' .sh fa)) : PI X tg e (tI X.K W P G G' (iStrD fa)) :=
  pi_weak (pi_str ha) fun σ H R ⟨env, N, A, ds, env', r, ef, q⟩ => by
    obtain ⟨⟨d, e1⟩, ea, ef⟩ := opt_bind ef
    match d, ef with
    | .str x1, ef =>
      cases ef
      refine ⟨env, N, A, _, e1, r, ea, fun v H' N' A' B s r' hv _ => ?_⟩
      unfold RpM at hv
      obtain ⟨hv, hb⟩ := hv
      subst hb
      exact ⟨x1, rp_str_v hv, q _ _ H' N' A' walk_str trivial s r'⟩
end

/-! ### two texts side by side -/
def ItzS (x y : Str) : It where
  go i _ := i < x.cps.size ∧ i < y.cps.size
  yld i H v H' := ∃ T c d, v = .ref T ∧ H T = none ∧ H' = upd H T (.tup [.str ⟨#[c]⟩, .str ⟨#[d]⟩]) ∧ x.cps[i]? = some c ∧ y.cps[i]? = some d
  stop i _ := x.cps.size ≤ i ∨ y.cps.size ≤ i
/-- how the zip of two texts stands at a turn -/
def ZsAt (z TI TO i1 i2 : Addr) (x y : Str) (t u : Tok) (i : Nat) (h : Heap) : Prop :=
  (i ≤ x.cps.size ∧ i ≤ y.cps.size) ∧ IsZip h z TI TO .none ∧ IsTupOf2 h TI (.ref i1) (.ref i2) ∧ (∃ a b, IsTupOf2 h TO a b) ∧ h.IsStrIter i1 (strIterType x) x t i ∧ h.IsStrIter i2 (strIterType y) y u i
theorem five {z TI TO i1 i2 c : Addr} : c ∈ [z, TI, TO, i1, i2] ↔ c = z ∨ c = TI ∨ c = TO ∨ c = i1 ∨ c = i2 := by simp
theorem turn_zipS {Pg : Program} {w : World} {K : Frg} {elts : List Expr} {kk : Nat} {tpos : Pos} {z TI TO i1 i2 : Addr} (S : ZipSep2 z TI TO i1 i2 [i1] [i2]) (x y : Str) (t u : Tok) :
    Turn Pg w K (.Tuple elts kk tpos) (ItzS x y) [z, TI, TO, i1, i2] z (ZsAt z TI TO i1 i2 x y t u) where
  mem := List.mem_cons_self
  obj := fun i h st c hc => by
    obtain ⟨_, hz, hTI, ⟨a, b, hTO⟩, ⟨o1, e1, _, d1⟩, ⟨o2, e2, _, d2⟩⟩ := st
    rcases five.mp hc with rfl | rfl | rfl | rfl | rfl
    · exact ⟨_, hz, fun v q => nomatch q⟩
    · exact ⟨_, hTI, fun v q => nomatch q⟩
    · exact ⟨_, hTO, fun v q => nomatch q⟩
    · exact ⟨o1, e1, fun v q => by rw [d1] at q; cases q⟩
    · exact ⟨o2, e2, fun v q => by rw [d2] at q; cases q⟩
  keep := fun i h h' st k => by
    obtain ⟨hi, hz, hTI, ⟨a, b, hTO⟩, ⟨o1, e1, r1⟩, ⟨o2, e2, r2⟩⟩ := st
    exact ⟨hi, k _ (five.mpr (.inl rfl)) _ hz, k _ (five.mpr (.inr (.inl rfl))) _ hTI, ⟨a, b, k _ (five.mpr (.inr (.inr (.inl rfl)))) _ hTO⟩, ⟨o1, k _ (five.mpr (.inr (.inr (.inr (.inl rfl))))) _ e1, r1⟩, ⟨o2, k _ (five.mpr (.inr (.inr (.inr (.inr rfl))))) _ e2, r2⟩⟩
  item := by
    rintro X rfl rfl rfl hc i pins s σ H E I hf ⟨_, hz, hTI, ⟨a, b, hTO⟩, h1, h2⟩ ⟨g1, g2⟩
    have hh : X.A.in1.handled = none := I.ok.hd hc
    refine wpAny_pyNext_zipD2_item S (Draws.text hh i1 x t) (Draws.text hh i2 y u) hz hTI hTO h1 h2 g1 g2 fun x1 x2 h' tk ⟨c, v1, hc1, ex1⟩ ⟨d, v2, hd1, ex2⟩ b1 b2 d1 d2 b5 b6 b7 => ?_
    have zl : z < s.heap.objs.size := Heap.lt_size hz
    refine ⟨_, rfl, wpAny_letOwnedTupleGo_zip (s := { s with heap := h', toks := tk }) b1 fun h2' z2 sb => ?_⟩
    have hT2 : h2'.get? s.heap.objs.size = some { cls := .type "tuple", data := .seq #[x1, x2] } := (sb.2 _ (Nat.ne_of_gt zl)).trans b5
    have new : ObjOk X.prog X.w (upd H s.heap.objs.size (.tup [.str ⟨#[c]⟩, .str ⟨#[d]⟩])) h2' s.heap.objs.size (.tup [.str ⟨#[c]⟩, .str ⟨#[d]⟩]) := by
      refine ⟨?_, [x1, x2], .cons ⟨v1, ex1⟩ (.cons ⟨v2, ex2⟩ .nil), ⟨_, hT2, rfl, _, rfl⟩⟩
      show 2 ≤ sizeLine
      decide
    have off : ∀ q ob, q ∉ [z, TI, TO, i1, i2] → s.heap.get? q = some ob → h2'.get? q = some ob := fun q ob n e => by
      rw [five] at n
      exact (sb.2 q fun z' => n (.inl z')).trans (b7 q ob (fun z' => n (.inl z')) (fun z' => n (.inr (.inr (.inl z')))) (fun z' => n (.inr (.inr (.inr (.inl z'))))) (fun z' => n (.inr (.inr (.inr (.inr z'))))) e)
    have I1 := I.turnedNew (t' := tk) (ch := [z, TI, TO, i1, i2]) off hf (Nat.le_refl _) new
    have k1 : ∀ q ob, q ≠ z → h'.get? q = some ob → h2'.get? q = some ob := fun q ob n e => (sb.2 q n).trans e
    have tI : h'.get? TI = some _ := b7 TI _ S.TIz S.TITO S.TIi1 S.TIi2 hTI
    refine ⟨.ref s.heap.objs.size, _, I1, rfl, ⟨_, c, d, rfl, I.hok.fresh (Nat.le_refl _), rfl, hc1, hd1⟩, ⟨⟨g1, g2⟩, z2, k1 _ _ S.TIz tI, ⟨x1, x2, k1 _ _ S.TOz b2⟩, ?_, ?_⟩, fun q hq => ?_⟩
    · obtain ⟨o1, e1, r1⟩ := d1
      exact ⟨o1, k1 _ _ S.zi1.symm e1, r1⟩
    · obtain ⟨o2, e2, r2⟩ := d2
      exact ⟨o2, k1 _ _ S.zi2.symm e2, r2⟩
    · have lt : q < s.heap.objs.size := by
        obtain ⟨o1, e1, _⟩ := h1
        obtain ⟨o2, e2, _⟩ := h2
        rcases five.mp hq with rfl | rfl | rfl | rfl | rfl
        · exact zl
        · exact Heap.lt_size hTI
        · exact Heap.lt_size hTO
        · exact Heap.lt_size e1
        · exact Heap.lt_size e2
      rw [upd_ne (Nat.ne_of_lt lt)]
      exact (hf q hq).1
  done := by
    rintro X rfl rfl rfl hc i pins s σ H E I hf ⟨⟨l1, l2⟩, hz, hTI, ⟨a, b, hTO⟩, h1, h2⟩ hs
    have hh : X.A.in1.handled = none := I.ok.hd hc
    refine wpAny_pyNext_zipD2_end S (Draws.text hh i1 x t) (Draws.text hh i2 y u) hz hTI hTO h1 h2 l1 l2 (hs.imp (fun q => Nat.le_antisymm l1 q) fun q => Nat.le_antisymm l2 q) fun h' tk k => ⟨rfl, I.turnedL (t' := tk) (ch := [z, TI, TO, i1, i2]) (fun q ob n e => ?_) hf⟩
    rw [five] at n
    exact k q ob (fun z' => n (.inl z')) (fun z' => n (.inr (.inr (.inl z')))) (fun z' => n (.inr (.inr (.inr (.inl z'))))) (fun z' => n (.inr (.inr (.inr (.inr z'))))) e
  self := fun A i s Q E st h => wpAny_pyIter_zip st.2.1 h
def iZipS (ta : TA) : TI := fun σ H R => ta σ H fun vs H1 => ∃ x y, vs = [.str x, .str y] ∧ R (ItzS x y) H1
theorem pi_zipS {X : Cx} {e ee : Expr} {ta : TA} {p pos tpos : Pos} {elts : List Expr} {kk : Nat} (hg : Gl X "zip") (hm : X.mg "zip" = none) (ha : PA X [e, ee] ta)
    (hs : starEach [e, ee] X.env = (false, eval e X.env) :: starEach [ee] X.env := by rfl) (hpl : (backTo pos (starEach [ee] X.env)).any (·.1) = false := by rfl) :
    PI X (.Tuple elts kk tpos) (.Call (.Name "zip" p) [e, ee] [] pos) (iZipS ta) := by
  refine ⟨fun pins s σ H R I h => Call_ (ld_blt I hg hm PyProof.Rows.boot_zip (PyProof.Rows.callWith_type1 (thn (ha.run pos pins s σ H _ I h) fun us s1 hq => ?_) hs hpl))⟩
  obtain ⟨vs, H1, I1, r1, x, y, rfl, q⟩ := hq
  cases r1 with
  | cons ra rr =>
    cases rr with
    | cons rb rr =>
      cases rr
      obtain ⟨t, rfl⟩ := ra
      obtain ⟨u, rfl⟩ := rb
      refine zip_begins2 (begins_text x t) (begins_text y u) trivial trivial fun h' hz hTI hTO e1 e2 hsz hk => wpAny_pyIter_zip hz ?_
      have ne : ∀ k : Nat, 0 < k → s1.heap.objs.size + k ≠ s1.heap.objs.size := fun k hk => by omega
      have S : ZipSep2 (s1.heap.objs.size + 4) (s1.heap.objs.size + 2) (s1.heap.objs.size + 3) s1.heap.objs.size (s1.heap.objs.size + 1) [s1.heap.objs.size] [s1.heap.objs.size + 1] := by
        constructor <;> simp
      refine ⟨_, [s1.heap.objs.size + 4, s1.heap.objs.size + 2, s1.heap.objs.size + 3, s1.heap.objs.size, s1.heap.objs.size + 1], _, _, H1, rfl, I1.kept (t' := s1.toks) hk, turn_zipS S x y t u, ⟨⟨Nat.zero_le _, Nat.zero_le _⟩, hz, hTI, ⟨_, _, hTO⟩, ⟨_, e1, rfl, rfl⟩, ⟨_, e2, rfl, rfl⟩⟩, fun c hc => ?_, q⟩
      have le : s1.heap.objs.size ≤ c := by
        rcases five.mp hc with rfl | rfl | rfl | rfl | rfl <;> omega
      exact I1.fpOk le (I1.hok.fresh le)
theorem walk_zipS {K : Frg} {x y : Str} : Walk K (ItzS x y) (zipD (signsD x) (signsD y)) (fun _ _ => True) where
  keep := fun _ _ _ _ _ _ => trivial
  go := fun i H N hi _ => by
    unfold zipD at hi
    rw [List.length_zipWith, signsD_len, signsD_len] at hi
    exact ⟨by omega, by omega⟩
  stop := fun i H N hi _ => by
    unfold zipD at hi
    rw [List.length_zipWith, signsD_len, signsD_len] at hi
    show _ ∨ _
    omega
  yld := fun i H N v H' d _ tr hd yy => by
    obtain ⟨T, c, c', rfl, np, rfl, h1, h2⟩ := yy
    unfold zipD at hd
    rw [List.getElem?_zipWith, signsD_get, signsD_get, h1, h2] at hd
    cases hd
    exact ⟨_, ext_tup np, rp_pair np rp_str rp_str⟩
def iZS (fs : En → Option (List D × En)) : En → Option (List D × En) := fun e => (fs e).bind fun x => match x.1 with
  | [.str a, .str b] => some (zipD (signsD a) (signsD b), x.2)
  | _ => none
section
variable {X : Cx} {K : Frg} {W : Addr → Prop} {P : Pin} {G G' : Gm} {pos p tpos : Pos} {e ee : Expr}
theorem i_zipS {elts : List Expr} {kk : Nat} {fs : En → Option (List D × En)} (hg : Gl X "zip") (hm : X.mg "zip" = none) (ha : PA X [e, ee] (tAr X.K W P G G' [.vl, .vl] fs))
    (hs : starEach [e, ee] X.env = (false, eval e X.env) :: starEach [ee] X.env := by rfl) (hpl : (backTo pos (starEach [ee] X.env)).any (·.1) = false := by rfl) :
    PI X (.Tuple elts kk tpos) (.Call (.Name "zip" p) [e, ee] [] pos) (tI X.K W P G G' (iZS fs)) :=
  pi_weak (pi_zipS hg hm ha hs hpl) fun σ H R ⟨env, N, A, ds, env', r, ef, q⟩ => by
    obtain ⟨⟨es, ev⟩, ea, ef⟩ := opt_bind ef
    match es, ef with
    | [.str d1, .str d2], ef =>
      cases ef
      refine ⟨env, N, A, _, ev, r, ea, fun xs H1 N1 A1 s1 r1 h1 => ?_⟩
      obtain ⟨d, dr, x, xr, e1, rfl, h1, d2', dr2, y, yr, e2, rfl, h2, e3, rfl⟩ := h1
      cases e1
      cases e2
      have h1 : Rp X.K H1 N1 (.str d1) x := h1
      have h2 : Rp X.K H1 N1 (.str d2) y := h2
      rw [rp_str_v h1, rp_str_v h2]
      exact ⟨d1, d2, rfl, q _ _ H1 N1 A1 walk_zipS trivial s1 r1⟩

/-! ### (a, b) = a list -/
def gTL (tgs : En → List D → Option En) : En → D → Option En := fun e d => match d with
  | .list ds => tgs e ds
  | _ => none
theorem g_unl {vs : List Nat} {es : List Expr} {k : Nat} {n : Nat} {f : En → List D → Option En} (hc : X.calm = true) (h : PGs X es (tGs X.K W P vs G G' f)) (hl : ∀ e ds e', f e ds = some e' → ds.length = n)
    (hn : (assignEach es X.env).length = n := by rfl) (hst : (assignEach es X.env).findIdx? (·.1) = none := by rfl) : PG X (.Tuple es k pos) (tGr X.K W P vs G G' (gTL f)) :=
  pg_weak (pg_unl hc h hn hst) fun v σ H Q ⟨env, N, A, d, env', r, hv, e, q⟩ => by
    cases d with
    | list ds =>
      obtain ⟨a, xs, ev, hs, hr⟩ := hv.sql
      exact ⟨a, xs, ev, hs, by rw [hr.len]; exact hl _ _ _ e, env, N, A, ds, env', r, hr, e, q⟩
    | _ => cases e
end
end T3
end
set_option Elab.async false
set_option linter.all false
set_option maxRecDepth 100000
set_option maxHeartbeats 1000000
noncomputable section
namespace T3
open PySem PySem.Spec PyProof.Rows L2
/-! ### (a, b) = a list of one's own -/
section
variable {X : Cx} {c : Cc} {e : Expr} {G G1 G2 Gb : Gm} {pos : Pos}
def sUnl2 (i j : Nat) (fa : En → Option (D × En)) : En → Option Fl := fun e => (fa e).bind fun x => match x.1 with
  | .list [d1, d2] => some (.nx ((x.2.set i d1).set j d2))
  | _ => none
theorem Bok.tail {N W : Addr → Prop} {A : Ow} {a : Addr} {B : List Addr} (b : Bok N W A (a :: B)) : Bok N W A B :=
  ⟨fun x z => b.bn x (List.mem_cons_of_mem _ z), fun x z => b.bw x (List.mem_cons_of_mem _ z), fun x z => b.ba x (List.mem_cons_of_mem _ z), (List.nodup_cons.mp b.bd).2⟩
theorem Stp.tail {H H' : Hp} {N N' : Addr → Prop} {A A' : Ow} {a : Addr} {B : List Addr} (s : Stp H N A H' N' A' (a :: B)) : Stp H N A H' N' A' B :=
  ⟨s.keep, s.trk, s.own, fun x z => s.bf x (List.mem_cons_of_mem _ z), s.up, s.fz⟩
theorem s_unl2 {i j : Nat} {x y : Str} {m : Md} {fa : En → Option (D × En)} {px py pt : Pos} {kt} (hc : X.calm = true) (hN : X.N.Nodup) (hi : X.N[i]? = some x) (hj : X.N[j]? = some y) (hx : L2.Loc X.env.scope x) (hy : L2.Loc X.env.scope y)
    (he : PE X e (tE c.K c.W c.P G G1 (.ow m) fa)) (hK : c.K = X.K) (fx : X.fn x = true ∨ X.env.scope.names.lookup x = some .local := by first | exact .inl rfl | exact .inr rfl) (fy : X.fn y = true ∨ X.env.scope.names.lookup y = some .local := by first | exact .inl rfl | exact .inr rfl)
    (hs : swapsWithSole [.Tuple [.Name x px, .Name y py] kt pt] e pos.line X.env = pure false := by rfl) (hw : swappedStores [.Tuple [.Name x px, .Name y py] kt pt] e X.env = pure none := by rfl)
    (h1 : (assignEach [.Tuple [.Name x px, .Name y py] kt pt] X.env).map (·.2) = [assign (.Tuple [.Name x px, .Name y py] kt pt) X.env] := by rfl)
    (a1 : (assignEach [.Name x px, .Name y py] X.env).map (·.2) = assign (.Name x px) X.env :: (assignEach [.Name y py] X.env).map (·.2) := by rfl) (a2 : (assignEach [.Name y py] X.env).map (·.2) = assign (.Name y py) X.env :: (assignEach [] X.env).map (·.2) := by rfl)
    (hn : (assignEach [.Name x px, .Name y py] X.env).length = 2 := by rfl) (hst : (assignEach [.Name x px, .Name y py] X.env).findIdx? (·.1) = none := by rfl)
    (hl1 : i < G1.length := by decide) (hl2 : j < G1.length := by decide) (hp1 : c.P i = none := by rfl) (hp2 : c.P j = none := by rfl) (hG : (G1.set i (some m)).set j (some m) = G2 := by rfl) :
    PS X (.Assign [.Tuple [.Name x px, .Name y py] kt pt] e pos) (tS c G G2 Gb (sUnl2 i j fa)) :=
  hG ▸ ps_weak (ps_asg he (pg_unl hc (pgs_cons (pg_name hN hi hx fx) (pgs_cons (pg_name hN hj hy fy) pgs_nil a2) a1) hn hst) hs hw h1) fun D σ H ⟨env, N, A, rr, r, ef, q⟩ => by
    obtain ⟨⟨d, e1⟩, ea, ef⟩ := opt_bind ef
    match d, ef with
    | .list [d1, d2], ef =>
      cases ef
      refine ⟨env, N, A, _, e1, r, ea, fun v H1 N1 A1 B s1 r1 hv bv => ?_⟩
      obtain ⟨a, xs, ds, As, rfl, e0, hat, rfl, hall⟩ := ow_rd hv
      cases e0
      obtain ⟨v1, xr, B1, B', rfl, rfl, h1, v2, xr2, B2, B3, rfl, rfl, h2, rfl, rfl⟩ := hall
      have bv := bv.tail
      have s1 := s1.tail
      rw [List.append_nil] at bv s1
      refine ⟨a, [v1, v2], rfl, .inl (.inl hat), rfl, v1, [v2], rfl, v2, [], rfl, rfl, ?_⟩
      obtain ⟨b1, _, b3⟩ := bv.split
      have r2 := r1.set hl1 hp1 b1 h1
      have r3 := r2.set (i := j) (by simp [hl2]) hp2 (b3 i rfl) h2
      exact q _ H1 N1 _ (s1.put2 (i := i)).put r3
end
/-! ### t[n].append(e), t a tuple with parts of one's own -/
section
variable {K : Frg} {H : Hp} {N W : Addr → Prop}
theorem RpMt.get : ∀ {ms : List Md} {ds : List D} {xs : List V} {A : List Addr} {n : Nat} {m : Md}, RpMt K H N W ms ds xs A → ms[n]? = some m →
    ∃ d x A1 B A2, ds[n]? = some d ∧ xs[n]? = some x ∧ A = A1 ++ (B ++ A2) ∧ RpM K H N W m d x B ∧
      ∀ (H' : Hp) d' B', (∀ m d v C, (∀ a ∈ C, a ∈ A1 ∨ a ∈ A2) → RpM K H N W m d v C → RpM K H' N W m d v C) → RpM K H' N W m d' x B' → RpMt K H' N W ms (ds.set n d') xs (A1 ++ (B' ++ A2))
  | [], ds, xs, A, n, m, h, e => by simp at e
  | m0 :: ms, ds, xs, A, 0, m, h, e => by
    have e : m0 = m := by simpa using e
    subst e
    unfold RpMt at h
    obtain ⟨d, dr, x, r, A1, A2, rfl, rfl, rfl, h1, h2⟩ := h
    refine ⟨d, x, [], A1, A2, rfl, rfl, rfl, h1, fun H' d' B' st q => ?_⟩
    have mv : ∀ {ms : List Md} {ds : List D} {xs : List V} {C : List Addr}, (∀ a ∈ C, a ∈ A2) → RpMt K H N W ms ds xs C → RpMt K H' N W ms ds xs C := by
      intro ms
      induction ms with
      | nil => intro ds xs C _ h; unfold RpMt at h ⊢; exact h
      | cons m ms ih =>
        intro ds xs C hC h
        unfold RpMt at h ⊢
        obtain ⟨d, dr, x, r, C1, C2, e1, e2, rfl, q1, q2⟩ := h
        exact ⟨d, dr, x, r, C1, C2, e1, e2, rfl, st m d x C1 (fun a z => .inr (hC a (List.mem_append_left _ z))) q1, ih (fun a z => hC a (List.mem_append_right _ z)) q2⟩
    show RpMt K H' N W (m0 :: ms) (d' :: dr) (x :: r) (B' ++ A2)
    unfold RpMt
    exact ⟨d', dr, x, r, B', A2, rfl, rfl, rfl, q, mv (fun a z => z) h2⟩
  | m0 :: ms, ds, xs, A, n + 1, m, h, e => by
    unfold RpMt at h
    obtain ⟨d, dr, x, r, A1, A2, rfl, rfl, rfl, h1, h2⟩ := h
    obtain ⟨d1, x1, C1, B, C2, e1, e2, rfl, e4, e5⟩ := RpMt.get (n := n) h2 (by simpa using e)
    refine ⟨d1, x1, A1 ++ C1, B, C2, by simpa using e1, by simpa using e2, by simp, e4, fun H' d' B' st q => ?_⟩
    have z := e5 H' d' B' (fun m d v C hC => st m d v C fun a z => (hC a z).imp (List.mem_append_right _) id) q
    show RpMt K H' N W (m0 :: ms) (d :: dr.set n d') (x :: r) (A1 ++ C1 ++ (B' ++ C2))
    unfold RpMt
    exact ⟨d, _, x, r, A1, C1 ++ (B' ++ C2), rfl, rfl, by simp, st m0 d x A1 (fun a z => .inl (List.mem_append_left _ z)) h1, z⟩
end
section
variable {X : Cx} {e j : Expr} {W : Addr → Prop} {P : Pin} {G : Gm} {p px apos cpos ps : Pos} {x : Str} {i n : Nat} {ms : List Md} {m : Md}
def fAppT (i n : Nat) (fa : En → Option D) : En → Option (D × En) := fun e => (fa e).bind fun x => (e[i]?).bind fun l => match l with
  | .tuple ds => (ds[n]?).bind fun r => match r with
    | .list rs => @ite (Option _) (rs.length < sizeLine) (Classical.propDecidable _) (some (.none, e.set i (.tuple (ds.set n (.list (rs ++ [x])))))) none
    | _ => none
  | _ => none
theorem atI_nat {α : Type} {xs : List α} {n : Nat} {y : α} (h : xs[n]? = some y) : atI xs (n : Nat) = some y := by
  have hl : n < xs.length := (List.getElem?_eq_some_iff.mp h).1
  refine atI_ixN (n := n) ?_ h
  unfold ixN
  simp
  omega
theorem e_appT {fa : En → Option D} (hN : X.N[i]? = some x) (hv : Vis X.env.scope x) (g : G[i]? = some (some (.tu ms))) (gm : ms[n]? = some (.ow m)) (hj : PE X j (tK X.K W P G (fC (.int (n : Nat))))) (ha : PE X e (tQ X.K W P G m fa)) (hp : ∀ v od, P i = some (v, od) → od = none)
    (hd : (x == ("__debug__" : Str)) = false := by decide) (hcd : (x == ("__classdict__" : Str)) = false := by decide) (hix : PlainIx j := by exact fun _ _ => rfl)
    (hbase : attributeBase (.Subscript (.Name x px) j ps) "append" X.env (eval (.Subscript (.Name x px) j ps) X.env) = eval (.Subscript (.Name x px) j ps) X.env := by rfl)
    (hfew : ((backTo cpos (starEach [e] X.env)).all (fun x => !x.1) && (backToKw cpos (keywordEach [] X.env)).all (fun x => x.1.isSome) && decide ([e].length + ([] : List Keyword).length + (if ([] : List Keyword).isEmpty then 0 else 1) < 30)) = true := by rfl)
    (hline : (apos.endLine == cpos.line) = true := by rfl) (hs : starEach [e] X.env = (false, eval e X.env) :: starEach [] X.env := by rfl) (hplain : (backTo cpos (starEach [] X.env)).any (·.1) = false := by rfl) :
    PE X (.Call (.Attribute (.Subscript (.Name x px) j ps) "append" apos) [e] [] cpos) (tE X.K W P G G .sh (fAppT i n fa)) :=
  pe_weak (pe_bm F.plainAttrs_list F.slot_list_append F.type_list_append mt_append (pe_ix ix_seq (pe_var hN hv hd hcd) hj hix) (pa_cons ha pa_nil hs) hbase hfew hline hs hplain) fun σ H Q ⟨env, N, A, d, env', r, ef, q⟩ => by
    obtain ⟨dx, ea, ef⟩ := opt_bind ef
    obtain ⟨dl, ei, ef⟩ := opt_bind ef
    match dl, ei, ef with
    | .tuple ds, ei, ef =>
      obtain ⟨dr, er, ef⟩ := opt_bind ef
      match dr, er, ef with
      | .list rs, er, ef =>
        have ef : (@ite (Option _) (rs.length < sizeLine) (Classical.propDecidable _) (some (PyData.none, env.set i (.tuple (ds.set n (.list (rs ++ [dx])))))) none) = some (d, env') := ef
        split at ef
        · rename_i hz
          cases ef
          obtain ⟨d0, v0, h1, h2, h3⟩ := r.sl i _ g
          refine ⟨_, h2, env, N, A, _, r, rfl, fun vk H0 N0 ex hk => ?_⟩
          have r0 := r.ext ex
          -- the tuple, its part, that part's object
          have look : ∀ {H1 : Hp} {N1 : Addr → Prop}, ER X.K W P H1 N1 G env σ A → ∃ c xs b ys A1 Cs A2, v0 = .ref c ∧ N1 c ∧ H1 c = some (.tup xs) ∧ xs[n]? = some (.ref b) ∧ H1 b = some (.lst ys) ∧ A i = A1 ++ ((b :: Cs) ++ A2) ∧ AllM (RpM X.K H1 N1 W m) rs ys Cs ∧
              ∀ (H' : Hp) d' B', (∀ m d v C, (∀ a ∈ C, a ∈ A1 ∨ a ∈ A2) → RpM X.K H1 N1 W m d v C → RpM X.K H' N1 W m d v C) → RpM X.K H' N1 W (.ow m) d' (.ref b) B' → RpMt X.K H' N1 W ms (ds.set n d') xs (A1 ++ (B' ++ A2)) := fun {H1 N1} r1 => by
            obtain ⟨d1, v1, k1, k2, k3⟩ := r1.sl i _ g
            rw [h2] at k2
            cases k2
            rw [ei] at k1
            cases k1
            unfold RpM at k3
            obtain ⟨c, xs, ds', e1, e2, nc, hc, hm⟩ := k3
            cases e2
            obtain ⟨d2, x2, A1, B, A2, g1, g2, g3, g4, g5⟩ := hm.get gm
            rw [er] at g1
            cases g1
            obtain ⟨b, ys, rs', Cs, rfl, e4, hb, rfl, hall⟩ := ow_rd g4
            cases e4
            exact ⟨c, xs, b, ys, A1, Cs, A2, e1, nc, hc, g2, hb, g3, hall, g5⟩
          obtain ⟨c, xs, b, ys, A1, Cs, A2, ev, nc, hc, hx, hb, hA, hrows, hset⟩ := look r0
          subst ev
          refine .inr (.inl ⟨c, xs, (n : Nat), .ref b, rfl, rp_int_v hk, .inl (.inl hc), atI_nat hx, .inl ⟨rfl, ys, .inl (.inl hb)⟩, env, N0, A, dx, r0, ea, fun y H1 N1 By ex1 hy => ?_⟩)
          have r1 := r0.ext ex1
          have by1 := r0.bok ex1
          obtain ⟨c', xs', b', ys', A1', Cs', A2', ev', nc', hc', hx', hb', hA', hrows', hset'⟩ := look r1
          cases ev'
          have z := ex1.gr c _ hc
          rw [hc'] at z
          cases z
          rw [hx] at hx'
          cases hx'
          have mb : b ∈ A i := by rw [hA']; simp
          have nb := r1.dn i _ mb
          have wb := r1.wd i _ mb
          have cy : b ∉ By := fun z => by1.ba _ z ⟨i, mb⟩
          have nd := r1.nd i
          rw [hA'] at nd
          have nd1 := List.nodup_append.mp nd
          have nd2 := List.nodup_append.mp nd1.2.1
          have nd3 := List.nodup_cons.mp nd2.1
          have m1 : ∀ z, z ∈ A1' → z ∈ A i := fun z h => by rw [hA']; simp [h]
          have m2 : ∀ z, z ∈ A2' → z ∈ A i := fun z h => by rw [hA']; simp [h]
          have mC : ∀ z, z ∈ Cs' → z ∈ A i := fun z h => by rw [hA']; simp [h]
          refine ⟨b, ys', y, rfl, rfl, hb', by rw [hrows'.len]; exact hz, ?_⟩
          have hnew := hset' (upd H1 b (.lst (ys' ++ [y]))) (.list (rs ++ [dx])) (b :: (Cs' ++ By)) (fun m d v C hC q => q.off nb wb fun z => ?_) (ow_mk upd_same (AllM.snoc' (hrows'.off nb wb nd3.1) (RpM.off hy nb wb cy)))
          · have ndn : (A1' ++ ((b :: (Cs' ++ By)) ++ A2')).Nodup := by
              have yA : ∀ a, a ∈ By → a ∉ A i := fun a z w => by1.ba a z ⟨i, w⟩
              refine List.nodup_append.mpr ⟨nd1.1, List.nodup_append.mpr ⟨List.nodup_cons.mpr ⟨fun z => (List.mem_append.mp z).elim nd3.1 cy, List.nodup_append.mpr ⟨nd3.2, by1.bd, fun a z a' z' e => yA a' z' (e ▸ mC a z)⟩⟩, nd2.2.1, fun a z a' z' e => ?_⟩, fun a z a' z' e => ?_⟩
              · subst e
                rcases List.mem_cons.mp z with z | z
                · subst z; exact nd2.2.2 a List.mem_cons_self a z' rfl
                · rcases List.mem_append.mp z with z | z
                  · exact nd2.2.2 a (List.mem_cons_of_mem _ z) a z' rfl
                  · exact yA a z (m2 a z')
              · subst e
                rcases List.mem_append.mp z' with z' | z'
                · rcases List.mem_cons.mp z' with z' | z'
                  · subst z'; exact nd1.2.2 a z a (by simp) rfl
                  · rcases List.mem_append.mp z' with z' | z'
                    · exact nd1.2.2 a z a (by simp [z']) rfl
                    · exact yA a z' (m1 a z)
                · exact nd1.2.2 a z a (by simp [z']) rfl
            have cb : c ≠ b := fun z => nb (z ▸ nc')
            obtain ⟨s2, r2⟩ := mut1 (u := .lst (ys' ++ [y])) (d := .tuple (ds.set n (.list (rs ++ [dx])))) ((ex.trans ex1).stp (A := A)) r1 by1 (RpM.trk m dx y By hy) hp g h2 mb (fun a z => by
              rcases List.mem_append.mp z with z | z
              · exact .inl (m1 a z)
              · rcases List.mem_append.mp z with z | z
                · rcases List.mem_cons.mp z with z | z
                  · exact .inl (z ▸ mb)
                  · exact (List.mem_append.mp z).imp (mC a) _root_.id
                · exact .inl (m2 a z)) ndn (by
              unfold RpM
              exact ⟨c, xs, _, rfl, rfl, nc', by rw [upd_ne cb]; exact hc', hnew⟩)
            exact q .non _ N1 _ [] s2 r2 (RpM.sh_of rp_non) Bok.nil
          · rcases hC b z with z | z
            · exact nd1.2.2 b z b (by simp) rfl
            · exact nd2.2.2 b List.mem_cons_self b z rfl
        · cases ef
end
end T3
end
set_option Elab.async false
set_option linter.all false
set_option maxRecDepth 100000
set_option maxHeartbeats 1000000
noncomputable section
namespace T3
open PySem PySem.Spec PyProof.Rows L2
section
variable {X : Cx} {a b : Expr} {K : Frg} {W : Addr → Prop} {P : Pin} {G : Gm} {pos apos : Pos}
/-! ### x.split(sep) -/
def gSplit : D → D → Option D
  | .str x, .str y => @ite (Option _) ((y.length == 0) = false ∧ x.length + 2 ≤ sizeLine) (Classical.propDecidable _) (some (.list ((Txt.split x y).map .str))) none
  | _, _ => none
theorem rpl_txt {H : Hp} {N : Addr → Prop} : ∀ ys : List Str, RpL K H N (ys.map .str) (ys.map V.str)
  | [] => RpL.nil
  | y :: ys => RpL.cons rp_str (rpl_txt ys)
theorem q_split {fa fb : En → Option D} (ha : PE X a (tK X.K W P G fa)) (hb : PE X b (tK X.K W P G fb)) (hs : starEach [b] X.env = [(false, eval b X.env)] := by rfl)
    (hbase : attributeBase a "split" X.env (eval a X.env) = eval a X.env := by rfl) (hline : (apos.endLine == pos.line) = true := by rfl) :
    PE X (.Call (.Attribute a "split" apos) [b] [] pos) (tQ X.K W P G (.ow .sh) (f2 gSplit fa fb)) :=
  pe_weak (pe_m1 F.slot_str_split F.type_str_split mt_split ha hb hs hbase hline) fun σ H Q ⟨env, N, A, d, r, ef, q⟩ => by
    obtain ⟨da, ea, ef⟩ := opt_bind ef
    obtain ⟨db, eb, ef⟩ := opt_bind ef
    match da, db, ea, eb, ef with
    | .str x, .str y, ea, eb, ef =>
      have ef : (@ite (Option D) ((y.length == 0) = false ∧ x.length + 2 ≤ sizeLine) (Classical.propDecidable _) (some (.list ((Txt.split x y).map .str))) none) = some d := ef
      refine ⟨env, N, A, _, r, ea, fun v H1 N1 ex h1 => ?_⟩
      split at ef
      · rename_i hz
        cases ef
        refine ⟨⟨x, rp_str_v h1⟩, env, N1, A, _, r.ext ex, eb, fun u H2 N2 ex2 h2 => ?_⟩
        refine ⟨x, y, rp_str_v h1, by rw [rp_str_v h2], hz.1, hz.2, fun p np => ?_⟩
        exact q (.ref p) _ N2 [p] ((ex.trans ex2).trans (Ext.new np (r.ext (ex.trans ex2)).tr)) (RpM.new_list np (rpl_txt _))
      · cases ef
/-! ### pairs, not one behind the other -/
def gLeP (x y : D) : Option D := match pairOf x, pairOf y with
  | some p, some q => some (.bool (leP p q))
  | _, _ => none
theorem fl_leP : Flat2 K (rLeT K) gLeP := by
  intro x y dx dy d H Q hx hy hg hq
  unfold gLeP at hg
  split at hg
  · rename_i p q hp hqq
    cases hg
    rw [pairOf_eq hp] at hx
    rw [pairOf_eq hqq] at hy
    obtain ⟨a, xs, rfl, hs, hr⟩ := Rp.sqt (ds := [.int p.1, .int p.2]) hx
    obtain ⟨v1, v2, rfl, w1, w2⟩ := rpl2 hr
    obtain ⟨b, ys, rfl, hs2, hr2⟩ := Rp.sqt (ds := [.int q.1, .int q.2]) hy
    obtain ⟨v3, v4, rfl, w3, w4⟩ := rpl2 hr2
    rw [rp_int_v w1, rp_int_v w2] at hs
    rw [rp_int_v w3, rp_int_v w4] at hs2
    refine ⟨a, b, [p.1, p.2], [q.1, q.2], rfl, rfl, hs, hs2, ?_⟩
    have e : Ob.lexAt (fun j => decide ([p.1, p.2].getD j 0 = [q.1, q.2].getD j 0)) (fun j => decide ([p.1, p.2].getD j 0 ≤ [q.1, q.2].getD j 0)) (decide ([p.1, p.2].length ≤ [q.1, q.2].length)) 0 (min [p.1, p.2].length [q.1, q.2].length) = leP p q := by
      have q1 : leP p q = if p.1 = q.1 then (if p.2 = q.2 then true else decide (p.2 ≤ q.2)) else decide (p.1 ≤ q.1) := by
        rw [Bool.eq_iff_iff, leP_iff]
        split
        · split
          · simp
            omega
          · rw [decide_eq_true_eq]
            omega
        · rw [decide_eq_true_eq]
          omega
      rw [q1]
      show (if decide (p.1 = q.1) = true then (if decide (p.2 = q.2) = true then decide (2 ≤ 2) else decide (p.2 ≤ q.2)) else decide (p.1 ≤ q.1)) = _
      simp only [decide_eq_true_eq, Nat.le_refl, decide_true]
    rw [e]
    exact hq _ rfl
  · cases hg
theorem o_leP {k : Nat} (hr : Room k X.A) : OpR X (compareOp .LtE) (rLeT X.K) := op_leT hr.units0
theorem q_idxH {fa fb : En → Option D} {k : Nat} (hr : Room k X.A) (ha : PE X a (tK X.K W P G fa)) (hb : PE X b (tK X.K W P G fb))
    (hbase : attributeBase a "index" X.env (eval a X.env) = eval a X.env := by rfl)
    (hfew : ((backTo pos (starEach [b] X.env)).all (fun x => !x.1) && (backToKw pos (keywordEach [] X.env)).all (fun x => x.1.isSome) && decide ([b].length + ([] : List Keyword).length + (if ([] : List Keyword).isEmpty then 0 else 1) < 30)) = true := by rfl)
    (hline : (apos.endLine == pos.line) = true := by rfl) (hs : starEach [b] X.env = (false, eval b X.env) :: starEach [] X.env := by rfl) (hplain : (backTo pos (starEach [] X.env)).any (·.1) = false := by rfl) :
    PE X (.Call (.Attribute a "index" apos) [b] [] pos) (tQ X.K W P G .sh (f2 gIdx fa fb)) :=
  q_idx (by have := room190 hr; omega) ha hb hbase hfew hline hs hplain
/-- nothing is claimed of the def -/
theorem fn_none {Pg : Program} {w : World} {K : Frg} {mg : Str → Option Value} {base : Heap} {f : Addr} {fd : FuncData} {ps : List Str} {k : Nat} {Gp : Gm} {mr : Md} : FnG Pg w K mg base CX0 k f fd ps (spQ K Gp mr fun _ => none) where
  len := fun vs H Q E h => by
    obtain ⟨_, _, _, _, _, _, e, _⟩ := h
    cases e
  run := fun A outer s H args us vs Q E _ _ _ _ _ h => by
    obtain ⟨_, _, _, _, _, _, e, _⟩ := h
    cases e
end
end T3
end
set_option Elab.async false
set_option linter.all false
set_option maxRecDepth 100000
set_option maxHeartbeats 1000000
noncomputable section
namespace T3
open PySem PySem.Spec PyProof.Rows L2
/-! ### frozen for one look only: the answer is flat, the slot i the only one of one's own -/
def lone (i : Nat) (G : Gm) : Bool := (List.range G.length).all fun j => decide (j = i) || match G.getD j none with
  | none => true
  | some .sh => true
  | some .pk => true
  | _ => false
def fThaw (f : En → Option (D × En)) : En → Option (D × En) := fun e => (f e).bind fun x => (flt x.1).bind fun _ => some (x.1, e)
theorem lone_at {i : Nat} {G : Gm} (h : lone i G = true) {j : Nat} (hj : j ≠ i) {m : Md} (e : G[j]? = some (some m)) : m = .sh ∨ m = .pk := by
  have hl : j < G.length := (List.getElem?_eq_some_iff.mp e).1
  have := List.all_eq_true.mp h j (List.mem_range.mpr hl)
  have eg : G.getD j none = some m := by rw [List.getD_eq_getElem?_getD, e]; rfl
  rw [eg, Bool.or_eq_true, decide_eq_true_eq] at this
  rcases this with z | z
  · exact absurd z hj
  · cases m with
    | sh => exact .inl rfl
    | pk => exact .inr rfl
    | _ => cases z
theorem e_thaw {X : Cx} {e : Expr} {W : Addr → Prop} {P : Pin} {G G2 : Gm} {i : Nat} {m : Md} {f : En → Option (D × En)} (g : G[i]? = some (some m)) (h : PE X e (tE X.K W P (G.set i (some .sh)) G2 .sh f)) (hl : lone i G = true := by rfl) (np : m.np = true := by rfl) :
    PE X e (tE X.K W P G G .sh (fThaw f)) :=
  pe_weak h fun σ H Q ⟨env, N, A, d, env', r, ef, q⟩ => by
    obtain ⟨⟨dx, e1⟩, ea, ef⟩ := opt_bind ef
    obtain ⟨v0, ev, ef⟩ := opt_bind ef
    cases ef
    have alone : ∀ a, ¬ O (A.put i []) a := fun a ⟨j, z⟩ => by
      by_cases hj : j = i
      · subst hj
        rw [put_same] at z
        cases z
      · rw [put_ne hj] at z
        by_cases hm : ∃ m, G[j]? = some (some m)
        · obtain ⟨m', e'⟩ := hm
          obtain ⟨d', v', _, _, h3⟩ := r.sl j m' e'
          rcases lone_at hl hj e' with rfl | rfl
          · unfold RpM at h3; rw [h3.2] at z; cases z
          · unfold RpM at h3; rw [h3.2] at z; cases z
        · rw [r.no j fun m e => hm ⟨m, e⟩] at z
          cases z
    refine ⟨env, _, _, dx, e1, r.freeze g np, ea, fun v H' N' A' B s1 r1 hv _ => ?_⟩
    have gr : ∀ a o, H a = some o → H' a = some o := fun a o e => s1.keep a o e (alone a)
    have ex : Ext H N H' N [] := ⟨gr, fun a n => n, fun a n => .inl n, fun _ z => (nomatch z), fun _ z => (nomatch z), List.nodup_nil⟩
    unfold RpM at hv
    have e0 := rp_flt hv.1 ev
    subst e0
    exact q v H' N A [] ex.stp (r.ext ex) (RpM.sh_of (flt_rp ev)) Bok.nil
/-! ### a test a < b < c -/
theorem t_chain {X : Cx} {a b c : Expr} {K : Frg} {W : Addr → Prop} {P : Pin} {G : Gm} {pos : Pos} {op op' : CmpOp} {r r' : R2} {g g' : D → D → Option D} {fa fb fc : En → Option D} (ho : OpR X (compareOp op) r) (ho' : OpR X (compareOp op') r') (hg : Flat2 K r g) (hg' : Flat2 K r' g')
    (ha : PE X a (tK K W P G fa)) (hb : PE X b (tK K W P G fb)) (hc : PE X c (tK K W P G fc)) (hm : lastMarks [op, op'] [b, c] = false := by with_unfolding_all rfl) : PT X (.Compare a [op, op'] [b, c] pos) (tB K W P G G (lb (lq (f3 g g' fa fb fc)))) :=
  pt_weak (L2.pt_chain ho ho' ha hb hc hm) fun σ H Q ⟨env, N, A, k, env', r, ef, q⟩ => by
    obtain ⟨d, ef2, e2⟩ := opt_bind (lb_some ef)
    cases e2
    exact tK_chain hg hg' ⟨env, N, A, _, r, ef2, fun v H' N' B s hv => by
      obtain ⟨hv, hb⟩ := bool_val hv
      subst hv hb
      exact ⟨k, rfl, q H' N' A s.stp (r.ext s)⟩⟩
end T3
end
set_option Elab.async false
set_option linter.all false
set_option maxRecDepth 100000
set_option maxHeartbeats 1000000
noncomputable section
namespace T3
open PySem PySem.Spec PyProof.Rows L2
/-! ### reckoning with readings -/
/-- told as a rule, not by unfolding (the kernel must not unfold sizeLine) -/
theorem nr {α : Sort u} {a b : α} (h : a = b) : a = b := h
section
variable {e : En} {i : Nat} {d : D}
@[simp] theorem fV_e : fV i e = e[i]? := nr rfl
@[simp] theorem fC_e : fC d e = some d := nr rfl
@[simp] theorem lq_e {f : En → Option D} : lq f e = (f e).bind fun d => some (d, e) := nr rfl
@[simp] theorem f1_e {g : D → Option D} {f : En → Option D} : f1 g f e = (f e).bind g := nr rfl
@[simp] theorem f2_e {g : D → D → Option D} {f h : En → Option D} : f2 g f h e = (f e).bind fun x => (h e).bind fun y => g x y := nr rfl
@[simp] theorem f3_e {g g' : D → D → Option D} {fa fb fc : En → Option D} : f3 g g' fa fb fc e = (fa e).bind fun x => (fb e).bind fun y => (g x y).bind fun z => match z with
  | .bool true => (fc e).bind fun w => g' y w
  | .bool false => some (.bool false)
  | _ => none := nr rfl
@[simp] theorem e1_e {g : D → Option D} {fa : En → Option (D × En)} : e1 g fa e = (fa e).bind fun x => (g x.1).bind fun d => some (d, x.2) := nr rfl
@[simp] theorem e2_e {g : D → D → Option D} {fa fb : En → Option (D × En)} : e2 g fa fb e = (fa e).bind fun x => (fb x.2).bind fun y => (g x.1 y.1).bind fun d => some (d, y.2) := nr rfl
@[simp] theorem kNil_e : kNil e = some [] := nr rfl
@[simp] theorem kCons_e {fa : En → Option D} {fr : En → Option (List D)} : kCons fa fr e = (fa e).bind fun d => (fr e).bind fun ds => some (d :: ds) := nr rfl
@[simp] theorem fQ_e {g : List D → Option D} {fs : En → Option (List D)} : fQ g fs e = (fs e).bind g := nr rfl
@[simp] theorem aNil_e : aNil e = some ([], e) := nr rfl
@[simp] theorem aV_e {fa : En → Option (D × En)} {fr : En → Option (List D × En)} : aV fa fr e = (fa e).bind fun x => (fr x.2).bind fun y => some (x.1 :: y.1, y.2) := nr rfl
@[simp] theorem aS_e {fr : En → Option (List D × En)} : aS i fr e = (fr e).bind fun y => (y.2[i]?).bind fun d => some (d :: y.1, y.2) := nr rfl
@[simp] theorem fCl_e {F : List D → Option D} {fs : En → Option (List D × En)} : fCl F fs e = (fs e).bind fun y => (F y.1).bind fun d => some (d, y.2) := nr rfl
@[simp] theorem fClI_e {F : List D → Option (D × D)} {fs : En → Option (List D × En)} : fClI F i fs e = (fs e).bind fun y => (F y.1).bind fun z => some (z.1, y.2.set i z.2) := nr rfl
@[simp] theorem fClM_e {F : List D → Option (D × D)} {fa : En → Option (D × En)} {fs : En → Option (List D × En)} : fClM F fa fs e = (fa e).bind fun x => (fs x.2).bind fun y => (F (x.1 :: y.1)).bind fun z => some (z.1, y.2) := nr rfl
@[simp] theorem fL_e {fs : En → Option (List D × En)} : fL fs e = (fs e).bind fun y => some (.list y.1, y.2) := nr rfl
@[simp] theorem fT_e {fs : En → Option (List D × En)} : fT fs e = (fs e).bind fun y => some (.tuple y.1, y.2) := nr rfl
@[simp] theorem fFl_e {fa : En → Option D} : fFl fa e = (fa e).bind fun d => (flt d).bind fun _ => some d := nr rfl
@[simp] theorem sNil_e : sNil e = some (.nx e) := nr rfl
@[simp] theorem sEx_e {fa : En → Option (D × En)} : sEx fa e = (fa e).bind fun x => some (.nx x.2) := nr rfl
@[simp] theorem sSet_e {fa : En → Option (D × En)} : sSet i fa e = (fa e).bind fun x => some (.nx (x.2.set i x.1)) := nr rfl
@[simp] theorem sRt_e {fa : En → Option (D × En)} : sRt fa e = (fa e).bind fun x => some (.rt x.1 x.2) := nr rfl
@[simp] theorem sIf_e {fc : En → Option (Bool × En)} {f g : En → Option Fl} : sIf fc f g e = (fc e).bind fun x => if x.1 = true then f x.2 else g x.2 := nr rfl
@[simp] theorem sSeq_e {f g : En → Option Fl} : sSeq f g e = (f e).bind fun r => match r with
  | .nx e => g e
  | r => some r := nr rfl
@[simp] theorem bNot_e {fa : En → Option (Bool × En)} : bNot fa e = (fa e).bind fun x => some (!x.1, x.2) := nr rfl
@[simp] theorem bAnd_e {fa fb : En → Option (Bool × En)} : bAnd fa fb e = (fa e).bind fun x => if x.1 = true then fb x.2 else some (false, x.2) := nr rfl
@[simp] theorem bOr_e {fa fb : En → Option (Bool × En)} : bOr fa fb e = (fa e).bind fun x => if x.1 = true then some (true, x.2) else fb x.2 := nr rfl
@[simp] theorem bYes_e : bYes e = some (true, e) := nr rfl
@[simp] theorem lb_e {fa : En → Option (D × En)} : lb fa e = (fa e).bind fun x => match x with
  | (.bool b, e) => some (b, e)
  | _ => none := nr rfl
@[simp] theorem vAnd_e {fa fb : En → Option (D × En)} : vAnd fa fb e = (lb fa e).bind fun x => if x.1 = true then fb x.2 else some (.bool false, x.2) := nr rfl
@[simp] theorem vOr_e {fa fb : En → Option (D × En)} : vOr fa fb e = (lb fa e).bind fun x => if x.1 = true then some (.bool true, x.2) else fb x.2 := nr rfl
@[simp] theorem vNot_e {fa : En → Option (D × En)} : vNot fa e = (lb fa e).bind fun x => some (.bool (!x.1), x.2) := nr rfl
@[simp] theorem fIf_e {fc : En → Option (Bool × En)} {fa fb : En → Option (D × En)} : fIf fc fa fb e = (fc e).bind fun x => if x.1 = true then fa x.2 else fb x.2 := nr rfl
@[simp] theorem gN_e : gN i e d = some (e.set i d) := nr rfl
@[simp] theorem sFor_e {fi : En → Option (List D × En)} {tg : En → D → Option En} {is : List Nat} {f : En → Option Fl} : sFor fi tg is f e = (fi e).bind fun x => sForN tg is f x.1 x.2 := nr rfl
@[simp] theorem iL_e {fa : En → Option (D × En)} : iL fa e = (fa e).bind fun x => match x.1 with
  | .list ds => some (ds, x.2)
  | _ => none := nr rfl
@[simp] theorem iT_e {fa : En → Option (D × En)} : iT fa e = (fa e).bind fun x => match x.1 with
  | .tuple ds => some (ds, x.2)
  | _ => none := nr rfl
@[simp] theorem gTup_e {t : En → List D → Option En} {ds : List D} : gT t e (.tuple ds) = t e ds := nr rfl
@[simp] theorem gNil_e : gNil e [] = some e := nr rfl
@[simp] theorem gCons_e {t : En → D → Option En} {r : En → List D → Option En} {ds : List D} : gCons t r e (d :: ds) = (t e d).bind fun e => r e ds := nr rfl
@[simp] theorem fLc_e {fi : En → Option (List D × En)} {tg : En → D → Option En} {is : List Nat} {ft : En → Option (Bool × En)} {fe : En → Option (D × En)} : fLc fi tg is ft fe e =
  (fi e).bind fun x => @ite (Option _) (x.1.length ≤ sizeLine) (Classical.propDecidable _) ((lcN tg is ft fe x.1 (wpE is x.2)).bind fun z => some (.list z.1, z.2)) none := nr rfl
@[simp] theorem wpE_nil : wpE [] e = e := nr rfl
@[simp] theorem wpE_cons {is : List Nat} : wpE (i :: is) e = wpE is (e.set i .none) := nr rfl
end
/-! ### loops -/
theorem lcN_map {tg : En → D → Option En} {is : List Nat} {ft : En → Option (Bool × En)} {fe : En → Option (D × En)} {e : En} (p : D → Bool) (r : D → D) : ∀ {ds : List D},
    (∀ d ∈ ds, ∃ e1 e2, tg e d = some e1 ∧ ft e1 = some (p d, e2) ∧ (p d = true → ∃ e3, fe e2 = some (r d, e3) ∧ wpE is e3 = e) ∧ (p d = false → wpE is e2 = e)) → lcN tg is ft fe ds e = some ((ds.filter p).map r, e)
  | [], _ => rfl
  | d :: ds, h => by
    obtain ⟨e1, e2, h1, h2, h3, h4⟩ := h d List.mem_cons_self
    have ih := lcN_map p r (ds := ds) fun x m => h x (List.mem_cons_of_mem _ m)
    unfold lcN
    rw [h1, Option.bind_some, h2, Option.bind_some]
    cases hp : p d with
    | true =>
      obtain ⟨e3, h5, h6⟩ := h3 hp
      dsimp only
      rw [if_pos rfl, h5, Option.bind_some]
      dsimp only
      rw [h6, ih, Option.bind_some, List.filter_cons_of_pos hp, List.map_cons]
    | false =>
      dsimp only
      rw [if_neg (by decide), h4 hp, ih, List.filter_cons_of_neg (by rw [hp]; decide)]
/-- every item taken, the place it stands at -/
theorem lcN_all {tg : En → D → Option En} {is : List Nat} {fe : En → Option (D × En)} {e : En} (r : D → D) {ds : List D}
    (h : ∀ d ∈ ds, ∃ e1 e3, tg e d = some e1 ∧ fe e1 = some (r d, e3) ∧ wpE is e3 = e) : lcN tg is bYes fe ds e = some (ds.map r, e) := by
  have := lcN_map (tg := tg) (is := is) (ft := bYes) (fe := fe) (e := e) (fun _ => true) r (ds := ds) fun d m => by
    obtain ⟨e1, e3, h1, h2, h3⟩ := h d m
    exact ⟨e1, e1, h1, rfl, fun _ => ⟨e3, h2, h3⟩, fun z => nomatch z⟩
  rw [this, List.filter_eq_self.mpr (fun _ _ => rfl)]
/-- with a state that the turns change: what stands between the turns -/
theorem lcN_inv {tg : En → D → Option En} {is : List Nat} {fe : En → Option (D × En)} (I : Nat → List D → En → Prop) : ∀ {ds : List D} {n : Nat} {acc : List D} {e : En}, I n acc e →
    (∀ i acc e d, ds[i]? = some d → I (n + i) acc e → ∃ e1 y e3, tg e d = some e1 ∧ fe e1 = some (y, e3) ∧ I (n + i + 1) (acc ++ [y]) (wpE is e3)) →
    ∃ zs e', lcN tg is bYes fe ds e = some (zs, e') ∧ I (n + ds.length) (acc ++ zs) e'
  | [], n, acc, e, h, _ => ⟨[], e, rfl, by simpa using h⟩
  | d :: ds, n, acc, e, h, st => by
    obtain ⟨e1, y, e3, h1, h2, h3⟩ := st 0 acc e d rfl h
    obtain ⟨zs, e', h4, h5⟩ := lcN_inv I (ds := ds) (n := n + 1) (acc := acc ++ [y]) (e := wpE is e3) h3 fun i acc e d' hd hi => by
      have := st (i + 1) acc e d' (by simpa using hd) (by rw [show n + (i + 1) = n + 1 + i by omega]; exact hi)
      rw [show n + (i + 1) + 1 = n + 1 + i + 1 by omega] at this
      exact this
    refine ⟨y :: zs, e', ?_, ?_⟩
    · unfold lcN
      rw [h1, Option.bind_some, bYes_e, Option.bind_some]
      dsimp only
      rw [if_pos rfl, h2, Option.bind_some]
      dsimp only
      rw [h4, Option.bind_some]
    · rw [show n + (d :: ds).length = n + 1 + ds.length by simp; omega]
      simpa using h5
theorem sForN_inv {tg : En → D → Option En} {is : List Nat} {f : En → Option Fl} (I : Nat → En → Prop) : ∀ {ds : List D} {n : Nat} {e : En}, I n e →
    (∀ i e d, ds[i]? = some d → I (n + i) e → ∃ e1 e2, tg e d = some e1 ∧ f e1 = some (.nx e2) ∧ I (n + i + 1) (wpE is e2)) → ∃ e', sForN tg is f ds e = some (.nx e') ∧ I (n + ds.length) e'
  | [], n, e, h, _ => ⟨e, rfl, h⟩
  | d :: ds, n, e, h, st => by
    obtain ⟨e1, e2, h1, h2, h3⟩ := st 0 e d rfl h
    obtain ⟨e', h4, h5⟩ := sForN_inv I (ds := ds) (n := n + 1) (e := wpE is e2) h3 fun i e d' hd hi => by
      have := st (i + 1) e d' (by simpa using hd) (by rw [show n + (i + 1) = n + 1 + i by omega]; exact hi)
      rw [show n + (i + 1) + 1 = n + 1 + i + 1 by omega] at this
      exact this
    refine ⟨e', ?_, by rw [show n + (d :: ds).length = n + 1 + ds.length by simp; omega]; exact h5⟩
    unfold sForN
    rw [h1, Option.bind_some, h2, Option.bind_some]
    exact h4
/-- while: a measure, what holds at the end -/
theorem sWh_inv {fc : En → Option (Bool × En)} {f : En → Option Fl} (I : Nat → En → Prop) (Q : En → Prop) : ∀ (n : Nat) {e : En}, I n e →
    (∀ n e, I n e → ∃ b e1, fc e = some (b, e1) ∧ (b = false → Q e1) ∧ (b = true → ∃ e2 m, f e1 = some (.nx e2) ∧ m < n ∧ I m e2)) → ∃ e', sWh fc f e = some (.nx e') ∧ Q e' := by
  intro n
  induction n using Nat.strongRecOn with
  | ind n ih =>
    intro e h st
    obtain ⟨b, e1, h1, h2, h3⟩ := st n e h
    cases b with
    | false =>
      refine ⟨e1, sWh_of (n := 1) ?_, h2 rfl⟩
      unfold sWhN
      rw [h1]
      rfl
    | true =>
      obtain ⟨e2, m, h4, h5, h6⟩ := h3 rfl
      obtain ⟨e', h7, h8⟩ := ih m h5 h6 st
      obtain ⟨k, hk⟩ := of_sWh h7
      refine ⟨e', sWh_of (n := k + 1) ?_, h8⟩
      unfold sWhN
      rw [h1, Option.bind_some]
      dsimp only
      rw [if_pos rfl, h4, Option.bind_some]
      exact hk
/-! ### what a def gives back -/
theorem semQ_rt {mr : Md} {n : Nat} {g : En → Option Fl} {ds : List D} {d : D} {e : En} (h : g (ds ++ List.replicate n .none) = some (.rt d e)) : semQ mr n g ds = some d := by
  unfold semQ
  rw [h]
theorem semQ_nx {n : Nat} {g : En → Option Fl} {ds : List D} {e : En} (h : g (ds ++ List.replicate n .none) = some (.nx e)) : semQ .sh n g ds = some .none := by
  unfold semQ
  rw [h]
  rfl
theorem semI_rt {mr : Md} {n j : Nat} {g : En → Option Fl} {ds : List D} {d x : D} {e : En} (h : g (ds ++ List.replicate n .none) = some (.rt d e)) (hx : e[j]? = some x) : semI mr n j g ds = some (d, x) := by
  unfold semI
  rw [h]
  dsimp only
  rw [hx]
  rfl
end T3
end
set_option Elab.async false
set_option linter.all false
set_option maxRecDepth 100000
set_option maxHeartbeats 1000000
noncomputable section
namespace T3
open PySem PySem.Spec PyProof.Rows L2
/-! ### the operators at what they are given -/
@[simp] theorem gAdd_int {a b : Int} : gAdd (.int a) (.int b) = some (.int (a + b)) := nr rfl
@[simp] theorem gSub_int {a b : Int} : gSub (.int a) (.int b) = some (.int (a - b)) := nr rfl
@[simp] theorem gCmp_int {p : Int → Int → Bool} {a b : Int} : gCmp p (.int a) (.int b) = some (.bool (p a b)) := nr rfl
@[simp] theorem gNeg_int {a : Int} : gNeg (.int a) = some (.int (-a)) := nr rfl
@[simp] theorem gInt_int {a : Int} : gInt [.int a] = some (.int a) := nr rfl
@[simp] theorem gInt_bl {a : Bool} : gInt [.bool a] = some (.int (if a = true then 1 else 0)) := nr rfl
@[simp] theorem gAbs_int {a : Int} : gAbs [.int a] = some (.int (if a < 0 then -a else a)) := nr rfl
@[simp] theorem gLen_list {ds : List D} : gLen [.list ds] = some (.int ds.length) := nr rfl
@[simp] theorem gLen_tuple {ds : List D} : gLen [.tuple ds] = some (.int ds.length) := nr rfl
@[simp] theorem gLen_dict {ds : List (D × D)} : gLen [.dict ds] = some (.int ds.length) := nr rfl
@[simp] theorem gList_list {ds : List D} : gList (.list ds) = some (.list ds) := nr rfl
@[simp] theorem gIsN_non {a : D} : gIsN a .none = some (.bool (isNon a)) := nr rfl
@[simp] theorem gNotN_non {a : D} : gNotN a .none = some (.bool (!isNon a)) := nr rfl
@[simp] theorem isNon_none : isNon .none = true := nr rfl
@[simp] theorem isNon_int {i : Int} : isNon (.int i) = false := nr rfl
theorem gMod_int {a b : Int} (h : b ≠ 0) : gMod (.int a) (.int b) = some (.int (a.fmod b)) := if_pos h
theorem gFdiv_int {a b : Int} (h : b ≠ 0) (h1 : b.natAbs.log2 < 9000) : gFdiv (.int a) (.int b) = some (.int (a.fdiv b)) := if_pos (c := b ≠ 0 ∧ b.natAbs.log2 < 9000) ⟨h, h1⟩
theorem gMul_l {a b : Int} (h : a.natAbs < 2 ^ 64) : gMul (.int a) (.int b) = some (.int (a * b)) := if_pos (c := (a.natAbs < 2 ^ 64 ∨ b.natAbs < 2 ^ 64) ∨ a.natAbs.log2 + b.natAbs.log2 < 1000000) (.inl (.inl h))
theorem gMul_r {a b : Int} (h : b.natAbs < 2 ^ 64) : gMul (.int a) (.int b) = some (.int (a * b)) := if_pos (c := (a.natAbs < 2 ^ 64 ∨ b.natAbs < 2 ^ 64) ∨ a.natAbs.log2 + b.natAbs.log2 < 1000000) (.inl (.inr h))
theorem gIx_list {ds : List D} {i : Int} {n : Nat} {d : D} (hi : i = n) (h : ds[n]? = some d) : gIx (.list ds) (.int i) = some d := by
  subst hi
  exact atI_nat h
theorem gIx_tup {ds : List D} {i : Int} {n : Nat} {d : D} (hi : i = n) (h : ds[n]? = some d) : gIx (.tuple ds) (.int i) = some d := by
  subst hi
  exact atI_nat h
@[simp] theorem gIx_l0 {a : D} {l : List D} : gIx (.list (a :: l)) (.int 0) = some a := gIx_list (n := 0) rfl rfl
@[simp] theorem gIx_l1 {a b : D} {l : List D} : gIx (.list (a :: b :: l)) (.int 1) = some b := gIx_list (n := 1) rfl rfl
@[simp] theorem gIx_l2 {a b c : D} {l : List D} : gIx (.list (a :: b :: c :: l)) (.int 2) = some c := gIx_list (n := 2) rfl rfl
@[simp] theorem gIx_t0 {a : D} {l : List D} : gIx (.tuple (a :: l)) (.int 0) = some a := gIx_tup (n := 0) rfl rfl
@[simp] theorem gIx_t1 {a b : D} {l : List D} : gIx (.tuple (a :: b :: l)) (.int 1) = some b := gIx_tup (n := 1) rfl rfl
@[simp] theorem gIx_t2 {a b c : D} {l : List D} : gIx (.tuple (a :: b :: c :: l)) (.int 2) = some c := gIx_tup (n := 2) rfl rfl
theorem ixN_nat {n k : Nat} (h : k < n) : ixN n (k : Int) = some k := by
  unfold ixN
  rw [if_pos (by omega), if_pos (by omega)]
  simp
/-- a place of a list is written -/
theorem sSetI_ok {i : Nat} {fa fj : En → Option (D × En)} {e e1 e2 : En} {d : D} {k : Int} {n : Nat} {ds : List D} (h1 : fa e = some (d, e1)) (h2 : fj e1 = some (.int k, e2)) (h3 : e2[i]? = some (.list ds)) (hk : k = n) (hn : n < ds.length) : sSetI i fa fj e = some (.nx (e2.set i (.list (ds.set n d)))) := by
  subst hk
  unfold sSetI
  rw [h1, Option.bind_some, h2, Option.bind_some, h3, Option.bind_some]
  show (ixN ds.length (n : Int)).bind _ = _
  rw [ixN_nat hn]
  rfl
theorem gPow_int {a b : Int} (h : 0 ≤ b ∧ (a.natAbs.log2 + 1) * b.toNat ≤ 2 ^ 27) : gPow (.int a) (.int b) = some (.int (a ^ b.toNat)) := if_pos h
theorem gPow_18 : gPow (.int 10) (.int 18) = some (.int 1000000000000000000) := gPow_int (a := 10) (b := 18) (by decide +kernel)
theorem gPow_30 : gPow (.int 10) (.int 30) = some (.int 1000000000000000000000000000000) := gPow_int (a := 10) (b := 30) (by decide +kernel)
@[simp] theorem fApp_e {i : Nat} {fa : En → Option (D × En)} {e : En} : fApp i fa e = (fa e).bind fun x => (x.2[i]?).bind fun l => match l with
  | .list ds => @ite (Option _) (ds.length < sizeLine) (Classical.propDecidable _) (some (.none, x.2.set i (.list (ds ++ [x.1])))) none
  | _ => none := nr rfl
@[simp] theorem sPar2_e {i j : Nat} {fs : En → Option (List D × En)} {e : En} : sPar2 i j fs e = (fs e).bind fun y => match y.1 with
  | [d1, d2] => some (.nx ((y.2.set i d1).set j d2))
  | _ => none := nr rfl
@[simp] theorem sUnp2_e {i j : Nat} {fa : En → Option (D × En)} {e : En} : sUnp2 i j fa e = (fa e).bind fun x => match x.1 with
  | .tuple [d1, d2] => some (.nx ((x.2.set i d1).set j d2))
  | _ => none := nr rfl
@[simp] theorem sUnp3_e {i j l : Nat} {fa : En → Option (D × En)} {e : En} : sUnp3 i j l fa e = (fa e).bind fun x => match x.1 with
  | .tuple [d1, d2, d3] => some (.nx (((x.2.set i d1).set j d2).set l d3))
  | _ => none := nr rfl
@[simp] theorem sAsg_e {fa : En → Option (D × En)} {tg : En → D → Option En} {e : En} : sAsg fa tg e = (fa e).bind fun x => (tg x.2 x.1).bind fun e => some (.nx e) := nr rfl
@[simp] theorem sSetI_e {i : Nat} {fa fj : En → Option (D × En)} {e : En} : sSetI i fa fj e = (fa e).bind fun x => (fj x.2).bind fun j => (j.2[i]?).bind fun l => match l, j.1 with
  | .list ds, .int k => (ixN ds.length k).bind fun n => some (.nx (j.2.set i (.list (ds.set n x.1))))
  | _, _ => none := nr rfl
@[simp] theorem ixN_0 {n : Nat} : ixN (n + 1) 0 = some 0 := ixN_nat (n := n + 1) (k := 0) (by omega)
@[simp] theorem ixN_1 {n : Nat} : ixN (n + 1 + 1) 1 = some 1 := ixN_nat (n := n + 1 + 1) (k := 1) (by omega)
@[simp] theorem ixN_2 {n : Nat} : ixN (n + 1 + 1 + 1) 2 = some 2 := ixN_nat (n := n + 1 + 1 + 1) (k := 2) (by omega)
theorem gRep_ok {xs : List D} {k : Int} (h1 : -(2 ^ 63) ≤ k) (h2 : k < 2 ^ 63) (h3 : xs.length * k.toNat ≤ sizeLine) : gRep (.list xs) (.int k) = some (.list (List.replicate k.toNat xs).flatten) := by
  show (@ite (Option _) (-(2 ^ 63) ≤ k ∧ k < 2 ^ 63 ∧ xs.length * k.toNat ≤ sizeLine) (Classical.propDecidable _) (some (PyData.list (List.replicate k.toNat xs).flatten)) none) = _
  rw [if_pos ⟨h1, h2, h3⟩]
end T3
end
set_option Elab.async false
set_option linter.all false
set_option maxRecDepth 100000
set_option maxHeartbeats 1000000
noncomputable section
namespace T3
open PySem PySem.Spec PyProof.Rows L2
/-! ### a reading ends well: what comes out -/
structure Dm {α : Type} (Q : α → Prop) : Type where
/-- (the last argument only keeps simp from going into Q) -/
def Ev {α : Type} (o : Option α) (Q : α → Prop) (t : Dm Q := ⟨⟩) : Prop := ∃ r, o = some r ∧ Q r
section
variable {α β : Type} {o o' : Option α} {a : α} {Q R : α → Prop}
theorem ev_some : Ev (some a) Q ↔ Q a := ⟨fun ⟨_, e, q⟩ => by cases e; exact q, fun q => ⟨a, rfl, q⟩⟩
theorem ev_none : Ev (none : Option α) Q ↔ False := ⟨fun ⟨_, e, _⟩ => (nomatch e), fun h => h.elim⟩
theorem ev_bind {f : α → Option β} {Q : β → Prop} : Ev (o.bind f) Q ↔ Ev o fun a => Ev (f a) Q := by
  constructor
  · rintro ⟨r, e, q⟩
    obtain ⟨a, ha, e⟩ := opt_bind e
    exact ⟨a, ha, r, e, q⟩
  · rintro ⟨a, ha, r, e, q⟩
    exact ⟨r, by rw [ha]; exact e, q⟩
theorem ev_iten {c : Prop} {i : Decidable c} : Ev (@ite (Option α) c i o none) Q ↔ c ∧ Ev o Q := by
  by_cases h : c
  · rw [if_pos h]; exact ⟨fun q => ⟨h, q⟩, fun q => q.2⟩
  · rw [if_neg h]; exact ⟨fun q => (ev_none.mp q).elim, fun q => (h q.1).elim⟩
theorem Ev.use (h : Ev o R) (k : ∀ r, R r → Q r) : Ev o Q := by
  obtain ⟨r, e, q⟩ := h
  exact ⟨r, e, k r q⟩
theorem Ev.mk (h : o = some a) (q : Q a) : Ev o Q := ⟨a, h, q⟩
theorem Ev.eq (h : Ev o (· = a)) : o = some a := by
  obtain ⟨r, e, q⟩ := h
  rw [e, q]
theorem ev_ite {c : Prop} {i : Decidable c} : Ev (@ite (Option α) c i o o') Q ↔ (c → Ev o Q) ∧ (¬ c → Ev o' Q) := by
  by_cases h : c
  · rw [if_pos h]; exact ⟨fun q => ⟨fun _ => q, fun n => (n h).elim⟩, fun q => q.1 h⟩
  · rw [if_neg h]; exact ⟨fun q => ⟨fun n => (h n).elim, fun _ => q⟩, fun q => q.2 h⟩
end
theorem ev_lc {fi : En → Option (List D × En)} {tg : En → D → Option En} {is : List Nat} {ft : En → Option (Bool × En)} {fe : En → Option (D × En)} {e : En} {Q : D × En → Prop} : Ev (fLc fi tg is ft fe e) Q ↔ Ev (fi e) fun x => x.1.length ≤ sizeLine ∧ Ev (lcN tg is ft fe x.1 (wpE is x.2)) fun z => Q (.list z.1, z.2) := by
  rw [fLc_e, ev_bind]
  constructor
  · exact fun h => h.use fun r h => by
      rw [ev_iten, ev_bind] at h
      exact ⟨h.1, h.2.use fun r h => ev_some.mp h⟩
  · exact fun h => h.use fun r h => by
      rw [ev_iten, ev_bind]
      exact ⟨h.1, h.2.use fun r h => ev_some.mpr h⟩
/-! ### loops -/
section
variable {tg : En → D → Option En} {is : List Nat} {f : En → Option Fl} {fc ft : En → Option (Bool × En)} {fe : En → Option (D × En)} {e : En} {ds : List D}
theorem ev_for' {Q : Fl → Prop} (I : Nat → En → Prop) : ∀ {ds : List D} {n : Nat} {e : En}, I n e →
    (∀ i d e, ds[i]? = some d → I (n + i) e → Ev (tg e d) fun e1 => Ev (f e1) fun r => match r with | .nx e2 => I (n + i + 1) (wpE is e2) | .ct e2 => I (n + i + 1) (wpE is e2) | .bk e2 => Q (.nx (wpE is e2)) | .rt d e2 => Q (.rt d e2)) →
    (∀ e, I (n + ds.length) e → Q (.nx e)) → Ev (sForN tg is f ds e) Q
  | [], n, e, h, _, fin => ev_some.mpr (fin e h)
  | d :: ds, n, e, h, st, fin => by
    unfold sForN
    rw [ev_bind]
    refine (st 0 d e rfl h).use fun e1 h1 => ?_
    rw [ev_bind]
    refine h1.use fun r h2 => ?_
    have go : ∀ e2, I (n + 1) (wpE is e2) → Ev (sForN tg is f ds (wpE is e2)) Q := fun e2 h2 => ev_for' I (n := n + 1) h2 (fun i d' e hd hi => by
      have := st (i + 1) d' e (by simpa using hd) (by rw [show n + (i + 1) = n + 1 + i by omega]; exact hi)
      rw [show n + (i + 1) + 1 = n + 1 + i + 1 by omega] at this
      exact this) (fun e he => fin e (by rw [show n + (d :: ds).length = n + 1 + ds.length by simp; omega]; exact he))
    cases r with
    | nx e2 => exact go e2 h2
    | ct e2 => exact go e2 h2
    | bk e2 => exact ev_some.mpr h2
    | rt d e2 => exact ev_some.mpr h2
/-- a loop over items -/
theorem ev_for {Q : Fl → Prop} (I : Nat → En → Prop) (h : I 0 e)
    (st : ∀ i d e, ds[i]? = some d → I i e → Ev (tg e d) fun e1 => Ev (f e1) fun r => match r with | .nx e2 => I (i + 1) (wpE is e2) | .ct e2 => I (i + 1) (wpE is e2) | .bk e2 => Q (.nx (wpE is e2)) | .rt d e2 => Q (.rt d e2))
    (fin : ∀ e, I ds.length e → Q (.nx e)) : Ev (sForN tg is f ds e) Q :=
  ev_for' I (n := 0) h (fun i d e hd hi => by rw [Nat.zero_add] at hi ⊢; exact st i d e hd hi) (fun e he => fin e (by rw [Nat.zero_add] at he; exact he))
/-- a loop over coded items -/
theorem ev_forM {α : Type} {xs : List α} {ea : α → D} {Q : Fl → Prop} (I : Nat → En → Prop) (h : I 0 e)
    (st : ∀ i x e, xs[i]? = some x → I i e → Ev (tg e (ea x)) fun e1 => Ev (f e1) fun r => match r with | .nx e2 => I (i + 1) (wpE is e2) | .ct e2 => I (i + 1) (wpE is e2) | .bk e2 => Q (.nx (wpE is e2)) | .rt d e2 => Q (.rt d e2))
    (fin : ∀ e, I xs.length e → Q (.nx e)) : Ev (sForN tg is f (xs.map ea) e) Q :=
  ev_for I h (fun i d e hd hi => by
    rw [List.getElem?_map] at hd
    cases hx : xs[i]? with
    | none => rw [hx] at hd; cases hd
    | some x => rw [hx] at hd; cases hd; exact st i x e hx hi) (fun e he => fin e (by rw [List.length_map] at he; exact he))
theorem ev_wh {Q : Fl → Prop} (I : Nat → En → Prop) : ∀ (n : Nat) {e : En}, I n e →
    (∀ n e, I n e → Ev (fc e) fun b => if b.1 = true then Ev (f b.2) fun r => match r with | .nx e2 => ∃ m, m < n ∧ I m e2 | .ct e2 => ∃ m, m < n ∧ I m e2 | .bk e2 => Q (.nx e2) | .rt d e2 => Q (.rt d e2) else Q (.nx b.2)) → Ev (sWh fc f e) Q := by
  intro n
  induction n using Nat.strongRecOn with
  | ind n ih =>
    intro e h st
    obtain ⟨⟨b, e1⟩, h1, h2⟩ := st n e h
    cases b with
    | false => exact ⟨_, sWh_of (n := 1) (by unfold sWhN; rw [h1]; rfl), h2⟩
    | true =>
      have h2 : Ev (f e1) _ := h2
      obtain ⟨r, h3, h4⟩ := h2
      have go : ∀ e2 m, m < n → I m e2 → (r = .nx e2 ∨ r = .ct e2) → Ev (sWh fc f e) Q := fun e2 m hm hI hr => by
        obtain ⟨z, h7, h8⟩ := ih m hm hI st
        obtain ⟨k, hk⟩ := of_sWh h7
        refine ⟨z, sWh_of (n := k + 1) ?_, h8⟩
        unfold sWhN
        rw [h1, Option.bind_some]
        dsimp only
        rw [if_pos rfl, h3, Option.bind_some]
        rcases hr with rfl | rfl <;> exact hk
      cases r with
      | nx e2 => obtain ⟨m, hm, hI⟩ := h4; exact go e2 m hm hI (.inl rfl)
      | ct e2 => obtain ⟨m, hm, hI⟩ := h4; exact go e2 m hm hI (.inr rfl)
      | bk e2 => exact ⟨_, sWh_of (n := 1) (by unfold sWhN; rw [h1, Option.bind_some]; dsimp only; rw [if_pos rfl, h3]; rfl), h4⟩
      | rt d e2 => exact ⟨_, sWh_of (n := 1) (by unfold sWhN; rw [h1, Option.bind_some]; dsimp only; rw [if_pos rfl, h3]; rfl), h4⟩
/-- a comprehension, with what stands between the turns -/
theorem ev_lcI' {Q : List D × En → Prop} (I : Nat → List D → En → Prop) : ∀ {ds : List D} {n : Nat} {acc : List D} {e : En}, I n acc e →
    (∀ i acc d e, ds[i]? = some d → I (n + i) acc e → Ev (tg e d) fun e1 => Ev (ft e1) fun b => if b.1 = true then Ev (fe b.2) fun y => I (n + i + 1) (acc ++ [y.1]) (wpE is y.2) else I (n + i + 1) acc (wpE is b.2)) →
    (∀ zs e, I (n + ds.length) (acc ++ zs) e → Q (zs, e)) → Ev (lcN tg is ft fe ds e) Q
  | [], n, acc, e, h, _, fin => ev_some.mpr (fin [] e (by rw [List.append_nil]; exact h))
  | d :: ds, n, acc, e, h, st, fin => by
    unfold lcN
    rw [ev_bind]
    refine (st 0 acc d e rfl h).use fun e1 h1 => ?_
    rw [ev_bind]
    refine h1.use fun b h2 => ?_
    have go : ∀ acc' e2 (Q' : List D × En → Prop), I (n + 1) acc' (wpE is e2) → (∀ zs e, I (n + 1 + ds.length) (acc' ++ zs) e → Q' (zs, e)) → Ev (lcN tg is ft fe ds (wpE is e2)) Q' := fun acc' e2 Q' h2 fin' => ev_lcI' I (n := n + 1) (acc := acc') h2 (fun i acc d' e hd hi => by
      have := st (i + 1) acc d' e (by simpa using hd) (by rw [show n + (i + 1) = n + 1 + i by omega]; exact hi)
      rw [show n + (i + 1) + 1 = n + 1 + i + 1 by omega] at this
      exact this) fin'
    obtain ⟨b, e2⟩ := b
    have hl : n + (d :: ds).length = n + 1 + ds.length := by rw [List.length_cons]; omega
    cases b with
    | true =>
      have h2 : Ev (fe e2) _ := h2
      show Ev ((fe e2).bind _) Q
      rw [ev_bind]
      refine h2.use fun y h3 => ?_
      rw [ev_bind]
      refine go _ _ _ h3 fun zs e he => ev_some.mpr (fin _ _ ?_)
      rw [hl]
      simpa using he
    | false =>
      exact go acc e2 Q h2 fun zs e he => fin _ _ (by rw [hl]; exact he)
theorem ev_lcI {Q : List D × En → Prop} (I : Nat → List D → En → Prop) (h : I 0 [] e)
    (st : ∀ i acc d e, ds[i]? = some d → I i acc e → Ev (tg e d) fun e1 => Ev (ft e1) fun b => if b.1 = true then Ev (fe b.2) fun y => I (i + 1) (acc ++ [y.1]) (wpE is y.2) else I (i + 1) acc (wpE is b.2))
    (fin : ∀ zs e, I ds.length zs e → Q (zs, e)) : Ev (lcN tg is ft fe ds e) Q :=
  ev_lcI' I (n := 0) (acc := []) h (fun i acc d e hd hi => by rw [Nat.zero_add] at hi ⊢; exact st i acc d e hd hi) (fun zs e he => fin zs e (by rw [Nat.zero_add, List.nil_append] at he; exact he))
/-- every item taken; with what stands between the turns -/
theorem ev_lcS {α : Type} {xs : List α} {ea : α → D} {Q : List D × En → Prop} (I : Nat → List D → En → Prop) (h : I 0 [] e)
    (st : ∀ i acc x e, xs[i]? = some x → I i acc e → Ev (tg e (ea x)) fun e1 => Ev (fe e1) fun y => I (i + 1) (acc ++ [y.1]) (wpE is y.2))
    (fin : ∀ zs e, I xs.length zs e → Q (zs, e)) : Ev (lcN tg is bYes fe (xs.map ea) e) Q :=
  ev_lcI I h (fun i acc d e hd hi => by
    rw [List.getElem?_map] at hd
    cases hx : xs[i]? with
    | none => rw [hx] at hd; cases hd
    | some x =>
      rw [hx] at hd
      cases hd
      refine (st i acc x e hx hi).use fun e1 h1 => ?_
      rw [bYes_e, ev_some]
      exact h1) (fun zs e he => fin zs e (by rw [List.length_map] at he; exact he))
/-- items that are chosen, and what each gives; nothing else is changed -/
theorem lcM_eq {α β : Type} {ea : α → D} (p : α → Bool) (r : α → β) (eb : β → D) : ∀ {xs : List α},
    (∀ x ∈ xs, Ev (tg e (ea x)) fun e1 => Ev (ft e1) fun b => b.1 = p x ∧ (p x = true → Ev (fe b.2) fun y => y.1 = eb (r x) ∧ wpE is y.2 = e) ∧ (p x = false → wpE is b.2 = e)) →
    lcN tg is ft fe (xs.map ea) e = some (((xs.filter p).map r).map eb, e)
  | [], _ => rfl
  | x :: xs, st => by
    have ih := lcM_eq p r eb (xs := xs) fun y m => st y (List.mem_cons_of_mem _ m)
    obtain ⟨e1, h1, ⟨b, e2⟩, h2, h3, h4, h5⟩ := st x List.mem_cons_self
    rw [List.map_cons]
    unfold lcN
    rw [h1, Option.bind_some, h2, Option.bind_some]
    have h3 : b = p x := h3
    cases hp : p x with
    | true =>
      obtain ⟨⟨d, e3⟩, h6, h7, h8⟩ := h4 hp
      dsimp only at h6 h7 h8 ⊢
      rw [h3, hp, if_pos rfl, h6, Option.bind_some]
      dsimp only
      rw [h8, ih, Option.bind_some, List.filter_cons_of_pos hp, List.map_cons, List.map_cons, h7]
    | false =>
      have h5 := h5 hp
      dsimp only at h5 ⊢
      rw [h3, hp, if_neg (by decide), h5, ih, List.filter_cons_of_neg (by rw [hp]; decide)]
theorem ev_lcM {α β : Type} {xs : List α} {ea : α → D} {Q : List D × En → Prop} (p : α → Bool) (r : α → β) (eb : β → D)
    (st : ∀ x ∈ xs, Ev (tg e (ea x)) fun e1 => Ev (ft e1) fun b => b.1 = p x ∧ (p x = true → Ev (fe b.2) fun y => y.1 = eb (r x) ∧ wpE is y.2 = e) ∧ (p x = false → wpE is b.2 = e))
    (fin : Q (((xs.filter p).map r).map eb, e)) : Ev (lcN tg is ft fe (xs.map ea) e) Q := ⟨_, lcM_eq p r eb st, fin⟩
theorem ev_lcA {α β : Type} {xs : List α} {ea : α → D} {Q : List D × En → Prop} (r : α → β) (eb : β → D)
    (st : ∀ x ∈ xs, Ev (tg e (ea x)) fun e1 => Ev (fe e1) fun y => y.1 = eb (r x) ∧ wpE is y.2 = e)
    (fin : Q ((xs.map r).map eb, e)) : Ev (lcN tg is bYes fe (xs.map ea) e) Q := by
  refine ev_lcM (fun _ => true) r eb (fun x m => (st x m).use fun e1 h => ?_) ?_
  · rw [bYes_e, ev_some]
    exact ⟨rfl, fun _ => h, fun z => nomatch z⟩
  · rw [List.filter_eq_self.mpr (fun _ _ => rfl)]
    exact fin
end
/-! ### what a def gives back -/
theorem ev_semQ {mr : Md} {n : Nat} {g : En → Option Fl} {ds : List D} {Q : D → Prop} (h : Ev (g (ds ++ List.replicate n .none)) fun r => match r with | .rt d _ => Q d | .nx _ => isSh mr = true ∧ Q .none | _ => False) : Ev (semQ mr n g ds) Q := by
  obtain ⟨r, h1, h2⟩ := h
  unfold semQ
  rw [h1]
  cases r with
  | rt d e => exact ev_some.mpr h2
  | nx e => exact ⟨_, if_pos h2.1, h2.2⟩
  | bk e => exact h2.elim
  | ct e => exact h2.elim
theorem ev_semI {mr : Md} {n j : Nat} {g : En → Option Fl} {ds : List D} {Q : D × D → Prop} (h : Ev (g (ds ++ List.replicate n .none)) fun r => match r with | .rt d e => Ev (e[j]?) fun x => Q (d, x) | .nx e => isSh mr = true ∧ Ev (e[j]?) fun x => Q (.none, x) | _ => False) : Ev (semI mr n j g ds) Q := by
  obtain ⟨r, h1, h2⟩ := h
  unfold semI
  rw [h1]
  cases r with
  | rt d e =>
    obtain ⟨x, h3, h4⟩ := h2
    exact ⟨(d, x), by dsimp only; rw [h3]; rfl, h4⟩
  | nx e =>
    obtain ⟨h0, x, h3, h4⟩ := h2
    exact ⟨(.none, x), by dsimp only; rw [if_pos h0, h3]; rfl, h4⟩
  | bk e => exact h2.elim
  | ct e => exact h2.elim
theorem fExtF_e {i : Nat} {fa : En → Option D} {e : En} : fExtF i fa e = (fa e).bind fun x => (e[i]?).bind fun l => match l, x with
  | .list ds, .list es => @ite (Option _) (ds.length + es.length ≤ sizeLine ∧ fltAll es = true) (Classical.propDecidable _) (some (.none, e.set i (.list (ds ++ es)))) none
  | _, _ => none := nr rfl
theorem fExt_e {i : Nat} {fa : En → Option (D × En)} {e : En} : fExt i fa e = (fa e).bind fun x => (x.2[i]?).bind fun l => match l, x.1 with
  | .list ds, .list es => @ite (Option _) (ds.length + es.length ≤ sizeLine) (Classical.propDecidable _) (some (.none, x.2.set i (.list (ds ++ es)))) none
  | _, _ => none := nr rfl
theorem fPopA_e {i : Nat} {fa : En → Option (D × En)} {e : En} : fPopA i fa e = (fa e).bind fun x => (x.2[i]?).bind fun l => match l, x.1 with
  | .list ds, .int k => @ite (Option _) (-(2 ^ 63) ≤ k ∧ k < 2 ^ 63) (Classical.propDecidable _) ((ixN ds.length k).bind fun n => (ds[n]?).bind fun d => some (d, x.2.set i (.list (ds.eraseIdx n)))) none
  | _, _ => none := nr rfl
theorem fPop_e {i : Nat} {e : En} : fPop i e = (e[i]?).bind fun l => match l with
  | .list ds => (ds[ds.length - 1]?).bind fun d => some (d, e.set i (.list ds.dropLast))
  | _ => none := nr rfl
theorem sPut_e {ok : D → Bool} {i : Nat} {fa fj : En → Option (D × En)} {e : En} : sPut ok i fa fj e = (fa e).bind fun x => (fj x.2).bind fun j => (j.2[i]?).bind fun l => match l with
  | .dict kvs => @ite (Option _) (ok j.1 = true ∧ kvs.length < sizeLine) (Classical.propDecidable _) (some (.nx (j.2.set i (.dict (putD kvs j.1 x.1))))) none
  | _ => none := nr rfl
theorem sPar3_e {i j l : Nat} {fs : En → Option (List D × En)} {e : En} : sPar3 i j l fs e = (fs e).bind fun y => match y.1 with
  | [d1, d2, d3] => some (.nx (((y.2.set i d1).set j d2).set l d3))
  | _ => none := nr rfl
theorem fSl_e {fa : En → Option D} {fl fh : En → Option (Option Int)} {e : En} : fSl fa fl fh e = (fa e).bind fun d => (fl e).bind fun lo => (fh e).bind fun hi => match d with
  | .list ds => some (.list (cutD ds lo hi))
  | _ => none := nr rfl
theorem eSl_e {fa : En → Option (D × En)} {fl fh : En → Option (Option Int)} {e : En} : eSl fa fl fh e = (fa e).bind fun d => (fl d.2).bind fun lo => (fh d.2).bind fun hi => match d.1 with
  | .list ds => some (.list (cutD ds lo hi), d.2)
  | _ => none := nr rfl
theorem fSs_e {fa : En → Option D} {fl fh : En → Option (Option Int)} {e : En} : fSs fa fl fh e = (fa e).bind fun d => (fl e).bind fun lo => (fh e).bind fun hi => match d with
  | .str z => @ite (Option _) (z.length ≤ sizeLine) (Classical.propDecidable _) (some (.str (cutS z lo hi))) none
  | _ => none := nr rfl
theorem oN_e {e : En} : oN e = some none := nr rfl
theorem oS_e {fa : En → Option D} {e : En} : oS fa e = (fa e).bind fun d => match d with
  | .int i => some (some i)
  | _ => none := nr rfl
theorem iZ_e {fs : En → Option (List D × En)} {e : En} : iZ fs e = (fs e).bind fun x => match x.1 with
  | [.list a, .list b] => some (zipD a b, x.2)
  | _ => none := nr rfl
theorem iE_e {fs : En → Option (List D × En)} {e : En} : iE fs e = (fs e).bind fun x => match x.1 with
  | [.list a] => some (enumD 0 a, x.2)
  | _ => none := nr rfl
theorem fRev_e {fa : En → Option D} {e : En} : fRev fa e = (fa e).bind fun d => match d with
  | .list ds => some (.list ds.reverse)
  | _ => none := nr rfl
theorem sSetI2_e {i : Nat} {fa : En → Option (D × En)} {fi fj : En → Option D} {e : En} : sSetI2 i fa fi fj e = (fa e).bind fun x => (fi x.2).bind fun k => (fj x.2).bind fun j => (x.2[i]?).bind fun l => match l, k, j with
  | .list ds, .int k, .int j => (ixN ds.length k).bind fun n => (ds[n]?).bind fun r => match r with
    | .list rs => (ixN rs.length j).bind fun n2 => some (.nx (x.2.set i (.list (ds.set n (.list (rs.set n2 x.1))))))
    | _ => none
  | _, _, _ => none := nr rfl
theorem gSub_i {a b : Int} : gSub (.int a) (.int b) = some (.int (a - b)) := gSub_int
theorem gStr_i {i : Int} (h : i.natAbs.log2 < 1920) : gStr [.int i] = some (.str (toString i)) := if_pos h
theorem gCat_ok {a b : List D} (h : a.length + b.length ≤ sizeLine) : gCat (.list a) (.list b) = some (.list (a ++ b)) := if_pos h
theorem gAdd_str {x y : Str} (h : x.length + y.length ≤ sizeLine) : gAdd (.str x) (.str y) = some (.str (x ++ y)) := if_pos h
theorem iR1_e {fa : En → Option (List D × En)} {e : En} : iR1 fa e = (fa e).bind fun x => match x.1 with
  | [.int j] => @ite (Option _) (-(2 ^ 62) ≤ j ∧ j < 2 ^ 62) (Classical.propDecidable _) (some (intsFrom 0 j.toNat, x.2)) none
  | _ => none := nr rfl
theorem iR2_e {fa : En → Option (List D × En)} {e : En} : iR2 fa e = (fa e).bind fun x => match x.1 with
  | [.int i, .int j] => @ite (Option _) (-(2 ^ 62) ≤ i ∧ i < 2 ^ 62 ∧ -(2 ^ 62) ≤ j ∧ j < 2 ^ 62) (Classical.propDecidable _) (some (intsFrom i (j - i).toNat, x.2)) none
  | _ => none := nr rfl
end T3
end
set_option Elab.async false
set_option linter.all false
set_option maxRecDepth 100000
set_option maxHeartbeats 4000000
namespace T3
open PySem PySem.Spec PyProof.Rows L2
def top (i : Nat) : Stmt := PySem.Challenge.pw_oncewalls_k56_texts_of_graphs_and_words.main.body.getD i (.Pass ⟨0, 0, 0, 0⟩)
/-! ### _law_cells -/
abbrev st__law_cells : Stmt := top 35
abbrev N__law_cells : List Str := ["_law_script", "_law_many"]
theorem sc__law_cells : FnScope N__law_cells ["_law_script", "_law_many"] (defScope st__law_cells) := ⟨rfl, rfl, rfl, by decide +kernel, rfl, by decide +kernel, by decide +kernel⟩
noncomputable def g__law_cells : En → Option Fl :=
 (sRt (eSl (e2 gCat (lq (fV 0)) (fL (aV (lq (fC (.int 0))) aNil))) oN (oS (fQ gMax (kCons (fC (.int 1)) (kCons (fQ gMin (kCons (fV 1) (kCons (fQ gLen (kCons (fV 0) kNil)) kNil))) kNil))))))
noncomputable def F__law_cells : List D → Option D := semQ (.ow .sh) 0 g__law_cells
theorem b__law_cells {Pg : Program} {w : World} {K : Frg} {mg : Str → Option Value} {base : Heap} {f : Addr} {fd : FuncData}
  (I : Is K mg "_law_cells" st__law_cells f fd ["_law_script", "_law_many"])
  (z_len : mg "len" = none)
  (z_max : mg "max" = none)
  (z_min : mg "min" = none) :
  FnG Pg w K mg base CX0 1 f fd ["_law_script", "_law_many"] (spQ K [some .sh, some .sh] (.ow .sh) F__law_cells) :=
 fn_q (n := 0) (G' := []) (Gb := []) I.F sc__law_cells rfl rfl fun cdv A outer s H E W hr hgd =>
  (ss_one (s_ret (e_sl (e2s (e_cat (q2e (v_sh (i := 0) rfl (vs_ rfl) rfl)) (e2s (e_list (n := 1) (m := .sh) (es_cons (q2e c_int) es_nil))))) o_none (o_some (q2k (n_max rfl z_max (ks_cons (q2k c_int) (ks_cons (q2k (n_min rfl z_min (ks_cons (v_k (i := 1) rfl (vs_ rfl) rfl) (ks_cons (q2k (n_len z_len (ks_cons (v_k (i := 0) rfl (vs_ rfl) rfl) ks_nil))) ks_nil)))) ks_nil))))))))
/-! ### _law_tap -/
abbrev st__law_tap : Stmt := top 33
abbrev N__law_tap : List Str := ["_law_cell", "_law_turn", "_law_whole"]
theorem sc__law_tap : FnScope N__law_tap ["_law_cell", "_law_turn"] (defScope st__law_tap) := ⟨rfl, rfl, rfl, by decide +kernel, rfl, by decide +kernel, by decide +kernel⟩
noncomputable def g__law_tap : En → Option Fl :=
 (sSeq (sSet 2 (lq (f2 gAdd (f2 gMul (fC (.int 2)) (fQ gAbs (kCons (fV 0) kNil))) (fQ gInt (kCons (f2 gLt (fV 0) (fC (.int 0))) kNil)))))
 (sRt (fL (aV (lq (fV 2)) (aV (lq (f2 gAdd (f2 gAdd (f2 gMod (fQ gInt (kCons (fV 2) kNil)) (fC (.int 4294967291))) (f2 gMul (fC (.int 977)) (fV 1))) (fC (.int 1)))) (aV (lq (f2 gAdd (f2 gAdd (f2 gMod (fQ gInt (kCons (fV 2) kNil)) (fC (.int 2147483587))) (f2 gMul (fC (.int 31)) (fV 1))) (fC (.int 2)))) aNil))))))
noncomputable def F__law_tap : List D → Option D := semQ (.ow .sh) 1 g__law_tap
theorem b__law_tap {Pg : Program} {w : World} {K : Frg} {mg : Str → Option Value} {base : Heap} {f : Addr} {fd : FuncData}
  (I : Is K mg "_law_tap" st__law_tap f fd ["_law_cell", "_law_turn"])
  (z_abs : mg "abs" = none)
  (z_int : mg "int" = none) :
  FnG Pg w K mg base CX0 1 f fd ["_law_cell", "_law_turn"] (spQ K [some .sh, some .sh] (.ow .sh) F__law_tap) :=
 fn_q (n := 1) (G' := []) (Gb := []) I.F sc__law_tap rfl rfl fun cdv A outer s H E W hr hgd =>
  (ss_cons (G1 := [some .sh, some .sh, some .sh]) (s_set (i := 2) sc__law_tap.nd rfl (lc_ rfl) (q2e (q_bin op_addA fl_add (q2k (q_bin op_mulA fl_mul (q2k c_int) (q2k (n_abs z_abs (ks_cons (v_k (i := 0) rfl (vs_ rfl) rfl) ks_nil))))) (q2k (n_int z_int (ks_cons (q2k (q_cmp op_lt fl_cmp (v_k (i := 0) rfl (vs_ rfl) rfl) (q2k c_int) (nomark _))) ks_nil)))))) (ss_one (s_ret (e_list (n := 3) (m := .sh) (es_cons (q2e (v_sh (i := 2) rfl (vs_ rfl) rfl)) (es_cons (q2e (q_bin op_addA fl_add (q2k (q_bin op_addA fl_add (q2k (q_bin op_modN fl_mod (q2k (n_int z_int (ks_cons (v_k (i := 2) rfl (vs_ rfl) rfl) ks_nil))) (q2k c_int))) (q2k (q_bin op_mulA fl_mul (q2k c_int) (v_k (i := 1) rfl (vs_ rfl) rfl))))) (q2k c_int))) (es_cons (q2e (q_bin op_addA fl_add (q2k (q_bin op_addA fl_add (q2k (q_bin op_modN fl_mod (q2k (n_int z_int (ks_cons (v_k (i := 2) rfl (vs_ rfl) rfl) ks_nil))) (q2k c_int))) (q2k (q_bin op_mulA fl_mul (q2k c_int) (v_k (i := 1) rfl (vs_ rfl) rfl))))) (q2k c_int))) es_nil)))))))
/-! ### distances_from -/
abbrev st_distances_from : Stmt := top 12
abbrev N_distances_from : List Str := ["start", "near", "found", "layer", "later", "node", "other"]
theorem sc_distances_from : FnScope N_distances_from ["start", "near"] (defScope st_distances_from) := ⟨rfl, rfl, rfl, by decide +kernel, rfl, by decide +kernel, by decide +kernel⟩
noncomputable def g_distances_from : En → Option Fl :=
 (sSeq (sSet 2 (e2 gRep (fL (aV (lq (fC .none)) aNil)) (lq (fQ gLen (kCons (fV 1) kNil)))))
 (sSeq (sSetI 2 (lq (fC (.int 0))) (lq (fV 0)))
 (sSeq (sSet 3 (fL (aV (lq (fV 0)) aNil)))
 (sSeq (sWh (lb (lq (f2 gNe (fV 3) (fC (.list [])))))
 ((sSeq (sSet 4 (fL aNil))
 (sSeq (sFor (iL (lq (fV 3))) (gN 5) [5]
 ((sFor (iL (lq (f2 gIx (fV 1) (fV 5)))) (gN 6) [6]
 ((sIf (lb (lq (f2 gIsN (f2 gIx (fV 2) (fV 6)) (fC .none))))
 ((sSeq (sSetI 2 (lq (f2 gAdd (f2 gIx (fV 2) (fV 5)) (fC (.int 1)))) (lq (fV 6)))
 (sEx (fApp 4 (lq (fV 6))))))
 (sNil))))))
 (sSet 3 (lq (fV 4)))))))
 (sRt (lq (fV 2)))))))
noncomputable def F_distances_from : List D → Option D := semQ (.ow .sh) 5 g_distances_from
theorem b_distances_from {Pg : Program} {w : World} {K : Frg} {mg : Str → Option Value} {base : Heap} {f : Addr} {fd : FuncData}
  (I : Is K mg "distances_from" st_distances_from f fd ["start", "near"])
  (z_len : mg "len" = none) :
  FnG Pg w K mg base CX0 1 f fd ["start", "near"] (spQ K [some .sh, some .sh] (.ow .sh) F_distances_from) :=
 fn_q (n := 5) (G' := []) (Gb := []) I.F sc_distances_from rfl rfl fun cdv A outer s H E W hr hgd =>
  (ss_cons (G1 := [some .sh, some .sh, some (.ow .sh), none, none, none, none]) (s_set (i := 2) sc_distances_from.nd rfl (lc_ rfl) (e_rep (e_list (n := 1) (m := .sh) (es_cons (q2e c_non) es_nil)) (q2e (n_len z_len (ks_cons (v_k (i := 1) rfl (vs_ rfl) rfl) ks_nil))))) (ss_cons (G1 := [some .sh, some .sh, some (.ow .sh), none, none, none, none]) (s_setI (i := 2) rfl (vs_ rfl) (q2e c_int) (q2e (v_sh (i := 0) rfl (vs_ rfl) rfl)) rfl rfl rfl rfl rfl (od0 (i := 2))) (ss_cons (G1 := [some .sh, some .sh, some (.ow .sh), some .sh, none, none, none]) (s_set (i := 3) sc_distances_from.nd rfl (lc_ rfl) (e2s (e_list (n := 1) (m := .sh) (es_cons (q2e (v_sh (i := 0) rfl (vs_ rfl) rfl)) es_nil)))) (ss_cons (G1 := [some .sh, some .sh, some (.ow .sh), some .sh, none, none, none]) (s_while PassesOwn.never (t_cmp (o_ne hr) fl_ne (v_k (i := 3) rfl (vs_ rfl) rfl) (q2k q_nil) (nomark _)) (ss_out (i := 4) (G' := [some .sh, some .sh, some (.ow .sh), some .sh, some .sh, none, none]) (ss_cons (G1 := [some .sh, some .sh, some (.ow .sh), some .sh, some (.ow .sh), none, none]) (s_set (i := 4) sc_distances_from.nd rfl (lc_ rfl) (e_list (n := 0) (m := .sh) es_nil)) (ss_cons (G1 := [some .sh, some .sh, some (.ow .sh), some .sh, some (.ow .sh), none, none]) (s_for (is := [5]) (vs := [5]) (Ge := [some .sh, some .sh, some (.ow .sh), some .sh, some (.ow .sh), some .sh, none]) (Gc := [some .sh, some .sh, some (.ow .sh), some .sh, some (.ow .sh), some .sh, none]) PassesOwn.never rfl (i_list (q2e (v_sh (i := 3) rfl (vs_ rfl) rfl))) (g_name (i := 5) sc_distances_from.nd rfl (lc_ rfl)) (ss_one (s_for (is := [6]) (vs := [6]) (Ge := [some .sh, some .sh, some (.ow .sh), some .sh, some (.ow .sh), some .sh, some .sh]) (Gc := [some .sh, some .sh, some (.ow .sh), some .sh, some (.ow .sh), some .sh, some .sh]) PassesOwn.never rfl (i_list (q2e (q_ix (v_p (i := 1) rfl (vs_ rfl) rfl) (v_k (i := 5) rfl (vs_ rfl) rfl)))) (g_name (i := 6) sc_distances_from.nd rfl (lc_ rfl)) (ss_one (s_if (G1 := [some .sh, some .sh, some (.ow .sh), some .sh, some (.ow .sh), some .sh, some .sh]) (t_cmp op_isN fl_isN (k_ix (v_k (i := 2) rfl (vs_ rfl) rfl) (v_k (i := 6) rfl (vs_ rfl) rfl)) (q2k c_non) (nomark _)) (ss_cons (G1 := [some .sh, some .sh, some (.ow .sh), some .sh, some (.ow .sh), some .sh, some .sh]) (s_setI (i := 2) rfl (vs_ rfl) (q2e (q_bin op_addA fl_add (k_ix (v_k (i := 2) rfl (vs_ rfl) rfl) (v_k (i := 5) rfl (vs_ rfl) rfl)) (q2k c_int))) (q2e (v_sh (i := 6) rfl (vs_ rfl) rfl)) rfl rfl rfl rfl rfl (od0 (i := 2))) (ss_one (s_expr (e_app (i := 4) rfl (vs_ rfl) rfl rfl (q2e (v_sh (i := 6) rfl (vs_ rfl) rfl)) (od0 (i := 4)))))) ss_nil)) rfl rfl (fun _ _ => rfl))) rfl rfl (fun _ _ => rfl)) (ss_one (s_set (i := 3) sc_distances_from.nd rfl (lc_ rfl) (v_fz (i := 4) rfl (vs_ rfl) rfl))))))) (ss_one (s_ret (v_mv (i := 2) rfl (vs_ rfl) rfl)))))))
/-! ### neighbor_rows -/
abbrev st_neighbor_rows : Stmt := top 11
abbrev N_neighbor_rows : List Str := ["graph", "rows", "one", "other", "node", "row"]
theorem sc_neighbor_rows : FnScope N_neighbor_rows ["graph"] (defScope st_neighbor_rows) := ⟨rfl, rfl, rfl, by decide +kernel, rfl, by decide +kernel, by decide +kernel⟩
noncomputable def g_neighbor_rows : En → Option Fl :=
 (sSeq (sSet 1 (fLc (iR1 (aV (lq (f2 gIx (fV 0) (fC (.int 0)))) aNil)) (gN 4) [4] bYes (fL aNil)))
 (sSeq (sFor (iL (lq (f2 gIx (fV 0) (fC (.int 1))))) (gT (gCons (gN 2) (gCons (gN 3) gNil))) [2, 3]
 ((sSeq (sEx (fApp2 1 (fV 2) (fV 3)))
 (sEx (fApp2 1 (fV 3) (fV 2))))))
 (sRt (fLc (iL (lq (fV 1))) (gN 5) [5] bYes (lq (f1 gSorted (fV 5)))))))
noncomputable def F_neighbor_rows : List D → Option D := semQ (.ow .sh) 5 g_neighbor_rows
theorem b_neighbor_rows {Pg : Program} {w : World} {K : Frg} {mg : Str → Option Value} {base : Heap} {f : Addr} {fd : FuncData}
  (I : Is K mg "neighbor_rows" st_neighbor_rows f fd ["graph"])
  (z_range : mg "range" = none)
  (z_sorted : mg "sorted" = none) :
  FnG Pg w K mg base CX0 1 f fd ["graph"] (spQ K [some .sh] (.ow .sh) F_neighbor_rows) :=
 fn_q (n := 5) (G' := []) (Gb := []) I.F sc_neighbor_rows rfl rfl fun cdv A outer s H E W hr hgd =>
  (ss_cons (G1 := [some .sh, some (.ow (.ow .sh)), none, none, none, none]) (s_setLc (i := 1) (own := [("node", 4)]) (m := (.ow .sh)) rfl sc_neighbor_rows.nd rfl rfl (sw_true rfl rfl rfl (by decide +kernel)) (i_range1 rfl z_range (ar_v (q2e (q_ix (v_p (i := 0) rfl (vs_ rfl) rfl) (q2k c_int))) ar_nil)) (blkOk_by (own := [("node", 4)]) (N := N_neighbor_rows) (sc := defScope st_neighbor_rows) (by decide +kernel)) (fun _ _ _ _ _ => (g_name (i := 4) sc_neighbor_rows.nd rfl (lc_ rfl))) (fun _ _ _ _ _ => t_yes) (fun _ _ _ _ _ => (e_list (n := 0) (m := .sh) es_nil)) rfl rfl rfl (fun _ _ => rfl) (by decide) rfl) (ss_cons (G1 := [some .sh, some (.ow (.ow .sh)), none, none, none, none]) (s_for (is := [2, 3]) (vs := [2, 3]) (Ge := [some .sh, some (.ow (.ow .sh)), some .sh, some .sh, none, none]) (Gc := [some .sh, some (.ow (.ow .sh)), some .sh, some .sh, none, none]) PassesOwn.never rfl (i_list (q2e (q_ix (v_p (i := 0) rfl (vs_ rfl) rfl) (q2k c_int)))) (g_tup rfl (gs_cons (g_name (i := 2) sc_neighbor_rows.nd rfl (lc_ rfl)) (gs_cons (g_name (i := 3) sc_neighbor_rows.nd rfl (lc_ rfl)) gs_nil)) (gCons_len (gCons_len gNil_len))) (ss_cons (G1 := [some .sh, some (.ow (.ow .sh)), some .sh, some .sh, none, none]) (s_expr (e_app2 (i := 1) rfl (vs_ rfl) rfl (v_k (i := 2) rfl (vs_ rfl) rfl) (v_sh (i := 3) rfl (vs_ rfl) rfl) (od0 (i := 1)))) (ss_one (s_expr (e_app2 (i := 1) rfl (vs_ rfl) rfl (v_k (i := 3) rfl (vs_ rfl) rfl) (v_sh (i := 2) rfl (vs_ rfl) rfl) (od0 (i := 1)))))) rfl rfl (fun _ _ => rfl)) (ss_one (s_ret (e_lc (own := [("row", 5)]) (m := .sh) (G2 := [some .sh, some .sh, none, none, none, none]) rfl sc_neighbor_rows.nd (i_list (v_fz (i := 1) rfl (vs_ rfl) rfl)) (blkOk_by (own := [("row", 5)]) (N := N_neighbor_rows) (sc := defScope st_neighbor_rows) (by decide +kernel)) (fun _ _ _ _ _ => (g_name (i := 5) sc_neighbor_rows.nd rfl (lc_ rfl))) (fun _ _ _ _ _ => t_yes) (fun _ _ _ _ _ => (e2s (q2e (q_srt rfl z_sorted (v_p (i := 5) rfl (vs_ rfl) rfl))))) rfl rfl (fun _ _ => rfl))))))
/-! ### is_connected -/
abbrev st_is_connected : Stmt := top 13
abbrev N_is_connected : List Str := ["size", "edges"]
theorem sc_is_connected : FnScope N_is_connected ["size", "edges"] (defScope st_is_connected) := ⟨rfl, rfl, rfl, by decide +kernel, rfl, by decide +kernel, by decide +kernel⟩
noncomputable def g_is_connected : En → Option Fl :=
 (sRt (e2 (gInL true) (lq (fC .none)) (fCl F_distances_from (aV (lq (fC (.int 0))) (aV (fCl F_neighbor_rows (aV (fT (aV (lq (fV 0)) (aV (lq (fV 1)) aNil))) aNil)) aNil)))))
noncomputable def F_is_connected : List D → Option D := semQ .sh 0 g_is_connected
theorem b_is_connected {Pg : Program} {w : World} {K : Frg} {mg : Str → Option Value} {base : Heap} {f : Addr} {fd : FuncData} {f_distances_from f_neighbor_rows : Addr} {fd_distances_from fd_neighbor_rows : FuncData}
  (I : Is K mg "is_connected" st_is_connected f fd ["size", "edges"])
  (I_distances_from : Is K mg "distances_from" st_distances_from f_distances_from fd_distances_from ["start", "near"])
  (Fn_distances_from : FnG Pg w K mg base CX0 1 f_distances_from fd_distances_from ["start", "near"] (spQ K [some .sh, some .sh] (.ow .sh) F_distances_from))
  (I_neighbor_rows : Is K mg "neighbor_rows" st_neighbor_rows f_neighbor_rows fd_neighbor_rows ["graph"])
  (Fn_neighbor_rows : FnG Pg w K mg base CX0 1 f_neighbor_rows fd_neighbor_rows ["graph"] (spQ K [some .sh] (.ow .sh) F_neighbor_rows)) :
  FnG Pg w K mg base CX0 2 f fd ["size", "edges"] (spQ K [some .sh, some .sh] .sh F_is_connected) :=
 fn_q (n := 0) (G' := []) (Gb := []) I.F sc_is_connected rfl rfl fun cdv A outer s H E W hr hgd =>
  (ss_one (s_ret (e_cmp (o_ni hr) fl_notInL (q2e c_non) (e2s (e_call Fn_distances_from (hr.mono (by decide)) hgd rfl I_distances_from.m I_distances_from.F.kp I_distances_from.b (ar_v (q2e c_int) (ar_v (e2s (e_call Fn_neighbor_rows (hr.mono (by decide)) hgd rfl I_neighbor_rows.m I_neighbor_rows.F.kp I_neighbor_rows.b (ar_v (e2s (e_tup (ms := [.sh, .sh]) (es_cons (q2e (v_sh (i := 0) rfl (vs_ rfl) rfl)) (es_cons (q2e (v_sh (i := 1) rfl (vs_ rfl) rfl)) es_nil)))) ar_nil))) ar_nil)))) rfl)))
/-! ### is_integer -/
abbrev st_is_integer : Stmt := top 8
abbrev N_is_integer : List Str := ["value", "least", "most"]
theorem sc_is_integer : FnScope N_is_integer ["value", "least", "most"] (defScope st_is_integer) := ⟨rfl, rfl, rfl, by decide +kernel, rfl, by decide +kernel, by decide +kernel⟩
noncomputable def g_is_integer : En → Option Fl :=
 (sRt (vAnd (e1 (gIsi "int") (lq (fV 0))) (vAnd (vNot (e1 (gIsi "bool") (lq (fV 0)))) (lq (f3 gLe gLe (fV 1) (fV 0) (fV 2))))))
noncomputable def F_is_integer : List D → Option D := semQ .sh 0 g_is_integer
theorem b_is_integer {Pg : Program} {w : World} {K : Frg} {mg : Str → Option Value} {base : Heap} {f : Addr} {fd : FuncData}
  (I : Is K mg "is_integer" st_is_integer f fd ["value", "least", "most"])
  (z_bool : mg "bool" = none)
  (z_int : mg "int" = none)
  (z_isinstance : mg "isinstance" = none) :
  FnG Pg w K mg base CX0 1 f fd ["value", "least", "most"] (spQ K [some .sh, some .sh, some .sh] .sh F_is_integer) :=
 fn_q (n := 0) (G' := []) (Gb := []) I.F sc_is_integer rfl rfl fun cdv A outer s H E W hr hgd =>
  (ss_one (s_ret (e_and (e_isi (T := "int") (q2e (v_sh (i := 0) rfl (vs_ rfl) rfl)) rfl z_isinstance rfl z_int boot_int) (e_and (e_not (e_isi (T := "bool") (q2e (v_sh (i := 0) rfl (vs_ rfl) rfl)) rfl z_isinstance rfl z_bool boot_bool)) (e_one (q2e (q_chain op_le op_le fl_cmp fl_cmp (v_k (i := 1) rfl (vs_ rfl) rfl) (v_k (i := 0) rfl (vs_ rfl) rfl) (v_k (i := 2) rfl (vs_ rfl) rfl))))))))
/-! ### is_ascending -/
abbrev st_is_ascending : Stmt := top 10
abbrev N_is_ascending : List Str := ["items", "one", "other"]
theorem sc_is_ascending : FnScope N_is_ascending ["items"] (defScope st_is_ascending) := ⟨rfl, rfl, rfl, by decide +kernel, rfl, by decide +kernel, by decide +kernel⟩
noncomputable def g_is_ascending : En → Option Fl :=
 (sRt (fCl gAll (aV (fLc (iZ (aV (lq (fV 0)) (aV (lq (fSl (fV 0) (oS (fC (.int 1))) oN)) aNil))) (gT (gCons (gN 1) (gCons (gN 2) gNil))) [1, 2] bYes (lq (f2 gLtP (fV 1) (fV 2)))) aNil)))
noncomputable def F_is_ascending : List D → Option D := semQ .sh 2 g_is_ascending
theorem b_is_ascending {Pg : Program} {w : World} {K : Frg} {mg : Str → Option Value} {base : Heap} {f : Addr} {fd : FuncData}
  (I : Is K mg "is_ascending" st_is_ascending f fd ["items"])
  (z_all : mg "all" = none)
  (z_zip : mg "zip" = none) :
  FnG Pg w K mg base CX0 1 f fd ["items"] (spQ K [some .sh] .sh F_is_ascending) :=
 fn_q (n := 2) (G' := []) (Gb := []) I.F sc_is_ascending rfl rfl fun cdv A outer s H E W hr hgd =>
  (ss_one (s_ret (b_all rfl z_all (ar_v (e2s (e_lc (own := [("one", 1), ("other", 2)]) (m := .sh) (G2 := [some .sh, none, none]) rfl sc_is_ascending.nd (i_zip rfl z_zip (ar_v (q2e (v_sh (i := 0) rfl (vs_ rfl) rfl)) (ar_v (e2s (q2e (q_sl (v_p (i := 0) rfl (vs_ rfl) rfl) (o_some (q2k c_int)) o_none))) ar_nil))) (blkOk_by (own := [("one", 1), ("other", 2)]) (N := N_is_ascending) (sc := defScope st_is_ascending) (by decide +kernel)) (fun _ _ _ _ _ => (g_tup rfl (gs_cons (g_name (i := 1) sc_is_ascending.nd rfl (lc_ rfl)) (gs_cons (g_name (i := 2) sc_is_ascending.nd rfl (lc_ rfl)) gs_nil)) (gCons_len (gCons_len gNil_len)))) (fun _ _ _ _ _ => t_yes) (fun _ _ _ _ _ => (q2e (q_cmp (o_ltP hr) fl_ltP (v_k (i := 1) rfl (vs_ rfl) rfl) (v_k (i := 2) rfl (vs_ rfl) rfl) (nomark _)))) rfl rfl (fun _ _ => rfl))) ar_nil))))
/-! ### is_pair -/
abbrev st_is_pair : Stmt := top 9
abbrev N_is_pair : List Str := ["value", "size", "item"]
theorem sc_is_pair : FnScope N_is_pair ["value", "size"] (defScope st_is_pair) := ⟨rfl, rfl, rfl, by decide +kernel, rfl, by decide +kernel, by decide +kernel⟩
noncomputable def g_is_pair : En → Option Fl :=
 (sSeq (sIf (bOr (bNot (lb (e1 (gIsi "tuple") (lq (fV 0))))) (lb (lq (f2 gNe (fQ gLen (kCons (fV 0) kNil)) (fC (.int 2))))))
 ((sRt (lq (fC (.bool false)))))
 (sNil))
 (sRt (vAnd (fCl gAll (aV (fLc (iT (lq (fV 0))) (gN 2) [2] bYes (fCl F_is_integer (aV (lq (fV 2)) (aV (lq (fC (.int 0))) (aV (lq (f2 gSub (fV 1) (fC (.int 1)))) aNil))))) aNil)) (lq (f2 gLt (f2 gIx (fV 0) (fC (.int 0))) (f2 gIx (fV 0) (fC (.int 1))))))))
noncomputable def F_is_pair : List D → Option D := semQ .sh 1 g_is_pair
theorem b_is_pair {Pg : Program} {w : World} {K : Frg} {mg : Str → Option Value} {base : Heap} {f : Addr} {fd : FuncData} {f_is_integer : Addr} {fd_is_integer : FuncData}
  (I : Is K mg "is_pair" st_is_pair f fd ["value", "size"])
  (z_all : mg "all" = none)
  (z_isinstance : mg "isinstance" = none)
  (z_len : mg "len" = none)
  (z_tuple : mg "tuple" = none)
  (I_is_integer : Is K mg "is_integer" st_is_integer f_is_integer fd_is_integer ["value", "least", "most"])
  (Fn_is_integer : FnG Pg w K mg base CX0 1 f_is_integer fd_is_integer ["value", "least", "most"] (spQ K [some .sh, some .sh, some .sh] .sh F_is_integer)) :
  FnG Pg w K mg base CX0 2 f fd ["value", "size"] (spQ K [some .sh, some .sh] .sh F_is_pair) :=
 fn_q (n := 1) (G' := []) (Gb := []) I.F sc_is_pair rfl rfl fun cdv A outer s H E W hr hgd =>
  (ss_cons (G1 := [some .sh, some .sh, none]) (s_if (G1 := [some .sh, some .sh, none]) (PW.pt (t_or (t_not (t_val (e_isi (T := "tuple") (q2e (v_sh (i := 0) rfl (vs_ rfl) rfl)) rfl z_isinstance rfl z_tuple boot_tuple))) (t_or1 (t_cmp (o_ne hr) fl_ne (q2k (n_len z_len (ks_cons (v_k (i := 0) rfl (vs_ rfl) rfl) ks_nil))) (q2k c_int) (nomark _))))) (ss_one (s_ret (q2e c_bl))) ss_nil) (ss_one (s_ret (e_and (b_all rfl z_all (ar_v (e2s (e_lc (own := [("item", 2)]) (m := .sh) (G2 := [some .sh, some .sh, none]) rfl sc_is_pair.nd (i_tup (q2e (v_sh (i := 0) rfl (vs_ rfl) rfl))) (blkOk_by (own := [("item", 2)]) (N := N_is_pair) (sc := defScope st_is_pair) (by decide +kernel)) (fun _ _ _ _ _ => (g_name (i := 2) sc_is_pair.nd rfl (lc_ rfl))) (fun _ _ _ _ _ => t_yes) (fun _ _ _ _ _ => (e_call Fn_is_integer (hr.mono (by decide)) hgd rfl I_is_integer.m I_is_integer.F.kp I_is_integer.b (ar_v (q2e (v_sh (i := 2) rfl (vs_ rfl) rfl)) (ar_v (q2e c_int) (ar_v (q2e (q_bin op_sub fl_sub (v_k (i := 1) rfl (vs_ rfl) rfl) (q2k c_int))) ar_nil))))) rfl rfl (fun _ _ => rfl))) ar_nil)) (e_one (q2e (q_cmp op_lt fl_cmp (k_ix (v_k (i := 0) rfl (vs_ rfl) rfl) (q2k c_int)) (k_ix (v_k (i := 0) rfl (vs_ rfl) rfl) (q2k c_int)) (nomark _))))))))
/-! ### is_graph_value -/
abbrev st_is_graph_value : Stmt := top 14
abbrev N_is_graph_value : List Str := ["value", "size", "edges", "edge"]
theorem sc_is_graph_value : FnScope N_is_graph_value ["value"] (defScope st_is_graph_value) := ⟨rfl, rfl, rfl, by decide +kernel, rfl, by decide +kernel, by decide +kernel⟩
noncomputable def g_is_graph_value : En → Option Fl :=
 (sSeq (sIf (bOr (bNot (lb (e1 (gIsi "tuple") (lq (fV 0))))) (bOr (lb (lq (f2 gNe (fQ gLen (kCons (fV 0) kNil)) (fC (.int 2))))) (bNot (lb (fCl F_is_integer (aV (lq (f2 gIx (fV 0) (fC (.int 0)))) (aV (lq (fC (.int 1))) (aV (lq (fC (.int 40))) aNil))))))))
 ((sRt (lq (fC (.bool false)))))
 (sNil))
 (sSeq (sAsg (lq (fV 0)) (gT (gCons (gN 1) (gCons (gN 2) gNil))))
 (sSeq (sIf (bOr (bNot (lb (e1 (gIsi "list") (lq (fV 2))))) (lb (lq (f2 gGt (fQ gLen (kCons (fV 2) kNil)) (fC (.int 200))))))
 ((sRt (lq (fC (.bool false)))))
 (sNil))
 (sSeq (sIf (bOr (bNot (lb (fCl gAll (aV (fLc (iL (lq (fV 2))) (gN 3) [3] bYes (fCl F_is_pair (aV (lq (fV 3)) (aV (lq (fV 1)) aNil)))) aNil)))) (bNot (lb (fCl F_is_ascending (aV (lq (fV 2)) aNil)))))
 ((sRt (lq (fC (.bool false)))))
 (sNil))
 (sRt (fCl F_is_connected (aV (lq (fV 1)) (aV (lq (fV 2)) aNil))))))))
noncomputable def F_is_graph_value : List D → Option D := semQ .sh 3 g_is_graph_value
theorem b_is_graph_value {Pg : Program} {w : World} {K : Frg} {mg : Str → Option Value} {base : Heap} {f : Addr} {fd : FuncData} {f_is_connected f_is_integer f_is_ascending f_is_pair : Addr} {fd_is_connected fd_is_integer fd_is_ascending fd_is_pair : FuncData} {t_MOST_EDGES t_MOST_NODES : Tok}
  (I : Is K mg "is_graph_value" st_is_graph_value f fd ["value"])
  (z_all : mg "all" = none)
  (z_isinstance : mg "isinstance" = none)
  (z_len : mg "len" = none)
  (z_list : mg "list" = none)
  (z_tuple : mg "tuple" = none)
  (k_MOST_EDGES : mg "MOST_EDGES" = some (.int 200 t_MOST_EDGES))
  (k_MOST_NODES : mg "MOST_NODES" = some (.int 40 t_MOST_NODES))
  (I_is_connected : Is K mg "is_connected" st_is_connected f_is_connected fd_is_connected ["size", "edges"])
  (Fn_is_connected : FnG Pg w K mg base CX0 2 f_is_connected fd_is_connected ["size", "edges"] (spQ K [some .sh, some .sh] .sh F_is_connected))
  (I_is_integer : Is K mg "is_integer" st_is_integer f_is_integer fd_is_integer ["value", "least", "most"])
  (Fn_is_integer : FnG Pg w K mg base CX0 1 f_is_integer fd_is_integer ["value", "least", "most"] (spQ K [some .sh, some .sh, some .sh] .sh F_is_integer))
  (I_is_ascending : Is K mg "is_ascending" st_is_ascending f_is_ascending fd_is_ascending ["items"])
  (Fn_is_ascending : FnG Pg w K mg base CX0 1 f_is_ascending fd_is_ascending ["items"] (spQ K [some .sh] .sh F_is_ascending))
  (I_is_pair : Is K mg "is_pair" st_is_pair f_is_pair fd_is_pair ["value", "size"])
  (Fn_is_pair : FnG Pg w K mg base CX0 2 f_is_pair fd_is_pair ["value", "size"] (spQ K [some .sh, some .sh] .sh F_is_pair)) :
  FnG Pg w K mg base CX0 3 f fd ["value"] (spQ K [some .sh] .sh F_is_graph_value) :=
 fn_q (n := 3) (G' := []) (Gb := []) I.F sc_is_graph_value rfl rfl fun cdv A outer s H E W hr hgd =>
  (ss_cons (G1 := [some .sh, none, none, none]) (s_if (G1 := [some .sh, none, none, none]) (PW.pt (t_or (t_not (t_val (e_isi (T := "tuple") (q2e (v_sh (i := 0) rfl (vs_ rfl) rfl)) rfl z_isinstance rfl z_tuple boot_tuple))) (t_or (t_cmp (o_ne hr) fl_ne (q2k (n_len z_len (ks_cons (v_k (i := 0) rfl (vs_ rfl) rfl) ks_nil))) (q2k c_int) (nomark _)) (t_or1 (t_not (t_val (e_call Fn_is_integer (hr.mono (by decide)) hgd rfl I_is_integer.m I_is_integer.F.kp I_is_integer.b (ar_v (q2e (q_ix (v_p (i := 0) rfl (vs_ rfl) rfl) (q2k c_int))) (ar_v (q2e c_int) (ar_v (q2e (c_glob (v := .int 40) (d := .int 40) rfl k_MOST_NODES ⟨_, rfl⟩ rfl)) ar_nil)))))))))) (ss_one (s_ret (q2e c_bl))) ss_nil) (ss_cons (G1 := [some .sh, some .sh, some .sh, none]) (s_asg (vs := [1, 2]) (q2e (v_sh (i := 0) rfl (vs_ rfl) rfl)) (g_tup rfl (gs_cons (g_name (i := 1) sc_is_graph_value.nd rfl (lc_ rfl)) (gs_cons (g_name (i := 2) sc_is_graph_value.nd rfl (lc_ rfl)) gs_nil)) (gCons_len (gCons_len gNil_len)))) (ss_cons (G1 := [some .sh, some .sh, some .sh, none]) (s_if (G1 := [some .sh, some .sh, some .sh, none]) (PW.pt (t_or (t_not (t_val (e_isi (T := "list") (q2e (v_sh (i := 2) rfl (vs_ rfl) rfl)) rfl z_isinstance rfl z_list boot_list))) (t_or1 (t_cmp op_gt fl_cmp (q2k (n_len z_len (ks_cons (v_k (i := 2) rfl (vs_ rfl) rfl) ks_nil))) (q2k (c_glob (v := .int 200) (d := .int 200) rfl k_MOST_EDGES ⟨_, rfl⟩ rfl)) (nomark _))))) (ss_one (s_ret (q2e c_bl))) ss_nil) (ss_cons (G1 := [some .sh, some .sh, some .sh, none]) (s_if (G1 := [some .sh, some .sh, some .sh, none]) (PW.pt (t_or (t_not (t_val (b_all rfl z_all (ar_v (e2s (e_lc (own := [("edge", 3)]) (m := .sh) (G2 := [some .sh, some .sh, some .sh, none]) rfl sc_is_graph_value.nd (i_list (q2e (v_sh (i := 2) rfl (vs_ rfl) rfl))) (blkOk_by (own := [("edge", 3)]) (N := N_is_graph_value) (sc := defScope st_is_graph_value) (by decide +kernel)) (fun _ _ _ _ _ => (g_name (i := 3) sc_is_graph_value.nd rfl (lc_ rfl))) (fun _ _ _ _ _ => t_yes) (fun _ _ _ _ _ => (e_call Fn_is_pair (hr.mono (by decide)) hgd rfl I_is_pair.m I_is_pair.F.kp I_is_pair.b (ar_v (q2e (v_sh (i := 3) rfl (vs_ rfl) rfl)) (ar_v (q2e (v_sh (i := 1) rfl (vs_ rfl) rfl)) ar_nil)))) rfl rfl (fun _ _ => rfl))) ar_nil)))) (t_or1 (t_not (t_val (e_call Fn_is_ascending (hr.mono (by decide)) hgd rfl I_is_ascending.m I_is_ascending.F.kp I_is_ascending.b (ar_v (q2e (v_sh (i := 2) rfl (vs_ rfl) rfl)) ar_nil))))))) (ss_one (s_ret (q2e c_bl))) ss_nil) (ss_one (s_ret (e_call Fn_is_connected (hr.mono (by decide)) hgd rfl I_is_connected.m I_is_connected.F.kp I_is_connected.b (ar_v (q2e (v_sh (i := 1) rfl (vs_ rfl) rfl)) (ar_v (q2e (v_sh (i := 2) rfl (vs_ rfl) rfl)) ar_nil)))))))))
/-! ### need_graph -/
abbrev st_need_graph : Stmt := top 15
abbrev N_need_graph : List Str := ["graph"]
theorem sc_need_graph : FnScope N_need_graph ["graph"] (defScope st_need_graph) := ⟨rfl, rfl, rfl, by decide +kernel, rfl, by decide +kernel, by decide +kernel⟩
noncomputable def g_need_graph : En → Option Fl :=
 (sIf (bNot (lb (fCl F_is_graph_value (aV (lq (fV 0)) aNil))))
 (sNo)
 (sNil))
noncomputable def F_need_graph : List D → Option D := semQ .sh 0 g_need_graph
theorem b_need_graph {Pg : Program} {w : World} {K : Frg} {mg : Str → Option Value} {base : Heap} {f : Addr} {fd : FuncData} {f_is_graph_value : Addr} {fd_is_graph_value : FuncData}
  (I : Is K mg "need_graph" st_need_graph f fd ["graph"])
  (I_is_graph_value : Is K mg "is_graph_value" st_is_graph_value f_is_graph_value fd_is_graph_value ["value"])
  (Fn_is_graph_value : FnG Pg w K mg base CX0 3 f_is_graph_value fd_is_graph_value ["value"] (spQ K [some .sh] .sh F_is_graph_value)) :
  FnG Pg w K mg base CX0 4 f fd ["graph"] (spQ K [some .sh] .sh F_need_graph) :=
 fn_q (n := 0) (G' := [some .sh]) (Gb := []) I.F sc_need_graph rfl rfl fun cdv A outer s H E W hr hgd =>
  (ss_one (s_if (G1 := [some .sh]) (t_not (t_val (e_call Fn_is_graph_value (hr.mono (by decide)) hgd rfl I_is_graph_value.m I_is_graph_value.F.kp I_is_graph_value.b (ar_v (q2e (v_sh (i := 0) rfl (vs_ rfl) rfl)) ar_nil)))) (ss_one s_no) ss_nil))
/-! ### graph_text -/
abbrev st_graph_text : Stmt := top 22
abbrev N_graph_text : List Str := ["graph", "one", "other"]
theorem sc_graph_text : FnScope N_graph_text ["graph"] (defScope st_graph_text) := ⟨rfl, rfl, rfl, by decide +kernel, rfl, by decide +kernel, by decide +kernel⟩
noncomputable def g_graph_text : En → Option Fl :=
 (sRt (e2 gJoin (lq (fC (.str (Str.ofString " ")))) (e2 gCat (fL (aV (lq (f2 gAdd (fQ gStr (kCons (f2 gIx (fV 0) (fC (.int 0))) kNil)) (fC (.str (Str.ofString ":"))))) aNil)) (fLc (iL (lq (f2 gIx (fV 0) (fC (.int 1))))) (gT (gCons (gN 1) (gCons (gN 2) gNil))) [1, 2] bYes (lq (f2 gAdd (f2 gAdd (fQ gStr (kCons (fV 1) kNil)) (fC (.str (Str.ofString "-")))) (fQ gStr (kCons (fV 2) kNil))))))))
noncomputable def F_graph_text : List D → Option D := semQ .sh 2 g_graph_text
theorem b_graph_text {Pg : Program} {w : World} {K : Frg} {mg : Str → Option Value} {base : Heap} {f : Addr} {fd : FuncData}
  (I : Is K mg "graph_text" st_graph_text f fd ["graph"])
  (z_str : mg "str" = none) :
  FnG Pg w K mg base CX0 1 f fd ["graph"] (spQ K [some .sh] .sh F_graph_text) :=
 fn_q (n := 2) (G' := []) (Gb := []) I.F sc_graph_text rfl rfl fun cdv A outer s H E W hr hgd =>
  (ss_one (s_ret (e_join (q2e c_str) (e2s (e_cat (e2s (e_list (n := 1) (m := .sh) (es_cons (q2e (q_bin op_addA fl_add (q2k (n_str z_str (ks_cons (k_ix (v_k (i := 0) rfl (vs_ rfl) rfl) (q2k c_int)) ks_nil))) (q2k c_str))) es_nil))) (e2s (e_lc (own := [("one", 1), ("other", 2)]) (m := .sh) (G2 := [some .sh, none, none]) rfl sc_graph_text.nd (i_list (q2e (q_ix (v_p (i := 0) rfl (vs_ rfl) rfl) (q2k c_int)))) (blkOk_by (own := [("one", 1), ("other", 2)]) (N := N_graph_text) (sc := defScope st_graph_text) (by decide +kernel)) (fun _ _ _ _ _ => (g_tup rfl (gs_cons (g_name (i := 1) sc_graph_text.nd rfl (lc_ rfl)) (gs_cons (g_name (i := 2) sc_graph_text.nd rfl (lc_ rfl)) gs_nil)) (gCons_len (gCons_len gNil_len)))) (fun _ _ _ _ _ => t_yes) (fun _ _ _ _ _ => (q2e (q_bin op_addA fl_add (q2k (q_bin op_addA fl_add (q2k (n_str z_str (ks_cons (v_k (i := 1) rfl (vs_ rfl) rfl) ks_nil))) (q2k c_str))) (q2k (n_str z_str (ks_cons (v_k (i := 2) rfl (vs_ rfl) rfl) ks_nil)))))) rfl rfl (fun _ _ => rfl))))))))
/-! ### show_graph -/
abbrev st_show_graph : Stmt := top 23
abbrev N_show_graph : List Str := ["graph"]
theorem sc_show_graph : FnScope N_show_graph ["graph"] (defScope st_show_graph) := ⟨rfl, rfl, rfl, by decide +kernel, rfl, by decide +kernel, by decide +kernel⟩
noncomputable def g_show_graph : En → Option Fl :=
 (sSeq (sEx (fCl F_need_graph (aV (lq (fV 0)) aNil)))
 (sRt (fCl F_graph_text (aV (lq (fV 0)) aNil))))
noncomputable def F_show_graph : List D → Option D := semQ .sh 0 g_show_graph
theorem b_show_graph {Pg : Program} {w : World} {K : Frg} {mg : Str → Option Value} {base : Heap} {f : Addr} {fd : FuncData} {f_need_graph f_graph_text : Addr} {fd_need_graph fd_graph_text : FuncData}
  (I : Is K mg "show_graph" st_show_graph f fd ["graph"])
  (I_need_graph : Is K mg "need_graph" st_need_graph f_need_graph fd_need_graph ["graph"])
  (Fn_need_graph : FnG Pg w K mg base CX0 4 f_need_graph fd_need_graph ["graph"] (spQ K [some .sh] .sh F_need_graph))
  (I_graph_text : Is K mg "graph_text" st_graph_text f_graph_text fd_graph_text ["graph"])
  (Fn_graph_text : FnG Pg w K mg base CX0 1 f_graph_text fd_graph_text ["graph"] (spQ K [some .sh] .sh F_graph_text)) :
  FnG Pg w K mg base CX0 5 f fd ["graph"] (spQ K [some .sh] .sh F_show_graph) :=
 fn_q (n := 0) (G' := []) (Gb := []) I.F sc_show_graph rfl rfl fun cdv A outer s H E W hr hgd =>
  (ss_cons (G1 := [some .sh]) (s_expr (e_call Fn_need_graph (hr.mono (by decide)) hgd rfl I_need_graph.m I_need_graph.F.kp I_need_graph.b (ar_v (q2e (v_sh (i := 0) rfl (vs_ rfl) rfl)) ar_nil))) (ss_one (s_ret (e_call Fn_graph_text (hr.mono (by decide)) hgd rfl I_graph_text.m I_graph_text.F.kp I_graph_text.b (ar_v (q2e (v_sh (i := 0) rfl (vs_ rfl) rfl)) ar_nil)))))
/-! ### whole_in -/
abbrev st_whole_in : Stmt := top 26
abbrev N_whole_in : List Str := ["text", "most", "sign"]
theorem sc_whole_in : FnScope N_whole_in ["text", "most"] (defScope st_whole_in) := ⟨rfl, rfl, rfl, by decide +kernel, rfl, by decide +kernel, by decide +kernel⟩
noncomputable def g_whole_in : En → Option Fl :=
 (sSeq (sIf (bOr (lb (lq (f2 gEq (fV 0) (fC (.str (Str.ofString "")))))) (bOr (lb (lq (f2 gGt (fQ gLen (kCons (fV 0) kNil)) (fV 1)))) (bNot (lb (fCl gAll (aV (fLc (iStrD (lq (fV 0))) (gN 2) [2] bYes (lq (f2 (gInS false) (fV 2) (fC (.str (Str.ofString "0123456789")))))) aNil))))))
 ((sRt (lq (fC .none))))
 (sNil))
 (sRt (fIf (bOr (lb (lq (f2 gEq (fV 0) (fC (.str (Str.ofString "0")))))) (lb (lq (f2 gNe (f2 gIx (fV 0) (fC (.int 0))) (fC (.str (Str.ofString "0"))))))) (lq (fQ gIntS (kCons (fV 0) kNil))) (lq (fC .none)))))
noncomputable def F_whole_in : List D → Option D := semQ .sh 1 g_whole_in
theorem b_whole_in {Pg : Program} {w : World} {K : Frg} {mg : Str → Option Value} {base : Heap} {f : Addr} {fd : FuncData}
  (I : Is K mg "whole_in" st_whole_in f fd ["text", "most"])
  (z_all : mg "all" = none)
  (z_int : mg "int" = none)
  (z_len : mg "len" = none) :
  FnG Pg w K mg base CX0 1 f fd ["text", "most"] (spQ K [some .sh, some .sh] .sh F_whole_in) :=
 fn_q (n := 1) (G' := []) (Gb := []) I.F sc_whole_in rfl rfl fun cdv A outer s H E W hr hgd =>
  (ss_cons (G1 := [some .sh, some .sh, none]) (s_if (G1 := [some .sh, some .sh, none]) (PW.pt (t_or (t_cmp (o_eq hr) fl_eq (v_k (i := 0) rfl (vs_ rfl) rfl) (q2k c_str) (nomark _)) (t_or (t_cmp op_gt fl_cmp (q2k (n_len z_len (ks_cons (v_k (i := 0) rfl (vs_ rfl) rfl) ks_nil))) (v_k (i := 1) rfl (vs_ rfl) rfl) (nomark _)) (t_or1 (t_not (t_val (b_all rfl z_all (ar_v (e2s (e_lc (own := [("sign", 2)]) (m := .sh) (G2 := [some .sh, some .sh, none]) rfl sc_whole_in.nd (i_str (q2e (v_sh (i := 0) rfl (vs_ rfl) rfl))) (blkOk_by (own := [("sign", 2)]) (N := N_whole_in) (sc := defScope st_whole_in) (by decide +kernel)) (fun _ _ _ _ _ => (g_name (i := 2) sc_whole_in.nd rfl (lc_ rfl))) (fun _ _ _ _ _ => t_yes) (fun _ _ _ _ _ => (q2e (q_cmp op_in_sign fl_inS (v_k (i := 2) rfl (vs_ rfl) rfl) (q2k c_str) rfl))) rfl rfl (fun _ _ => rfl))) ar_nil)))))))) (ss_one (s_ret (q2e c_non))) ss_nil) (ss_one (s_ret (e_if (PW.pt (t_or (t_cmp (o_eq hr) fl_eq (v_k (i := 0) rfl (vs_ rfl) rfl) (q2k c_str) (nomark _)) (t_or1 (t_cmp (o_ne hr) fl_ne (k_ix (v_k (i := 0) rfl (vs_ rfl) rfl) (q2k c_int)) (q2k c_str) (nomark _))))) (q2e (n_intS z_int (ks_cons (v_k (i := 0) rfl (vs_ rfl) rfl) ks_nil))) (q2e c_non)))))
/-! ### size_in -/
abbrev st_size_in : Stmt := top 28
abbrev N_size_in : List Str := ["text", "size"]
theorem sc_size_in : FnScope N_size_in ["text"] (defScope st_size_in) := ⟨rfl, rfl, rfl, by decide +kernel, rfl, by decide +kernel, by decide +kernel⟩
noncomputable def g_size_in : En → Option Fl :=
 (sSeq (sSet 1 (fIf (lb (lq (f2 gEq (fSs (fV 0) (oS (f1 gNeg (fC (.int 1)))) oN) (fC (.str (Str.ofString ":")))))) (fCl F_whole_in (aV (lq (fSs (fV 0) oN (oS (f1 gNeg (fC (.int 1)))))) (aV (lq (fC (.int 2))) aNil))) (lq (fC .none))))
 (sRt (fIf (bAnd (lb (lq (f2 gNotN (fV 1) (fC .none)))) (lb (lq (f3 gLe gLe (fC (.int 1)) (fV 1) (fC (.int 40)))))) (lq (fV 1)) (lq (fC .none)))))
noncomputable def F_size_in : List D → Option D := semQ .sh 1 g_size_in
theorem b_size_in {Pg : Program} {w : World} {K : Frg} {mg : Str → Option Value} {base : Heap} {f : Addr} {fd : FuncData} {f_whole_in : Addr} {fd_whole_in : FuncData} {t_MOST_NODES : Tok}
  (I : Is K mg "size_in" st_size_in f fd ["text"])
  (k_MOST_NODES : mg "MOST_NODES" = some (.int 40 t_MOST_NODES))
  (I_whole_in : Is K mg "whole_in" st_whole_in f_whole_in fd_whole_in ["text", "most"])
  (Fn_whole_in : FnG Pg w K mg base CX0 1 f_whole_in fd_whole_in ["text", "most"] (spQ K [some .sh, some .sh] .sh F_whole_in)) :
  FnG Pg w K mg base CX0 2 f fd ["text"] (spQ K [some .sh] .sh F_size_in) :=
 fn_q (n := 1) (G' := []) (Gb := []) I.F sc_size_in rfl rfl fun cdv A outer s H E W hr hgd =>
  (ss_cons (G1 := [some .sh, some .sh]) (s_set (i := 1) sc_size_in.nd rfl (lc_ rfl) (e_if (t_cmp (o_eq hr) fl_eq (q2k (q_ss (v_k (i := 0) rfl (vs_ rfl) rfl) (o_some (q2k (q_un un_neg fl_neg (q2k c_int)))) o_none)) (q2k c_str) (nomark _)) (e_call Fn_whole_in (hr.mono (by decide)) hgd rfl I_whole_in.m I_whole_in.F.kp I_whole_in.b (ar_v (q2e (q_ss (v_k (i := 0) rfl (vs_ rfl) rfl) o_none (o_some (q2k (q_un un_neg fl_neg (q2k c_int)))))) (ar_v (q2e c_int) ar_nil))) (q2e c_non))) (ss_one (s_ret (e_if (PW.pt (t_and (t_cmp op_notN fl_notN (v_k (i := 1) rfl (vs_ rfl) rfl) (q2k c_non) (nomark _)) (t_and1 (t_chain op_le op_le fl_cmp fl_cmp (q2k c_int) (v_k (i := 1) rfl (vs_ rfl) rfl) (q2k (c_glob (v := .int 40) (d := .int 40) rfl k_MOST_NODES ⟨_, rfl⟩ rfl)))))) (q2e (v_sh (i := 1) rfl (vs_ rfl) rfl)) (q2e c_non)))))
/-! ### edge_in -/
abbrev st_edge_in : Stmt := top 27
abbrev N_edge_in : List Str := ["text", "size", "numbers", "part"]
theorem sc_edge_in : FnScope N_edge_in ["text", "size"] (defScope st_edge_in) := ⟨rfl, rfl, rfl, by decide +kernel, rfl, by decide +kernel, by decide +kernel⟩
noncomputable def g_edge_in : En → Option Fl :=
 (sSeq (sSet 2 (fLc (iL (lq (f2 gSplit (fV 0) (fC (.str (Str.ofString "-")))))) (gN 3) [3] bYes (fCl F_whole_in (aV (lq (fV 3)) (aV (lq (fC (.int 2))) aNil)))))
 (sSeq (sIf (bOr (lb (lq (f2 gNe (fQ gLen (kCons (fV 2) kNil)) (fC (.int 2))))) (bOr (lb (lq (f2 (gInL false) (fC .none) (fV 2)))) (bNot (lb (lq (f3 gLt gLt (f2 gIx (fV 2) (fC (.int 0))) (f2 gIx (fV 2) (fC (.int 1))) (fV 1)))))))
 ((sRt (lq (fC .none))))
 (sNil))
 (sRt (fT (aV (lq (f2 gIx (fV 2) (fC (.int 0)))) (aV (lq (f2 gIx (fV 2) (fC (.int 1)))) aNil))))))
noncomputable def F_edge_in : List D → Option D := semQ .sh 2 g_edge_in
theorem b_edge_in {Pg : Program} {w : World} {K : Frg} {mg : Str → Option Value} {base : Heap} {f : Addr} {fd : FuncData} {f_whole_in : Addr} {fd_whole_in : FuncData}
  (I : Is K mg "edge_in" st_edge_in f fd ["text", "size"])
  (z_len : mg "len" = none)
  (I_whole_in : Is K mg "whole_in" st_whole_in f_whole_in fd_whole_in ["text", "most"])
  (Fn_whole_in : FnG Pg w K mg base CX0 1 f_whole_in fd_whole_in ["text", "most"] (spQ K [some .sh, some .sh] .sh F_whole_in)) :
  FnG Pg w K mg base CX0 2 f fd ["text", "size"] (spQ K [some .sh, some .sh] .sh F_edge_in) :=
 fn_q (n := 2) (G' := []) (Gb := []) I.F sc_edge_in rfl rfl fun cdv A outer s H E W hr hgd =>
  (ss_cons (G1 := [some .sh, some .sh, some .sh, none]) (s_setLcS (i := 2) (own := [("part", 3)]) rfl sc_edge_in.nd rfl rfl (sw_true rfl rfl rfl (by decide +kernel)) (i_list (e2s (q2e (q_split (v_k (i := 0) rfl (vs_ rfl) rfl) (q2k c_str))))) (blkOk_by (own := [("part", 3)]) (N := N_edge_in) (sc := defScope st_edge_in) (by decide +kernel)) (fun _ _ _ _ _ => (g_name (i := 3) sc_edge_in.nd rfl (lc_ rfl))) (fun _ _ _ _ _ => t_yes) (fun _ _ _ _ _ => (e_call Fn_whole_in (hr.mono (by decide)) hgd rfl I_whole_in.m I_whole_in.F.kp I_whole_in.b (ar_v (q2e (v_sh (i := 3) rfl (vs_ rfl) rfl)) (ar_v (q2e c_int) ar_nil)))) rfl rfl rfl (fun _ _ => rfl) (by decide) rfl) (ss_cons (G1 := [some .sh, some .sh, some .sh, none]) (s_if (G1 := [some .sh, some .sh, some .sh, none]) (PW.pt (t_or (t_cmp (o_ne hr) fl_ne (q2k (n_len z_len (ks_cons (v_k (i := 2) rfl (vs_ rfl) rfl) ks_nil))) (q2k c_int) (nomark _)) (t_or (t_cmp (o_in hr) fl_inL (q2k c_non) (v_k (i := 2) rfl (vs_ rfl) rfl) rfl) (t_or1 (t_not (t_chain op_lt op_lt fl_cmp fl_cmp (k_ix (v_k (i := 2) rfl (vs_ rfl) rfl) (q2k c_int)) (k_ix (v_k (i := 2) rfl (vs_ rfl) rfl) (q2k c_int)) (v_k (i := 1) rfl (vs_ rfl) rfl))))))) (ss_one (s_ret (q2e c_non))) ss_nil) (ss_one (s_ret (e2s (e_tup (ms := [.sh, .sh]) (es_cons (q2e (q_ix (v_p (i := 2) rfl (vs_ rfl) rfl) (q2k c_int))) (es_cons (q2e (q_ix (v_p (i := 2) rfl (vs_ rfl) rfl) (q2k c_int))) es_nil))))))))
/-! ### read_graph -/
abbrev st_read_graph : Stmt := top 29
abbrev N_read_graph : List Str := ["text", "parts", "edges", "size", "number", "part", "edge"]
theorem sc_read_graph : FnScope N_read_graph ["text"] (defScope st_read_graph) := ⟨rfl, rfl, rfl, by decide +kernel, rfl, by decide +kernel, by decide +kernel⟩
noncomputable def g_read_graph : En → Option Fl :=
 (sSeq (sIf (bNot (lb (e1 (gIsi "str") (lq (fV 0)))))
 (sNo)
 (sNil))
 (sSeq (sPar2 1 2 (aV (lq (f2 gSplit (fV 0) (fC (.str (Str.ofString " "))))) (aV (fL aNil) aNil)))
 (sSeq (sSet 3 (fCl F_size_in (aV (lq (f2 gIx (fV 1) (fC (.int 0)))) aNil)))
 (sSeq (sIf (lb (lq (f2 gIsN (fV 3) (fC .none))))
 (sNo)
 (sNil))
 (sSeq (sFor (iE (aV (lq (fV 1)) aNil)) (gT (gCons (gN 4) (gCons (gN 5) gNil))) [4, 5]
 ((sIf (lb (lq (f2 gGt (fV 4) (fC (.int 0)))))
 ((sSeq (sSet 6 (fCl F_edge_in (aV (lq (fV 5)) (aV (lq (fV 3)) aNil))))
 (sSeq (sIf (bOr (lb (lq (f2 gIsN (fV 6) (fC .none)))) (bOr (bAnd (lb (lq (f2 gNe (fV 2) (fC (.list []))))) (lb (lq (f2 gLeP (fV 6) (f2 gIx (fV 2) (f1 gNeg (fC (.int 1)))))))) (lb (lq (f2 gEq (fQ gLen (kCons (fV 2) kNil)) (fC (.int 200)))))))
 (sNo)
 (sNil))
 (sEx (fApp 2 (lq (fV 6)))))))
 (sNil))))
 (sSeq (sIf (bNot (lb (fThaw (fCl F_is_connected (aV (lq (fV 3)) (aV (lq (fV 2)) aNil))))))
 (sNo)
 (sNil))
 (sRt (fT (aV (lq (fV 3)) (aV (lq (fV 2)) aNil))))))))))
noncomputable def F_read_graph : List D → Option D := semQ (.tu [.sh, (.ow .sh)]) 6 g_read_graph
theorem b_read_graph {Pg : Program} {w : World} {K : Frg} {mg : Str → Option Value} {base : Heap} {f : Addr} {fd : FuncData} {f_is_connected f_size_in f_edge_in : Addr} {fd_is_connected fd_size_in fd_edge_in : FuncData} {t_MOST_EDGES : Tok}
  (I : Is K mg "read_graph" st_read_graph f fd ["text"])
  (z_enumerate : mg "enumerate" = none)
  (z_isinstance : mg "isinstance" = none)
  (z_len : mg "len" = none)
  (z_str : mg "str" = none)
  (k_MOST_EDGES : mg "MOST_EDGES" = some (.int 200 t_MOST_EDGES))
  (I_is_connected : Is K mg "is_connected" st_is_connected f_is_connected fd_is_connected ["size", "edges"])
  (Fn_is_connected : FnG Pg w K mg base CX0 2 f_is_connected fd_is_connected ["size", "edges"] (spQ K [some .sh, some .sh] .sh F_is_connected))
  (I_size_in : Is K mg "size_in" st_size_in f_size_in fd_size_in ["text"])
  (Fn_size_in : FnG Pg w K mg base CX0 2 f_size_in fd_size_in ["text"] (spQ K [some .sh] .sh F_size_in))
  (I_edge_in : Is K mg "edge_in" st_edge_in f_edge_in fd_edge_in ["text", "size"])
  (Fn_edge_in : FnG Pg w K mg base CX0 2 f_edge_in fd_edge_in ["text", "size"] (spQ K [some .sh, some .sh] .sh F_edge_in)) :
  FnG Pg w K mg base CX0 3 f fd ["text"] (spQ K [some .sh] (.tu [.sh, (.ow .sh)]) F_read_graph) :=
 fn_q (n := 6) (G' := []) (Gb := []) I.F sc_read_graph rfl rfl fun cdv A outer s H E W hr hgd =>
  (ss_cons (G1 := [some .sh, none, none, none, none, none, none]) (s_if (G1 := [some .sh, none, none, none, none, none, none]) (t_not (t_val (e_isi (T := "str") (q2e (v_sh (i := 0) rfl (vs_ rfl) rfl)) rfl z_isinstance rfl z_str boot_str))) (ss_one s_no) ss_nil) (ss_cons (G1 := [some .sh, some .sh, some (.ow .sh), none, none, none, none]) (s_par2 (i := 1) (j := 2) (m1 := .sh) (m2 := (.ow .sh)) rfl sc_read_graph.nd rfl rfl rfl rfl (es_cons (e2s (q2e (q_split (v_k (i := 0) rfl (vs_ rfl) rfl) (q2k c_str)))) (es_cons (e_list (n := 0) (m := .sh) es_nil) es_nil)) rfl) (ss_cons (G1 := [some .sh, some .sh, some (.ow .sh), some .sh, none, none, none]) (s_set (i := 3) sc_read_graph.nd rfl (lc_ rfl) (e_call Fn_size_in (hr.mono (by decide)) hgd rfl I_size_in.m I_size_in.F.kp I_size_in.b (ar_v (q2e (q_ix (v_p (i := 1) rfl (vs_ rfl) rfl) (q2k c_int))) ar_nil))) (ss_cons (G1 := [some .sh, some .sh, some (.ow .sh), some .sh, none, none, none]) (s_if (G1 := [some .sh, some .sh, some (.ow .sh), some .sh, none, none, none]) (t_cmp op_isN fl_isN (v_k (i := 3) rfl (vs_ rfl) rfl) (q2k c_non) (nomark _)) (ss_one s_no) ss_nil) (ss_cons (G1 := [some .sh, some .sh, some (.ow .sh), some .sh, none, none, none]) (s_for (is := [4, 5]) (vs := [4, 5]) (Ge := [some .sh, some .sh, some (.ow .sh), some .sh, some .sh, some .sh, none]) (Gc := [some .sh, some .sh, some (.ow .sh), some .sh, some .sh, some .sh, none]) PassesOwn.never rfl (i_enum rfl z_enumerate (ar_v (q2e (v_sh (i := 1) rfl (vs_ rfl) rfl)) ar_nil)) (g_tup rfl (gs_cons (g_name (i := 4) sc_read_graph.nd rfl (lc_ rfl)) (gs_cons (g_name (i := 5) sc_read_graph.nd rfl (lc_ rfl)) gs_nil)) (gCons_len (gCons_len gNil_len))) (ss_one (s_if (G1 := [some .sh, some .sh, some (.ow .sh), some .sh, some .sh, some .sh, none]) (t_cmp op_gt fl_cmp (v_k (i := 4) rfl (vs_ rfl) rfl) (q2k c_int) (nomark _)) (ss_out (i := 6) (G' := [some .sh, some .sh, some (.ow .sh), some .sh, some .sh, some .sh, some .sh]) (ss_cons (G1 := [some .sh, some .sh, some (.ow .sh), some .sh, some .sh, some .sh, some .sh]) (s_set (i := 6) sc_read_graph.nd rfl (lc_ rfl) (e_call Fn_edge_in (hr.mono (by decide)) hgd rfl I_edge_in.m I_edge_in.F.kp I_edge_in.b (ar_v (q2e (v_sh (i := 5) rfl (vs_ rfl) rfl)) (ar_v (q2e (v_sh (i := 3) rfl (vs_ rfl) rfl)) ar_nil)))) (ss_cons (G1 := [some .sh, some .sh, some (.ow .sh), some .sh, some .sh, some .sh, some .sh]) (s_if (G1 := [some .sh, some .sh, some (.ow .sh), some .sh, some .sh, some .sh, some .sh]) (PW.pt (t_or (t_cmp op_isN fl_isN (v_k (i := 6) rfl (vs_ rfl) rfl) (q2k c_non) (nomark _)) (t_or (PW.pt (t_and (t_cmp (o_ne hr) fl_ne (v_k (i := 2) rfl (vs_ rfl) rfl) (q2k q_nil) (nomark _)) (t_and1 (t_cmp (o_leP hr) fl_leP (v_k (i := 6) rfl (vs_ rfl) rfl) (k_ix (v_k (i := 2) rfl (vs_ rfl) rfl) (q2k (q_un un_neg fl_neg (q2k c_int)))) (nomark _))))) (t_or1 (t_cmp (o_eq hr) fl_eq (q2k (n_len z_len (ks_cons (v_k (i := 2) rfl (vs_ rfl) rfl) ks_nil))) (q2k (c_glob (v := .int 200) (d := .int 200) rfl k_MOST_EDGES ⟨_, rfl⟩ rfl)) (nomark _)))))) (ss_one s_no) ss_nil) (ss_one (s_expr (e_app (i := 2) rfl (vs_ rfl) rfl rfl (q2e (v_sh (i := 6) rfl (vs_ rfl) rfl)) (od0 (i := 2)))))))) ss_nil)) rfl rfl (fun _ _ => rfl)) (ss_cons (G1 := [some .sh, some .sh, some (.ow .sh), some .sh, none, none, none]) (s_if (G1 := [some .sh, some .sh, some (.ow .sh), some .sh, none, none, none]) (t_not (t_val (e_thaw (i := 2) rfl (e_call Fn_is_connected (hr.mono (by decide)) hgd rfl I_is_connected.m I_is_connected.F.kp I_is_connected.b (ar_v (q2e (v_sh (i := 3) rfl (vs_ rfl) rfl)) (ar_v (q2e (v_sh (i := 2) rfl (vs_ rfl) rfl)) ar_nil)))))) (ss_one s_no) ss_nil) (ss_one (s_ret (e_tup (ms := [.sh, (.ow .sh)]) (es_cons (q2e (v_sh (i := 3) rfl (vs_ rfl) rfl)) (es_cons (v_mv (i := 2) rfl (vs_ rfl) rfl) es_nil)))))))))))
/-! ### is_sign_string -/
abbrev st_is_sign_string : Stmt := top 17
abbrev N_is_sign_string : List Str := ["value", "sign"]
theorem sc_is_sign_string : FnScope N_is_sign_string ["value"] (defScope st_is_sign_string) := ⟨rfl, rfl, rfl, by decide +kernel, rfl, by decide +kernel, by decide +kernel⟩
noncomputable def g_is_sign_string : En → Option Fl :=
 (sRt (vAnd (e1 (gIsi "str") (lq (fV 0))) (fCl gAll (aV (fLc (iStrD (lq (fV 0))) (gN 1) [1] bYes (lq (f2 (gInS false) (fV 1) (fC (.str (Str.ofString "01")))))) aNil))))
noncomputable def F_is_sign_string : List D → Option D := semQ .sh 1 g_is_sign_string
theorem b_is_sign_string {Pg : Program} {w : World} {K : Frg} {mg : Str → Option Value} {base : Heap} {f : Addr} {fd : FuncData}
  (I : Is K mg "is_sign_string" st_is_sign_string f fd ["value"])
  (z_all : mg "all" = none)
  (z_isinstance : mg "isinstance" = none)
  (z_str : mg "str" = none) :
  FnG Pg w K mg base CX0 1 f fd ["value"] (spQ K [some .sh] .sh F_is_sign_string) :=
 fn_q (n := 1) (G' := []) (Gb := []) I.F sc_is_sign_string rfl rfl fun cdv A outer s H E W hr hgd =>
  (ss_one (s_ret (e_and (e_isi (T := "str") (q2e (v_sh (i := 0) rfl (vs_ rfl) rfl)) rfl z_isinstance rfl z_str boot_str) (e_one (b_all rfl z_all (ar_v (e2s (e_lc (own := [("sign", 1)]) (m := .sh) (G2 := [some .sh, none]) rfl sc_is_sign_string.nd (i_str (q2e (v_sh (i := 0) rfl (vs_ rfl) rfl))) (blkOk_by (own := [("sign", 1)]) (N := N_is_sign_string) (sc := defScope st_is_sign_string) (by decide +kernel)) (fun _ _ _ _ _ => (g_name (i := 1) sc_is_sign_string.nd rfl (lc_ rfl))) (fun _ _ _ _ _ => t_yes) (fun _ _ _ _ _ => (q2e (q_cmp op_in_sign fl_inS (v_k (i := 1) rfl (vs_ rfl) rfl) (q2k c_str) rfl))) rfl rfl (fun _ _ => rfl))) ar_nil))))))
/-! ### are_signs -/
abbrev st_are_signs : Stmt := top 20
abbrev N_are_signs : List Str := ["value", "word"]
theorem sc_are_signs : FnScope N_are_signs ["value"] (defScope st_are_signs) := ⟨rfl, rfl, rfl, by decide +kernel, rfl, by decide +kernel, by decide +kernel⟩
noncomputable def g_are_signs : En → Option Fl :=
 (sSeq (sIf (bOr (bNot (lb (e1 (gIsi "list") (lq (fV 0))))) (bNot (lb (lq (f3 gLe gLe (fC (.int 1)) (fQ gLen (kCons (fV 0) kNil)) (fC (.int 40)))))))
 ((sRt (lq (fC (.bool false)))))
 (sNil))
 (sSeq (sIf (bOr (bNot (lb (fCl gAll (aV (fLc (iL (lq (fV 0))) (gN 1) [1] bYes (fCl F_is_sign_string (aV (lq (fV 1)) aNil))) aNil)))) (lb (lq (f2 gGt (fQ gLen (kCons (f2 gIx (fV 0) (fC (.int 0))) kNil)) (fC (.int 40))))))
 ((sRt (lq (fC (.bool false)))))
 (sNil))
 (sRt (fCl gAll (aV (fLc (iL (lq (fV 0))) (gN 1) [1] bYes (lq (f2 gEq (fQ gLen (kCons (fV 1) kNil)) (fQ gLen (kCons (f2 gIx (fV 0) (fC (.int 0))) kNil))))) aNil)))))
noncomputable def F_are_signs : List D → Option D := semQ .sh 1 g_are_signs
theorem b_are_signs {Pg : Program} {w : World} {K : Frg} {mg : Str → Option Value} {base : Heap} {f : Addr} {fd : FuncData} {f_is_sign_string : Addr} {fd_is_sign_string : FuncData} {t_MOST_LENGTH t_MOST_NODES : Tok}
  (I : Is K mg "are_signs" st_are_signs f fd ["value"])
  (z_all : mg "all" = none)
  (z_isinstance : mg "isinstance" = none)
  (z_len : mg "len" = none)
  (z_list : mg "list" = none)
  (k_MOST_LENGTH : mg "MOST_LENGTH" = some (.int 40 t_MOST_LENGTH))
  (k_MOST_NODES : mg "MOST_NODES" = some (.int 40 t_MOST_NODES))
  (I_is_sign_string : Is K mg "is_sign_string" st_is_sign_string f_is_sign_string fd_is_sign_string ["value"])
  (Fn_is_sign_string : FnG Pg w K mg base CX0 1 f_is_sign_string fd_is_sign_string ["value"] (spQ K [some .sh] .sh F_is_sign_string)) :
  FnG Pg w K mg base CX0 2 f fd ["value"] (spQ K [some .sh] .sh F_are_signs) :=
 fn_q (n := 1) (G' := []) (Gb := []) I.F sc_are_signs rfl rfl fun cdv A outer s H E W hr hgd =>
  (ss_cons (G1 := [some .sh, none]) (s_if (G1 := [some .sh, none]) (PW.pt (t_or (t_not (t_val (e_isi (T := "list") (q2e (v_sh (i := 0) rfl (vs_ rfl) rfl)) rfl z_isinstance rfl z_list boot_list))) (t_or1 (t_not (t_chain op_le op_le fl_cmp fl_cmp (q2k c_int) (q2k (n_len z_len (ks_cons (v_k (i := 0) rfl (vs_ rfl) rfl) ks_nil))) (q2k (c_glob (v := .int 40) (d := .int 40) rfl k_MOST_NODES ⟨_, rfl⟩ rfl))))))) (ss_one (s_ret (q2e c_bl))) ss_nil) (ss_cons (G1 := [some .sh, none]) (s_if (G1 := [some .sh, none]) (PW.pt (t_or (t_not (t_val (b_all rfl z_all (ar_v (e2s (e_lc (own := [("word", 1)]) (m := .sh) (G2 := [some .sh, none]) rfl sc_are_signs.nd (i_list (q2e (v_sh (i := 0) rfl (vs_ rfl) rfl))) (blkOk_by (own := [("word", 1)]) (N := N_are_signs) (sc := defScope st_are_signs) (by decide +kernel)) (fun _ _ _ _ _ => (g_name (i := 1) sc_are_signs.nd rfl (lc_ rfl))) (fun _ _ _ _ _ => t_yes) (fun _ _ _ _ _ => (e_call Fn_is_sign_string (hr.mono (by decide)) hgd rfl I_is_sign_string.m I_is_sign_string.F.kp I_is_sign_string.b (ar_v (q2e (v_sh (i := 1) rfl (vs_ rfl) rfl)) ar_nil))) rfl rfl (fun _ _ => rfl))) ar_nil)))) (t_or1 (t_cmp op_gt fl_cmp (q2k (n_len z_len (ks_cons (k_ix (v_k (i := 0) rfl (vs_ rfl) rfl) (q2k c_int)) ks_nil))) (q2k (c_glob (v := .int 40) (d := .int 40) rfl k_MOST_LENGTH ⟨_, rfl⟩ rfl)) (nomark _))))) (ss_one (s_ret (q2e c_bl))) ss_nil) (ss_one (s_ret (b_all rfl z_all (ar_v (e2s (e_lc (own := [("word", 1)]) (m := .sh) (G2 := [some .sh, none]) rfl sc_are_signs.nd (i_list (q2e (v_sh (i := 0) rfl (vs_ rfl) rfl))) (blkOk_by (own := [("word", 1)]) (N := N_are_signs) (sc := defScope st_are_signs) (by decide +kernel)) (fun _ _ _ _ _ => (g_name (i := 1) sc_are_signs.nd rfl (lc_ rfl))) (fun _ _ _ _ _ => t_yes) (fun _ _ _ _ _ => (q2e (q_cmp (o_eq hr) fl_eq (q2k (n_len z_len (ks_cons (v_k (i := 1) rfl (vs_ rfl) rfl) ks_nil))) (q2k (n_len z_len (ks_cons (k_ix (v_k (i := 0) rfl (vs_ rfl) rfl) (q2k c_int)) ks_nil))) (nomark _)))) rfl rfl (fun _ _ => rfl))) ar_nil))))))
/-! ### word_text -/
abbrev st_word_text : Stmt := top 24
abbrev N_word_text : List Str := ["word"]
theorem sc_word_text : FnScope N_word_text ["word"] (defScope st_word_text) := ⟨rfl, rfl, rfl, by decide +kernel, rfl, by decide +kernel, by decide +kernel⟩
noncomputable def g_word_text : En → Option Fl :=
 (sRt (fIf (lb (lq (f2 gEq (fV 0) (fC (.str (Str.ofString "")))))) (lq (fC (.str (Str.ofString ".")))) (lq (fV 0))))
noncomputable def F_word_text : List D → Option D := semQ .sh 0 g_word_text
theorem b_word_text {Pg : Program} {w : World} {K : Frg} {mg : Str → Option Value} {base : Heap} {f : Addr} {fd : FuncData}
  (I : Is K mg "word_text" st_word_text f fd ["word"]) :
  FnG Pg w K mg base CX0 1 f fd ["word"] (spQ K [some .sh] .sh F_word_text) :=
 fn_q (n := 0) (G' := []) (Gb := []) I.F sc_word_text rfl rfl fun cdv A outer s H E W hr hgd =>
  (ss_one (s_ret (e_if (t_cmp (o_eq hr) fl_eq (v_k (i := 0) rfl (vs_ rfl) rfl) (q2k c_str) (nomark _)) (q2e c_str) (q2e (v_sh (i := 0) rfl (vs_ rfl) rfl)))))
/-! ### show_words -/
abbrev st_show_words : Stmt := top 25
abbrev N_show_words : List Str := ["words", "word"]
theorem sc_show_words : FnScope N_show_words ["words"] (defScope st_show_words) := ⟨rfl, rfl, rfl, by decide +kernel, rfl, by decide +kernel, by decide +kernel⟩
noncomputable def g_show_words : En → Option Fl :=
 (sSeq (sIf (bNot (lb (fCl F_are_signs (aV (lq (fV 0)) aNil))))
 (sNo)
 (sNil))
 (sRt (e2 gJoin (lq (fC (.str (Str.ofString " ")))) (fLc (iL (lq (fV 0))) (gN 1) [1] bYes (fCl F_word_text (aV (lq (fV 1)) aNil))))))
noncomputable def F_show_words : List D → Option D := semQ .sh 1 g_show_words
theorem b_show_words {Pg : Program} {w : World} {K : Frg} {mg : Str → Option Value} {base : Heap} {f : Addr} {fd : FuncData} {f_are_signs f_word_text : Addr} {fd_are_signs fd_word_text : FuncData}
  (I : Is K mg "show_words" st_show_words f fd ["words"])
  (I_are_signs : Is K mg "are_signs" st_are_signs f_are_signs fd_are_signs ["value"])
  (Fn_are_signs : FnG Pg w K mg base CX0 2 f_are_signs fd_are_signs ["value"] (spQ K [some .sh] .sh F_are_signs))
  (I_word_text : Is K mg "word_text" st_word_text f_word_text fd_word_text ["word"])
  (Fn_word_text : FnG Pg w K mg base CX0 1 f_word_text fd_word_text ["word"] (spQ K [some .sh] .sh F_word_text)) :
  FnG Pg w K mg base CX0 3 f fd ["words"] (spQ K [some .sh] .sh F_show_words) :=
 fn_q (n := 1) (G' := []) (Gb := []) I.F sc_show_words rfl rfl fun cdv A outer s H E W hr hgd =>
  (ss_cons (G1 := [some .sh, none]) (s_if (G1 := [some .sh, none]) (t_not (t_val (e_call Fn_are_signs (hr.mono (by decide)) hgd rfl I_are_signs.m I_are_signs.F.kp I_are_signs.b (ar_v (q2e (v_sh (i := 0) rfl (vs_ rfl) rfl)) ar_nil)))) (ss_one s_no) ss_nil) (ss_one (s_ret (e_join (q2e c_str) (e2s (e_lc (own := [("word", 1)]) (m := .sh) (G2 := [some .sh, none]) rfl sc_show_words.nd (i_list (q2e (v_sh (i := 0) rfl (vs_ rfl) rfl))) (blkOk_by (own := [("word", 1)]) (N := N_show_words) (sc := defScope st_show_words) (by decide +kernel)) (fun _ _ _ _ _ => (g_name (i := 1) sc_show_words.nd rfl (lc_ rfl))) (fun _ _ _ _ _ => t_yes) (fun _ _ _ _ _ => (e_call Fn_word_text (hr.mono (by decide)) hgd rfl I_word_text.m I_word_text.F.kp I_word_text.b (ar_v (q2e (v_sh (i := 1) rfl (vs_ rfl) rfl)) ar_nil))) rfl rfl (fun _ _ => rfl)))))))
/-! ### word_in -/
abbrev st_word_in : Stmt := top 30
abbrev N_word_in : List Str := ["text", "sign"]
theorem sc_word_in : FnScope N_word_in ["text"] (defScope st_word_in) := ⟨rfl, rfl, rfl, by decide +kernel, rfl, by decide +kernel, by decide +kernel⟩
noncomputable def g_word_in : En → Option Fl :=
 (sSeq (sIf (lb (lq (f2 gEq (fV 0) (fC (.str (Str.ofString "."))))))
 ((sRt (lq (fC (.str (Str.ofString ""))))))
 (sNil))
 (sSeq (sIf (bOr (lb (lq (f2 gEq (fV 0) (fC (.str (Str.ofString "")))))) (bOr (lb (lq (f2 gGt (fQ gLen (kCons (fV 0) kNil)) (fC (.int 40))))) (bNot (lb (fCl gAll (aV (fLc (iStrD (lq (fV 0))) (gN 1) [1] bYes (lq (f2 (gInS false) (fV 1) (fC (.str (Str.ofString "01")))))) aNil))))))
 ((sRt (lq (fC .none))))
 (sNil))
 (sRt (lq (fV 0)))))
noncomputable def F_word_in : List D → Option D := semQ .sh 1 g_word_in
theorem b_word_in {Pg : Program} {w : World} {K : Frg} {mg : Str → Option Value} {base : Heap} {f : Addr} {fd : FuncData} {t_MOST_LENGTH : Tok}
  (I : Is K mg "word_in" st_word_in f fd ["text"])
  (z_all : mg "all" = none)
  (z_len : mg "len" = none)
  (k_MOST_LENGTH : mg "MOST_LENGTH" = some (.int 40 t_MOST_LENGTH)) :
  FnG Pg w K mg base CX0 1 f fd ["text"] (spQ K [some .sh] .sh F_word_in) :=
 fn_q (n := 1) (G' := []) (Gb := []) I.F sc_word_in rfl rfl fun cdv A outer s H E W hr hgd =>
  (ss_cons (G1 := [some .sh, none]) (s_if (G1 := [some .sh, none]) (t_cmp (o_eq hr) fl_eq (v_k (i := 0) rfl (vs_ rfl) rfl) (q2k c_str) (nomark _)) (ss_one (s_ret (q2e c_str))) ss_nil) (ss_cons (G1 := [some .sh, none]) (s_if (G1 := [some .sh, none]) (PW.pt (t_or (t_cmp (o_eq hr) fl_eq (v_k (i := 0) rfl (vs_ rfl) rfl) (q2k c_str) (nomark _)) (t_or (t_cmp op_gt fl_cmp (q2k (n_len z_len (ks_cons (v_k (i := 0) rfl (vs_ rfl) rfl) ks_nil))) (q2k (c_glob (v := .int 40) (d := .int 40) rfl k_MOST_LENGTH ⟨_, rfl⟩ rfl)) (nomark _)) (t_or1 (t_not (t_val (b_all rfl z_all (ar_v (e2s (e_lc (own := [("sign", 1)]) (m := .sh) (G2 := [some .sh, none]) rfl sc_word_in.nd (i_str (q2e (v_sh (i := 0) rfl (vs_ rfl) rfl))) (blkOk_by (own := [("sign", 1)]) (N := N_word_in) (sc := defScope st_word_in) (by decide +kernel)) (fun _ _ _ _ _ => (g_name (i := 1) sc_word_in.nd rfl (lc_ rfl))) (fun _ _ _ _ _ => t_yes) (fun _ _ _ _ _ => (q2e (q_cmp op_in_sign fl_inS (v_k (i := 1) rfl (vs_ rfl) rfl) (q2k c_str) rfl))) rfl rfl (fun _ _ => rfl))) ar_nil)))))))) (ss_one (s_ret (q2e c_non))) ss_nil) (ss_one (s_ret (q2e (v_sh (i := 0) rfl (vs_ rfl) rfl))))))
/-! ### read_words -/
abbrev st_read_words : Stmt := top 31
abbrev N_read_words : List Str := ["text", "found", "number", "part", "word"]
theorem sc_read_words : FnScope N_read_words ["text"] (defScope st_read_words) := ⟨rfl, rfl, rfl, by decide +kernel, rfl, by decide +kernel, by decide +kernel⟩
noncomputable def g_read_words : En → Option Fl :=
 (sSeq (sIf (bNot (lb (e1 (gIsi "str") (lq (fV 0)))))
 (sNo)
 (sNil))
 (sSeq (sSet 1 (fL aNil))
 (sSeq (sFor (iE (aV (lq (f2 gSplit (fV 0) (fC (.str (Str.ofString " "))))) aNil)) (gT (gCons (gN 2) (gCons (gN 3) gNil))) [2, 3, 4]
 ((sSeq (sSet 4 (fCl F_word_in (aV (lq (fV 3)) aNil)))
 (sSeq (sIf (bOr (lb (lq (f2 gIsN (fV 4) (fC .none)))) (bOr (lb (lq (f2 gEq (fV 2) (fC (.int 40))))) (bAnd (lb (lq (f2 gNe (fV 1) (fC (.list []))))) (lb (lq (f2 gNe (fQ gLen (kCons (fV 4) kNil)) (fQ gLen (kCons (f2 gIx (fV 1) (fC (.int 0))) kNil))))))))
 (sNo)
 (sNil))
 (sEx (fApp 1 (lq (fV 4))))))))
 (sRt (lq (fV 1))))))
noncomputable def F_read_words : List D → Option D := semQ (.ow .sh) 4 g_read_words
theorem b_read_words {Pg : Program} {w : World} {K : Frg} {mg : Str → Option Value} {base : Heap} {f : Addr} {fd : FuncData} {f_word_in : Addr} {fd_word_in : FuncData} {t_MOST_NODES : Tok}
  (I : Is K mg "read_words" st_read_words f fd ["text"])
  (z_enumerate : mg "enumerate" = none)
  (z_isinstance : mg "isinstance" = none)
  (z_len : mg "len" = none)
  (z_str : mg "str" = none)
  (k_MOST_NODES : mg "MOST_NODES" = some (.int 40 t_MOST_NODES))
  (I_word_in : Is K mg "word_in" st_word_in f_word_in fd_word_in ["text"])
  (Fn_word_in : FnG Pg w K mg base CX0 1 f_word_in fd_word_in ["text"] (spQ K [some .sh] .sh F_word_in)) :
  FnG Pg w K mg base CX0 2 f fd ["text"] (spQ K [some .sh] (.ow .sh) F_read_words) :=
 fn_q (n := 4) (G' := []) (Gb := []) I.F sc_read_words rfl rfl fun cdv A outer s H E W hr hgd =>
  (ss_cons (G1 := [some .sh, none, none, none, none]) (s_if (G1 := [some .sh, none, none, none, none]) (t_not (t_val (e_isi (T := "str") (q2e (v_sh (i := 0) rfl (vs_ rfl) rfl)) rfl z_isinstance rfl z_str boot_str))) (ss_one s_no) ss_nil) (ss_cons (G1 := [some .sh, some (.ow .sh), none, none, none]) (s_set (i := 1) sc_read_words.nd rfl (lc_ rfl) (e_list (n := 0) (m := .sh) es_nil)) (ss_cons (G1 := [some .sh, some (.ow .sh), none, none, none]) (s_for (is := [2, 3, 4]) (vs := [2, 3]) (Ge := [some .sh, some (.ow .sh), some .sh, some .sh, some .sh]) (Gc := [some .sh, some (.ow .sh), some .sh, some .sh, some .sh]) PassesOwn.never rfl (i_enum rfl z_enumerate (ar_v (e2s (q2e (q_split (v_k (i := 0) rfl (vs_ rfl) rfl) (q2k c_str)))) ar_nil)) (g_tup rfl (gs_cons (g_name (i := 2) sc_read_words.nd rfl (lc_ rfl)) (gs_cons (g_name (i := 3) sc_read_words.nd rfl (lc_ rfl)) gs_nil)) (gCons_len (gCons_len gNil_len))) (ss_cons (G1 := [some .sh, some (.ow .sh), some .sh, some .sh, some .sh]) (s_set (i := 4) sc_read_words.nd rfl (lc_ rfl) (e_call Fn_word_in (hr.mono (by decide)) hgd rfl I_word_in.m I_word_in.F.kp I_word_in.b (ar_v (q2e (v_sh (i := 3) rfl (vs_ rfl) rfl)) ar_nil))) (ss_cons (G1 := [some .sh, some (.ow .sh), some .sh, some .sh, some .sh]) (s_if (G1 := [some .sh, some (.ow .sh), some .sh, some .sh, some .sh]) (PW.pt (t_or (t_cmp op_isN fl_isN (v_k (i := 4) rfl (vs_ rfl) rfl) (q2k c_non) (nomark _)) (t_or (t_cmp (o_eq hr) fl_eq (v_k (i := 2) rfl (vs_ rfl) rfl) (q2k (c_glob (v := .int 40) (d := .int 40) rfl k_MOST_NODES ⟨_, rfl⟩ rfl)) (nomark _)) (t_or1 (PW.pt (t_and (t_cmp (o_ne hr) fl_ne (v_k (i := 1) rfl (vs_ rfl) rfl) (q2k q_nil) (nomark _)) (t_and1 (t_cmp (o_ne hr) fl_ne (q2k (n_len z_len (ks_cons (v_k (i := 4) rfl (vs_ rfl) rfl) ks_nil))) (q2k (n_len z_len (ks_cons (k_ix (v_k (i := 1) rfl (vs_ rfl) rfl) (q2k c_int)) ks_nil))) (nomark _))))))))) (ss_one s_no) ss_nil) (ss_one (s_expr (e_app (i := 1) rfl (vs_ rfl) rfl rfl (q2e (v_sh (i := 4) rfl (vs_ rfl) rfl)) (od0 (i := 1))))))) rfl rfl (fun _ _ => rfl)) (ss_one (s_ret (v_mv (i := 1) rfl (vs_ rfl) rfl))))))
/-! ### _law_draw -/
abbrev st__law_draw : Stmt := top 34
abbrev N__law_draw : List Str := ["_law_tap_here", "_law_bound", "_law_found"]
theorem sc__law_draw : FnScope N__law_draw ["_law_tap_here", "_law_bound"] (defScope st__law_draw) := ⟨rfl, rfl, rfl, by decide +kernel, rfl, by decide +kernel, by decide +kernel⟩
noncomputable def g__law_draw : En → Option Fl :=
 (sSeq (sIf (lb (lq (f2 gGe (f2 gIx (fV 0) (fC (.int 0))) (f2 gPow (fC (.int 10)) (fC (.int 18))))))
 ((sSeq (sSet 2 (lq (f2 gMod (fQ gInt (kCons (f2 gIx (fV 0) (fC (.int 0))) kNil)) (fV 1))))
 (sSeq (sSetI 0 (lq (f2 gFdiv (f2 gIx (fV 0) (fC (.int 0))) (fV 1))) (lq (fC (.int 0))))
 (sRt (lq (fV 2))))))
 (sNil))
 (sSeq (sSetI 0 (lq (f2 gMod (fQ gInt (kCons (f2 gAdd (f2 gMul (f2 gIx (fV 0) (fC (.int 1))) (fC (.int 69069))) (fC (.int 40503))) kNil)) (fC (.int 4294967291)))) (lq (fC (.int 1))))
 (sSeq (sSetI 0 (lq (f2 gMod (fQ gInt (kCons (f2 gAdd (f2 gMul (f2 gIx (fV 0) (fC (.int 2))) (f2 gIx (fV 0) (fC (.int 2)))) (f2 gIx (fV 0) (fC (.int 1)))) kNil)) (fC (.int 2147483587)))) (lq (fC (.int 2))))
 (sRt (lq (f2 gMod (fQ gInt (kCons (f2 gAdd (f2 gFdiv (f2 gIx (fV 0) (fC (.int 1))) (fC (.int 32))) (f2 gFdiv (f2 gIx (fV 0) (fC (.int 2))) (fC (.int 16)))) kNil)) (fV 1)))))))
noncomputable def F__law_draw : List D → Option (D × D) := semI .sh 1 0 g__law_draw
theorem b__law_draw {Pg : Program} {w : World} {K : Frg} {mg : Str → Option Value} {base : Heap} {f : Addr} {fd : FuncData}
  (I : Is K mg "_law_draw" st__law_draw f fd ["_law_tap_here", "_law_bound"])
  (z_int : mg "int" = none) :
  FnG Pg w K mg base CX0 1 f fd ["_law_tap_here", "_law_bound"] (spI K [some (.ow .sh), some .sh] 0 (.ow .sh) .sh F__law_draw) :=
 fn_i (n := 1) (G' := [some (.ow .sh), none, none]) (Gb := []) I.F sc__law_draw rfl rfl rfl (.inl rfl) fun cdv A outer s H E W u hr hgd =>
  (ss_cons (G1 := [some (.ow .sh), some .sh, none]) (s_if (G1 := [some (.ow .sh), some .sh, none]) (t_cmp op_ge fl_cmp (k_ix (v_k (i := 0) rfl (vs_ rfl) rfl) (q2k c_int)) (q2k (q_bin op_powW fl_pow (q2k c_int) (q2k c_int))) (nomark _)) (ss_cons (G1 := [some (.ow .sh), some .sh, some .sh]) (s_set (i := 2) sc__law_draw.nd rfl (lc_ rfl) (q2e (q_bin op_modN fl_mod (q2k (n_int z_int (ks_cons (k_ix (v_k (i := 0) rfl (vs_ rfl) rfl) (q2k c_int)) ks_nil))) (v_k (i := 1) rfl (vs_ rfl) rfl)))) (ss_cons (G1 := [some (.ow .sh), some .sh, some .sh]) (s_setI (i := 0) rfl (vs_ rfl) (q2e (q_bin op_fdivA fl_fdiv (k_ix (v_k (i := 0) rfl (vs_ rfl) rfl) (q2k c_int)) (v_k (i := 1) rfl (vs_ rfl) rfl))) (q2e c_int) rfl rfl rfl rfl rfl (od1 (i := 0) (j := 0) (u := u))) (ss_one (s_ret (q2e (v_sh (i := 2) rfl (vs_ rfl) rfl)))))) ss_nil) (ss_cons (G1 := [some (.ow .sh), some .sh, none]) (s_setI (i := 0) rfl (vs_ rfl) (q2e (q_bin op_modN fl_mod (q2k (n_int z_int (ks_cons (q2k (q_bin op_addA fl_add (q2k (q_bin op_mulA fl_mul (k_ix (v_k (i := 0) rfl (vs_ rfl) rfl) (q2k c_int)) (q2k c_int))) (q2k c_int))) ks_nil))) (q2k c_int))) (q2e c_int) rfl rfl rfl rfl rfl (od1 (i := 0) (j := 0) (u := u))) (ss_cons (G1 := [some (.ow .sh), some .sh, none]) (s_setI (i := 0) rfl (vs_ rfl) (q2e (q_bin op_modN fl_mod (q2k (n_int z_int (ks_cons (q2k (q_bin op_addA fl_add (q2k (q_bin op_mulA fl_mul (k_ix (v_k (i := 0) rfl (vs_ rfl) rfl) (q2k c_int)) (k_ix (v_k (i := 0) rfl (vs_ rfl) rfl) (q2k c_int)))) (k_ix (v_k (i := 0) rfl (vs_ rfl) rfl) (q2k c_int)))) ks_nil))) (q2k c_int))) (q2e c_int) rfl rfl rfl rfl rfl (od1 (i := 0) (j := 0) (u := u))) (ss_one (s_ret (q2e (q_bin op_modN fl_mod (q2k (n_int z_int (ks_cons (q2k (q_bin op_addA fl_add (q2k (q_bin op_fdivA fl_fdiv (k_ix (v_k (i := 0) rfl (vs_ rfl) rfl) (q2k c_int)) (q2k c_int))) (q2k (q_bin op_fdivA fl_fdiv (k_ix (v_k (i := 0) rfl (vs_ rfl) rfl) (q2k c_int)) (q2k c_int))))) ks_nil))) (v_k (i := 1) rfl (vs_ rfl) rfl))))))))
/-! ### _law_any_graph -/
abbrev st__law_any_graph : Stmt := top 36
abbrev N__law_any_graph : List Str := ["_law_tap_here", "_law_most", "_law_size", "_law_known", "_law_node", "_law_turn", "_law_one", "_law_other"]
theorem sc__law_any_graph : FnScope N__law_any_graph ["_law_tap_here", "_law_most"] (defScope st__law_any_graph) := ⟨rfl, rfl, rfl, by decide +kernel, rfl, by decide +kernel, by decide +kernel⟩
noncomputable def g__law_any_graph : En → Option Fl :=
 (sSeq (sSet 2 (e2 gAdd (lq (fC (.int 1))) (fClI F__law_draw 0 (aS 0 (aV (lq (fV 1)) aNil)))))
 (sSeq (sSet 3 (lq (fC (.dict []))))
 (sSeq (sFor (iR2 (aV (lq (fC (.int 1))) (aV (lq (fV 2)) aNil))) (gN 4) [4]
 ((sPut isKT 3 (lq (fC (.bool true))) (fT (aV (fClI F__law_draw 0 (aS 0 (aV (lq (fV 4)) aNil))) (aV (lq (fV 4)) aNil))))))
 (sSeq (sFor (iR1 (aV (fClI F__law_draw 0 (aS 0 (aV (lq (f2 gMul (fC (.int 3)) (fV 2))) aNil))) aNil)) (gN 5) [5, 6, 7]
 ((sSeq (sPar2 6 7 (aV (fClI F__law_draw 0 (aS 0 (aV (lq (fV 2)) aNil))) (aV (fClI F__law_draw 0 (aS 0 (aV (lq (fV 2)) aNil))) aNil)))
 (sIf (bAnd (lb (lq (f2 gNe (fV 6) (fV 7)))) (lb (lq (f2 gLt (fQ gLen (kCons (fV 3) kNil)) (fC (.int 200))))))
 ((sPut isKT 3 (lq (fC (.bool true))) (fT (aV (lq (fQ gMin (kCons (fV 6) (kCons (fV 7) kNil)))) (aV (lq (fQ gMax (kCons (fV 6) (kCons (fV 7) kNil)))) aNil)))))
 (sNil)))))
 (sRt (fT (aV (lq (fV 2)) (aV (lq (f1 gSorted (fV 3))) aNil))))))))
noncomputable def F__law_any_graph : List D → Option (D × D) := semI .sh 6 0 g__law_any_graph
theorem b__law_any_graph {Pg : Program} {w : World} {K : Frg} {mg : Str → Option Value} {base : Heap} {f : Addr} {fd : FuncData} {f__law_draw : Addr} {fd__law_draw : FuncData}
  (I : Is K mg "_law_any_graph" st__law_any_graph f fd ["_law_tap_here", "_law_most"])
  (z_len : mg "len" = none)
  (z_max : mg "max" = none)
  (z_min : mg "min" = none)
  (z_range : mg "range" = none)
  (z_sorted : mg "sorted" = none)
  (I__law_draw : Is K mg "_law_draw" st__law_draw f__law_draw fd__law_draw ["_law_tap_here", "_law_bound"])
  (Fn__law_draw : FnG Pg w K mg base CX0 1 f__law_draw fd__law_draw ["_law_tap_here", "_law_bound"] (spI K [some (.ow .sh), some .sh] 0 (.ow .sh) .sh F__law_draw)) :
  FnG Pg w K mg base CX0 2 f fd ["_law_tap_here", "_law_most"] (spI K [some (.ow .sh), some .sh] 0 (.ow .sh) .sh F__law_any_graph) :=
 fn_i (n := 6) (G' := [some (.ow .sh), none, none, none, none, none, none, none]) (Gb := []) I.F sc__law_any_graph rfl rfl rfl (.inl rfl) fun cdv A outer s H E W u hr hgd =>
  (ss_cons (G1 := [some (.ow .sh), some .sh, some .sh, none, none, none, none, none]) (s_set (i := 2) sc__law_any_graph.nd rfl (lc_ rfl) (e_bin op_addA fl_add (q2e c_int) (e_callI (i := 0) (j := 0) Fn__law_draw (hr.mono (by decide)) hgd rfl I__law_draw.m I__law_draw.F.kp I__law_draw.b (od1 (i := 0) (j := 0) (u := u)) rfl (ar_s (i := 0) rfl (vs_ rfl) rfl rfl (ar_v (q2e (v_sh (i := 1) rfl (vs_ rfl) rfl)) ar_nil))))) (ss_cons (G1 := [some (.ow .sh), some .sh, some .sh, some (.dc true), none, none, none, none]) (s_set (i := 3) sc__law_any_graph.nd rfl (lc_ rfl) e_dictT) (ss_cons (G1 := [some (.ow .sh), some .sh, some .sh, some (.dc true), none, none, none, none]) (s_for (is := [4]) (vs := [4]) (Ge := [some (.ow .sh), some .sh, some .sh, some (.dc true), some .sh, none, none, none]) (Gc := [some (.ow .sh), some .sh, some .sh, some (.dc true), some .sh, none, none, none]) PassesOwn.never rfl (i_range2 rfl z_range (ar_v (q2e c_int) (ar_v (q2e (v_sh (i := 2) rfl (vs_ rfl) rfl)) ar_nil))) (g_name (i := 4) sc__law_any_graph.nd rfl (lc_ rfl)) (ss_one (s_putT (i := 3) hr.units rfl (vs_ rfl) (q2e c_bl) (e_tup (ms := [.sh, .sh]) (es_cons (e_callI (i := 0) (j := 0) Fn__law_draw (hr.mono (by decide)) hgd rfl I__law_draw.m I__law_draw.F.kp I__law_draw.b (od1 (i := 0) (j := 0) (u := u)) rfl (ar_s (i := 0) rfl (vs_ rfl) rfl rfl (ar_v (q2e (v_sh (i := 4) rfl (vs_ rfl) rfl)) ar_nil))) (es_cons (q2e (v_sh (i := 4) rfl (vs_ rfl) rfl)) es_nil))) rfl rfl rfl rfl rfl rfl (od1 (i := 3) (j := 0) (u := u)))) rfl rfl (pin_off (by decide))) (ss_cons (G1 := [some (.ow .sh), some .sh, some .sh, some (.dc true), none, none, none, none]) (s_for (is := [5, 6, 7]) (vs := [5]) (Ge := [some (.ow .sh), some .sh, some .sh, some (.dc true), none, some .sh, some .sh, some .sh]) (Gc := [some (.ow .sh), some .sh, some .sh, some (.dc true), none, some .sh, some .sh, some .sh]) PassesOwn.never rfl (i_range1 rfl z_range (ar_v (e_callI (i := 0) (j := 0) Fn__law_draw (hr.mono (by decide)) hgd rfl I__law_draw.m I__law_draw.F.kp I__law_draw.b (od1 (i := 0) (j := 0) (u := u)) rfl (ar_s (i := 0) rfl (vs_ rfl) rfl rfl (ar_v (q2e (q_bin op_mulA fl_mul (q2k c_int) (v_k (i := 2) rfl (vs_ rfl) rfl))) ar_nil))) ar_nil)) (g_name (i := 5) sc__law_any_graph.nd rfl (lc_ rfl)) (ss_cons (G1 := [some (.ow .sh), some .sh, some .sh, some (.dc true), none, some .sh, some .sh, some .sh]) (s_par2 (i := 6) (j := 7) (m1 := .sh) (m2 := .sh) rfl sc__law_any_graph.nd rfl rfl rfl rfl (es_cons (e_callI (i := 0) (j := 0) Fn__law_draw (hr.mono (by decide)) hgd rfl I__law_draw.m I__law_draw.F.kp I__law_draw.b (od1 (i := 0) (j := 0) (u := u)) rfl (ar_s (i := 0) rfl (vs_ rfl) rfl rfl (ar_v (q2e (v_sh (i := 2) rfl (vs_ rfl) rfl)) ar_nil))) (es_cons (e_callI (i := 0) (j := 0) Fn__law_draw (hr.mono (by decide)) hgd rfl I__law_draw.m I__law_draw.F.kp I__law_draw.b (od1 (i := 0) (j := 0) (u := u)) rfl (ar_s (i := 0) rfl (vs_ rfl) rfl rfl (ar_v (q2e (v_sh (i := 2) rfl (vs_ rfl) rfl)) ar_nil))) es_nil)) rfl) (ss_one (s_if (G1 := [some (.ow .sh), some .sh, some .sh, some (.dc true), none, some .sh, some .sh, some .sh]) (PW.pt (t_and (t_cmp (o_ne hr) fl_ne (v_k (i := 6) rfl (vs_ rfl) rfl) (v_k (i := 7) rfl (vs_ rfl) rfl) (nomark _)) (t_and1 (t_cmp op_lt fl_cmp (q2k (n_len z_len (ks_cons (v_k (i := 3) rfl (vs_ rfl) rfl) ks_nil))) (q2k c_int) (nomark _))))) (ss_one (s_putT (i := 3) hr.units rfl (vs_ rfl) (q2e c_bl) (e_tup (ms := [.sh, .sh]) (es_cons (q2e (n_min rfl z_min (ks_cons (v_k (i := 6) rfl (vs_ rfl) rfl) (ks_cons (v_k (i := 7) rfl (vs_ rfl) rfl) ks_nil)))) (es_cons (q2e (n_max rfl z_max (ks_cons (v_k (i := 6) rfl (vs_ rfl) rfl) (ks_cons (v_k (i := 7) rfl (vs_ rfl) rfl) ks_nil)))) es_nil))) rfl rfl rfl rfl rfl rfl (od1 (i := 3) (j := 0) (u := u)))) ss_nil))) rfl rfl (pin_off (by decide))) (ss_one (s_ret (e2s (e_tup (ms := [.sh, .sh]) (es_cons (q2e (v_sh (i := 2) rfl (vs_ rfl) rfl)) (es_cons (e2s (q2e (q_srt rfl z_sorted (v_p (i := 3) rfl (vs_ rfl) rfl)))) es_nil))))))))))
/-! ### _law_number -/
abbrev st__law_number : Stmt := top 38
abbrev N__law_number : List Str := ["_law_number_here", "_law_digits"]
theorem sc__law_number : FnScope N__law_number ["_law_number_here"] (defScope st__law_number) := ⟨rfl, rfl, rfl, by decide +kernel, rfl, by decide +kernel, by decide +kernel⟩
noncomputable def g__law_number (F__law_number : List D → Option D) : En → Option Fl :=
 (sSeq (sSet 1 (lq (fC (.str (Str.ofString "0123456789")))))
 (sRt (fIf (lb (lq (f2 gLt (fV 0) (fC (.int 10))))) (lq (f2 gIx (fV 1) (fV 0))) (e2 gAdd (fCl F__law_number (aV (lq (f2 gFdiv (fV 0) (fC (.int 10)))) aNil)) (lq (f2 gIx (fV 1) (f2 gMod (fQ gInt (kCons (fV 0) kNil)) (fC (.int 10)))))))))
noncomputable def F__law_number_0 : List D → Option D := fun _ => none
noncomputable def F__law_number_1 : List D → Option D := semQ .sh 1 (g__law_number F__law_number_0)
noncomputable def F__law_number_2 : List D → Option D := semQ .sh 1 (g__law_number F__law_number_1)
noncomputable def F__law_number_3 : List D → Option D := semQ .sh 1 (g__law_number F__law_number_2)
noncomputable abbrev F__law_number : List D → Option D := F__law_number_3
theorem b__law_number_1 {Pg : Program} {w : World} {K : Frg} {mg : Str → Option Value} {base : Heap} {f : Addr} {fd : FuncData}
  (I : Is K mg "_law_number" st__law_number f fd ["_law_number_here"])
  (z_int : mg "int" = none)
  (Fn__law_number : FnG Pg w K mg base CX0 0 f fd ["_law_number_here"] (spQ K [some .sh] .sh F__law_number_0)) :
  FnG Pg w K mg base CX0 1 f fd ["_law_number_here"] (spQ K [some .sh] .sh F__law_number_1) :=
 fn_q (n := 1) (G' := []) (Gb := []) I.F sc__law_number rfl rfl fun cdv A outer s H E W hr hgd =>
  (ss_cons (G1 := [some .sh, some .sh]) (s_set (i := 1) sc__law_number.nd rfl (lc_ rfl) (q2e c_str)) (ss_one (s_ret (e_if (t_cmp op_lt fl_cmp (v_k (i := 0) rfl (vs_ rfl) rfl) (q2k c_int) (nomark _)) (q2e (q_ix (v_p (i := 1) rfl (vs_ rfl) rfl) (v_k (i := 0) rfl (vs_ rfl) rfl))) (e_bin op_addA fl_add (e_call Fn__law_number (hr.mono (by decide)) hgd rfl I.m I.F.kp I.b (ar_v (q2e (q_bin op_fdivA fl_fdiv (v_k (i := 0) rfl (vs_ rfl) rfl) (q2k c_int))) ar_nil)) (q2e (q_ix (v_p (i := 1) rfl (vs_ rfl) rfl) (q2k (q_bin op_modN fl_mod (q2k (n_int z_int (ks_cons (v_k (i := 0) rfl (vs_ rfl) rfl) ks_nil))) (q2k c_int))))))))))
theorem b__law_number_2 {Pg : Program} {w : World} {K : Frg} {mg : Str → Option Value} {base : Heap} {f : Addr} {fd : FuncData}
  (I : Is K mg "_law_number" st__law_number f fd ["_law_number_here"])
  (z_int : mg "int" = none)
  (Fn__law_number : FnG Pg w K mg base CX0 1 f fd ["_law_number_here"] (spQ K [some .sh] .sh F__law_number_1)) :
  FnG Pg w K mg base CX0 2 f fd ["_law_number_here"] (spQ K [some .sh] .sh F__law_number_2) :=
 fn_q (n := 1) (G' := []) (Gb := []) I.F sc__law_number rfl rfl fun cdv A outer s H E W hr hgd =>
  (ss_cons (G1 := [some .sh, some .sh]) (s_set (i := 1) sc__law_number.nd rfl (lc_ rfl) (q2e c_str)) (ss_one (s_ret (e_if (t_cmp op_lt fl_cmp (v_k (i := 0) rfl (vs_ rfl) rfl) (q2k c_int) (nomark _)) (q2e (q_ix (v_p (i := 1) rfl (vs_ rfl) rfl) (v_k (i := 0) rfl (vs_ rfl) rfl))) (e_bin op_addA fl_add (e_call Fn__law_number (hr.mono (by decide)) hgd rfl I.m I.F.kp I.b (ar_v (q2e (q_bin op_fdivA fl_fdiv (v_k (i := 0) rfl (vs_ rfl) rfl) (q2k c_int))) ar_nil)) (q2e (q_ix (v_p (i := 1) rfl (vs_ rfl) rfl) (q2k (q_bin op_modN fl_mod (q2k (n_int z_int (ks_cons (v_k (i := 0) rfl (vs_ rfl) rfl) ks_nil))) (q2k c_int))))))))))
theorem b__law_number_3 {Pg : Program} {w : World} {K : Frg} {mg : Str → Option Value} {base : Heap} {f : Addr} {fd : FuncData}
  (I : Is K mg "_law_number" st__law_number f fd ["_law_number_here"])
  (z_int : mg "int" = none)
  (Fn__law_number : FnG Pg w K mg base CX0 2 f fd ["_law_number_here"] (spQ K [some .sh] .sh F__law_number_2)) :
  FnG Pg w K mg base CX0 3 f fd ["_law_number_here"] (spQ K [some .sh] .sh F__law_number_3) :=
 fn_q (n := 1) (G' := []) (Gb := []) I.F sc__law_number rfl rfl fun cdv A outer s H E W hr hgd =>
  (ss_cons (G1 := [some .sh, some .sh]) (s_set (i := 1) sc__law_number.nd rfl (lc_ rfl) (q2e c_str)) (ss_one (s_ret (e_if (t_cmp op_lt fl_cmp (v_k (i := 0) rfl (vs_ rfl) rfl) (q2k c_int) (nomark _)) (q2e (q_ix (v_p (i := 1) rfl (vs_ rfl) rfl) (v_k (i := 0) rfl (vs_ rfl) rfl))) (e_bin op_addA fl_add (e_call Fn__law_number (hr.mono (by decide)) hgd rfl I.m I.F.kp I.b (ar_v (q2e (q_bin op_fdivA fl_fdiv (v_k (i := 0) rfl (vs_ rfl) rfl) (q2k c_int))) ar_nil)) (q2e (q_ix (v_p (i := 1) rfl (vs_ rfl) rfl) (q2k (q_bin op_modN fl_mod (q2k (n_int z_int (ks_cons (v_k (i := 0) rfl (vs_ rfl) rfl) ks_nil))) (q2k c_int))))))))))
theorem b__law_number {Pg : Program} {w : World} {K : Frg} {mg : Str → Option Value} {base : Heap} {f : Addr} {fd : FuncData}
  (I : Is K mg "_law_number" st__law_number f fd ["_law_number_here"])
  (z_int : mg "int" = none) :
  FnG Pg w K mg base CX0 3 f fd ["_law_number_here"] (spQ K [some .sh] .sh F__law_number) :=
 (b__law_number_3 I z_int (b__law_number_2 I z_int (b__law_number_1 I z_int fn_none)))
/-! ### _law_graph_text -/
abbrev st__law_graph_text : Stmt := top 39
abbrev N__law_graph_text : List Str := ["_law_graph", "_law_found", "_law_one", "_law_other"]
theorem sc__law_graph_text : FnScope N__law_graph_text ["_law_graph"] (defScope st__law_graph_text) := ⟨rfl, rfl, rfl, by decide +kernel, rfl, by decide +kernel, by decide +kernel⟩
noncomputable def g__law_graph_text : En → Option Fl :=
 (sSeq (sSet 1 (e2 gAdd (fCl F__law_number (aV (lq (f2 gIx (fV 0) (fC (.int 0)))) aNil)) (lq (fC (.str (Str.ofString ":"))))))
 (sSeq (sFor (iL (lq (f2 gIx (fV 0) (fC (.int 1))))) (gT (gCons (gN 2) (gCons (gN 3) gNil))) [2, 3]
 ((sSet 1 (e2 gAdd (e2 gAdd (e2 gAdd (lq (f2 gAdd (fV 1) (fC (.str (Str.ofString " "))))) (fCl F__law_number (aV (lq (fV 2)) aNil))) (lq (fC (.str (Str.ofString "-"))))) (fCl F__law_number (aV (lq (fV 3)) aNil))))))
 (sRt (lq (fV 1)))))
noncomputable def F__law_graph_text : List D → Option D := semQ .sh 3 g__law_graph_text
theorem b__law_graph_text {Pg : Program} {w : World} {K : Frg} {mg : Str → Option Value} {base : Heap} {f : Addr} {fd : FuncData} {f__law_number : Addr} {fd__law_number : FuncData}
  (I : Is K mg "_law_graph_text" st__law_graph_text f fd ["_law_graph"])
  (I__law_number : Is K mg "_law_number" st__law_number f__law_number fd__law_number ["_law_number_here"])
  (Fn__law_number : FnG Pg w K mg base CX0 3 f__law_number fd__law_number ["_law_number_here"] (spQ K [some .sh] .sh F__law_number)) :
  FnG Pg w K mg base CX0 4 f fd ["_law_graph"] (spQ K [some .sh] .sh F__law_graph_text) :=
 fn_q (n := 3) (G' := []) (Gb := []) I.F sc__law_graph_text rfl rfl fun cdv A outer s H E W hr hgd =>
  (ss_cons (G1 := [some .sh, some .sh, none, none]) (s_set (i := 1) sc__law_graph_text.nd rfl (lc_ rfl) (e_bin op_addA fl_add (e_call Fn__law_number (hr.mono (by decide)) hgd rfl I__law_number.m I__law_number.F.kp I__law_number.b (ar_v (q2e (q_ix (v_p (i := 0) rfl (vs_ rfl) rfl) (q2k c_int))) ar_nil)) (q2e c_str))) (ss_cons (G1 := [some .sh, some .sh, none, none]) (s_for (is := [2, 3]) (vs := [2, 3]) (Ge := [some .sh, some .sh, some .sh, some .sh]) (Gc := [some .sh, some .sh, some .sh, some .sh]) PassesOwn.never rfl (i_list (q2e (q_ix (v_p (i := 0) rfl (vs_ rfl) rfl) (q2k c_int)))) (g_tup rfl (gs_cons (g_name (i := 2) sc__law_graph_text.nd rfl (lc_ rfl)) (gs_cons (g_name (i := 3) sc__law_graph_text.nd rfl (lc_ rfl)) gs_nil)) (gCons_len (gCons_len gNil_len))) (ss_one (s_set (i := 1) sc__law_graph_text.nd rfl (lc_ rfl) (e_bin op_addA fl_add (e_bin op_addA fl_add (e_bin op_addA fl_add (q2e (q_bin op_addA fl_add (v_k (i := 1) rfl (vs_ rfl) rfl) (q2k c_str))) (e_call Fn__law_number (hr.mono (by decide)) hgd rfl I__law_number.m I__law_number.F.kp I__law_number.b (ar_v (q2e (v_sh (i := 2) rfl (vs_ rfl) rfl)) ar_nil))) (q2e c_str)) (e_call Fn__law_number (hr.mono (by decide)) hgd rfl I__law_number.m I__law_number.F.kp I__law_number.b (ar_v (q2e (v_sh (i := 3) rfl (vs_ rfl) rfl)) ar_nil))))) rfl rfl (fun _ _ => rfl)) (ss_one (s_ret (q2e (v_sh (i := 1) rfl (vs_ rfl) rfl))))))
/-! ### _law_right -/
abbrev st__law_right : Stmt := top 40
abbrev N__law_right : List Str := ["_law_tap_here", "_law_graph", "_law_given", "_law_text", "_law_found", "_law_many", "_law_wide", "_law_words", "_law_handed", "_law_turn", "_law_k", "_law_word"]
theorem sc__law_right : FnScope N__law_right ["_law_tap_here"] (defScope st__law_right) := ⟨rfl, rfl, rfl, by decide +kernel, rfl, by decide +kernel, by decide +kernel⟩
noncomputable def g__law_right : En → Option Fl :=
 (sSeq (sSet 1 (fClI F__law_any_graph 0 (aS 0 (aV (e2 gIx (fL (aV (lq (fC (.int 1))) (aV (lq (fC (.int 3))) (aV (lq (fC (.int 12))) (aV (lq (fC (.int 40))) aNil))))) (fClI F__law_draw 0 (aS 0 (aV (lq (fC (.int 4))) aNil)))) aNil))))
 (sSeq (sPar2 2 3 (aV (fT (aV (lq (f2 gIx (fV 1) (fC (.int 0)))) (aV (lq (f1 gList (f2 gIx (fV 1) (fC (.int 1))))) aNil))) (aV (fCl F__law_graph_text (aV (lq (fV 1)) aNil)) aNil)))
 (sSeq (sIf (bOr (lb (e2 gNe (fCl gRepr (aV (fCl F_show_graph (aV (lq (fV 2)) aNil)) aNil)) (lq (fQ gRepr (kCons (fV 3) kNil))))) (lb (lq (f2 gNe (fV 2) (fV 1)))))
 ((sRt (lq (fC (.bool false)))))
 (sNil))
 (sSeq (sSet 4 (fCl F_read_graph (aV (lq (fV 3)) aNil)))
 (sSeq (sIf (lb (lq (f2 gNe (fQ gRepr (kCons (fV 4) kNil)) (fQ gRepr (kCons (fV 1) kNil)))))
 ((sRt (lq (fC (.bool false)))))
 (sNil))
 (sSeq (sEx (fAppT 4 1 (fC .none)))
 (sSeq (sIf (lb (e2 gNe (fCl F_read_graph (aV (lq (fV 3)) aNil)) (lq (fV 1))))
 ((sRt (lq (fC (.bool false)))))
 (sNil))
 (sSeq (sUnp2 5 6 (fT (aV (e2 gAdd (lq (fC (.int 1))) (fClI F__law_draw 0 (aS 0 (aV (lq (fC (.int 40))) aNil)))) (aV (fClI F__law_draw 0 (aS 0 (aV (e2 gIx (fL (aV (lq (fC (.int 4))) (aV (lq (fC (.int 41))) aNil))) (fClI F__law_draw 0 (aS 0 (aV (lq (fC (.int 2))) aNil)))) aNil))) aNil))))
 (sSeq (sSet 7 (fLc (iR1 (aV (lq (fV 5)) aNil)) (gN 9) [9] bYes (e2 gJoin (lq (fC (.str (Str.ofString "")))) (fLc (iR1 (aV (lq (fV 6)) aNil)) (gN 10) [10] bYes (fCl gStr (aV (fClI F__law_draw 0 (aS 0 (aV (lq (fC (.int 2))) aNil))) aNil))))))
 (sSeq (sPar2 8 3 (aV (lq (f1 gList (fV 7))) (aV (e2 gJoin (lq (fC (.str (Str.ofString " ")))) (fLc (iL (lq (fV 7))) (gN 11) [11] bYes (fIf (lb (lq (f2 gGt (fV 6) (fC (.int 0))))) (lq (fV 11)) (lq (fC (.str (Str.ofString "."))))))) aNil)))
 (sSeq (sIf (bOr (lb (e2 gNe (fCl gRepr (aV (fCl F_show_words (aV (lq (fV 8)) aNil)) aNil)) (lq (fQ gRepr (kCons (fV 3) kNil))))) (lb (lq (f2 gNe (fV 8) (fV 7)))))
 ((sRt (lq (fC (.bool false)))))
 (sNil))
 (sSeq (sSet 4 (fCl F_read_words (aV (lq (fV 3)) aNil)))
 (sSeq (sIf (lb (lq (f2 gNe (fQ gRepr (kCons (fV 4) kNil)) (fQ gRepr (kCons (fV 7) kNil)))))
 ((sRt (lq (fC (.bool false)))))
 (sNil))
 (sSeq (sEx (fApp 4 (lq (fC (.str (Str.ofString ""))))))
 (sRt (e2 gEq (fCl F_read_words (aV (lq (fV 3)) aNil)) (lq (fV 7))))))))))))))))))
noncomputable def F__law_right : List D → Option (D × D) := semI .sh 11 0 g__law_right
theorem b__law_right {Pg : Program} {w : World} {K : Frg} {mg : Str → Option Value} {base : Heap} {f : Addr} {fd : FuncData} {f_show_graph f_read_graph f_show_words f_read_words f__law_draw f__law_any_graph f__law_graph_text : Addr} {fd_show_graph fd_read_graph fd_show_words fd_read_words fd__law_draw fd__law_any_graph fd__law_graph_text : FuncData}
  (I : Is K mg "_law_right" st__law_right f fd ["_law_tap_here"])
  (z_list : mg "list" = none)
  (z_range : mg "range" = none)
  (z_repr : mg "repr" = none)
  (z_str : mg "str" = none)
  (I_show_graph : Is K mg "show_graph" st_show_graph f_show_graph fd_show_graph ["graph"])
  (Fn_show_graph : FnG Pg w K mg base CX0 5 f_show_graph fd_show_graph ["graph"] (spQ K [some .sh] .sh F_show_graph))
  (I_read_graph : Is K mg "read_graph" st_read_graph f_read_graph fd_read_graph ["text"])
  (Fn_read_graph : FnG Pg w K mg base CX0 3 f_read_graph fd_read_graph ["text"] (spQ K [some .sh] (.tu [.sh, (.ow .sh)]) F_read_graph))
  (I_show_words : Is K mg "show_words" st_show_words f_show_words fd_show_words ["words"])
  (Fn_show_words : FnG Pg w K mg base CX0 3 f_show_words fd_show_words ["words"] (spQ K [some .sh] .sh F_show_words))
  (I_read_words : Is K mg "read_words" st_read_words f_read_words fd_read_words ["text"])
  (Fn_read_words : FnG Pg w K mg base CX0 2 f_read_words fd_read_words ["text"] (spQ K [some .sh] (.ow .sh) F_read_words))
  (I__law_draw : Is K mg "_law_draw" st__law_draw f__law_draw fd__law_draw ["_law_tap_here", "_law_bound"])
  (Fn__law_draw : FnG Pg w K mg base CX0 1 f__law_draw fd__law_draw ["_law_tap_here", "_law_bound"] (spI K [some (.ow .sh), some .sh] 0 (.ow .sh) .sh F__law_draw))
  (I__law_any_graph : Is K mg "_law_any_graph" st__law_any_graph f__law_any_graph fd__law_any_graph ["_law_tap_here", "_law_most"])
  (Fn__law_any_graph : FnG Pg w K mg base CX0 2 f__law_any_graph fd__law_any_graph ["_law_tap_here", "_law_most"] (spI K [some (.ow .sh), some .sh] 0 (.ow .sh) .sh F__law_any_graph))
  (I__law_graph_text : Is K mg "_law_graph_text" st__law_graph_text f__law_graph_text fd__law_graph_text ["_law_graph"])
  (Fn__law_graph_text : FnG Pg w K mg base CX0 4 f__law_graph_text fd__law_graph_text ["_law_graph"] (spQ K [some .sh] .sh F__law_graph_text)) :
  FnG Pg w K mg base CX0 6 f fd ["_law_tap_here"] (spI K [some (.ow .sh)] 0 (.ow .sh) .sh F__law_right) :=
 fn_i (n := 11) (G' := [some (.ow .sh), none, none, none, none, none, none, none, none, none, none, none]) (Gb := []) I.F sc__law_right rfl rfl rfl (.inl rfl) fun cdv A outer s H E W u hr hgd =>
  (ss_cons (G1 := [some (.ow .sh), some .sh, none, none, none, none, none, none, none, none, none, none]) (s_set (i := 1) sc__law_right.nd rfl (lc_ rfl) (e_callI (i := 0) (j := 0) Fn__law_any_graph (hr.mono (by decide)) hgd rfl I__law_any_graph.m I__law_any_graph.F.kp I__law_any_graph.b (od1 (i := 0) (j := 0) (u := u)) rfl (ar_s (i := 0) rfl (vs_ rfl) rfl rfl (ar_v (e_ix (e2s (e_list (n := 4) (m := .sh) (es_cons (q2e c_int) (es_cons (q2e c_int) (es_cons (q2e c_int) (es_cons (q2e c_int) es_nil)))))) (e_callI (i := 0) (j := 0) Fn__law_draw (hr.mono (by decide)) hgd rfl I__law_draw.m I__law_draw.F.kp I__law_draw.b (od1 (i := 0) (j := 0) (u := u)) rfl (ar_s (i := 0) rfl (vs_ rfl) rfl rfl (ar_v (q2e c_int) ar_nil)))) ar_nil)))) (ss_cons (G1 := [some (.ow .sh), some .sh, some .sh, some .sh, none, none, none, none, none, none, none, none]) (s_par2 (i := 2) (j := 3) (m1 := .sh) (m2 := .sh) rfl sc__law_right.nd rfl rfl rfl rfl (es_cons (e2s (e_tup (ms := [.sh, .sh]) (es_cons (q2e (q_ix (v_p (i := 1) rfl (vs_ rfl) rfl) (q2k c_int))) (es_cons (e2s (q2e (q_list z_list (q2p (q_ix (v_p (i := 1) rfl (vs_ rfl) rfl) (q2k c_int)))))) es_nil)))) (es_cons (e_call Fn__law_graph_text (hr.mono (by decide)) hgd rfl I__law_graph_text.m I__law_graph_text.F.kp I__law_graph_text.b (ar_v (q2e (v_sh (i := 1) rfl (vs_ rfl) rfl)) ar_nil)) es_nil)) rfl) (ss_cons (G1 := [some (.ow .sh), some .sh, some .sh, some .sh, none, none, none, none, none, none, none, none]) (s_if (G1 := [some (.ow .sh), some .sh, some .sh, some .sh, none, none, none, none, none, none, none, none]) (PW.pt (t_or (t_cmpE (o_ne hr) fl_ne (b_repr hr hgd z_repr (ar_v (e_call Fn_show_graph (hr.mono (by decide)) hgd rfl I_show_graph.m I_show_graph.F.kp I_show_graph.b (ar_v (q2e (v_sh (i := 2) rfl (vs_ rfl) rfl)) ar_nil)) ar_nil)) (q2e (n_repr hr hgd z_repr (ks_cons (v_k (i := 3) rfl (vs_ rfl) rfl) ks_nil))) (nomark _)) (t_or1 (t_cmp (o_ne hr) fl_ne (v_k (i := 2) rfl (vs_ rfl) rfl) (v_k (i := 1) rfl (vs_ rfl) rfl) (nomark _))))) (ss_one (s_ret (q2e c_bl))) ss_nil) (ss_cons (G1 := [some (.ow .sh), some .sh, some .sh, some .sh, some (.tu [.sh, (.ow .sh)]), none, none, none, none, none, none, none]) (s_set (i := 4) sc__law_right.nd rfl (lc_ rfl) (e_call Fn_read_graph (hr.mono (by decide)) hgd rfl I_read_graph.m I_read_graph.F.kp I_read_graph.b (ar_v (q2e (v_sh (i := 3) rfl (vs_ rfl) rfl)) ar_nil))) (ss_cons (G1 := [some (.ow .sh), some .sh, some .sh, some .sh, some (.tu [.sh, (.ow .sh)]), none, none, none, none, none, none, none]) (s_if (G1 := [some (.ow .sh), some .sh, some .sh, some .sh, some (.tu [.sh, (.ow .sh)]), none, none, none, none, none, none, none]) (t_cmp (o_ne hr) fl_ne (q2k (n_repr hr hgd z_repr (ks_cons (v_k (i := 4) rfl (vs_ rfl) rfl) ks_nil))) (q2k (n_repr hr hgd z_repr (ks_cons (v_k (i := 1) rfl (vs_ rfl) rfl) ks_nil))) (nomark _)) (ss_one (s_ret (q2e c_bl))) ss_nil) (ss_cons (G1 := [some (.ow .sh), some .sh, some .sh, some .sh, some (.tu [.sh, (.ow .sh)]), none, none, none, none, none, none, none]) (s_expr (e_appT (i := 4) (n := 1) (ms := [.sh, (.ow .sh)]) (m := .sh) rfl (vs_ rfl) rfl rfl (q2k c_int) c_non (od1 (i := 4) (j := 0) (u := u)))) (ss_cons (G1 := [some (.ow .sh), some .sh, some .sh, some .sh, some (.tu [.sh, (.ow .sh)]), none, none, none, none, none, none, none]) (s_if (G1 := [some (.ow .sh), some .sh, some .sh, some .sh, some (.tu [.sh, (.ow .sh)]), none, none, none, none, none, none, none]) (t_cmpE (o_ne hr) fl_ne (e2s (e_call Fn_read_graph (hr.mono (by decide)) hgd rfl I_read_graph.m I_read_graph.F.kp I_read_graph.b (ar_v (q2e (v_sh (i := 3) rfl (vs_ rfl) rfl)) ar_nil))) (q2e (v_sh (i := 1) rfl (vs_ rfl) rfl)) (nomark _)) (ss_one (s_ret (q2e c_bl))) ss_nil) (ss_cons (G1 := [some (.ow .sh), some .sh, some .sh, some .sh, some (.tu [.sh, (.ow .sh)]), some .sh, some .sh, none, none, none, none, none]) (s_unp2 (i := 5) (j := 6) (m1 := .sh) (m2 := .sh) rfl sc__law_right.nd rfl rfl (lc_ rfl) (lc_ rfl) (e_tup (ms := [.sh, .sh]) (es_cons (e_bin op_addA fl_add (q2e c_int) (e_callI (i := 0) (j := 0) Fn__law_draw (hr.mono (by decide)) hgd rfl I__law_draw.m I__law_draw.F.kp I__law_draw.b (od1 (i := 0) (j := 0) (u := u)) rfl (ar_s (i := 0) rfl (vs_ rfl) rfl rfl (ar_v (q2e c_int) ar_nil)))) (es_cons (e_callI (i := 0) (j := 0) Fn__law_draw (hr.mono (by decide)) hgd rfl I__law_draw.m I__law_draw.F.kp I__law_draw.b (od1 (i := 0) (j := 0) (u := u)) rfl (ar_s (i := 0) rfl (vs_ rfl) rfl rfl (ar_v (e_ix (e2s (e_list (n := 2) (m := .sh) (es_cons (q2e c_int) (es_cons (q2e c_int) es_nil)))) (e_callI (i := 0) (j := 0) Fn__law_draw (hr.mono (by decide)) hgd rfl I__law_draw.m I__law_draw.F.kp I__law_draw.b (od1 (i := 0) (j := 0) (u := u)) rfl (ar_s (i := 0) rfl (vs_ rfl) rfl rfl (ar_v (q2e c_int) ar_nil)))) ar_nil))) es_nil))) rfl) (ss_cons (G1 := [some (.ow .sh), some .sh, some .sh, some .sh, some (.tu [.sh, (.ow .sh)]), some .sh, some .sh, some .sh, none, none, none, none]) (s_setLcS (i := 7) (own := [("_law_turn", 9)]) rfl sc__law_right.nd rfl rfl (sw_true rfl rfl rfl (by decide +kernel)) (i_range1 rfl z_range (ar_v (q2e (v_sh (i := 5) rfl (vs_ rfl) rfl)) ar_nil)) (blkOk_by (own := [("_law_turn", 9)]) (N := N__law_right) (sc := defScope st__law_right) (by decide +kernel)) (fun _ _ _ _ _ => (g_name (i := 9) sc__law_right.nd rfl (lc_ rfl))) (fun _ _ _ _ _ => t_yes) (fun _ _ _ _ _ => (e_join (q2e c_str) (e2s (e_lc (own := [("_law_k", 10)]) (m := .sh) (G2 := [some (.ow .sh), some .sh, some .sh, some .sh, some (.tu [.sh, (.ow .sh)]), some .sh, some .sh, none, none, some .sh, none, none]) rfl sc__law_right.nd (i_range1 rfl z_range (ar_v (q2e (v_sh (i := 6) rfl (vs_ rfl) rfl)) ar_nil)) (blkOk_by (own := [("_law_k", 10)]) (N := N__law_right)  rfl) (fun _ _ _ _ _ => (g_name (i := 10) sc__law_right.nd rfl (lc_ rfl))) (fun _ _ _ _ _ => t_yes) (fun _ _ _ _ _ => (b_str z_str (ar_v (e_callI (i := 0) (j := 0) Fn__law_draw (hr.mono (by decide)) hgd rfl I__law_draw.m I__law_draw.F.kp I__law_draw.b (od1 (i := 0) (j := 0) (u := u)) rfl (ar_s (i := 0) rfl (vs_ rfl) rfl rfl (ar_v (q2e c_int) ar_nil))) ar_nil))) rfl rfl (pin_off (by decide)))))) rfl rfl rfl (pin_off (by decide)) (by decide) rfl) (ss_cons (G1 := [some (.ow .sh), some .sh, some .sh, some .sh, some (.tu [.sh, (.ow .sh)]), some .sh, some .sh, some .sh, some .sh, none, none, none]) (s_par2 (i := 8) (j := 3) (m1 := .sh) (m2 := .sh) rfl sc__law_right.nd rfl rfl rfl rfl (es_cons (e2s (q2e (q_list z_list (v_p (i := 7) rfl (vs_ rfl) rfl)))) (es_cons (e_join (q2e c_str) (e2s (e_lc (own := [("_law_word", 11)]) (m := .sh) (G2 := [some (.ow .sh), some .sh, some .sh, some .sh, some (.tu [.sh, (.ow .sh)]), some .sh, some .sh, some .sh, none, none, none, none]) rfl sc__law_right.nd (i_list (q2e (v_sh (i := 7) rfl (vs_ rfl) rfl))) (blkOk_by (own := [("_law_word", 11)]) (N := N__law_right) (sc := defScope st__law_right) (by decide +kernel)) (fun _ _ _ _ _ => (g_name (i := 11) sc__law_right.nd rfl (lc_ rfl))) (fun _ _ _ _ _ => t_yes) (fun _ _ _ _ _ => (e_if (t_cmp op_gt fl_cmp (v_k (i := 6) rfl (vs_ rfl) rfl) (q2k c_int) (nomark _)) (q2e (v_sh (i := 11) rfl (vs_ rfl) rfl)) (q2e c_str))) rfl rfl (pin_off (by decide))))) es_nil)) rfl) (ss_cons (G1 := [some (.ow .sh), some .sh, some .sh, some .sh, some (.tu [.sh, (.ow .sh)]), some .sh, some .sh, some .sh, some .sh, none, none, none]) (s_if (G1 := [some (.ow .sh), some .sh, some .sh, some .sh, some (.tu [.sh, (.ow .sh)]), some .sh, some .sh, some .sh, some .sh, none, none, none]) (PW.pt (t_or (t_cmpE (o_ne hr) fl_ne (b_repr hr hgd z_repr (ar_v (e_call Fn_show_words (hr.mono (by decide)) hgd rfl I_show_words.m I_show_words.F.kp I_show_words.b (ar_v (q2e (v_sh (i := 8) rfl (vs_ rfl) rfl)) ar_nil)) ar_nil)) (q2e (n_repr hr hgd z_repr (ks_cons (v_k (i := 3) rfl (vs_ rfl) rfl) ks_nil))) (nomark _)) (t_or1 (t_cmp (o_ne hr) fl_ne (v_k (i := 8) rfl (vs_ rfl) rfl) (v_k (i := 7) rfl (vs_ rfl) rfl) (nomark _))))) (ss_one (s_ret (q2e c_bl))) ss_nil) (ss_cons (G1 := [some (.ow .sh), some .sh, some .sh, some .sh, some (.ow .sh), some .sh, some .sh, some .sh, some .sh, none, none, none]) (s_set (i := 4) sc__law_right.nd rfl (lc_ rfl) (e_call Fn_read_words (hr.mono (by decide)) hgd rfl I_read_words.m I_read_words.F.kp I_read_words.b (ar_v (q2e (v_sh (i := 3) rfl (vs_ rfl) rfl)) ar_nil))) (ss_cons (G1 := [some (.ow .sh), some .sh, some .sh, some .sh, some (.ow .sh), some .sh, some .sh, some .sh, some .sh, none, none, none]) (s_if (G1 := [some (.ow .sh), some .sh, some .sh, some .sh, some (.ow .sh), some .sh, some .sh, some .sh, some .sh, none, none, none]) (t_cmp (o_ne hr) fl_ne (q2k (n_repr hr hgd z_repr (ks_cons (v_k (i := 4) rfl (vs_ rfl) rfl) ks_nil))) (q2k (n_repr hr hgd z_repr (ks_cons (v_k (i := 7) rfl (vs_ rfl) rfl) ks_nil))) (nomark _)) (ss_one (s_ret (q2e c_bl))) ss_nil) (ss_cons (G1 := [some (.ow .sh), some .sh, some .sh, some .sh, some (.ow .sh), some .sh, some .sh, some .sh, some .sh, none, none, none]) (s_expr (e_app (i := 4) rfl (vs_ rfl) rfl rfl (q2e c_str) (od1 (i := 4) (j := 0) (u := u)))) (ss_one (s_ret (e_cmp (o_eq hr) fl_eq (e2s (e_call Fn_read_words (hr.mono (by decide)) hgd rfl I_read_words.m I_read_words.F.kp I_read_words.b (ar_v (q2e (v_sh (i := 3) rfl (vs_ rfl) rfl)) ar_nil))) (q2e (v_sh (i := 7) rfl (vs_ rfl) rfl)) (nomark _))))))))))))))))))
/-! ### law -/
abbrev st_law : Stmt := top 41
abbrev N_law : List Str := ["_law_script", "_law_cells_here", "_law_k", "_law_tap_here", "_law_told", "_law_turn"]
theorem sc_law : FnScope N_law ["_law_script"] (defScope st_law) := ⟨rfl, rfl, rfl, by decide +kernel, rfl, by decide +kernel, by decide +kernel⟩
noncomputable def g_law : En → Option Fl :=
 (sSeq (sSet 1 (fCl F__law_cells (aV (lq (fV 0)) (aV (lq (fC (.int 5))) aNil))))
 (sSeq (sFor (iR1 (aV (lq (fQ gLen (kCons (fV 1) kNil))) aNil)) (gN 2) [2, 3]
 ((sSeq (sSet 3 (fCl F__law_tap (aV (lq (f2 gIx (fV 1) (fV 2))) (aV (lq (fV 2)) aNil))))
 (sIf (lb (e2 gNe (fLc (iR1 (aV (lq (fC (.int 4))) aNil)) (gN 5) [5] (bNot (lb (fClI F__law_right 3 (aS 3 aNil)))) (lq (fV 5))) (fL aNil)))
 ((sRt (lq (fC (.bool false)))))
 (sNil)))))
 (sSeq (sSet 4 (fL (aV (fCl F_show_graph (aV (fT (aV (lq (fC (.int 1))) (aV (fL aNil) aNil))) aNil)) (aV (fCl F_read_graph (aV (lq (fC (.str (Str.ofString "3: 0-1 1-2")))) aNil)) (aV (fCl F_show_words (aV (fL (aV (lq (fC (.str (Str.ofString "00")))) (aV (lq (fC (.str (Str.ofString "11")))) aNil))) aNil)) (aV (fCl F_read_words (aV (lq (fC (.str (Str.ofString ".")))) aNil)) aNil))))))
 (sSeq (sSet 4 (e2 gCat (lq (fV 4)) (fL (aV (fCl F_read_words (aV (lq (fC (.str (Str.ofString "10 01")))) aNil)) (aV (fCl F_show_words (aV (fL (aV (lq (fC (.str (Str.ofString "")))) (aV (lq (fC (.str (Str.ofString "")))) aNil))) aNil)) aNil)))))
 (sRt (e2 gEq (lq (fV 4)) (fL (aV (lq (fC (.str (Str.ofString "1:")))) (aV (fT (aV (lq (fC (.int 3))) (aV (fL (aV (fT (aV (lq (fC (.int 0))) (aV (lq (fC (.int 1))) aNil))) (aV (fT (aV (lq (fC (.int 1))) (aV (lq (fC (.int 2))) aNil))) aNil))) aNil))) (aV (lq (fC (.str (Str.ofString "00 11")))) (aV (fL (aV (lq (fC (.str (Str.ofString "")))) aNil)) (aV (fL (aV (lq (fC (.str (Str.ofString "10")))) (aV (lq (fC (.str (Str.ofString "01")))) aNil))) (aV (lq (fC (.str (Str.ofString ". .")))) aNil)))))))))))))
noncomputable def F_law : List D → Option D := semQ .sh 5 g_law
theorem b_law {Pg : Program} {w : World} {K : Frg} {mg : Str → Option Value} {base : Heap} {f : Addr} {fd : FuncData} {f__law_cells f__law_tap f_show_graph f_read_graph f_show_words f_read_words f__law_right : Addr} {fd__law_cells fd__law_tap fd_show_graph fd_read_graph fd_show_words fd_read_words fd__law_right : FuncData}
  (I : Is K mg "law" st_law f fd ["_law_script"])
  (z_len : mg "len" = none)
  (z_range : mg "range" = none)
  (I__law_cells : Is K mg "_law_cells" st__law_cells f__law_cells fd__law_cells ["_law_script", "_law_many"])
  (Fn__law_cells : FnG Pg w K mg base CX0 1 f__law_cells fd__law_cells ["_law_script", "_law_many"] (spQ K [some .sh, some .sh] (.ow .sh) F__law_cells))
  (I__law_tap : Is K mg "_law_tap" st__law_tap f__law_tap fd__law_tap ["_law_cell", "_law_turn"])
  (Fn__law_tap : FnG Pg w K mg base CX0 1 f__law_tap fd__law_tap ["_law_cell", "_law_turn"] (spQ K [some .sh, some .sh] (.ow .sh) F__law_tap))
  (I_show_graph : Is K mg "show_graph" st_show_graph f_show_graph fd_show_graph ["graph"])
  (Fn_show_graph : FnG Pg w K mg base CX0 5 f_show_graph fd_show_graph ["graph"] (spQ K [some .sh] .sh F_show_graph))
  (I_read_graph : Is K mg "read_graph" st_read_graph f_read_graph fd_read_graph ["text"])
  (Fn_read_graph : FnG Pg w K mg base CX0 3 f_read_graph fd_read_graph ["text"] (spQ K [some .sh] (.tu [.sh, (.ow .sh)]) F_read_graph))
  (I_show_words : Is K mg "show_words" st_show_words f_show_words fd_show_words ["words"])
  (Fn_show_words : FnG Pg w K mg base CX0 3 f_show_words fd_show_words ["words"] (spQ K [some .sh] .sh F_show_words))
  (I_read_words : Is K mg "read_words" st_read_words f_read_words fd_read_words ["text"])
  (Fn_read_words : FnG Pg w K mg base CX0 2 f_read_words fd_read_words ["text"] (spQ K [some .sh] (.ow .sh) F_read_words))
  (I__law_right : Is K mg "_law_right" st__law_right f__law_right fd__law_right ["_law_tap_here"])
  (Fn__law_right : FnG Pg w K mg base CX0 6 f__law_right fd__law_right ["_law_tap_here"] (spI K [some (.ow .sh)] 0 (.ow .sh) .sh F__law_right)) :
  FnG Pg w K mg base CX0 7 f fd ["_law_script"] (spQ K [some .sh] .sh F_law) :=
 fn_q (n := 5) (G' := []) (Gb := []) I.F sc_law rfl rfl fun cdv A outer s H E W hr hgd =>
  (ss_cons (G1 := [some .sh, some .sh, none, none, none, none]) (s_set (i := 1) sc_law.nd rfl (lc_ rfl) (e2s (e_call Fn__law_cells (hr.mono (by decide)) hgd rfl I__law_cells.m I__law_cells.F.kp I__law_cells.b (ar_v (q2e (v_sh (i := 0) rfl (vs_ rfl) rfl)) (ar_v (q2e c_int) ar_nil))))) (ss_cons (G1 := [some .sh, some .sh, none, none, none, none]) (s_for (is := [2, 3]) (vs := [2]) (Ge := [some .sh, some .sh, some .sh, some (.ow .sh), none, none]) (Gc := [some .sh, some .sh, some .sh, some (.ow .sh), none, none]) PassesOwn.never rfl (i_range1 rfl z_range (ar_v (q2e (n_len z_len (ks_cons (v_k (i := 1) rfl (vs_ rfl) rfl) ks_nil))) ar_nil)) (g_name (i := 2) sc_law.nd rfl (lc_ rfl)) (ss_cons (G1 := [some .sh, some .sh, some .sh, some (.ow .sh), none, none]) (s_set (i := 3) sc_law.nd rfl (lc_ rfl) (e_call Fn__law_tap (hr.mono (by decide)) hgd rfl I__law_tap.m I__law_tap.F.kp I__law_tap.b (ar_v (q2e (q_ix (v_p (i := 1) rfl (vs_ rfl) rfl) (v_k (i := 2) rfl (vs_ rfl) rfl))) (ar_v (q2e (v_sh (i := 2) rfl (vs_ rfl) rfl)) ar_nil)))) (ss_one (s_if (G1 := [some .sh, some .sh, some .sh, some (.ow .sh), none, none]) (t_cmpE (o_ne hr) fl_ne (e2s (e_lc (own := [("_law_turn", 5)]) (m := .sh) (G2 := [some .sh, some .sh, some .sh, some (.ow .sh), none, none]) rfl sc_law.nd (i_range1 rfl z_range (ar_v (q2e c_int) ar_nil)) (blkOk_by (own := [("_law_turn", 5)]) (N := N_law) (sc := defScope st_law) (by decide +kernel)) (fun _ _ _ _ _ => (g_name (i := 5) sc_law.nd rfl (lc_ rfl))) (fun _ _ _ _ _ => (t_one (t_not (t_val (e_callI (i := 3) (j := 0) Fn__law_right (hr.mono (by decide)) hgd rfl I__law_right.m I__law_right.F.kp I__law_right.b (od0 (i := 3)) rfl (ar_s (i := 3) rfl (vs_ rfl) rfl rfl ar_nil)))))) (fun _ _ _ _ _ => (q2e (v_sh (i := 5) rfl (vs_ rfl) rfl))) rfl rfl (fun _ _ => rfl))) (e2s (e_list (n := 0) (m := .sh) es_nil)) (nomark _)) (ss_one (s_ret (q2e c_bl))) ss_nil))) rfl rfl (fun _ _ => rfl)) (ss_cons (G1 := [some .sh, some .sh, none, none, some .sh, none]) (s_set (i := 4) sc_law.nd rfl (lc_ rfl) (e2s (e_list (n := 4) (m := .sh) (es_cons (e_call Fn_show_graph (hr.mono (by decide)) hgd rfl I_show_graph.m I_show_graph.F.kp I_show_graph.b (ar_v (e2s (e_tup (ms := [.sh, .sh]) (es_cons (q2e c_int) (es_cons (e2s (e_list (n := 0) (m := .sh) es_nil)) es_nil)))) ar_nil)) (es_cons (e2s (e_call Fn_read_graph (hr.mono (by decide)) hgd rfl I_read_graph.m I_read_graph.F.kp I_read_graph.b (ar_v (q2e c_str) ar_nil))) (es_cons (e_call Fn_show_words (hr.mono (by decide)) hgd rfl I_show_words.m I_show_words.F.kp I_show_words.b (ar_v (e2s (e_list (n := 2) (m := .sh) (es_cons (q2e c_str) (es_cons (q2e c_str) es_nil)))) ar_nil)) (es_cons (e2s (e_call Fn_read_words (hr.mono (by decide)) hgd rfl I_read_words.m I_read_words.F.kp I_read_words.b (ar_v (q2e c_str) ar_nil))) es_nil))))))) (ss_cons (G1 := [some .sh, some .sh, none, none, some .sh, none]) (s_set (i := 4) sc_law.nd rfl (lc_ rfl) (e2s (e_cat (q2e (v_sh (i := 4) rfl (vs_ rfl) rfl)) (e2s (e_list (n := 2) (m := .sh) (es_cons (e2s (e_call Fn_read_words (hr.mono (by decide)) hgd rfl I_read_words.m I_read_words.F.kp I_read_words.b (ar_v (q2e c_str) ar_nil))) (es_cons (e_call Fn_show_words (hr.mono (by decide)) hgd rfl I_show_words.m I_show_words.F.kp I_show_words.b (ar_v (e2s (e_list (n := 2) (m := .sh) (es_cons (q2e c_str) (es_cons (q2e c_str) es_nil)))) ar_nil)) es_nil))))))) (ss_one (s_ret (e_cmp (o_eq hr) fl_eq (q2e (v_sh (i := 4) rfl (vs_ rfl) rfl)) (e2s (e_list (n := 6) (m := .sh) (es_cons (q2e c_str) (es_cons (e2s (e_tup (ms := [.sh, .sh]) (es_cons (q2e c_int) (es_cons (e2s (e_list (n := 2) (m := .sh) (es_cons (e2s (e_tup (ms := [.sh, .sh]) (es_cons (q2e c_int) (es_cons (q2e c_int) es_nil)))) (es_cons (e2s (e_tup (ms := [.sh, .sh]) (es_cons (q2e c_int) (es_cons (q2e c_int) es_nil)))) es_nil)))) es_nil)))) (es_cons (q2e c_str) (es_cons (e2s (e_list (n := 1) (m := .sh) (es_cons (q2e c_str) es_nil))) (es_cons (e2s (e_list (n := 2) (m := .sh) (es_cons (q2e c_str) (es_cons (q2e c_str) es_nil)))) (es_cons (q2e c_str) es_nil)))))))) (nomark _))))))))
end T3
set_option Elab.async false
set_option linter.all false
/-! ### graphs: walks, distances (plain) -/
namespace Gr
def Adj (es : List (Nat × Nat)) (a b : Nat) : Prop := (a, b) ∈ es ∨ (b, a) ∈ es
theorem Adj.symm {es : List (Nat × Nat)} {a b : Nat} (h : Adj es a b) : Adj es b a := Or.symm h
inductive Wk (es : List (Nat × Nat)) : Nat → Nat → Nat → Prop where
  | nil (u : Nat) : Wk es 0 u u
  | snoc {k u v w : Nat} : Wk es k u v → Adj es v w → Wk es (k + 1) u w
section
variable {es : List (Nat × Nat)} {n : Nat}
theorem Wk.trans {j u v : Nat} (h : Wk es j u v) : ∀ {k w : Nat}, Wk es k v w → Wk es (j + k) u w
  | 0, _, .nil _ => h
  | _ + 1, _, .snoc a b => .snoc (Wk.trans h a) b
theorem Wk.cons {k u v w : Nat} (a : Adj es u v) (h : Wk es k v w) : Wk es (k + 1) u w := by
  have := Wk.trans (Wk.snoc (Wk.nil u) a) h
  rwa [Nat.zero_add, Nat.add_comm] at this
theorem Wk.symm {k u v : Nat} (h : Wk es k u v) : Wk es k v u := by
  induction h with
  | nil u => exact .nil u
  | snoc _ b ih => exact .cons b.symm ih
theorem Wk.zero {u v : Nat} (h : Wk es 0 u v) : u = v := by cases h; rfl
theorem least {P : Nat → Prop} (h : ∃ k, P k) : ∃ k, P k ∧ ∀ j, P j → k ≤ j := by
  obtain ⟨k, hk⟩ := h
  induction k using Nat.strongRecOn with
  | ind k ih =>
    by_cases q : ∃ j, j < k ∧ P j
    · obtain ⟨j, hj, pj⟩ := q
      exact ih j hj pj
    · exact ⟨k, hk, fun j pj => Nat.le_of_not_lt fun l => q ⟨j, l, pj⟩⟩
open Classical in
noncomputable def dst (es : List (Nat × Nat)) (u v : Nat) : Nat := if h : ∃ k, Wk es k u v then Classical.choose (least h) else 0
def Conn (n : Nat) (es : List (Nat × Nat)) : Prop := ∀ u v, u < n → v < n → ∃ k, Wk es k u v
def Within (n : Nat) (es : List (Nat × Nat)) : Prop := ∀ e ∈ es, e.1 < n ∧ e.2 < n
theorem Within.adj (w : Within n es) {a b : Nat} (h : Adj es a b) : a < n ∧ b < n := by
  rcases h with h | h
  · exact w _ h
  · exact (w _ h).symm
theorem dst_spec {u v : Nat} (h : ∃ k, Wk es k u v) : Wk es (dst es u v) u v ∧ ∀ j, Wk es j u v → dst es u v ≤ j := by
  unfold dst
  rw [dif_pos h]
  exact Classical.choose_spec (least h)
variable (c : Conn n es)
include c
theorem dst_wk {u v : Nat} (hu : u < n) (hv : v < n) : Wk es (dst es u v) u v := (dst_spec (c u v hu hv)).1
omit c in
theorem dst_le {u v k : Nat} (h : Wk es k u v) : dst es u v ≤ k := (dst_spec ⟨k, h⟩).2 k h
omit c in
theorem dst_self (u : Nat) : dst es u u = 0 := Nat.le_zero.mp (dst_le (.nil u))
theorem dst_symm {u v : Nat} (hu : u < n) (hv : v < n) : dst es u v = dst es v u :=
  Nat.le_antisymm (dst_le (dst_wk c hv hu).symm) (dst_le (dst_wk c hu hv).symm)
theorem dst_tri {u v w : Nat} (hu : u < n) (hv : v < n) (hw : w < n) : dst es u w ≤ dst es u v + dst es v w := dst_le ((dst_wk c hu hv).trans (dst_wk c hv hw))
theorem dst_eq0 {u v : Nat} (hu : u < n) (hv : v < n) (h : dst es u v = 0) : u = v := by
  have := dst_wk c hu hv
  rw [h] at this
  exact this.zero
theorem dst_adj {u v w : Nat} (hu : u < n) (hv : v < n) (a : Adj es v w) : dst es u w ≤ dst es u v + 1 := dst_le ((dst_wk c hu hv).snoc a)
theorem dst_pred (wi : Within n es) {u w k : Nat} (hu : u < n) (hw : w < n) (h : dst es u w = k + 1) : ∃ v, v < n ∧ Adj es v w ∧ dst es u v = k := by
  have q := dst_wk c hu hw
  rw [h] at q
  cases q with
  | snoc a b =>
    rename_i v
    have hv := (wi.adj b).1
    refine ⟨v, hv, b, ?_⟩
    have h1 := dst_le a
    have h2 := dst_adj c hu hv b
    omega
end
/-! ### lists of numbers -/
theorem nodup_len : ∀ {n : Nat} {l : List Nat}, l.Nodup → (∀ x ∈ l, x < n) → l.length ≤ n
  | 0, l, _, h => by
    cases l with
    | nil => exact Nat.le_refl _
    | cons x _ => exact absurd (h x List.mem_cons_self) (by omega)
  | n + 1, l, nd, h => by
    by_cases m : n ∈ l
    · have h1 : (l.erase n).length ≤ n := nodup_len (nd.erase n) fun x hx => by
        have h2 := h x (List.mem_of_mem_erase hx)
        have h3 : x ≠ n := fun e => by
          subst e
          exact nd.not_mem_erase hx
        omega
      rw [List.length_erase_of_mem m] at h1
      omega
    · have : l.length ≤ n := nodup_len nd fun x hx => by
        have h2 := h x hx
        have h3 : x ≠ n := fun e => m (e ▸ hx)
        omega
      omega
/-- the farthest node is nearer than there are nodes -/
theorem dst_lt {n : Nat} {es : List (Nat × Nat)} (c : Conn n es) (wi : Within n es) {u v : Nat} (hu : u < n) (hv : v < n) : dst es u v < n := by
  -- a node of each smaller distance
  have key : ∀ k, k ≤ dst es u v → ∃ w, w < n ∧ dst es u w = k := by
    intro k
    generalize hd : dst es u v - k = m
    induction m generalizing k with
    | zero => intro h; exact ⟨v, hv, by omega⟩
    | succ m ih =>
      intro h
      obtain ⟨w, hw, e⟩ := ih (k + 1) (by omega) (by omega)
      obtain ⟨x, hx, _, e2⟩ := dst_pred c wi hu hw e
      exact ⟨x, hx, e2⟩
  let f : Nat → Nat := fun k => if h : k ≤ dst es u v then Classical.choose (key k h) else 0
  have hf : ∀ k, k ≤ dst es u v → f k < n ∧ dst es u (f k) = k := fun k h => by
    show (if h : k ≤ dst es u v then Classical.choose (key k h) else 0) < n ∧ dst es u (if h : k ≤ dst es u v then Classical.choose (key k h) else 0) = k
    rw [dif_pos h]
    exact Classical.choose_spec (key k h)
  have nd : ((List.range (dst es u v + 1)).map f).Nodup := by
    rw [List.nodup_iff_pairwise_ne, List.pairwise_map]
    refine List.Pairwise.imp_of_mem (fun {a b} ha hb q e => ?_) (List.nodup_iff_pairwise_ne.mp List.nodup_range)
    have h1 := (hf a (by have := List.mem_range.mp ha; omega)).2
    have h2 := (hf b (by have := List.mem_range.mp hb; omega)).2
    rw [e, h2] at h1
    exact q h1.symm
  have := nodup_len nd (n := n) fun x hx => by
    obtain ⟨k, hk, rfl⟩ := List.mem_map.mp hx
    exact (hf k (by have := List.mem_range.mp hk; omega)).1
  rw [List.length_map, List.length_range] at this
  omega
end Gr
set_option Elab.async false
set_option linter.all false
set_option maxRecDepth 100000
set_option maxHeartbeats 1000000
namespace T3
open PySem PySem.Spec PyProof.Rows L2
/-! ### the drawing of numbers -/
def TapOk (d : D) : Prop := ∃ a b c : Int, d = .list [.int a, .int b, .int c] ∧ (0 ≤ b ∧ b < 2 ^ 33) ∧ 0 ≤ c ∧ c < 2 ^ 33
theorem fmod_rng {a n : Int} (h : 0 < n) : 0 ≤ a.fmod n ∧ a.fmod n < n := ⟨Int.fmod_nonneg_of_pos _ h, Int.fmod_lt_of_pos _ h⟩
theorem draw_ok {d : D} {n : Int} (h : TapOk d) (h0 : 0 < n) (h1 : n.natAbs.log2 < 9000) : ∃ k d', F__law_draw [d, .int n] = some (.int k, d') ∧ 0 ≤ k ∧ k < n ∧ TapOk d' := by
  obtain ⟨a, b, c, rfl, hb, hc⟩ := h
  have n0 : n ≠ 0 := by omega
  have ml : ∀ x y : Int, x.natAbs < 2 ^ 64 → gMul (.int x) (.int y) = some (.int (x * y)) := fun x y h => gMul_l h
  have mr : ∀ x : Int, gMul (.int x) (.int 69069) = some (.int (x * 69069)) := fun x => gMul_r (by decide)
  have m1 : ∀ x : Int, gMod (.int x) (.int 4294967291) = some (.int (x.fmod 4294967291)) := fun x => gMod_int (by decide)
  have m2 : ∀ x : Int, gMod (.int x) (.int 2147483587) = some (.int (x.fmod 2147483587)) := fun x => gMod_int (by decide)
  have d1 : ∀ x : Int, gFdiv (.int x) (.int 32) = some (.int (x.fdiv 32)) := fun x => gFdiv_int (by decide) (by decide +kernel)
  have d2 : ∀ x : Int, gFdiv (.int x) (.int 16) = some (.int (x.fdiv 16)) := fun x => gFdiv_int (by decide) (by decide +kernel)
  by_cases ha : (1000000000000000000 : Int) ≤ a
  · refine ⟨a.fmod n, .list [.int (a.fdiv n), .int b, .int c], ?_, (fmod_rng h0).1, (fmod_rng h0).2, _, b, c, rfl, hb, hc⟩
    simp [F__law_draw, semI, g__law_draw, gPow_18, ha, gMod_int n0, gFdiv_int n0 h1]
  · have c0 : c.natAbs < 2 ^ 64 := by omega
    let b' := (b * 69069 + 40503).fmod 4294967291
    let c' := (c * c + b').fmod 2147483587
    have hb' : 0 ≤ b' ∧ b' < 4294967291 := fmod_rng (by decide)
    have hc' : 0 ≤ c' ∧ c' < 2147483587 := fmod_rng (by decide)
    refine ⟨(b'.fdiv 32 + c'.fdiv 16).fmod n, .list [.int a, .int b', .int c'], ?_, (fmod_rng h0).1, (fmod_rng h0).2, a, b', c', rfl, ⟨hb'.1, by omega⟩, hc'.1, by omega⟩
    simp [F__law_draw, semI, g__law_draw, gPow_18, ha, mr, m1, m2, d1, d2, gMul_l c0, gMod_int n0, b', c']
end T3
set_option Elab.async false
set_option linter.all false
set_option maxRecDepth 100000
set_option maxHeartbeats 1000000
namespace T3
open PySem PySem.Spec PyProof.Rows L2 Gr
/-! ### lists of numbers as data -/
def nI (l : List Nat) : List D := l.map fun x : Nat => .int (x : Int)
def nLL (ls : List (List Nat)) : List D := ls.map fun l => .list (nI l)
@[simp] theorem nI_nil : nI [] = [] := rfl
@[simp] theorem nI_cons {a : Nat} {l : List Nat} : nI (a :: l) = .int (a : Int) :: nI l := rfl
theorem nI_app {a b : List Nat} : nI (a ++ b) = nI a ++ nI b := List.map_append
@[simp] theorem nI_len {a : List Nat} : (nI a).length = a.length := List.length_map _
theorem nI_get {l : List Nat} {i : Nat} {x : D} (h : (nI l)[i]? = some x) : ∃ v, l[i]? = some v ∧ x = .int (v : Int) := by
  unfold nI at h
  rw [List.getElem?_map] at h
  cases e : l[i]? with
  | none => rw [e] at h; cases h
  | some v => rw [e] at h; cases h; exact ⟨v, rfl, rfl⟩
/-- what was found so far -/
def oD : Option Nat → D
  | none => .none
  | some k => .int (k : Int)
def fnD (n : Nat) (fd : Nat → Option Nat) : List D := (List.range n).map fun v => oD (fd v)
def upF (fd : Nat → Option Nat) (v k : Nat) : Nat → Option Nat := fun w => if w = v then some k else fd w
@[simp] theorem fnD_len {n : Nat} {fd : Nat → Option Nat} : (fnD n fd).length = n := by simp [fnD]
theorem fnD_get {n v : Nat} {fd : Nat → Option Nat} (h : v < n) : (fnD n fd)[v]? = some (oD (fd v)) := by
  unfold fnD
  rw [List.getElem?_map, List.getElem?_range h]
  rfl
theorem fnD_set {n v k : Nat} {fd : Nat → Option Nat} (h : v < n) : (fnD n fd).set v (.int (k : Int)) = fnD n (upF fd v k) := by
  apply List.ext_getElem?
  intro i
  by_cases hi : i < n
  · rw [fnD_get hi, List.getElem?_set, fnD_len, fnD_get hi]
    unfold upF
    by_cases e : v = i
    · subst e
      rw [if_pos rfl, if_pos h, if_pos rfl]
      rfl
    · rw [if_neg e, if_neg (Ne.symm e)]
  · rw [List.getElem?_eq_none (by simp; omega), List.getElem?_eq_none (by simp; omega)]
theorem isNon_oD {o : Option Nat} : isNon (oD o) = o.isNone := by cases o <;> rfl
/-- [None] * n -/
theorem rep_none {n : Nat} : (List.replicate n [PyData.none]).flatten = fnD n (fun _ => none) := by
  unfold fnD
  induction n with
  | zero => rfl
  | succ n ih =>
    rw [List.replicate_succ, List.flatten_cons, ih, List.range_succ_eq_map, List.map_cons, List.map_map]
    rfl
theorem small_line {n : Nat} (h : n ≤ 1000000) : n < sizeLine := by rw [sizeLine_eq]; omega
theorem small_le {n : Nat} (h : n ≤ 1000000) : n ≤ sizeLine := Nat.le_of_lt (small_line h)
/-! ### a search by layers: what stands within a layer -/
structure Bi (n : Nat) (es : List (Nat × Nat)) (s L : Nat) (fd : Nat → Option Nat) (later seen : List Nat) : Prop where
  fv : ∀ v, v < n → fd v = if dst es s v ≤ L then some (dst es s v) else if v ∈ seen then some (L + 1) else none
  nd : later.Nodup
  mem : ∀ v, v ∈ later ↔ v < n ∧ v ∈ seen ∧ L < dst es s v
section
variable {n : Nat} {es : List (Nat × Nat)} {s L x : Nat} {fd : Nat → Option Nat} {later seen : List Nat}
theorem Bi.new (b : Bi n es s L fd later seen) (hx : x < n) (h : fd x = none) : Bi n es s L (upF fd x (L + 1)) (later ++ [x]) (seen ++ [x]) := by
  have q := b.fv x hx
  rw [h] at q
  have h1 : ¬ dst es s x ≤ L := fun z => by rw [if_pos z] at q; cases q
  rw [if_neg h1] at q
  have h2 : x ∉ seen := fun z => by rw [if_pos z] at q; cases q
  refine ⟨fun v hv => ?_, ?_, fun v => ?_⟩
  · unfold upF
    by_cases e : v = x
    · subst e
      rw [if_pos rfl, if_neg h1, if_pos (by simp)]
    · rw [if_neg e, b.fv v hv]
      have : (v ∈ seen ++ [x]) ↔ v ∈ seen := by simp [e]
      simp only [this]
  · refine List.nodup_append.mpr ⟨b.nd, by simp, fun a ha c hc e => ?_⟩
    have : c = x := by simpa using hc
    rw [e, this] at ha
    exact h2 ((b.mem x).mp ha).2.1
  · rw [List.mem_append, b.mem, List.mem_append]
    constructor
    · rintro (⟨h3, h4, h5⟩ | h3)
      · exact ⟨h3, .inl h4, h5⟩
      · have : v = x := by simpa using h3
        subst this
        exact ⟨hx, .inr (by simp), by omega⟩
    · rintro ⟨h3, h4 | h4, h5⟩
      · exact .inl ⟨h3, h4, h5⟩
      · exact .inr h4
theorem Bi.old (b : Bi n es s L fd later seen) (hx : x < n) (h : fd x ≠ none) : Bi n es s L fd later (seen ++ [x]) := by
  have q := b.fv x hx
  have key : ∀ v, L < dst es s v → v < n → (v ∈ seen ++ [x] ↔ v ∈ seen) := fun v hv hn => by
    rw [List.mem_append]
    constructor
    · rintro (z | z)
      · exact z
      · have : v = x := by simpa using z
        subst this
        rw [if_neg (by omega)] at q
        by_cases m : v ∈ seen
        · exact m
        · rw [if_neg m] at q
          exact absurd q h
    · exact .inl
  refine ⟨fun v hv => ?_, b.nd, fun v => ?_⟩
  · rw [b.fv v hv]
    by_cases e : dst es s v ≤ L
    · rw [if_pos e, if_pos e]
    · rw [if_neg e, if_neg e]
      simp only [key v (by omega) hv]
  · rw [b.mem]
    constructor
    · rintro ⟨h1, h2, h3⟩
      exact ⟨h1, (key v h3 h1).mpr h2, h3⟩
    · rintro ⟨h1, h2, h3⟩
      exact ⟨h1, (key v h3 h1).mp h2, h3⟩
theorem Bi.len (b : Bi n es s L fd later seen) : later.length ≤ n := nodup_len b.nd fun v m => ((b.mem v).mp m).1
end
/-! ### distances_from -/
def NearOk (n : Nat) (es : List (Nat × Nat)) (near : List (List Nat)) : Prop := near.length = n ∧ ∀ v l, near[v]? = some l → (∀ w, w ∈ l ↔ Adj es v w) ∧ l.length ≤ 1000
section
variable {n : Nat} {es : List (Nat × Nat)} {s L : Nat} {near : List (List Nat)} {layer : List Nat}
abbrev E7 (s : Nat) (near : List (List Nat)) (n : Nat) (fd : Nat → Option Nat) (layer later : List Nat) (a b : D) : En := [.int (s : Int), .list (nLL near), .list (fnD n fd), .list (nI layer), .list (nI later), a, b]
/-- the innermost loop -/
theorem df_inner (hn : n ≤ 1000) {l : List Nat} {node : Nat} {fd : Nat → Option Nat} {later seen : List Nat} (hl : ∀ w ∈ l, w < n) (hnode : node < n) (hd : dst es s node = L) (b : Bi n es s L fd later seen) :
    ∃ fd' later', Bi n es s L fd' later' (seen ++ l) ∧ sForN (gN 6) [6] (sIf (lb (lq (f2 gIsN (f2 gIx (fV 2) (fV 6)) (fC .none)))) (sSeq (sSetI 2 (lq (f2 gAdd (f2 gIx (fV 2) (fV 5)) (fC (.int 1)))) (lq (fV 6))) (sEx (fApp 4 (lq (fV 6))))) sNil) (nI l) (E7 s near n fd layer later (.int (node : Int)) .none) =
      some (.nx (E7 s near n fd' layer later' (.int (node : Int)) .none)) := by
  have st : ∀ (i : Nat) (e : En) (d : D), (nI l)[i]? = some d → (∃ fd' later', Bi n es s L fd' later' (seen ++ l.take (0 + i)) ∧ e = E7 s near n fd' layer later' (.int (node : Int)) .none) → ∃ e1 e2, gN 6 e d = some e1 ∧
      sIf (lb (lq (f2 gIsN (f2 gIx (fV 2) (fV 6)) (fC .none)))) (sSeq (sSetI 2 (lq (f2 gAdd (f2 gIx (fV 2) (fV 5)) (fC (.int 1)))) (lq (fV 6))) (sEx (fApp 4 (lq (fV 6))))) sNil e1 = some (.nx e2) ∧
      ∃ fd' later', Bi n es s L fd' later' (seen ++ l.take (0 + i + 1)) ∧ wpE [6] e2 = E7 s near n fd' layer later' (.int (node : Int)) .none := by
    rintro i e d hd' ⟨fd', later', b', rfl⟩
    rw [Nat.zero_add] at b'
    obtain ⟨w, hw, rfl⟩ := nI_get hd'
    have hwn : w < n := hl w (List.mem_of_getElem? hw)
    have htake : seen ++ l.take (i + 1) = (seen ++ l.take i) ++ [w] := by
      rw [List.take_succ, hw, List.append_assoc]
      rfl
    have g1 : gIx (.list (fnD n fd')) (.int (w : Int)) = some (oD (fd' w)) := gIx_list rfl (fnD_get hwn)
    have fdn : fd' node = some L := by rw [b'.fv node hnode, hd, if_pos (Nat.le_refl L)]
    have g2 : gIx (.list (fnD n fd')) (.int (node : Int)) = some (.int (L : Int)) := by
      have := gIx_list (i := (node : Int)) rfl (fnD_get (fd := fd') hnode)
      rw [fdn] at this
      exact this
    cases hf : fd' w with
    | none =>
      refine ⟨_, E7 s near n (upF fd' w (L + 1)) layer (later' ++ [w]) (.int (node : Int)) (.int (w : Int)), rfl, ?_, upF fd' w (L + 1), later' ++ [w], ?_, rfl⟩
      · have hlen := b'.len
        have hset : (fnD n fd').set w (.int ((L : Int) + 1)) = fnD n (upF fd' w (L + 1)) := by
          rw [← fnD_set hwn]
          rfl
        rw [hf] at g1
        have hl2 : later'.length < sizeLine := small_line (by omega)
        simp [g1, g2, oD, ixN_nat hwn, hset, nI_app, hl2]
      · rw [show 0 + i + 1 = i + 1 by omega, htake]
        exact b'.new hwn hf
    | some k =>
      refine ⟨_, E7 s near n fd' layer later' (.int (node : Int)) (.int (w : Int)), rfl, ?_, fd', later', ?_, rfl⟩
      · rw [hf] at g1
        simp [g1, oD]
      · rw [show 0 + i + 1 = i + 1 by omega, htake]
        exact b'.old hwn (by rw [hf]; simp)
  obtain ⟨e', h1, fd', later', h2, h3⟩ := sForN_inv (tg := gN 6) (is := [6]) (f := sIf (lb (lq (f2 gIsN (f2 gIx (fV 2) (fV 6)) (fC .none)))) (sSeq (sSetI 2 (lq (f2 gAdd (f2 gIx (fV 2) (fV 5)) (fC (.int 1)))) (lq (fV 6))) (sEx (fApp 4 (lq (fV 6))))) sNil)
    (fun i e => ∃ fd' later', Bi n es s L fd' later' (seen ++ l.take i) ∧ e = E7 s near n fd' layer later' (.int (node : Int)) .none) (ds := nI l) (n := 0) (e := E7 s near n fd layer later (.int (node : Int)) .none)
    ⟨fd, later, by simpa using b, rfl⟩ st
  refine ⟨fd', later', ?_, by rw [h1, h3]⟩
  rw [Nat.zero_add, nI_len, List.take_length] at h2
  exact h2
/-! the layers -/
structure Lay (n : Nat) (es : List (Nat × Nat)) (s L : Nat) (fd : Nat → Option Nat) (layer : List Nat) : Prop where
  fv : ∀ v, v < n → fd v = if dst es s v ≤ L then some (dst es s v) else none
  mem : ∀ v, v ∈ layer ↔ v < n ∧ dst es s v = L
theorem Lay.start {fd : Nat → Option Nat} (l : Lay n es s L fd layer) : Bi n es s L fd [] [] :=
  ⟨fun v hv => by rw [l.fv v hv]; simp, List.nodup_nil, fun v => by simp⟩
theorem Bi.next {fd : Nat → Option Nat} {later seen : List Nat} (b : Bi n es s L fd later seen) (c : Conn n es) (wi : Within n es) (hs : s < n) (hm : ∀ w, w ∈ seen ↔ ∃ v, (v < n ∧ dst es s v = L) ∧ Adj es v w) : Lay n es s (L + 1) fd later := by
  have key : ∀ v, v < n → L < dst es s v → (v ∈ seen ↔ dst es s v = L + 1) := fun v hv h => by
    rw [hm]
    constructor
    · rintro ⟨u, ⟨hu, e⟩, a⟩
      have := dst_adj c hs hu a
      omega
    · intro e
      obtain ⟨u, hu, a, e2⟩ := dst_pred c wi hs hv e
      exact ⟨u, ⟨hu, e2⟩, a⟩
  refine ⟨fun v hv => ?_, fun v => ?_⟩
  · rw [b.fv v hv]
    by_cases h : dst es s v ≤ L
    · rw [if_pos h, if_pos (by omega)]
    · rw [if_neg h]
      by_cases h2 : dst es s v = L + 1
      · rw [if_pos ((key v hv (by omega)).mpr h2), if_pos (by omega), h2]
      · rw [if_neg (fun z => h2 ((key v hv (by omega)).mp z)), if_neg (by omega)]
  · rw [b.mem]
    constructor
    · rintro ⟨h1, h2, h3⟩
      exact ⟨h1, (key v h1 h3).mp h2⟩
    · rintro ⟨h1, h2⟩
      exact ⟨h1, (key v h1 (by omega)).mpr h2, by omega⟩
/-- the loop over a layer -/
noncomputable abbrev dfIn : En → Option Fl := sIf (lb (lq (f2 gIsN (f2 gIx (fV 2) (fV 6)) (fC .none)))) (sSeq (sSetI 2 (lq (f2 gAdd (f2 gIx (fV 2) (fV 5)) (fC (.int 1)))) (lq (fV 6))) (sEx (fApp 4 (lq (fV 6))))) sNil
noncomputable abbrev dfMid : En → Option Fl := sFor (iL (lq (f2 gIx (fV 1) (fV 5)))) (gN 6) [6] dfIn
theorem nLL_get {near : List (List Nat)} {v : Nat} {l : List Nat} (h : near[v]? = some l) : (nLL near)[v]? = some (.list (nI l)) := by
  unfold nLL
  rw [List.getElem?_map, h]
  rfl
theorem df_layer (hn : n ≤ 1000) (hnear : NearOk n es near) (wi : Within n es) {fd : Nat → Option Nat} (l : Lay n es s L fd layer) :
    ∃ fd' later seen, Bi n es s L fd' later seen ∧ (∀ w, w ∈ seen ↔ ∃ v, (v < n ∧ dst es s v = L) ∧ Adj es v w) ∧
      sForN (gN 5) [5] dfMid (nI layer) (E7 s near n fd layer [] .none .none) = some (.nx (E7 s near n fd' layer later .none .none)) := by
  have st : ∀ (i : Nat) (e : En) (d : D), (nI layer)[i]? = some d → (∃ fd' later seen, Bi n es s L fd' later seen ∧ (∀ w, w ∈ seen ↔ ∃ v, v ∈ layer.take (0 + i) ∧ Adj es v w) ∧ e = E7 s near n fd' layer later .none .none) → ∃ e1 e2, gN 5 e d = some e1 ∧
      dfMid e1 = some (.nx e2) ∧ ∃ fd' later seen, Bi n es s L fd' later seen ∧ (∀ w, w ∈ seen ↔ ∃ v, v ∈ layer.take (0 + i + 1) ∧ Adj es v w) ∧ wpE [5] e2 = E7 s near n fd' layer later .none .none := by
    rintro i e d hd ⟨fd', later, seen, b, hseen, rfl⟩
    obtain ⟨w, hw, rfl⟩ := nI_get hd
    obtain ⟨hwn, hwL⟩ := (l.mem w).mp (List.mem_of_getElem? hw)
    obtain ⟨nb, hnb⟩ : ∃ nb, near[w]? = some nb := ⟨_, List.getElem?_eq_getElem (by rw [hnear.1]; exact hwn)⟩
    obtain ⟨hadj, hlen⟩ := hnear.2 w nb hnb
    obtain ⟨fd2, later2, b2, h2⟩ := df_inner (near := near) (layer := layer) hn (l := nb) (node := w) (fun x hx => (wi.adj ((hadj x).mp hx)).2) hwn hwL b
    have g1 : gIx (.list (nLL near)) (.int (w : Int)) = some (.list (nI nb)) := gIx_list rfl (nLL_get hnb)
    refine ⟨_, E7 s near n fd2 layer later2 (.int (w : Int)) .none, rfl, ?_, fd2, later2, seen ++ nb, b2, fun x => ?_, rfl⟩
    · show ((iL (lq (f2 gIx (fV 1) (fV 5)))) (E7 s near n fd' layer later (.int (w : Int)) .none)).bind _ = _
      simp only [iL_e, lq_e, f2_e, fV_e]
      simp [g1]
      exact h2
    · rw [List.mem_append, hseen, hadj, List.take_succ, show 0 + i = i by omega, hw]
      constructor
      · rintro (⟨v, hv, a⟩ | a)
        · exact ⟨v, List.mem_append_left _ hv, a⟩
        · exact ⟨w, List.mem_append_right _ (by simp), a⟩
      · rintro ⟨v, hv, a⟩
        rcases List.mem_append.mp hv with hv | hv
        · exact .inl ⟨v, hv, a⟩
        · have : v = w := by simpa using hv
          subst this
          exact .inr a
  obtain ⟨e', h1, fd', later, seen, h2, h3, h4⟩ := sForN_inv (tg := gN 5) (is := [5]) (f := dfMid)
    (fun i e => ∃ fd' later seen, Bi n es s L fd' later seen ∧ (∀ w, w ∈ seen ↔ ∃ v, v ∈ layer.take i ∧ Adj es v w) ∧ e = E7 s near n fd' layer later .none .none) (ds := nI layer) (n := 0) (e := E7 s near n fd layer [] .none .none)
    ⟨fd, [], [], l.start, fun w => by simp, rfl⟩ st
  refine ⟨fd', later, seen, h2, fun w => ?_, by rw [h1, h4]⟩
  rw [h3, Nat.zero_add, nI_len, List.take_length]
  constructor
  · rintro ⟨v, hv, a⟩
    exact ⟨v, (l.mem v).mp hv, a⟩
  · rintro ⟨v, hv, a⟩
    exact ⟨v, (l.mem v).mpr hv, a⟩
theorem fnD_congr {n : Nat} {f g : Nat → Option Nat} (h : ∀ v, v < n → f v = g v) : fnD n f = fnD n g := by
  unfold fnD
  exact List.map_congr_left fun v hv => by rw [h v (List.mem_range.mp hv)]
theorem gNe_nil {l : List D} (h : shp (.list l) = true) : gNe (.list l) (.list []) = some (.bool (!l.isEmpty)) := by
  have h0 : shp (.list []) = true := by decide
  unfold gNe
  rw [if_pos ⟨h, h0⟩]
  cases l <;> rfl
theorem shp_nI : ∀ l : List Nat, shp (.list (nI l)) = true := fun l => by
  have h1 : ∀ l : List Nat, PyData.canLayAll0 (nI l) = true := fun l => by
    induction l with
    | nil => rfl
    | cons a l ih => simpa [PyData.canLayAll0, PyData.canLay0] using ih
  have h2 : ∀ l : List Nat, PyData.depthAll (nI l) = 0 := fun l => by
    induction l with
    | nil => rfl
    | cons a l ih => simpa [PyData.depthAll, PyData.depth] using ih
  unfold shp SeqAt.shaped
  rw [show (PyData.list (nI l)).canLay0 = PyData.canLayAll0 (nI l) by simp [PyData.canLay0], h1, show (PyData.list (nI l)).depth = PyData.depthAll (nI l) + 1 by simp [PyData.depth], h2]
  rfl
theorem df_wh (hn : n ≤ 1000) (hnear : NearOk n es near) (wi : Within n es) (c : Conn n es) (hs : s < n) : ∃ e', sWh (lb (lq (f2 gNe (fV 3) (fC (.list []))))) (sSeq (sSet 4 (fL aNil)) (sSeq (sFor (iL (lq (fV 3))) (gN 5) [5] dfMid) (sSet 3 (lq (fV 4))))) [.int (s : Int), .list (nLL near), .list (fnD n (upF (fun _ => none) s 0)), .list (nI [s]), .none, .none, .none] = some (.nx e') ∧
      ∃ a b d4 d5, e' = [a, b, .list (fnD n fun v => some (dst es s v)), d4, d5, .none, .none] := by
  refine sWh_inv (I := fun k e => ∃ L fd layer j, Lay n es s L fd layer ∧ n + 1 - L = k ∧ L ≤ n ∧ e = [.int (s : Int), .list (nLL near), .list (fnD n fd), .list (nI layer), j, .none, .none])
    (Q := fun e' => ∃ a b d4 d5, e' = [a, b, .list (fnD n fun v => some (dst es s v)), d4, d5, .none, .none]) (n + 1) ⟨0, _, [s], .none, ⟨fun v hv => ?_, fun v => ?_⟩, rfl, Nat.zero_le _, rfl⟩ ?_
  · unfold upF
    by_cases e : v = s
    · subst e
      rw [if_pos rfl, dst_self, if_pos (Nat.le_refl 0)]
    · rw [if_neg e, if_neg]
      intro z
      exact e (dst_eq0 c hs hv (by omega)).symm
  · constructor
    · intro h
      have : v = s := by simpa using h
      subst this
      exact ⟨hs, dst_self v⟩
    · rintro ⟨h1, h2⟩
      have := dst_eq0 c hs h1 h2
      simp [this]
  · rintro k e ⟨L, fd, layer, j, l, hk, hL, rfl⟩
    have ht : lb (lq (f2 gNe (fV 3) (fC (.list [])))) [.int (s : Int), .list (nLL near), .list (fnD n fd), .list (nI layer), j, .none, .none] = some (!layer.isEmpty, [.int (s : Int), .list (nLL near), .list (fnD n fd), .list (nI layer), j, .none, .none]) := by
      simp only [lb_e, lq_e, f2_e, fV_e, fC_e]
      simp [gNe_nil (shp_nI layer)]
      cases layer <;> rfl
    refine ⟨_, _, ht, fun h => ?_, fun h => ?_⟩
    · -- nothing at this distance
      have hem : layer = [] := by cases layer with | nil => rfl | cons _ _ => cases h
      subst hem
      have none_at : ∀ m v, v < n → dst es s v ≠ L + m := by
        intro m
        induction m with
        | zero => exact fun v hv e => by have := (l.mem v).mpr ⟨hv, e⟩; cases this
        | succ m ih =>
          intro v hv e
          obtain ⟨u, hu, _, e2⟩ := dst_pred c wi hs hv (show dst es s v = (L + m) + 1 by omega)
          exact ih u hu e2
      have : fnD n fd = fnD n fun v => some (dst es s v) := fnD_congr fun v hv => by
        rw [l.fv v hv, if_pos]
        refine Nat.le_of_not_lt fun z => none_at (dst es s v - L) v hv (by omega)
      exact ⟨.int (s : Int), .list (nLL near), .list (nI []), j, by rw [this]⟩
    · obtain ⟨v, hv⟩ : ∃ v, v ∈ layer := by
        cases layer with
        | nil => cases h
        | cons v r => exact ⟨v, List.mem_cons_self⟩
      obtain ⟨hvn, hvL⟩ := (l.mem v).mp hv
      have := dst_lt c wi hs hvn
      obtain ⟨fd', later, seen, b, hseen, hrun⟩ := df_layer hn hnear wi l
      refine ⟨[.int (s : Int), .list (nLL near), .list (fnD n fd'), .list (nI later), .list (nI later), .none, .none], n + 1 - (L + 1), ?_, by omega, L + 1, fd', later, _, b.next c wi hs hseen, rfl, by omega, rfl⟩
      have hrun' : sForN (gN 5) [5] dfMid (nI layer) [.int (s : Int), .list (nLL near), .list (fnD n fd), .list (nI layer), .list [], .none, .none] = some (.nx [.int (s : Int), .list (nLL near), .list (fnD n fd'), .list (nI layer), .list (nI later), .none, .none]) := hrun
      simp only [sSeq_e, sSet_e, fL_e, aNil_e, Option.bind_some]
      simp [hrun']
theorem df_rep (hn : n ≤ 1000) : gRep (.list [.none]) (.int (n : Int)) = some (.list (fnD n fun _ => none)) := by
  have h1 := gRep_ok (xs := [PyData.none]) (k := (n : Int)) (by omega) (by omega) (by rw [List.length_singleton, Nat.one_mul, Int.toNat_natCast]; exact small_le (by omega))
  rw [h1, Int.toNat_natCast, rep_none]
theorem df_ok (hn : n ≤ 1000) (hnear : NearOk n es near) (wi : Within n es) (c : Conn n es) (hs : s < n) : F_distances_from [.int (s : Int), .list (nLL near)] = some (.list (fnD n fun v => some (dst es s v))) := by
  have lenN : (nLL near).length = n := by unfold nLL; rw [List.length_map]; exact hnear.1
  obtain ⟨e', hw, a, b, d4, d5, rfl⟩ := df_wh hn hnear wi c hs
  have hset : (fnD n fun _ => none).set s (.int 0) = fnD n (upF (fun _ => none) s 0) := fnD_set (k := 0) hs
  have hrep := df_rep hn
  have hix : ixN n (s : Int) = some s := ixN_nat hs
  unfold dfMid dfIn at hw
  rw [nI_cons, nI_nil] at hw
  refine semQ_rt (mr := .ow .sh) (n := 5) (g := g_distances_from) (e := [a, b, .list (fnD n fun v => some (dst es s v)), d4, d5, .none, .none]) ?_
  rw [g_distances_from]
  simp only [List.cons_append, List.nil_append, List.replicate]
  simp [lenN, hrep, hix, hset, hw]
end
end T3
set_option Elab.async false
set_option linter.all false
set_option maxRecDepth 100000
set_option maxHeartbeats 1000000
noncomputable section
namespace T3
open PySem PySem.Spec PyProof.Rows L2 Gr
/-! ### neighbor_rows -/
theorem fApp2_ok {i : Nat} {fj fa : En → Option D} {e : En} {ds rs : List D} {k : Int} {m : Nat} {x : D} (h1 : fj e = some (.int k)) (h2 : fa e = some x) (h3 : e[i]? = some (.list ds)) (hk : k = m) (h4 : ds[m]? = some (.list rs)) (hz : rs.length < sizeLine) :
    fApp2 i fj fa e = some (.none, e.set i (.list (ds.set m (.list (rs ++ [x]))))) := by
  subst hk
  have hm : m < ds.length := (List.getElem?_eq_some_iff.mp h4).1
  unfold fApp2
  rw [h1, Option.bind_some, h2, Option.bind_some, h3, Option.bind_some]
  dsimp only
  rw [ixN_nat hm, Option.bind_some, h4, Option.bind_some]
  dsimp only
  rw [if_pos hz]
/-- rows of numbers, told by a function -/
def tb (n : Nat) (r : Nat → List Nat) : List (List Nat) := (List.range n).map r
def upR (r : Nat → List Nat) (v w : Nat) : Nat → List Nat := fun x => if x = v then r v ++ [w] else r x
theorem tb_get {n v : Nat} {r : Nat → List Nat} (h : v < n) : (tb n r)[v]? = some (r v) := by
  unfold tb
  rw [List.getElem?_map, List.getElem?_range h]
  rfl
theorem tb_len {n : Nat} {r : Nat → List Nat} : (tb n r).length = n := by simp [tb]
theorem nLL_set {l : List (List Nat)} {v : Nat} {x : List Nat} : (nLL l).set v (.list (nI x)) = nLL (l.set v x) := by
  unfold nLL
  rw [← List.map_set]
theorem tb_set {n v w : Nat} {r : Nat → List Nat} (h : v < n) : (tb n r).set v (r v ++ [w]) = tb n (upR r v w) := by
  apply List.ext_getElem?
  intro i
  by_cases hi : i < n
  · rw [tb_get hi, List.getElem?_set, tb_len, tb_get hi]
    unfold upR
    by_cases e : v = i
    · subst e
      rw [if_pos rfl, if_pos h, if_pos rfl]
    · rw [if_neg e, if_neg (Ne.symm e)]
  · rw [List.getElem?_eq_none (by rw [List.length_set, tb_len]; omega), List.getElem?_eq_none (by rw [tb_len]; omega)]
/-- one more neighbor -/
theorem app2_row {i : Nat} {fj fa : En → Option D} {e : En} {n v w : Nat} {r : Nat → List Nat} (h1 : fj e = some (.int (v : Int))) (h2 : fa e = some (.int (w : Int))) (h3 : e[i]? = some (.list (nLL (tb n r)))) (hv : v < n) (hz : (r v).length < 1000000) :
    fApp2 i fj fa e = some (.none, e.set i (.list (nLL (tb n (upR r v w))))) := by
  have := fApp2_ok (rs := nI (r v)) h1 h2 h3 rfl (nLL_get (tb_get hv)) (by rw [nI_len]; exact small_line (by omega))
  rw [this, show nI (r v) ++ [PyData.int (w : Int)] = nI (r v ++ [w]) by rw [nI_app]; rfl, nLL_set, tb_set hv]
/-- the neighbors that some edges give -/
def nbs (es : List (Nat × Nat)) (v : Nat) : List Nat := es.flatMap fun e => (if e.1 = v then [e.2] else []) ++ (if e.2 = v then [e.1] else [])
theorem nbs_snoc {es : List (Nat × Nat)} {a b : Nat} (h : a ≠ b) : upR (upR (nbs es) a b) b a = nbs (es ++ [(a, b)]) := by
  funext v
  unfold upR nbs
  rw [List.flatMap_append]
  by_cases e1 : v = b
  · subst e1
    rw [if_pos rfl, if_neg (Ne.symm h)]
    simp [h]
  · rw [if_neg e1]
    by_cases e2 : v = a
    · subst e2
      rw [if_pos rfl]
      simp [Ne.symm e1]
    · rw [if_neg e2]
      simp [Ne.symm e1, Ne.symm e2]
theorem nbs_mem {es : List (Nat × Nat)} {v w : Nat} : w ∈ nbs es v ↔ Adj es v w := by
  unfold nbs Adj
  rw [List.mem_flatMap]
  constructor
  · rintro ⟨⟨a, b⟩, m, h⟩
    rcases List.mem_append.mp h with h | h
    · by_cases e : a = v
      · subst e
        have : w = b := by simpa using h
        subst this
        exact .inl m
      · simp [e] at h
    · by_cases e : b = v
      · subst e
        have : w = a := by simpa using h
        subst this
        exact .inr m
      · simp [e] at h
  · rintro (h | h)
    · exact ⟨(v, w), h, by simp⟩
    · exact ⟨(w, v), h, by simp⟩
theorem nbs_len {es : List (Nat × Nat)} {v : Nat} : (nbs es v).length ≤ 2 * es.length := by
  unfold nbs
  induction es with
  | nil => simp
  | cons e es ih =>
    rw [List.flatMap_cons, List.length_append, List.length_append, List.length_cons]
    have h1 : (if e.1 = v then [e.2] else []).length ≤ 1 := by split <;> simp
    have h2 : (if e.2 = v then [e.1] else []).length ≤ 1 := by split <;> simp
    omega
/-! the graph as data -/
def eD (es : List (Nat × Nat)) : List D := es.map fun e => .tuple [.int (e.1 : Int), .int (e.2 : Int)]
def gD (n : Nat) (es : List (Nat × Nat)) : D := .tuple [.int (n : Int), .list (eD es)]
/-- the loop over the edges -/
theorem rows_loop {n : Nat} {x0 j4 j5 : D} {f : En → Option Fl} (hf : f = sSeq (sEx (fApp2 1 (fV 2) (fV 3))) (sEx (fApp2 1 (fV 3) (fV 2)))) : ∀ {es done : List (Nat × Nat)}, (∀ e ∈ es, e.1 < n ∧ e.2 < n ∧ e.1 ≠ e.2) → done.length + es.length ≤ 1000 →
    sForN (gT (gCons (gN 2) (gCons (gN 3) gNil))) [2, 3] f (eD es) [x0, .list (nLL (tb n (nbs done))), .none, .none, j4, j5] = some (.nx [x0, .list (nLL (tb n (nbs (done ++ es)))), .none, .none, j4, j5])
  | [], done, _, _ => by rw [List.append_nil]; rfl
  | (a, b) :: es, done, h, hl => by
    obtain ⟨ha, hb, hab⟩ := h _ List.mem_cons_self
    rw [List.length_cons] at hl
    have ih := rows_loop (n := n) (x0 := x0) (j4 := j4) (j5 := j5) hf (es := es) (done := done ++ [(a, b)]) (fun e m => h e (List.mem_cons_of_mem _ m)) (by rw [List.length_append, List.length_singleton]; omega)
    have l1 := nbs_len (es := done) (v := a)
    have l2 := nbs_len (es := done) (v := b)
    have h1 : fApp2 1 (fV 2) (fV 3) [x0, .list (nLL (tb n (nbs done))), .int (a : Int), .int (b : Int), j4, j5] = some (.none, [x0, .list (nLL (tb n (upR (nbs done) a b))), .int (a : Int), .int (b : Int), j4, j5]) :=
      app2_row (v := a) (w := b) rfl rfl rfl ha (by omega)
    have h2 : fApp2 1 (fV 3) (fV 2) [x0, .list (nLL (tb n (upR (nbs done) a b))), .int (a : Int), .int (b : Int), j4, j5] = some (.none, [x0, .list (nLL (tb n (upR (upR (nbs done) a b) b a))), .int (a : Int), .int (b : Int), j4, j5]) :=
      app2_row (v := b) (w := a) rfl rfl rfl hb (by unfold upR; rw [if_neg (Ne.symm hab)]; omega)
    rw [nbs_snoc hab] at h2
    have hturn : f [x0, .list (nLL (tb n (nbs done))), .int (a : Int), .int (b : Int), j4, j5] = some (.nx [x0, .list (nLL (tb n (nbs (done ++ [(a, b)])))), .int (a : Int), .int (b : Int), j4, j5]) := by
      rw [hf, sSeq_e, sEx_e, h1, Option.bind_some, Option.bind_some]
      dsimp only
      rw [sEx_e, h2, Option.bind_some]
    show sForN _ _ _ (.tuple [.int (a : Int), .int (b : Int)] :: eD es) _ = _
    unfold sForN
    rw [show gT (gCons (gN 2) (gCons (gN 3) gNil)) [x0, .list (nLL (tb n (nbs done))), .none, .none, j4, j5] (.tuple [.int (a : Int), .int (b : Int)]) = some [x0, .list (nLL (tb n (nbs done))), .int (a : Int), .int (b : Int), j4, j5] from rfl, Option.bind_some, hturn, Option.bind_some]
    dsimp only
    rw [show done ++ (a, b) :: es = (done ++ [(a, b)]) ++ es by simp]
    exact ih
end T3
end
set_option Elab.async false
set_option linter.all false
set_option maxRecDepth 100000
set_option maxHeartbeats 1000000
noncomputable section
namespace T3
open PySem PySem.Spec PyProof.Rows L2 Gr
theorem iR1_ok {fs : En → Option (List D × En)} {e e' : En} {n : Nat} (h : fs e = some ([.int (n : Int)], e')) (hn : n ≤ 1000000) : iR1 fs e = some (nI (List.range n), e') := by
  unfold iR1
  rw [h, Option.bind_some]
  dsimp only
  rw [if_pos ⟨by omega, by omega⟩]
  unfold intsFrom nI
  rw [Int.toNat_natCast]
  congr 2
  exact List.map_congr_left fun i _ => by rw [Int.zero_add]
theorem iR2_ok {fs : En → Option (List D × En)} {e e' : En} {m n : Nat} (h : fs e = some ([.int (m : Int), .int (n : Int)], e')) (hm : m ≤ 1000000) (hn : n ≤ 1000000) : iR2 fs e = some (nI ((List.range (n - m)).map (m + ·)), e') := by
  unfold iR2
  rw [h, Option.bind_some]
  dsimp only
  rw [if_pos ⟨by omega, by omega, by omega, by omega⟩]
  unfold intsFrom nI
  rw [show ((n : Int) - (m : Int)).toNat = n - m by omega, List.map_map]
  congr 2
def srt (l : List Nat) : List Nat := (sortI (l.map fun x : Nat => (x : Int))).map Int.toNat
theorem srt_mem {l : List Nat} {x : Nat} : x ∈ srt l ↔ x ∈ l := by
  unfold srt
  rw [List.mem_map]
  constructor
  · rintro ⟨i, hi, rfl⟩
    obtain ⟨y, hy, rfl⟩ := List.mem_map.mp ((sortI_perm _).mem_iff.mp hi)
    simpa using hy
  · intro h
    exact ⟨(x : Int), (sortI_perm _).mem_iff.mpr (List.mem_map.mpr ⟨x, h, rfl⟩), by simp⟩
theorem srt_len {l : List Nat} : (srt l).length = l.length := by
  unfold srt
  rw [List.length_map, (sortI_perm _).length_eq, List.length_map]
theorem srt_D {l : List Nat} : (sortI (l.map fun x : Nat => (x : Int))).map PyData.int = nI (srt l) := by
  unfold srt nI
  rw [List.map_map]
  refine List.map_congr_left fun i hi => ?_
  obtain ⟨y, hy, rfl⟩ := List.mem_map.mp ((sortI_perm _).mem_iff.mp hi)
  simp
theorem gSorted_nI {l : List Nat} : gSorted (.list (nI l)) = some (.list (nI (srt l))) := by
  have h : intsOf (nI l) = some (l.map fun x : Nat => (x : Int)) := by
    have := intsOf_map (l.map fun x : Nat => (x : Int))
    rw [List.map_map] at this
    exact this
  show gSortL (nI l) = _
  unfold gSortL
  rw [h]
  dsimp only
  rw [srt_D]
/-- neighbor_rows -/
def nearOf (n : Nat) (es : List (Nat × Nat)) : List (List Nat) := tb n fun v => srt (nbs es v)
theorem nr_ok {n : Nat} {es : List (Nat × Nat)} (hn : n ≤ 1000) (he : ∀ e ∈ es, e.1 < n ∧ e.2 < n ∧ e.1 ≠ e.2) (hl : es.length ≤ 500) : F_neighbor_rows [gD n es] = some (.list (nLL (nearOf n es))) := by
  have h0 : ∀ ds : List D, lcN (gN 4) [4] bYes (fL aNil) ds [gD n es, .none, .none, .none, .none, .none] = some (ds.map fun _ => .list [], [gD n es, .none, .none, .none, .none, .none]) := fun ds =>
    lcN_all (fun _ => .list []) fun d _ => ⟨[gD n es, .none, .none, .none, d, .none], [gD n es, .none, .none, .none, d, .none], rfl, rfl, rfl⟩
  have h1 : (nI (List.range n)).map (fun _ => PyData.list []) = nLL (tb n (nbs [])) := by
    unfold nI nLL tb
    rw [List.map_map, List.map_map]
    rfl
  have h2 := rows_loop (n := n) (x0 := gD n es) (j4 := .none) (j5 := .none) rfl (es := es) (done := []) he (by simp; omega)
  rw [List.nil_append] at h2
  have h3 : lcN (gN 5) [5] bYes (lq (f1 gSorted (fV 5))) (nLL (tb n (nbs es))) [gD n es, .list (nLL (tb n (nbs es))), .none, .none, .none, .none] = some (nLL (nearOf n es), [gD n es, .list (nLL (tb n (nbs es))), .none, .none, .none, .none]) := by
    have := lcN_all (tg := gN 5) (is := [5]) (fe := lq (f1 gSorted (fV 5))) (e := [gD n es, .list (nLL (tb n (nbs es))), .none, .none, .none, .none]) (fun d => (gSorted d).getD .none) (ds := nLL (tb n (nbs es))) fun d hd => by
      unfold nLL at hd
      obtain ⟨l, _, rfl⟩ := List.mem_map.mp hd
      refine ⟨_, [gD n es, .list (nLL (tb n (nbs es))), .none, .none, .none, .list (nI l)], rfl, ?_, rfl⟩
      rw [lq_e, f1_e, fV_e]
      show ((some (PyData.list (nI l))).bind gSorted).bind _ = _
      rw [Option.bind_some, gSorted_nI]
      rfl
    rw [this]
    congr 2
    unfold nLL nearOf tb
    rw [List.map_map, List.map_map, List.map_map]
    refine List.map_congr_left fun v _ => ?_
    show (gSorted (.list (nI (nbs es v)))).getD .none = _
    rw [gSorted_nI]
    rfl
  have hr : iR1 (aV (lq (f2 gIx (fV 0) (fC (.int 0)))) aNil) [gD n es, .none, .none, .none, .none, .none] = some (nI (List.range n), [gD n es, .none, .none, .none, .none, .none]) := iR1_ok (by
    have : gIx (gD n es) (.int 0) = some (.int (n : Int)) := gIx_t0
    simp [this]) (by omega)
  have hz : n ≤ sizeLine := small_le (by omega)
  have hz2 : (nLL (tb n (nbs es))).length ≤ sizeLine := by unfold nLL; rw [List.length_map, tb_len]; exact small_le (by omega)
  have hg1 : gIx (gD n es) (.int 1) = some (.list (eD es)) := gIx_t1
  refine semQ_rt (mr := .ow .sh) (n := 5) (g := g_neighbor_rows) (e := [gD n es, .list (nLL (tb n (nbs es))), .none, .none, .none, .none]) ?_
  rw [g_neighbor_rows]
  simp only [List.cons_append, List.nil_append, List.replicate]
  simp [hr, hz, h0, h1, hg1, h2, hz2, h3]
theorem near_ok {n : Nat} {es : List (Nat × Nat)} (hl : es.length ≤ 500) : NearOk n es (nearOf n es) := by
  refine ⟨tb_len, fun v l h => ?_⟩
  have hv : v < n := by
    have := (List.getElem?_eq_some_iff.mp h).1
    unfold nearOf at this
    rwa [tb_len] at this
  unfold nearOf at h
  rw [tb_get hv] at h
  cases h
  refine ⟨fun w => by rw [srt_mem]; exact nbs_mem, ?_⟩
  rw [srt_len]
  have := nbs_len (es := es) (v := v)
  omega
end T3
end
set_option Elab.async false
set_option linter.all false
set_option maxRecDepth 100000
set_option maxHeartbeats 1000000
noncomputable section
namespace T3
open PySem PySem.Spec PyProof.Rows L2 Gr
theorem kit_ii : kitB "int" "int" = some true := by decide +kernel
theorem kit_ib : kitB "int" "bool" = some false := by decide +kernel
theorem kit_tt : kitB "tuple" "tuple" = some true := by decide +kernel
theorem kit_ll : kitB "list" "list" = some true := by decide +kernel
@[simp] theorem isi_ii {v : Int} : gIsi "int" (.int v) = some (.bool true) := by
  show (kitB "int" "int").map (fun b => PyData.bool b) = _
  rw [kit_ii]
  rfl
@[simp] theorem isi_ib {v : Int} : gIsi "bool" (.int v) = some (.bool false) := by
  show (kitB "int" "bool").map (fun b => PyData.bool b) = _
  rw [kit_ib]
  rfl
@[simp] theorem isi_tt {v : List D} : gIsi "tuple" (.tuple v) = some (.bool true) := by
  show (kitB "tuple" "tuple").map (fun b => PyData.bool b) = _
  rw [kit_tt]
  rfl
@[simp] theorem isi_ll {v : List D} : gIsi "list" (.list v) = some (.bool true) := by
  show (kitB "list" "list").map (fun b => PyData.bool b) = _
  rw [kit_ll]
  rfl
theorem int_ok {v a b : Int} (h1 : a ≤ v) (h2 : v ≤ b) : F_is_integer [.int v, .int a, .int b] = some (.bool true) := by
  refine semQ_rt (mr := .sh) (n := 0) (g := g_is_integer) (e := [.int v, .int a, .int b]) ?_
  rw [g_is_integer]
  simp [h1, h2]
theorem shp_int {i : Int} : shp (.int i) = true := by
  unfold shp SeqAt.shaped
  simp [PyData.canLay0, PyData.depth]
theorem gNe_int {a b : Int} : gNe (.int a) (.int b) = some (.bool (!decide (a = b))) := by
  unfold gNe
  rw [if_pos ⟨shp_int, shp_int⟩]
  congr 3
theorem gEq_int {a b : Int} : gEq (.int a) (.int b) = some (.bool (decide (a = b))) := by
  unfold gEq
  rw [if_pos ⟨shp_int, shp_int⟩]
  congr 2
theorem pair_ok {a b n : Nat} (h1 : a < b) (h2 : b < n) : F_is_pair [.tuple [.int (a : Int), .int (b : Int)], .int (n : Int)] = some (.bool true) := by
  let e0 : En := [.tuple [.int (a : Int), .int (b : Int)], .int (n : Int), .none]
  have hi : ∀ k : Nat, k < n → fCl F_is_integer (aV (lq (fV 2)) (aV (lq (fC (.int 0))) (aV (lq (f2 gSub (fV 1) (fC (.int 1)))) aNil))) [.tuple [.int (a : Int), .int (b : Int)], .int (n : Int), .int (k : Int)] = some (.bool true, [.tuple [.int (a : Int), .int (b : Int)], .int (n : Int), .int (k : Int)]) := fun k hk => by
    have := int_ok (v := (k : Int)) (a := 0) (b := (n : Int) - 1) (by omega) (by omega)
    simp [this]
  have hl : lcN (gN 2) [2] bYes (fCl F_is_integer (aV (lq (fV 2)) (aV (lq (fC (.int 0))) (aV (lq (f2 gSub (fV 1) (fC (.int 1)))) aNil)))) [.int (a : Int), .int (b : Int)] [.tuple [.int (a : Int), .int (b : Int)], .int (n : Int), .none] = some ([.bool true, .bool true], [.tuple [.int (a : Int), .int (b : Int)], .int (n : Int), .none]) :=
    lcN_all (fun _ => .bool true) fun d hd => by
      have : d = .int (a : Int) ∨ d = .int (b : Int) := by simpa using hd
      rcases this with rfl | rfl
      · exact ⟨_, _, rfl, hi a (by omega), rfl⟩
      · exact ⟨_, _, rfl, hi b h2, rfl⟩
  have hz : (2 : Nat) ≤ sizeLine := small_le (by omega)
  have hall : gAll [.list [.bool true, .bool true]] = some (.bool true) := rfl
  refine semQ_rt (mr := .sh) (n := 1) (g := g_is_pair) (e := [.tuple [.int (a : Int), .int (b : Int)], .int (n : Int), .none]) ?_
  rw [g_is_pair]
  simp only [List.cons_append, List.nil_append, List.replicate]
  simp [gNe_int, hz, hl, hall, h1]
end T3
end
set_option Elab.async false
set_option linter.all false
set_option maxRecDepth 100000
set_option maxHeartbeats 1000000
noncomputable section
namespace T3
open PySem PySem.Spec PyProof.Rows L2 Gr
theorem gAll_true {l : List D} : gAll [.list (l.map fun _ => .bool true)] = some (.bool true) := by
  have e : (l.map fun _ => PyData.bool true) = (l.map fun _ => true).map .bool := by rw [List.map_map]; rfl
  show (blsOf (l.map fun _ => PyData.bool true)).map (fun ns => PyData.bool (ns.all id)) = _
  rw [e, blsOf_map]
  simp
theorem cutD_1 {ds : List D} : cutD ds (some 1) none = ds.drop 1 := by
  unfold cutD
  rw [show HT.sIx ds.length 0 (some 1) = min 1 ds.length from HT.sIx_nat ds.length 0 1, HT.sIx_none]
  cases ds with
  | nil => rfl
  | cons x r =>
    rw [show min 1 (x :: r).length = 1 by rw [List.length_cons]; omega]
    show (List.take ((x :: r).length - 1) r) = r
    rw [List.length_cons, Nat.add_sub_cancel]
    exact List.take_length
/-- ascending edges -/
def Asc (es : List (Nat × Nat)) : Prop := es.Pairwise fun p q => p.1 < q.1 ∨ (p.1 = q.1 ∧ p.2 < q.2)
theorem ltP_eD {p q : Nat × Nat} (h : p.1 < q.1 ∨ (p.1 = q.1 ∧ p.2 < q.2)) : gLtP (.tuple [.int (p.1 : Int), .int (p.2 : Int)]) (.tuple [.int (q.1 : Int), .int (q.2 : Int)]) = some (.bool true) := by
  show some (PyData.bool (!leP ((q.1 : Int), (q.2 : Int)) ((p.1 : Int), (p.2 : Int)))) = _
  have : leP ((q.1 : Int), (q.2 : Int)) ((p.1 : Int), (p.2 : Int)) = false := by
    rw [Bool.eq_false_iff]
    intro z
    rw [leP_iff] at z
    simp only at z
    omega
  rw [this]
  rfl
theorem zip_asc : ∀ {es : List (Nat × Nat)}, Asc es → ∀ d ∈ zipD (eD es) ((eD es).drop 1), ∃ x y, d = .tuple [x, y] ∧ gLtP x y = some (.bool true)
  | [], _, d, h => by simp [eD, zipD] at h
  | [_], _, d, h => by simp [eD, zipD] at h
  | p :: q :: r, a, d, h => by
    have a2 := List.pairwise_cons.mp a
    have : d = pairD (.tuple [.int (p.1 : Int), .int (p.2 : Int)]) (.tuple [.int (q.1 : Int), .int (q.2 : Int)]) ∨ d ∈ zipD (eD (q :: r)) ((eD (q :: r)).drop 1) := by
      simpa [eD, zipD] using h
    rcases this with rfl | h
    · exact ⟨_, _, rfl, ltP_eD (a2.1 q List.mem_cons_self)⟩
    · exact zip_asc a2.2 d h
theorem asc_ok {es : List (Nat × Nat)} (a : Asc es) (hl : es.length ≤ 1000) : F_is_ascending [.list (eD es)] = some (.bool true) := by
  have h1 : lcN (gT (gCons (gN 1) (gCons (gN 2) gNil))) [1, 2] bYes (lq (f2 gLtP (fV 1) (fV 2))) (zipD (eD es) ((eD es).drop 1)) [.list (eD es), .none, .none] = some ((zipD (eD es) ((eD es).drop 1)).map (fun _ => .bool true), [.list (eD es), .none, .none]) :=
    lcN_all (fun _ => .bool true) fun d hd => by
      obtain ⟨x, y, rfl, h⟩ := zip_asc a d hd
      exact ⟨[.list (eD es), x, y], [.list (eD es), x, y], rfl, by simp [h], rfl⟩
  have hz : (zipD (eD es) ((eD es).drop 1)).length ≤ sizeLine := by
    unfold zipD eD
    rw [List.length_zipWith, List.length_drop, List.length_map]
    exact small_le (by omega)
  have hi : iZ (aV (lq (fV 0)) (aV (lq (fSl (fV 0) (oS (fC (.int 1))) oN)) aNil)) [.list (eD es), .none, .none] = some (zipD (eD es) ((eD es).drop 1), [.list (eD es), .none, .none]) := by
    rw [← cutD_1]
    rfl
  refine semQ_rt (mr := .sh) (n := 2) (g := g_is_ascending) (e := [.list (eD es), .none, .none]) ?_
  rw [g_is_ascending]
  simp only [List.cons_append, List.nil_append, List.replicate]
  simp only [sRt_e, fCl_e, aV_e, fLc_e, hi, Option.bind_some, wpE_cons, wpE_nil, aNil_e]
  rw [if_pos hz]
  simp [-List.drop_one, h1, gAll_true]
/-- a graph: its nodes and edges -/
structure GOk (n : Nat) (es : List (Nat × Nat)) : Prop where
  n1 : 1 ≤ n
  n40 : n ≤ 40
  lt : ∀ e ∈ es, e.1 < e.2 ∧ e.2 < n
  asc : Asc es
  le : es.length ≤ 200
  con : Conn n es
theorem GOk.within {n : Nat} {es : List (Nat × Nat)} (g : GOk n es) : Within n es := fun e m => ⟨Nat.lt_trans (g.lt e m).1 (g.lt e m).2, (g.lt e m).2⟩
theorem GOk.ne {n : Nat} {es : List (Nat × Nat)} (g : GOk n es) : ∀ e ∈ es, e.1 < n ∧ e.2 < n ∧ e.1 ≠ e.2 := fun e m => ⟨(g.within e m).1, (g.within e m).2, Nat.ne_of_lt (g.lt e m).1⟩
theorem GOk.df {n : Nat} {es : List (Nat × Nat)} (g : GOk n es) {s : Nat} (hs : s < n) : F_distances_from [.int (s : Int), .list (nLL (nearOf n es))] = some (.list (fnD n fun v => some (dst es s v))) :=
  df_ok (by have := g.n40; omega) (near_ok (by have := g.le; omega)) g.within g.con hs
theorem GOk.nr {n : Nat} {es : List (Nat × Nat)} (g : GOk n es) : F_neighbor_rows [gD n es] = some (.list (nLL (nearOf n es))) := nr_ok (by have := g.n40; omega) g.ne (by have := g.le; omega)
theorem fnD_some {n : Nat} {f : Nat → Nat} : fnD n (fun v => some (f v)) = nI ((List.range n).map f) := by
  unfold fnD nI
  rw [List.map_map]
  rfl
theorem conn_ok {n : Nat} {es : List (Nat × Nat)} (g : GOk n es) : F_is_connected [.int (n : Int), .list (eD es)] = some (.bool true) := by
  have h1 := g.nr
  have h2 := g.df (s := 0) (by have := g.n1; omega)
  have h3 : gInL true .none (.list (fnD n fun v => some (dst es 0 v))) = some (.bool true) := by
    rw [fnD_some]
    unfold gInL
    dsimp only
    have e0 : shp PyData.none = true := by decide
    rw [if_pos ⟨e0, shp_nI _⟩]
    have : ((nI ((List.range n).map fun v => dst es 0 v)).any fun z => PyData.eqv z .none) = false := by
      rw [List.any_eq_false]
      intro x hx
      unfold nI at hx
      obtain ⟨k, _, rfl⟩ := List.mem_map.mp hx
      simp [PyData.eqv]
    rw [this]
    rfl
  have h2' : F_distances_from [.int 0, .list (nLL (nearOf n es))] = some (.list (fnD n fun v => some (dst es 0 v))) := h2
  have h1' : F_neighbor_rows [.tuple [.int (n : Int), .list (eD es)]] = some (.list (nLL (nearOf n es))) := h1
  refine semQ_rt (mr := .sh) (n := 0) (g := g_is_connected) (e := [.int (n : Int), .list (eD es)]) ?_
  rw [g_is_connected]
  simp [h1', h2', h3]
end T3
end
set_option Elab.async false
set_option linter.all false
set_option maxRecDepth 100000
set_option maxHeartbeats 1000000
noncomputable section
namespace T3
open PySem PySem.Spec PyProof.Rows L2 Gr
theorem eD_len {es : List (Nat × Nat)} : (eD es).length = es.length := List.length_map _
theorem graph_ok {n : Nat} {es : List (Nat × Nat)} (g : GOk n es) : F_is_graph_value [gD n es] = some (.bool true) := by
  have n1 := g.n1
  have n40 := g.n40
  have hi : F_is_integer [.int (n : Int), .int 1, .int 40] = some (.bool true) := int_ok (by omega) (by omega)
  have hl : lcN (gN 3) [3] bYes (fCl F_is_pair (aV (lq (fV 3)) (aV (lq (fV 1)) aNil))) (eD es) [gD n es, .int (n : Int), .list (eD es), .none] = some ((eD es).map (fun _ => .bool true), [gD n es, .int (n : Int), .list (eD es), .none]) :=
    lcN_all (fun _ => .bool true) fun d hd => by
      unfold eD at hd
      obtain ⟨e, he, rfl⟩ := List.mem_map.mp hd
      have := pair_ok (a := e.1) (b := e.2) (n := n) (g.lt e he).1 (g.lt e he).2
      exact ⟨[gD n es, .int (n : Int), .list (eD es), .tuple [.int (e.1 : Int), .int (e.2 : Int)]], [gD n es, .int (n : Int), .list (eD es), .tuple [.int (e.1 : Int), .int (e.2 : Int)]], rfl, by simp [this], rfl⟩
  have hz : (eD es).length ≤ sizeLine := by rw [eD_len]; exact small_le (by have := g.le; omega)
  have ha := asc_ok g.asc (by have := g.le; omega)
  have hc := conn_ok g
  have hle : ¬ (200 : Int) < ((eD es).length : Int) := by rw [eD_len]; have := g.le; omega
  refine semQ_rt (mr := .sh) (n := 3) (g := g_is_graph_value) (e := [gD n es, .int (n : Int), .list (eD es), .none]) ?_
  rw [g_is_graph_value]
  simp only [List.cons_append, List.nil_append, List.replicate]
  unfold gD at hl ⊢
  simp [gNe_int, hi, hz, hl, gAll_true, ha, hc, hle]
theorem needg_ok {n : Nat} {es : List (Nat × Nat)} (g : GOk n es) : F_need_graph [gD n es] = some .none := by
  have h := graph_ok g
  refine semQ_nx (n := 0) (g := g_need_graph) (e := [gD n es]) ?_
  rw [g_need_graph]
  simp [h]
end T3
end
set_option Elab.async false
set_option linter.all false
set_option maxRecDepth 100000
set_option maxHeartbeats 1000000
noncomputable section
namespace T3
open PySem PySem.Spec PyProof.Rows L2 Gr
/-- the distances of one node -/
def dRow (n : Nat) (es : List (Nat × Nat)) (v : Nat) : List Nat := (List.range n).map (dst es v)
/-- distances times weights -/
def mulL (ds : List Nat) (ws : List Int) : List Int := List.zipWith (fun (d : Nat) (w : Int) => (d : Int) * w) ds ws
theorem zip_mul {ds : List Nat} {ws : List Int} : (zipD (nI ds) (ws.map .int)).map (fun d => match d with | .tuple [.int a, .int b] => PyData.int (a * b) | _ => .none) = (mulL ds ws).map .int := by
  unfold zipD nI mulL
  rw [List.zipWith_map, List.map_zipWith, List.map_zipWith]
  rfl
theorem gSum_int {ns : List Int} : gSum [.list (ns.map .int)] = some (.int ns.sum) := by
  show (intsOf (ns.map .int)).map _ = _
  rw [intsOf_map]
  rfl
end T3
end
set_option Elab.async false
set_option linter.all false
set_option maxRecDepth 100000
set_option maxHeartbeats 1000000
noncomputable section
namespace T3
open PySem PySem.Spec PyProof.Rows L2 Gr
local macro_rules | `(tactic| simp! [$xs,*]) => `(tactic| simp only [ev_some, ev_bind, fV_e, fC_e, lq_e, f1_e, f2_e, f3_e, e1_e, e2_e, kNil_e, kCons_e, fQ_e, aNil_e, aV_e, aS_e, fCl_e, fClI_e, fClM_e, fL_e, fT_e, fFl_e, sNil_e, sEx_e, sSet_e, sRt_e, sIf_e, sSeq_e, bNot_e, bAnd_e, bOr_e, bYes_e, lb_e, vAnd_e, vOr_e, vNot_e, fIf_e, gN_e, sFor_e, iL_e, iT_e, gTup_e, gNil_e, gCons_e, ev_lc, wpE_nil, wpE_cons, fApp_e, fExt_e, fExtF_e, sPar2_e, sUnp2_e, sUnp3_e, sAsg_e, sSetI_e, iR1_e, iR2_e, fPopA_e, fPop_e, sPut_e, sPar3_e, fSl_e, eSl_e, fSs_e, oN_e, oS_e, iZ_e, iE_e, fRev_e, sSetI2_e, gAdd_int, gSub_int, gCmp_int, gNeg_int, gInt_int, gInt_bl, gAbs_int, gLen_list, gLen_tuple, gLen_dict, gList_list, gIsN_non, gNotN_non, isNon_none, isNon_int, gIx_l0, gIx_l1, gIx_l2, gIx_t0, gIx_t1, gIx_t2, ev_iten, List.cons_append, List.nil_append, List.replicate, List.getElem?_cons_zero, List.getElem?_cons_succ, List.set_cons_zero, List.set_cons_succ, if_true, if_false, Bool.false_eq_true, $xs,*])
theorem gNe_nI {l : List Nat} : gNe (.list (nI l)) (.list []) = some (.bool (!l.isEmpty)) := by
  rw [gNe_nil (shp_nI l)]
  cases l <;> rfl
theorem lr1_nat {n : Nat} (h : n ≤ 1000000) : gLr1 (.int (n : Int)) = some (.list (nI (List.range n))) := by
  unfold gLr1
  dsimp only
  rw [if_pos ⟨by omega, by omega⟩]
  unfold intsFrom nI
  rw [Int.toNat_natCast]
  congr 2
  exact List.map_congr_left fun i _ => by rw [Int.zero_add]
theorem nI_erase {l : List Nat} {k : Nat} : (nI l).eraseIdx k = nI (l.eraseIdx k) := by
  unfold nI
  induction l generalizing k with
  | nil => rfl
  | cons a l ih => cases k with
    | zero => rfl
    | succ k => simp [ih]
theorem ints0 {n : Nat} : intsFrom 0 n = nI (List.range n) := by
  unfold intsFrom nI
  exact List.map_congr_left fun i _ => by rw [Int.zero_add]
theorem intsm {m k : Nat} : intsFrom (m : Int) k = nI ((List.range k).map (m + ·)) := by
  unfold intsFrom nI
  rw [List.map_map]
  exact List.map_congr_left fun i _ => by simp
@[simp] theorem intsOf_i {ws : List Int} : intsOf (ws.map .int) = some ws := intsOf_map ws
theorem rep_int {n : Nat} {k : Int} : (List.replicate n [PyData.int k]).flatten = (List.replicate n k).map .int := by
  induction n with
  | zero => rfl
  | succ n ih => rw [List.replicate_succ, List.flatten_cons, ih]; rfl
theorem gRep_int {n : Nat} {k : Int} (hn : n ≤ 1000) : gRep (.list [.int k]) (.int (n : Int)) = some (.list ((List.replicate n k).map .int)) := by
  have h1 := gRep_ok (xs := [PyData.int k]) (k := (n : Int)) (by omega) (by omega) (by rw [List.length_singleton, Nat.one_mul, Int.toNat_natCast]; exact small_le (by omega))
  rw [h1, Int.toNat_natCast, rep_int]
theorem set_int {ws : List Int} {v : Nat} {k : Int} : (ws.map PyData.int).set v (.int k) = (ws.set v k).map .int := by rw [List.map_set]
theorem cutD_to {ds : List D} {k : Nat} : cutD ds none (some (k : Int)) = ds.take k := by
  unfold cutD
  rw [HT.sIx_none, HT.sIx_nat, List.drop_zero, Nat.sub_zero]
  by_cases h : k ≤ ds.length
  · rw [Nat.min_eq_left h]
  · rw [Nat.min_eq_right (by omega), List.take_length, List.take_of_length_le (by omega)]
def pT (p : Nat × Nat) : D := .tuple [.int (p.1 : Int), .int (p.2 : Int)]
def kvD (ps : List (Nat × Nat)) : List (D × D) := ps.map fun p => (pT p, .bool true)
theorem kvD_len {ps : List (Nat × Nat)} : (kvD ps).length = ps.length := List.length_map _
theorem same_pT {p q : Nat × Nat} : sameKey (pT p) (pT q) = decide (p = q) := by
  show decide ([Sum.inl (p.1 : Int), Sum.inl (p.2 : Int)] = [Sum.inl (q.1 : Int), Sum.inl (q.2 : Int)]) = _
  congr 1
  simp only [Prod.ext_iff, List.cons.injEq, Sum.inl.injEq, and_true]
  exact propext (by omega)
def addP (ps : List (Nat × Nat)) (p : Nat × Nat) : List (Nat × Nat) := if p ∈ ps then ps else ps ++ [p]
theorem put_pT {ps : List (Nat × Nat)} {p : Nat × Nat} : putD (kvD ps) (pT p) (.bool true) = kvD (addP ps p) := by
  unfold putD addP
  have h1 : ((kvD ps).any fun kv => sameKey kv.1 (pT p)) = decide (p ∈ ps) := by
    unfold kvD
    rw [List.any_map, Bool.eq_iff_iff, List.any_eq_true, decide_eq_true_eq]
    constructor
    · rintro ⟨q, hq, h⟩
      have h : sameKey (pT q) (pT p) = true := h
      rw [same_pT, decide_eq_true_eq] at h
      exact h ▸ hq
    · intro h
      refine ⟨p, h, ?_⟩
      show sameKey (pT p) (pT p) = true
      rw [same_pT, decide_eq_true_eq]
  rw [h1]
  by_cases h : p ∈ ps
  · rw [if_pos (by simpa using h), if_pos h]
    unfold kvD
    rw [List.map_map]
    refine List.map_congr_left fun q _ => ?_
    show (if sameKey (pT q) (pT p) = true then (pT q, PyData.bool true) else (pT q, .bool true)) = _
    rw [ite_self]
  · rw [if_neg (by simpa using h), if_neg h]
    unfold kvD
    rw [List.map_append]
    rfl
theorem addP_mem {ps : List (Nat × Nat)} {p q : Nat × Nat} : q ∈ addP ps p ↔ q ∈ ps ∨ q = p := by
  unfold addP
  split
  · rename_i h
    exact ⟨.inl, fun z => z.elim id fun e => e ▸ h⟩
  · simp
theorem addP_nodup {ps : List (Nat × Nat)} {p : Nat × Nat} (h : ps.Nodup) : (addP ps p).Nodup := by
  unfold addP
  split
  · exact h
  · rename_i m
    rw [List.nodup_append]
    exact ⟨h, by simp, fun a ha b hb e => m (by rw [← List.mem_singleton.mp hb, ← e]; exact ha)⟩
theorem addP_len {ps : List (Nat × Nat)} {p : Nat × Nat} : (addP ps p).length ≤ ps.length + 1 := by
  unfold addP
  split <;> simp
theorem isKT_pT {p : Nat × Nat} : isKT (pT p) = true := rfl
def srtP (ps : List (Nat × Nat)) : List (Nat × Nat) := (sortP (ps.map fun p => ((p.1 : Int), (p.2 : Int)))).map fun p => (p.1.toNat, p.2.toNat)
theorem srtP_D {ps : List (Nat × Nat)} : (sortP (ps.map fun p => ((p.1 : Int), (p.2 : Int)))).map ofPair = eD (srtP ps) := by
  unfold srtP eD
  rw [List.map_map]
  refine List.map_congr_left fun i hi => ?_
  obtain ⟨y, hy, rfl⟩ := List.mem_map.mp ((sortP_perm _).mem_iff.mp hi)
  simp [ofPair]
theorem srtP_mem {ps : List (Nat × Nat)} {q : Nat × Nat} : q ∈ srtP ps ↔ q ∈ ps := by
  unfold srtP
  rw [List.mem_map]
  constructor
  · rintro ⟨i, hi, rfl⟩
    obtain ⟨y, hy, rfl⟩ := List.mem_map.mp ((sortP_perm _).mem_iff.mp hi)
    simpa using hy
  · intro h
    exact ⟨((q.1 : Int), (q.2 : Int)), (sortP_perm _).mem_iff.mpr (List.mem_map.mpr ⟨q, h, rfl⟩), by simp⟩
theorem srtP_len {ps : List (Nat × Nat)} : (srtP ps).length = ps.length := by
  unfold srtP
  rw [List.length_map, (sortP_perm _).length_eq, List.length_map]
theorem srtP_asc {ps : List (Nat × Nat)} (h : ps.Nodup) : Asc (srtP ps) := by
  have nd : (sortP (ps.map fun p => ((p.1 : Int), (p.2 : Int)))).Nodup := by
    rw [(sortP_perm _).nodup_iff, List.nodup_iff_pairwise_ne, List.pairwise_map]
    exact (List.nodup_iff_pairwise_ne.mp h).imp fun {a b} q e => q (by
      have := Prod.ext_iff.mp e
      exact Prod.ext (Int.ofNat.inj this.1) (Int.ofNat.inj this.2))
  unfold srtP Asc
  rw [List.pairwise_map]
  refine List.Pairwise.imp_of_mem (fun {a b} ha hb q => ?_) (List.Pairwise.and (sortP_sorted _) (List.nodup_iff_pairwise_ne.mp nd))
  obtain ⟨x, _, rfl⟩ := List.mem_map.mp ((sortP_perm _).mem_iff.mp ha)
  obtain ⟨y, _, rfl⟩ := List.mem_map.mp ((sortP_perm _).mem_iff.mp hb)
  have h1 := leP_iff.mp q.1
  have h2 := q.2
  simp only [Int.toNat_natCast] at h1 ⊢
  by_cases e : x.1 = y.1
  · by_cases e2 : x.2 = y.2
    · exact (h2 (by rw [e, e2])).elim
    · omega
  · omega
theorem sorted_kvD {ps : List (Nat × Nat)} : gSorted (.dict (kvD ps)) = some (.list (eD (srtP ps))) := by
  show gSortL ((kvD ps).map (·.1)) = _
  have e : (kvD ps).map (·.1) = (ps.map fun p => ((p.1 : Int), (p.2 : Int))).map ofPair := by
    unfold kvD
    rw [List.map_map, List.map_map]
    rfl
  rw [e]
  unfold gSortL
  cases ps with
  | nil => simp [srtP, sortI, sortP, intsOf, eD]
  | cons p ps =>
    have h0 : intsOf ((((p :: ps).map fun p => ((p.1 : Int), (p.2 : Int)))).map ofPair) = none := rfl
    rw [h0]
    dsimp only
    rw [pairsOf_map, Option.map_some, srtP_D]
/-- each node but the first is joined to one ahead of it -/
theorem conn_back {n : Nat} {es : List (Nat × Nat)} (h : ∀ v, 0 < v → v < n → ∃ u, u < v ∧ Adj es u v) : Conn n es := by
  have key : ∀ v, v < n → ∃ k, Wk es k 0 v := by
    intro v
    induction v using Nat.strongRecOn with
    | ind v ih =>
      intro hv
      by_cases h0 : v = 0
      · subst h0
        exact ⟨0, .nil 0⟩
      · obtain ⟨u, hu, a⟩ := h v (by omega) hv
        obtain ⟨k, hk⟩ := ih u hu (by omega)
        exact ⟨k + 1, hk.snoc a⟩
  intro u v hu hv
  obtain ⟨k, hk⟩ := key u hu
  obtain ⟨j, hj⟩ := key v hv
  exact ⟨k + j, hk.symm.trans hj⟩
theorem gMin_nat {a b : Nat} : gMin [.int (a : Int), .int (b : Int)] = some (.int ((min a b : Nat) : Int)) := by
  show some (PyData.int (if (b : Int) < (a : Int) then (b : Int) else (a : Int))) = _
  congr 2
  split <;> omega
theorem gMax_nat {a b : Nat} : gMax [.int (a : Int), .int (b : Int)] = some (.int ((max a b : Nat) : Int)) := by
  show some (PyData.int (if (b : Int) > (a : Int) then (b : Int) else (a : Int))) = _
  congr 2
  split <;> omega
theorem flat_len {r : Nat → List Nat} {M : Nat} (h : ∀ v, (r v).length ≤ M) : ∀ l : List Nat, (l.flatMap r).length ≤ l.length * M
  | [] => by simp
  | a :: l => by
    rw [List.flatMap_cons, List.length_append, List.length_cons, Nat.add_mul, Nat.one_mul]
    have := flat_len h l
    have := h a
    omega
theorem fltAll_nI {l : List Nat} : fltAll (nI l) = true := by
  unfold fltAll nI
  rw [List.all_eq_true]
  intro d hd
  obtain ⟨k, _, rfl⟩ := List.mem_map.mp hd
  rfl
theorem flat_len' {α : Type} {r : Nat → List α} {M : Nat} (h : ∀ v, (r v).length ≤ M) : ∀ l : List Nat, (l.flatMap r).length ≤ l.length * M
  | [] => by simp
  | a :: l => by
    rw [List.flatMap_cons, List.length_append, List.length_cons, Nat.add_mul, Nat.one_mul]
    have := flat_len' h l
    have := h a
    omega
/-! ### what repr shows -/
theorem ok_ofString (s : String) : PyData.strOk (Str.ofString s) = true := by
  rw [Str.ofString_eq_toList]
  unfold PyData.strOk
  rw [Array.all_eq_true_iff_forall_mem]
  intro c hc
  rw [← Array.mem_toList_iff] at hc
  obtain ⟨ch, _, rfl⟩ := List.mem_map.mp (show c ∈ s.toList.map Char.toNat by simpa using hc)
  have := ch.valid
  simp only [decide_eq_true_eq]
  rcases this with h | h
  · have : ch.toNat < 0xd800 := h
    omega
  · exact h.2
theorem ok_app {a b : Str} (h1 : PyData.strOk a = true) (h2 : PyData.strOk b = true) : PyData.strOk (a ++ b) = true := by
  unfold PyData.strOk at h1 h2 ⊢
  rw [Array.all_eq_true_iff_forall_mem] at h1 h2 ⊢
  intro c hc
  have hc : c ∈ a.cps ++ b.cps := hc
  rcases Array.mem_append.mp hc with h | h
  · exact h1 c h
  · exact h2 c h
theorem ok_textFrom : ∀ (ts : List Str) (k : Nat) (acc : Str), (∀ t ∈ ts, PyData.strOk t = true) → PyData.strOk acc = true → PyData.strOk (textFrom k acc ts) = true
  | [], _, _, _, h => h
  | t :: ts, k, acc, ht, h => by
    unfold textFrom
    exact ok_textFrom ts _ _ (fun x m => ht x (List.mem_cons_of_mem _ m)) (ok_app (ok_app h (ok_ofString _)) (ht t List.mem_cons_self))
theorem ok_listText {ts : List Str} (h : ∀ t ∈ ts, PyData.strOk t = true) : PyData.strOk (listText ts) = true := ok_app (ok_textFrom ts 0 _ h (ok_ofString "[")) (ok_ofString "]")
theorem shownAll_map : ∀ ds : List D, PyData.shownAll ds = ds.map PyData.shown
  | [] => rfl
  | d :: ds => by rw [PyData.shownAll, shownAll_map ds]; rfl
theorem ok_shown_nI {l : List Nat} : PyData.strOk (PyData.shown (.list (nI l))) = true := by
  rw [PyData.shown]
  refine ok_listText fun t ht => ?_
  rw [shownAll_map] at ht
  obtain ⟨d, hd, rfl⟩ := List.mem_map.mp ht
  obtain ⟨k, _, rfl⟩ := List.mem_map.mp hd
  rw [PyData.shown]
  exact ok_ofString _
theorem ok_shown_int {i : Int} : PyData.strOk (PyData.shown (.int i)) = true := by
  rw [PyData.shown]
  exact ok_ofString _
theorem shw_int {i : Int} (h : i.natAbs.log2 < 1920) : shwD (.int i) = true := by
  unfold shwD
  rw [Bool.and_eq_true, Bool.and_eq_true]
  refine ⟨shp_int, by simpa [PyData.showable] using h, ?_⟩
  rw [decide_eq_true_eq, PyData.shown]
  exact int_text_fits h
theorem weight_nI : ∀ l : List Nat, (∀ x ∈ l, x < 1000000) → PyData.weightAll (nI l) ≤ 22 * l.length
  | [], _ => by simp [PyData.weightAll]
  | x :: l, h => by
    have ih := weight_nI l fun y m => h y (List.mem_cons_of_mem _ m)
    have hx := h x List.mem_cons_self
    rw [nI_cons, PyData.weightAll, List.length_cons, PyData.weight]
    have : (if (x : Int) == 0 then 0 else (x : Int).natAbs.log2 + 1) ≤ 21 := by
      split
      · omega
      · have : (x : Int).natAbs.log2 < 20 := by
          by_cases h0 : (x : Int).natAbs = 0
          · rw [h0]; decide
          · exact (Nat.log2_lt h0).mpr (by omega)
        omega
    omega
theorem shw_nI {l : List Nat} (h : ∀ x ∈ l, x < 1000000) (hl : l.length ≤ 1000) : shwD (.list (nI l)) = true := by
  have hshp := shp_nI l
  unfold shwD
  rw [Bool.and_eq_true, Bool.and_eq_true]
  refine ⟨hshp, ?_, ?_⟩
  · rw [PyData.showable]
    clear hl hshp
    induction l with
    | nil => rfl
    | cons x l ih =>
      rw [nI_cons, PyData.showableAll, Bool.and_eq_true]
      refine ⟨?_, ih fun y m => h y (List.mem_cons_of_mem _ m)⟩
      rw [PyData.showable, decide_eq_true_eq]
      have hx := h x List.mem_cons_self
      by_cases h0 : (x : Int).natAbs = 0
      · rw [h0]; decide
      · have : (x : Int).natAbs.log2 < 20 := (Nat.log2_lt h0).mpr (by omega)
        omega
  · rw [decide_eq_true_eq]
    have hle : PyData.leavesShort 13 (.list (nI l)) = true := by
      refine PyData.leavesShort_of_canLay0 13 _ (shp_lay hshp) ?_
      rw [PyData.intsShort]
      have e : nI l = (l.map fun x : Nat => (x : Int)).map .int := by rw [List.map_map]; rfl
      rw [e]
      refine PyData.intsShortAll_ints _ fun n hn => ?_
      obtain ⟨x, hx, rfl⟩ := List.mem_map.mp hn
      have := h x hx
      omega
    have h1 := PyData.shown_le 13 (by decide) _ hle
    have h2 := weight_nI l h
    rw [show PyData.weight (.list (nI l)) = PyData.weightAll (nI l) by rw [PyData.weight]] at h1
    rw [sizeLine_eq]
    omega
theorem gRepr_ok {d : D} (h : shwD d = true) : gRepr [d] = some (.str d.shown) := if_pos h
theorem gNe_refl {d : D} (h : shp d = true) : gNe d d = some (.bool false) := by
  unfold gNe
  rw [if_pos ⟨h, h⟩, SeqAt.eqv_refl d (shp_lay h)]
  rfl
theorem gEq_refl {d : D} (h : shp d = true) : gEq d d = some (.bool true) := by
  unfold gEq
  rw [if_pos ⟨h, h⟩, SeqAt.eqv_refl d (shp_lay h)]
theorem shp_ints {ws : List Int} : shp (.list (ws.map .int)) = true := by
  unfold shp SeqAt.shaped
  have h1 : PyData.canLayAll0 (ws.map .int) = true := by
    induction ws with
    | nil => rfl
    | cons a l ih => simpa [PyData.canLayAll0, PyData.canLay0] using ih
  have h2 : PyData.depthAll (ws.map .int) = 0 := by
    clear h1
    induction ws with
    | nil => rfl
    | cons a l ih => simpa [PyData.depthAll, PyData.depth] using ih
  rw [show (PyData.list (ws.map .int)).canLay0 = PyData.canLayAll0 (ws.map .int) by simp [PyData.canLay0], h1, show (PyData.list (ws.map .int)).depth = PyData.depthAll (ws.map .int) + 1 by simp [PyData.depth], h2]
  rfl
theorem shp_gD {n : Nat} {es : List (Nat × Nat)} : shp (gD n es) = true := by
  have h1 : PyData.canLayAll0 (eD es) = true := by
    induction es with
    | nil => rfl
    | cons a l ih =>
      show (PyData.canLay0 (.tuple [.int (a.1 : Int), .int (a.2 : Int)]) && PyData.canLayAll0 (eD l)) = true
      rw [ih]
      simp [PyData.canLay0, PyData.canLayAll0]
  have h2 : PyData.depthAll (eD es) ≤ 1 := by
    clear h1
    induction es with
    | nil => simp [eD, PyData.depthAll]
    | cons a l ih =>
      show PyData.depthAll (PyData.tuple [.int (a.1 : Int), .int (a.2 : Int)] :: eD l) ≤ 1
      rw [PyData.depthAll, PyData.depth, PyData.depthAll, PyData.depthAll, PyData.depthAll, PyData.depth, PyData.depth]
      omega
  unfold shp SeqAt.shaped gD
  have e1 : (PyData.tuple [.int (n : Int), .list (eD es)]).canLay0 = true := by
    simp [PyData.canLay0, PyData.canLayAll0, h1]
  have e2 : (PyData.tuple [.int (n : Int), .list (eD es)]).depth ≤ 3 := by
    rw [PyData.depth, PyData.depthAll, PyData.depthAll, PyData.depthAll, PyData.depth, PyData.depth]
    omega
  rw [e1, Bool.true_and, decide_eq_true_eq]
  omega
theorem dRow_get {n v u : Nat} {es : List (Nat × Nat)} (hu : u < n) : (dRow n es v)[u]? = some (dst es v u) := by
  unfold dRow
  rw [List.getElem?_map, List.getElem?_range hu]
  rfl
theorem dRow_len {n v : Nat} {es : List (Nat × Nat)} : (dRow n es v).length = n := by simp [dRow]
theorem getD_mem {ws : List Int} {i : Nat} (h : i < ws.length) : ws.getD i 0 ∈ ws := by
  have e : ws.getD i 0 = ws[i] := by simp [h]
  rw [e]
  exact List.getElem_mem h
theorem gIx_row {n v : Nat} {es : List (Nat × Nat)} (h : v < n) : gIx (.list (nLL (tb n (dRow n es)))) (.int (v : Int)) = some (.list (nI (dRow n es v))) := gIx_list rfl (nLL_get (tb_get h))
theorem gIx_dst {n v u : Nat} {es : List (Nat × Nat)} (h : u < n) : gIx (.list (nI (dRow n es v))) (.int (u : Int)) = some (.int (dst es v u : Nat)) := gIx_list rfl (by unfold nI; rw [List.getElem?_map, dRow_get h]; rfl)
theorem gIx_int {ws : List Int} {v : Nat} (h : v < ws.length) : gIx (.list (ws.map .int)) (.int (v : Int)) = some (.int (ws.getD v 0)) := gIx_list rfl (by rw [List.getElem?_map, List.getElem?_eq_getElem h]; simp [h])
end T3
end
set_option Elab.async false
set_option linter.all false
set_option maxRecDepth 100000
set_option maxHeartbeats 1000000
noncomputable section
namespace T3
open PySem PySem.Spec PyProof.Rows L2 Gr
local macro_rules | `(tactic| simp! [$xs,*]) => `(tactic| simp only [ev_some, ev_bind, fV_e, fC_e, lq_e, f1_e, f2_e, f3_e, e1_e, e2_e, kNil_e, kCons_e, fQ_e, aNil_e, aV_e, aS_e, fCl_e, fClI_e, fClM_e, fL_e, fT_e, fFl_e, sNil_e, sEx_e, sSet_e, sRt_e, sIf_e, sSeq_e, bNot_e, bAnd_e, bOr_e, bYes_e, lb_e, vAnd_e, vOr_e, vNot_e, fIf_e, gN_e, sFor_e, iL_e, iT_e, gTup_e, gNil_e, gCons_e, ev_lc, wpE_nil, wpE_cons, fApp_e, fExt_e, fExtF_e, sPar2_e, sUnp2_e, sUnp3_e, sAsg_e, sSetI_e, iR1_e, iR2_e, fPopA_e, fPop_e, sPut_e, sPar3_e, fSl_e, eSl_e, fSs_e, oN_e, oS_e, iZ_e, iE_e, fRev_e, sSetI2_e, gAdd_int, gSub_int, gCmp_int, gNeg_int, gInt_int, gInt_bl, gAbs_int, gLen_list, gLen_tuple, gLen_dict, gList_list, gIsN_non, gNotN_non, isNon_none, isNon_int, gIx_l0, gIx_l1, gIx_l2, gIx_t0, gIx_t1, gIx_t2, ev_iten, List.cons_append, List.nil_append, List.replicate, List.getElem?_cons_zero, List.getElem?_cons_succ, List.set_cons_zero, List.set_cons_succ, if_true, if_false, Bool.false_eq_true, $xs,*])
/-! ### words as texts -/
def bz (b : Bool) : Nat := if b then 49 else 48
def wS (w : List Bool) : Str := ⟨(w.map bz).toArray⟩
def sg (b : Bool) : Str := ⟨#[bz b]⟩
def wD (w : List Bool) : D := .str (wS w)
theorem wS_len {w : List Bool} : (wS w).length = w.length := by simp [wS, Str.length]
theorem wS_list {w : List Bool} : (wS w).cps.toList = w.map bz := rfl
theorem str_ext {x y : Str} (h : x.cps.toList = y.cps.toList) : x = y := by
  cases x with | mk a => cases y with | mk b =>
  have : a.toList = b.toList := h
  rw [Str.mk.injEq]
  exact Array.toList_inj.mp this
theorem app_cps (a y : Str) : (a ++ y).cps.toList = a.cps.toList ++ y.cps.toList := by
  show (a.cps ++ y.cps).toList = _
  rw [Array.toList_append]
theorem wS_app {a b : List Bool} : wS a ++ wS b = wS (a ++ b) := str_ext (by rw [app_cps, wS_list, wS_list, wS_list, List.map_append])
theorem bz_inj {a b : Bool} : bz a = bz b ↔ a = b := by cases a <;> cases b <;> decide
theorem gAdd_w {a b : List Bool} (h : a.length + b.length ≤ 1000000) : gAdd (wD a) (wD b) = some (wD (a ++ b)) := by
  unfold wD
  rw [gAdd_str (by rw [wS_len, wS_len]; exact small_le h), wS_app]
theorem lit0 : (Str.ofString "0") = wS [false] := by decide +kernel
theorem lit1 : (Str.ofString "1") = wS [true] := by decide +kernel
theorem lite : (Str.ofString "") = wS [] := by decide +kernel
theorem gLen_w {w : List Bool} (h : w.length ≤ 1000000) : gLen [wD w] = some (.int w.length) := by
  show (@ite (Option _) ((wS w).length ≤ sizeLine) (Classical.propDecidable _) (some (PyData.int (wS w).length)) none) = _
  rw [wS_len, if_pos (small_le h)]
theorem gIx_w {w : List Bool} {k : Nat} (h : w.length ≤ 1000000) (hk : k < w.length) : gIx (wD w) (.int (k : Int)) = some (.str (sg (w.getD k false))) := by
  show (@ite (Option _) ((wS w).length ≤ sizeLine) (Classical.propDecidable _) ((atI (wS w).cps.toList (k : Int)).map fun c => PyData.str ⟨#[c]⟩) none) = _
  rw [wS_len, if_pos (small_le h)]
  have : atI (wS w).cps.toList (k : Int) = some (bz (w.getD k false)) := atI_nat (by
    rw [wS_list, List.getElem?_map, List.getElem?_eq_getElem hk]
    simp [hk])
  rw [this]
  rfl
theorem shp_str {x : Str} (h : PyData.strOk x = true) : shp (.str x) = true := by
  unfold shp SeqAt.shaped
  simp [PyData.canLay0, PyData.depth, h]
theorem shp_sg {b : Bool} : shp (.str (sg b)) = true := by cases b <;> decide +kernel
theorem gEq_sg {a b : Bool} : gEq (.str (sg a)) (.str (sg b)) = some (.bool (a == b)) := by
  unfold gEq
  rw [if_pos ⟨shp_sg, shp_sg⟩]
  cases a <;> cases b <;> rfl
theorem gNe_sg {a b : Bool} : gNe (.str (sg a)) (.str (sg b)) = some (.bool (a != b)) := by
  unfold gNe
  rw [if_pos ⟨shp_sg, shp_sg⟩]
  cases a <;> cases b <;> rfl
theorem gEq_nI {l : List Nat} : gEq (.list (nI l)) (.list []) = some (.bool l.isEmpty) := by
  have h0 : shp (.list []) = true := by decide
  unfold gEq
  rw [if_pos ⟨shp_nI l, h0⟩]
  cases l <;> rfl
theorem gSmul_w {b : Bool} {k : Nat} (h : k ≤ 1000000) : gSmul (wD [b]) (.int (k : Int)) = some (wD (List.replicate k b)) := by
  show (@ite (Option _) (-(2 ^ 63) ≤ (k : Int) ∧ (k : Int) < 2 ^ 63 ∧ (wS [b]).length * (k : Int).toNat ≤ sizeLine) (Classical.propDecidable _) (some (PyData.str (Txt.mul (wS [b]) k))) none) = _
  rw [if_pos ⟨by omega, by omega, by rw [wS_len, Int.toNat_natCast, List.length_singleton, Nat.one_mul]; exact small_le h⟩]
  congr 2
  refine str_ext ?_
  show (Txt.mul ⟨#[bz b]⟩ (k : Int)).cps.toList = _
  rw [mul_one_list, wS_list, Int.toNat_natCast, List.map_replicate]
theorem str_0 : (Str.ofString (toString (0 : Int))) = sg false := by decide +kernel
theorem str_1 : (Str.ofString (toString (1 : Int))) = sg true := by decide +kernel
theorem gStr_b {b : Bool} : gStr [.int (if b = true then 1 else 0)] = some (.str (sg b)) := by
  rw [gStr_i (by cases b <;> decide)]
  cases b
  · exact congrArg (fun z => some (PyData.str z)) str_0
  · exact congrArg (fun z => some (PyData.str z)) str_1
theorem glued_e (l : List Str) : (Txt.join (wS []) l).cps.toList = l.flatMap fun x => x.cps.toList := by
  show (Builtin.Str.glued (wS []) l).cps.toList = _
  unfold Builtin.Str.glued
  have go : ∀ (l : List Str) (acc : Array Nat), (l.foldl (fun acc p => acc ++ (wS []).cps ++ p.cps) acc).toList = acc.toList ++ l.flatMap fun x => x.cps.toList := by
    intro l
    induction l with
    | nil => intro acc; simp
    | cons x l ih =>
      intro acc
      rw [List.foldl_cons, ih, List.flatMap_cons, Array.toList_append, Array.toList_append]
      simp [wS]
  cases l with
  | nil => rfl
  | cons x l =>
    show (List.foldl _ x.cps l).toList = _
    rw [go, List.flatMap_cons]
theorem gJoin_sg {l : List Bool} (h : l.length ≤ 1000000) : gJoin (wD []) (.list (l.map fun b => .str (sg b))) = some (wD l) := by
  have e : (l.map fun b => PyData.str (sg b)) = (l.map sg).map .str := by rw [List.map_map]; rfl
  rw [e]
  show (strsOf ((l.map sg).map .str)).bind _ = _
  rw [strsOf_map, Option.bind_some]
  have hs : ((l.map sg).map (·.length)).sum = l.length := by
    rw [List.map_map]
    clear h e
    induction l with
    | nil => rfl
    | cons b l ih =>
      rw [List.map_cons, List.sum_cons, ih, List.length_cons]
      show 1 + l.length = _
      omega
  rw [if_pos (by rw [hs, wS_len, List.length_nil, Nat.mul_zero]; omega)]
  congr 2
  refine str_ext ?_
  rw [glued_e, wS_list, List.flatMap_map]
  clear hs e h
  induction l with
  | nil => rfl
  | cons b l ih => rw [List.flatMap_cons, ih]; rfl
/-! ### apart, joint -/
end T3
end
set_option Elab.async false
set_option linter.all false
set_option maxRecDepth 100000
set_option maxHeartbeats 1000000
noncomputable section
namespace T3
open PySem PySem.Spec PyProof.Rows L2 Gr
local macro_rules | `(tactic| simp! [$xs,*]) => `(tactic| simp only [ev_some, ev_bind, fV_e, fC_e, lq_e, f1_e, f2_e, f3_e, e1_e, e2_e, kNil_e, kCons_e, fQ_e, aNil_e, aV_e, aS_e, fCl_e, fClI_e, fClM_e, fL_e, fT_e, fFl_e, sNil_e, sEx_e, sSet_e, sRt_e, sIf_e, sSeq_e, bNot_e, bAnd_e, bOr_e, bYes_e, lb_e, vAnd_e, vOr_e, vNot_e, fIf_e, gN_e, sFor_e, iL_e, iT_e, gTup_e, gNil_e, gCons_e, ev_lc, wpE_nil, wpE_cons, fApp_e, fExt_e, fExtF_e, sPar2_e, sUnp2_e, sUnp3_e, sAsg_e, sSetI_e, iR1_e, iR2_e, fPopA_e, fPop_e, sPut_e, sPar3_e, fSl_e, eSl_e, fSs_e, oN_e, oS_e, iZ_e, iE_e, fRev_e, sSetI2_e, gAdd_int, gSub_int, gCmp_int, gNeg_int, gInt_int, gInt_bl, gAbs_int, gLen_list, gLen_tuple, gLen_dict, gList_list, gIsN_non, gNotN_non, isNon_none, isNon_int, gIx_l0, gIx_l1, gIx_l2, gIx_t0, gIx_t1, gIx_t2, ev_iten, List.cons_append, List.nil_append, List.replicate, List.getElem?_cons_zero, List.getElem?_cons_succ, List.set_cons_zero, List.set_cons_succ, if_true, if_false, Bool.false_eq_true, $xs,*])
theorem draw_ev {d : D} {n : Int} (h : TapOk d) (h0 : 0 < n) (h1 : n < 10000000000000000000000000000000000000000) : Ev (F__law_draw [d, .int n]) fun r => ∃ (k : Nat) (d' : D), r = (.int (k : Int), d') ∧ (k : Int) < n ∧ TapOk d' := by
  have hl : n.natAbs.log2 < 9000 := by
    have := (Nat.log2_lt (n := n.natAbs) (k := 200) (by omega)).mpr (by omega)
    omega
  obtain ⟨k, d', e, hk0, hk, ht⟩ := draw_ok h h0 hl
  exact ⟨_, e, k.toNat, d', by rw [Int.toNat_of_nonneg hk0], by omega, ht⟩
end T3
end
set_option Elab.async false
set_option linter.all false
set_option maxRecDepth 100000
set_option maxHeartbeats 1000000
noncomputable section
namespace T3
open PySem PySem.Spec PyProof.Rows L2 Gr
local macro_rules | `(tactic| simp! [$xs,*]) => `(tactic| simp only [ev_some, ev_bind, fV_e, fC_e, lq_e, f1_e, f2_e, f3_e, e1_e, e2_e, kNil_e, kCons_e, fQ_e, aNil_e, aV_e, aS_e, fCl_e, fClI_e, fClM_e, fL_e, fT_e, fFl_e, sNil_e, sEx_e, sSet_e, sRt_e, sIf_e, sSeq_e, bNot_e, bAnd_e, bOr_e, bYes_e, lb_e, vAnd_e, vOr_e, vNot_e, fIf_e, gN_e, sFor_e, iL_e, iT_e, gTup_e, gNil_e, gCons_e, ev_lc, wpE_nil, wpE_cons, fApp_e, fExt_e, fExtF_e, sPar2_e, sUnp2_e, sUnp3_e, sAsg_e, sSetI_e, iR1_e, iR2_e, fPopA_e, fPop_e, sPut_e, sPar3_e, fSl_e, eSl_e, fSs_e, oN_e, oS_e, iZ_e, iE_e, fRev_e, sSetI2_e, gAdd_int, gSub_int, gCmp_int, gNeg_int, gInt_int, gInt_bl, gAbs_int, gLen_list, gLen_tuple, gLen_dict, gList_list, gIsN_non, gNotN_non, isNon_none, isNon_int, gIx_l0, gIx_l1, gIx_l2, gIx_t0, gIx_t1, gIx_t2, ev_iten, List.cons_append, List.nil_append, List.replicate, List.getElem?_cons_zero, List.getElem?_cons_succ, List.set_cons_zero, List.set_cons_succ, if_true, if_false, Bool.false_eq_true, $xs,*])
theorem tap_ok {a : Int} {t : Nat} (ht : t ≤ 1000) : Ev (F__law_tap [.int a, .int (t : Int)]) fun r => TapOk r := by
  refine ev_semQ ?_
  rw [g__law_tap]
  have m2 : ∀ x : Int, gMul (.int 2) (.int x) = some (.int (2 * x)) := fun x => gMul_l (by decide)
  have m3 : gMul (.int 977) (.int (t : Int)) = some (.int (977 * t)) := gMul_l (by decide)
  have m4 : gMul (.int 31) (.int (t : Int)) = some (.int (31 * t)) := gMul_l (by decide)
  simp! [decide_eq_true_eq, m2, m3, m4, gMod_int (show (4294967291 : Int) ≠ 0 by decide), gMod_int (show (2147483587 : Int) ≠ 0 by decide)]
  have h1 := fun x : Int => fmod_rng (a := x) (n := 4294967291) (by decide)
  have h2 := fun x : Int => fmod_rng (a := x) (n := 2147483587) (by decide)
  refine ⟨_, _, _, rfl, ⟨?_, ?_⟩, ?_, ?_⟩
  · have := (h1 (2 * (if a < 0 then -a else a) + if a < 0 then 1 else 0)).1
    omega
  · have := (h1 (2 * (if a < 0 then -a else a) + if a < 0 then 1 else 0)).2
    omega
  · have := (h2 (2 * (if a < 0 then -a else a) + if a < 0 then 1 else 0)).1
    omega
  · have := (h2 (2 * (if a < 0 then -a else a) + if a < 0 then 1 else 0)).2
    omega
theorem cells_ok {ns : List Int} (h : ns.length ≤ 1000) {m : Nat} (hm : m ≤ 1000) (hm1 : 1 ≤ m) : Ev (F__law_cells [.list (ns.map .int), .int (m : Int)]) fun r => ∃ cs : List Int, r = .list (cs.map .int) ∧ 1 ≤ cs.length ∧ cs.length ≤ m := by
  refine ev_semQ ?_
  rw [g__law_cells]
  have hc : gCat (.list (ns.map .int)) (.list [.int 0]) = some (.list ((ns ++ [0]).map .int)) := by
    rw [gCat_ok (by rw [List.length_map, List.length_singleton]; exact small_le (by omega)), List.map_append]
    rfl
  simp! [hc, gMin, gMax, List.length_map]
  refine ⟨(ns ++ [0]).take (max 1 (min m ns.length)), ?_, ?_, ?_⟩
  · have hk : (if (if (ns.length : Int) < (m : Int) then (ns.length : Int) else (m : Int)) > 1 then (if (ns.length : Int) < (m : Int) then (ns.length : Int) else (m : Int)) else 1) = ((max 1 (min m ns.length) : Nat) : Int) := by
      split <;> split <;> omega
    rw [hk, cutD_to, List.map_take]
  · rw [List.length_take, List.length_append]
    simp
    omega
  · rw [List.length_take, List.length_append]
    simp
    omega
end T3
end
set_option Elab.async false
set_option linter.all false
set_option maxRecDepth 100000
set_option maxHeartbeats 1000000
noncomputable section
namespace T3
open PySem PySem.Spec PyProof.Rows L2 Gr
local macro_rules | `(tactic| simp! [$xs,*]) => `(tactic| simp only [ev_some, ev_bind, fV_e, fC_e, lq_e, f1_e, f2_e, f3_e, e1_e, e2_e, kNil_e, kCons_e, fQ_e, aNil_e, aV_e, aS_e, fCl_e, fClI_e, fClM_e, fL_e, fT_e, fFl_e, sNil_e, sEx_e, sSet_e, sRt_e, sIf_e, sSeq_e, bNot_e, bAnd_e, bOr_e, bYes_e, lb_e, vAnd_e, vOr_e, vNot_e, fIf_e, gN_e, sFor_e, iL_e, iT_e, gTup_e, gNil_e, gCons_e, ev_lc, wpE_nil, wpE_cons, fApp_e, fExt_e, fExtF_e, sPar2_e, sUnp2_e, sUnp3_e, sAsg_e, sSetI_e, iR1_e, iR2_e, fPopA_e, fPop_e, sPut_e, sPar3_e, fSl_e, eSl_e, fSs_e, oN_e, oS_e, iZ_e, iE_e, fRev_e, sSetI2_e, gAdd_int, gSub_int, gCmp_int, gNeg_int, gInt_int, gInt_bl, gAbs_int, gLen_list, gLen_tuple, gLen_dict, gList_list, gIsN_non, gNotN_non, isNon_none, isNon_int, gIx_l0, gIx_l1, gIx_l2, gIx_t0, gIx_t1, gIx_t2, ev_iten, List.cons_append, List.nil_append, List.replicate, List.getElem?_cons_zero, List.getElem?_cons_succ, List.set_cons_zero, List.set_cons_succ, if_true, if_false, Bool.false_eq_true, $xs,*])
/-- what stands in the dict -/
structure Kn (n i : Nat) (ps : List (Nat × Nat)) : Prop where
  nd : ps.Nodup
  lt : ∀ p ∈ ps, p.1 < p.2 ∧ p.2 < n
  bk : ∀ v, 0 < v → v ≤ i → ∃ u, u < v ∧ (u, v) ∈ ps
theorem any_ev {d : D} {m : Nat} (h : TapOk d) (hm : 1 ≤ m) (hm2 : m ≤ 40) : Ev (F__law_any_graph [d, .int (m : Int)]) fun r => ∃ n es d', r = (gD n es, d') ∧ GOk n es ∧ TapOk d' := by
  refine ev_semI ?_
  rw [g__law_any_graph]
  have pr : ∀ j : Int, 0 ≤ j → j < 100000 → -(2 ^ 62) ≤ j ∧ j < 2 ^ 62 := fun j h0 h1 => ⟨by omega, by omega⟩
  simp! []
  refine (draw_ev h (by omega) (by omega)).use ?_
  rintro _ ⟨k, d1, rfl, hk, h1⟩
  have e1 : (1 : Int) + (k : Int) = ((k + 1 : Nat) : Int) := by omega
  have e2 : ((((k + 1 : Nat) : Int) - 1)).toNat = k := by omega
  have e3 : (1 : Int) = ((1 : Nat) : Int) := rfl
  simp! [e1]
  rw [e2, e3, intsm]
  refine ⟨⟨by omega, by omega, by omega, by omega⟩, ev_forM (fun i e => ∃ d ps, TapOk d ∧ Kn (k + 1) i ps ∧ ps.length ≤ i ∧ e = [d, .int (m : Int), .int ((k + 1 : Nat) : Int), .dict (kvD ps), .none, .none, .none, .none]) ⟨d1, [], h1, ⟨by simp, by simp, fun v h0 h1 => by omega⟩, by simp, rfl⟩ ?_ ?_⟩
  · rintro i x e hx ⟨d2, ps, h2, hp, hl, rfl⟩
    have hi : i < k := by
      have := (List.getElem?_eq_some_iff.mp hx).1
      rwa [List.length_map, List.length_range] at this
    rw [List.getElem?_map, List.getElem?_range hi] at hx
    cases hx
    simp! []
    refine (draw_ev h2 (by omega) (by omega)).use ?_
    rintro _ ⟨u, d3, rfl, hu, h3⟩
    have hpt : PyData.tuple [.int (u : Int), .int ((1 + i : Nat) : Int)] = pT (u, 1 + i) := rfl
    simp! [hpt, put_pT, isKT_pT, kvD_len]
    refine ⟨⟨trivial, small_line (by omega)⟩, d3, addP ps (u, 1 + i), h3, ⟨addP_nodup hp.nd, fun p hm => ?_, fun v h0 h1 => ?_⟩, Nat.le_trans addP_len (by omega), rfl⟩
    · rcases addP_mem.mp hm with hm | rfl
      · exact hp.lt p hm
      · exact ⟨by simpa using (show u < 1 + i by omega), by show 1 + i < k + 1; omega⟩
    · by_cases e : v ≤ i
      · obtain ⟨w, hw, hm⟩ := hp.bk v h0 e
        exact ⟨w, hw, addP_mem.mpr (.inl hm)⟩
      · have : v = 1 + i := by omega
        subst this
        exact ⟨u, by omega, addP_mem.mpr (.inr rfl)⟩
  · rintro e ⟨d2, ps, h2, hp, hl, rfl⟩
    rw [List.length_map, List.length_range] at hp hl
    have m3 : gMul (.int 3) (.int ((k + 1 : Nat) : Int)) = some (.int (3 * ((k + 1 : Nat) : Int))) := gMul_l (by decide)
    simp! [m3]
    refine (draw_ev h2 (by omega) (by omega)).use ?_
    rintro _ ⟨t, d3, rfl, ht, h3⟩
    simp! [ints0, Int.toNat_natCast]
    refine ⟨pr (t : Int) (by omega) (by omega), ev_forM (fun i e => ∃ d ps, TapOk d ∧ Kn (k + 1) k ps ∧ ps.length ≤ 200 ∧ e = [d, .int (m : Int), .int ((k + 1 : Nat) : Int), .dict (kvD ps), .none, .none, .none, .none]) ⟨d3, ps, h3, hp, by omega, rfl⟩ ?_ ?_⟩
    · rintro i x e hx ⟨d4, ps, h4, hp, hl, rfl⟩
      simp! []
      refine (draw_ev h4 (by omega) (by omega)).use ?_
      rintro _ ⟨u, d5, rfl, hu, h5⟩
      simp! []
      refine (draw_ev h5 (by omega) (by omega)).use ?_
      rintro _ ⟨w, d6, rfl, hw, h6⟩
      simp! [gNe_int, kvD_len]
      by_cases huw : u = w
      · have hb : (!decide ((u : Int) = (w : Int))) = false := by simp; omega
        simp! [hb]
        exact ⟨d6, ps, h6, hp, hl, rfl⟩
      · have hb : (!decide ((u : Int) = (w : Int))) = true := by simp; omega
        by_cases hlt : ps.length < 200
        · have hlt' : decide (((ps.length : Nat) : Int) < 200) = true := by simp; omega
          have hpt : PyData.tuple [.int ((min u w : Nat) : Int), .int ((max u w : Nat) : Int)] = pT (min u w, max u w) := rfl
          simp! [hb, hlt', gMin_nat, gMax_nat, hpt, put_pT, isKT_pT, kvD_len]
          refine ⟨⟨trivial, small_line (by omega)⟩, d6, addP ps (min u w, max u w), h6, ⟨addP_nodup hp.nd, fun p hm => ?_, fun v h0 h1 => ?_⟩, Nat.le_trans addP_len (by omega), rfl⟩
          · rcases addP_mem.mp hm with hm | rfl
            · exact hp.lt p hm
            · exact ⟨by show min u w < max u w; omega, by show max u w < k + 1; omega⟩
          · obtain ⟨w, hw, hm⟩ := hp.bk v h0 h1
            exact ⟨w, hw, addP_mem.mpr (.inl hm)⟩
        · have hlt' : decide ((((kvD ps).length : Nat) : Int) < 200) = false := by rw [kvD_len]; simp; omega
          simp! [hb, hlt']
          exact ⟨d6, ps, h6, hp, hl, rfl⟩
    · rintro e ⟨d4, ps, h4, hp, hl, rfl⟩
      simp! [sorted_kvD]
      refine ⟨k + 1, srtP ps, d4, rfl, ⟨by omega, by omega, fun e he => hp.lt e (srtP_mem.mp he), srtP_asc hp.nd, by rw [srtP_len]; exact hl, conn_back fun v h0 hv => ?_⟩, h4⟩
      obtain ⟨u, hu, hm⟩ := hp.bk v h0 (by omega)
      exact ⟨u, hu, .inl (srtP_mem.mpr hm)⟩
end T3
end
set_option Elab.async false
set_option linter.all false
set_option maxRecDepth 100000
set_option maxHeartbeats 1000000
noncomputable section
namespace T3
open PySem PySem.Spec PyProof.Rows L2 Gr
local macro_rules | `(tactic| simp! [$xs,*]) => `(tactic| simp only [iStrD_e, fThaw_e, fAppT_e, ev_some, ev_bind, fV_e, fC_e, lq_e, f1_e, f2_e, f3_e, e1_e, e2_e, kNil_e, kCons_e, fQ_e, aNil_e, aV_e, aS_e, fCl_e, fClI_e, fClM_e, fL_e, fT_e, fFl_e, sNil_e, sEx_e, sSet_e, sRt_e, sIf_e, sSeq_e, bNot_e, bAnd_e, bOr_e, bYes_e, lb_e, vAnd_e, vOr_e, vNot_e, fIf_e, gN_e, sFor_e, iL_e, iT_e, gTup_e, gNil_e, gCons_e, ev_lc, wpE_nil, wpE_cons, fApp_e, fExt_e, fExtF_e, sPar2_e, sUnp2_e, sUnp3_e, sAsg_e, sSetI_e, iR1_e, iR2_e, fPopA_e, fPop_e, sPut_e, sPar3_e, fSl_e, eSl_e, fSs_e, oN_e, oS_e, iZ_e, iE_e, fRev_e, sSetI2_e, gAdd_int, gSub_int, gCmp_int, gNeg_int, gInt_int, gInt_bl, gAbs_int, gLen_list, gLen_tuple, gLen_dict, gList_list, gIsN_non, gNotN_non, isNon_none, isNon_int, gIx_l0, gIx_l1, gIx_l2, gIx_t0, gIx_t1, gIx_t2, ev_iten, List.cons_append, List.nil_append, List.replicate, List.getElem?_cons_zero, List.getElem?_cons_succ, List.set_cons_zero, List.set_cons_succ, if_true, if_false, Bool.false_eq_true, $xs,*])
/-! ### readings of this law -/
theorem iStrD_e {fa : En → Option (D × En)} {e : En} : iStrD fa e = (fa e).bind fun x => match x.1 with
  | .str x1 => some (signsD x1, x.2)
  | _ => none := rfl
theorem fThaw_e {f : En → Option (D × En)} {e : En} : fThaw f e = (f e).bind fun x => (flt x.1).bind fun _ => some (x.1, e) := rfl
theorem fAppT_e {i n : Nat} {fa : En → Option D} {e : En} : fAppT i n fa e = (fa e).bind fun x => (e[i]?).bind fun l => match l with
  | .tuple ds => (ds[n]?).bind fun r => match r with
    | .list rs => @ite (Option _) (rs.length < sizeLine) (Classical.propDecidable _) (some (.none, e.set i (.tuple (ds.set n (.list (rs ++ [x])))))) none
    | _ => none
  | _ => none := rfl
/-! ### texts by their codes -/
def xS (l : List Nat) : Str := ⟨l.toArray⟩
theorem xS_len {l : List Nat} : (xS l).length = l.length := by simp [xS, Str.length]
theorem xS_list {l : List Nat} : (xS l).cps.toList = l := rfl
theorem xS_of (x : Str) : xS x.cps.toList = x := str_ext rfl
theorem xS_inj {a b : List Nat} (h : xS a = xS b) : a = b := by
  have := congrArg (fun s => s.cps.toList) h
  exact this
theorem xS_app {a b : List Nat} : xS a ++ xS b = xS (a ++ b) := str_ext (by rw [app_cps]; rfl)
theorem gAdd_t {a b : List Nat} (h : a.length + b.length ≤ 1000000) : gAdd (.str (xS a)) (.str (xS b)) = some (.str (xS (a ++ b))) := by
  rw [gAdd_str (by rw [xS_len, xS_len]; exact small_le h), xS_app]
theorem strOk_t {l : List Nat} (h : ∀ c ∈ l, c < 128) : PyData.strOk (xS l) = true := by
  unfold PyData.strOk
  rw [Array.all_eq_true_iff_forall_mem]
  intro x hx
  have : x ∈ l := by simpa [xS] using hx
  have := h x this
  simp
  omega
theorem shp_t {l : List Nat} (h : ∀ c ∈ l, c < 128) : shp (.str (xS l)) = true := shp_str (strOk_t h)
theorem eqv_t {a b : List Nat} : PyData.eqv (.str (xS a)) (.str (xS b)) = decide (a = b) := by
  rw [PyData.eqv, Bool.eq_iff_iff]
  by_cases e : a = b
  · simp [e]
  · have : xS a ≠ xS b := fun z => e (xS_inj z)
    simp [e, this]
theorem gEq_t {a b : List Nat} (ha : ∀ c ∈ a, c < 128) (hb : ∀ c ∈ b, c < 128) : gEq (.str (xS a)) (.str (xS b)) = some (.bool (decide (a = b))) := by
  unfold gEq
  rw [if_pos ⟨shp_t ha, shp_t hb⟩, eqv_t]
theorem gNe_t {a b : List Nat} (ha : ∀ c ∈ a, c < 128) (hb : ∀ c ∈ b, c < 128) : gNe (.str (xS a)) (.str (xS b)) = some (.bool (!decide (a = b))) := by
  unfold gNe
  rw [if_pos ⟨shp_t ha, shp_t hb⟩, eqv_t]
theorem gLen_t {l : List Nat} (h : l.length ≤ 1000000) : gLen [.str (xS l)] = some (.int l.length) := by
  show (@ite (Option _) ((xS l).length ≤ sizeLine) (Classical.propDecidable _) (some (PyData.int (xS l).length)) none) = _
  rw [xS_len, if_pos (small_le h)]
theorem gIx_t {l : List Nat} {k : Nat} (h : l.length ≤ 1000000) (hk : k < l.length) : gIx (.str (xS l)) (.int (k : Int)) = some (.str (xS [l.getD k 0])) := by
  show (@ite (Option _) ((xS l).length ≤ sizeLine) (Classical.propDecidable _) ((atI (xS l).cps.toList (k : Int)).map fun c => PyData.str ⟨#[c]⟩) none) = _
  rw [xS_len, if_pos (small_le h)]
  have : atI (xS l).cps.toList (k : Int) = some (l.getD k 0) := atI_nat (by
    show l[k]? = _
    rw [List.getElem?_eq_getElem hk]
    simp [hk])
  rw [this]
  rfl
/-! ### joined and split -/
def jn (c : Nat) : List (List Nat) → List Nat
  | [] => []
  | [p] => p
  | p :: q :: r => p ++ c :: jn c (q :: r)
theorem jn_str (c : Nat) : ∀ ps : List (List Nat), Str.join (xS [c]) (ps.map xS) = xS (jn c ps)
  | [] => rfl
  | [p] => rfl
  | p :: q :: r => by
    show xS p ++ xS [c] ++ Str.join (xS [c]) ((q :: r).map xS) = _
    rw [jn_str c (q :: r), xS_app, xS_app]
    show _ = xS (p ++ c :: jn c (q :: r))
    congr 1
    simp
theorem cut_eq {c : Nat} : ∀ {p q x y : List Nat}, c ∉ p → c ∉ q → p ++ c :: x = q ++ c :: y → p = q ∧ x = y
  | [], [], x, y, _, _, h => by
    have h : c :: x = c :: y := h
    cases h
    exact ⟨rfl, rfl⟩
  | [], b :: q, x, y, _, hq, h => by
    have h : c :: x = b :: (q ++ c :: y) := h
    injection h with h1 _
    exact absurd (h1 ▸ List.mem_cons_self) hq
  | a :: p, [], x, y, hp, _, h => by
    have h : a :: (p ++ c :: x) = c :: y := h
    injection h with h1 _
    exact absurd (h1 ▸ List.mem_cons_self) hp
  | a :: p, b :: q, x, y, hp, hq, h => by
    have h : a :: (p ++ c :: x) = b :: (q ++ c :: y) := h
    injection h with h1 h2
    obtain ⟨e1, e2⟩ := cut_eq (fun z => hp (List.mem_cons_of_mem _ z)) (fun z => hq (List.mem_cons_of_mem _ z)) h2
    exact ⟨by rw [h1, e1], e2⟩
theorem jn_inj {c : Nat} : ∀ {ps qs : List (List Nat)}, ps ≠ [] → qs ≠ [] → (∀ p ∈ ps, c ∉ p) → (∀ q ∈ qs, c ∉ q) → jn c ps = jn c qs → ps = qs
  | [], _, h, _, _, _, _ => absurd rfl h
  | _ :: _, [], _, h, _, _, _ => absurd rfl h
  | [p], [q], _, _, _, _, h => by
    have h : p = q := h
    rw [h]
  | [p], q :: q' :: r, _, _, hp, _, h => by
    have h : p = q ++ c :: jn c (q' :: r) := h
    exact absurd (by rw [h]; simp) (hp p List.mem_cons_self)
  | p :: p' :: r, [q], _, _, _, hq, h => by
    have h : p ++ c :: jn c (p' :: r) = q := h
    exact absurd (by rw [← h]; simp) (hq q List.mem_cons_self)
  | p :: p' :: r, q :: q' :: s, _, _, hp, hq, h => by
    have h : p ++ c :: jn c (p' :: r) = q ++ c :: jn c (q' :: s) := h
    obtain ⟨e1, e2⟩ := cut_eq (hp p List.mem_cons_self) (hq q List.mem_cons_self) h
    rw [e1, jn_inj (by simp) (by simp) (fun z m => hp z (List.mem_cons_of_mem _ m)) (fun z m => hq z (List.mem_cons_of_mem _ m)) e2]
theorem split_jn {c : Nat} {ps : List (List Nat)} (h : ps ≠ []) (hf : ∀ p ∈ ps, c ∉ p) : Txt.split (xS (jn c ps)) (xS [c]) = ps.map xS := by
  generalize hz : Txt.split (xS (jn c ps)) (xS [c]) = zs
  have h1 : Str.join (xS [c]) zs = xS (jn c ps) := by rw [← hz]; exact StrLaws.join_split _ _
  have h2 : ∀ p ∈ zs, c ∉ p.cps.toList := by rw [← hz]; exact StrLaws.split_free _ c
  have h3 : 1 ≤ zs.length := by rw [← hz]; exact split_pos _ _
  have ez : zs = (zs.map fun x => x.cps.toList).map xS := by
    rw [List.map_map]
    exact (List.map_id'' (fun x => xS_of x) zs).symm
  rw [ez, jn_str] at h1
  have e := jn_inj (c := c) (by intro z; rw [List.map_eq_nil_iff] at z; rw [z] at h3; simp at h3) h (by
    intro p hp
    obtain ⟨x, hx, rfl⟩ := List.mem_map.mp hp
    exact h2 x hx) hf (xS_inj h1)
  rw [ez, e]
theorem gSplit_jn {c : Nat} {ps : List (List Nat)} (h : ps ≠ []) (hf : ∀ p ∈ ps, c ∉ p) (hl : (jn c ps).length ≤ 100000) : gSplit (.str (xS (jn c ps))) (.str (xS [c])) = some (.list (ps.map fun p => .str (xS p))) := by
  show (@ite (Option D) (((xS [c]).length == 0) = false ∧ (xS (jn c ps)).length + 2 ≤ sizeLine) (Classical.propDecidable _) (some (.list ((Txt.split (xS (jn c ps)) (xS [c])).map .str))) none) = _
  rw [if_pos ⟨by rw [xS_len]; rfl, by rw [xS_len]; exact small_le (by omega)⟩, split_jn h hf, List.map_map]
  rfl
theorem glued_jn (c : Nat) (ps : List (List Nat)) : Txt.join (xS [c]) (ps.map xS) = xS (jn c ps) := by
  show Builtin.Str.glued _ _ = _
  rw [StrLaws.glued_eq_join, jn_str]
theorem gJoin_jn {c : Nat} {ps : List (List Nat)} {B : Nat} (hl : ps.length ≤ 1000) (hB : ∀ p ∈ ps, p.length ≤ B) (hB2 : B ≤ 1000) : gJoin (.str (xS [c])) (.list (ps.map fun p => .str (xS p))) = some (.str (xS (jn c ps))) := by
  have e : (ps.map fun p => PyData.str (xS p)) = (ps.map xS).map .str := by rw [List.map_map]; rfl
  rw [e]
  show (strsOf ((ps.map xS).map .str)).bind _ = _
  rw [strsOf_map, Option.bind_some]
  have hs : ((ps.map xS).map (·.length)).sum ≤ ps.length * B := by
    have := StrLaws.sumLen_le (B := B) (ps.map xS) (fun y hy => by
      obtain ⟨p, hp, rfl⟩ := List.mem_map.mp hy
      rw [xS_len]
      exact hB p hp)
    rwa [List.length_map] at this
  have h2 : ps.length * B ≤ 1000 * 1000 := Nat.mul_le_mul hl hB2
  rw [if_pos (by rw [xS_len, List.length_map, List.length_singleton]; omega), glued_jn]
theorem jn_len {c : Nat} {B : Nat} : ∀ {ps : List (List Nat)}, (∀ p ∈ ps, p.length ≤ B) → (jn c ps).length ≤ ps.length * (B + 1)
  | [], _ => Nat.zero_le _
  | [p], h => by
    have := h p List.mem_cons_self
    show p.length ≤ 1 * (B + 1)
    omega
  | p :: q :: r, h => by
    have h1 := h p List.mem_cons_self
    have h2 := jn_len (c := c) (ps := q :: r) fun z m => h z (List.mem_cons_of_mem _ m)
    show (p ++ c :: jn c (q :: r)).length ≤ ((q :: r).length + 1) * (B + 1)
    rw [List.length_append, List.length_cons, Nat.add_mul]
    omega
/-! ### numbers below 100 -/
def dg (n : Nat) : List Nat := if n < 10 then [48 + n] else [48 + n / 10, 48 + n % 10]
theorem dg_all : ∀ n : Fin 100, Str.ofString (toString ((n.val : Nat) : Int)) = xS (dg n.val) ∧ PySem.intText? (xS (dg n.val)) = some (n.val : Int) := by decide +kernel
theorem dg_str {n : Nat} (h : n < 100) : Str.ofString (toString (n : Int)) = xS (dg n) := (dg_all ⟨n, h⟩).1
theorem dg_int {n : Nat} (h : n < 100) : PySem.intText? (xS (dg n)) = some (n : Int) := (dg_all ⟨n, h⟩).2
theorem dg_dig {n : Nat} (h : n < 100) {c : Nat} (m : c ∈ dg n) : 48 ≤ c ∧ c < 58 := by
  unfold dg at m
  split at m
  · have : c = 48 + n := by simpa using m
    omega
  · have : c = 48 + n / 10 ∨ c = 48 + n % 10 := by simpa using m
    omega
theorem dg_len {n : Nat} : 1 ≤ (dg n).length ∧ (dg n).length ≤ 2 := by
  unfold dg
  split <;> simp
theorem gStr_dg {n : Nat} (h : n < 100) : gStr [.int (n : Int)] = some (.str (xS (dg n))) := by
  rw [gStr_i (Nat.lt_of_le_of_lt (Nat.log2_le_self _) (by omega))]
  exact congrArg (fun z => some (PyData.str z)) (dg_str h)

end T3
end
set_option Elab.async false
set_option linter.all false
set_option maxRecDepth 100000
set_option maxHeartbeats 1000000
noncomputable section
namespace T3
open PySem PySem.Spec PyProof.Rows L2 Gr
local macro_rules | `(tactic| simp! [$xs,*]) => `(tactic| simp only [iStrD_e, fThaw_e, fAppT_e, ev_some, ev_bind, fV_e, fC_e, lq_e, f1_e, f2_e, f3_e, e1_e, e2_e, kNil_e, kCons_e, fQ_e, aNil_e, aV_e, aS_e, fCl_e, fClI_e, fClM_e, fL_e, fT_e, fFl_e, sNil_e, sEx_e, sSet_e, sRt_e, sIf_e, sSeq_e, bNot_e, bAnd_e, bOr_e, bYes_e, lb_e, vAnd_e, vOr_e, vNot_e, fIf_e, gN_e, sFor_e, iL_e, iT_e, gTup_e, gNil_e, gCons_e, ev_lc, wpE_nil, wpE_cons, fApp_e, fExt_e, fExtF_e, sPar2_e, sUnp2_e, sUnp3_e, sAsg_e, sSetI_e, iR1_e, iR2_e, fPopA_e, fPop_e, sPut_e, sPar3_e, fSl_e, eSl_e, fSs_e, oN_e, oS_e, iZ_e, iE_e, fRev_e, sSetI2_e, gAdd_int, gSub_int, gCmp_int, gNeg_int, gInt_int, gInt_bl, gAbs_int, gLen_list, gLen_tuple, gLen_dict, gList_list, gIsN_non, gNotN_non, isNon_none, isNon_int, gIx_l0, gIx_l1, gIx_l2, gIx_t0, gIx_t1, gIx_t2, ev_iten, List.cons_append, List.nil_append, List.replicate, List.getElem?_cons_zero, List.getElem?_cons_succ, List.set_cons_zero, List.set_cons_succ, if_true, if_false, Bool.false_eq_true, $xs,*])
/-! ### a number's text, as the law tells it -/
theorem litD : PyData.str (Str.ofString "0123456789") = .str (xS [48, 49, 50, 51, 52, 53, 54, 55, 56, 57]) := congrArg PyData.str (show Str.ofString "0123456789" = xS [48, 49, 50, 51, 52, 53, 54, 55, 56, 57] by decide +kernel)
theorem dig_at : ∀ n : Fin 10, [48, 49, 50, 51, 52, 53, 54, 55, 56, 57].getD n.val 0 = 48 + n.val := by decide
theorem gIx_D {n : Nat} (h : n < 10) : gIx (.str (xS [48, 49, 50, 51, 52, 53, 54, 55, 56, 57])) (.int (n : Int)) = some (.str (xS [48 + n])) := by
  rw [gIx_t (by decide) (by simpa using h)]
  have := dig_at ⟨n, h⟩
  simp only at this
  rw [this]
theorem num1 {F : List D → Option D} {n : Nat} (h : n < 10) : semQ .sh 1 (g__law_number F) [.int (n : Int)] = some (.str (xS (dg n))) := by
  refine Ev.eq (ev_semQ ?_)
  rw [g__law_number]
  have hb : decide ((n : Int) < 10) = true := by simpa using (show (n : Int) < 10 by omega)
  have hd : dg n = [48 + n] := if_pos h
  simp! [litD, hb, gIx_D h, hd]
theorem num2 {F : List D → Option D} {n : Nat} (hF : ∀ k : Nat, k < 10 → F [.int (k : Int)] = some (.str (xS (dg k)))) (h : n < 100) (h2 : ¬ n < 10) : semQ .sh 1 (g__law_number F) [.int (n : Int)] = some (.str (xS (dg n))) := by
  refine Ev.eq (ev_semQ ?_)
  rw [g__law_number]
  have hb : decide ((n : Int) < 10) = false := by simpa using (show ¬ (n : Int) < 10 by omega)
  have hd : dg n = [48 + n / 10, 48 + n % 10] := if_neg h2
  have e1 : (n : Int).fdiv 10 = ((n / 10 : Nat) : Int) := by rw [Int.fdiv_eq_ediv_of_nonneg _ (by decide)]; rfl
  have e2 : (n : Int).fmod 10 = ((n % 10 : Nat) : Int) := by rw [Int.fmod_eq_emod_of_nonneg _ (by decide)]; rfl
  have hq := hF (n / 10) (by omega)
  have hq2 : dg (n / 10) = [48 + n / 10] := if_pos (by omega)
  have hx := gIx_D (n := n % 10) (by omega)
  have ha : gAdd (.str (xS [48 + n / 10])) (.str (xS [48 + n % 10])) = some (.str (xS [48 + n / 10, 48 + n % 10])) := gAdd_t (by simp)
  have hfd : gFdiv (.int (n : Int)) (.int 10) = some (.int ((n / 10 : Nat) : Int)) := by
    show (@ite (Option D) (CDivA (n : Int) 10) (Classical.propDecidable _) (some (.int ((n : Int).fdiv 10))) none) = _
    rw [if_pos ⟨by decide, by decide⟩, e1]
  have hmd : gMod (.int (n : Int)) (.int 10) = some (.int ((n % 10 : Nat) : Int)) := by
    show (@ite (Option D) ((10 : Int) ≠ 0) (Classical.propDecidable _) (some (.int ((n : Int).fmod 10))) none) = _
    rw [if_pos (by decide), e2]
  simp! [litD, hb, hfd, hmd, hq, hq2, hx, hd, ha]
theorem num_ok {n : Nat} (h : n < 100) : F__law_number [.int (n : Int)] = some (.str (xS (dg n))) := by
  by_cases h2 : n < 10
  · exact num1 h2
  · exact num2 (fun k hk => num1 hk) h h2

end T3
end
set_option Elab.async false
set_option linter.all false
set_option maxRecDepth 100000
set_option maxHeartbeats 1000000
noncomputable section
namespace T3
open PySem PySem.Spec PyProof.Rows L2 Gr
local macro_rules | `(tactic| simp! [$xs,*]) => `(tactic| simp only [iStrD_e, fThaw_e, fAppT_e, ev_some, ev_bind, fV_e, fC_e, lq_e, f1_e, f2_e, f3_e, e1_e, e2_e, kNil_e, kCons_e, fQ_e, aNil_e, aV_e, aS_e, fCl_e, fClI_e, fClM_e, fL_e, fT_e, fFl_e, sNil_e, sEx_e, sSet_e, sRt_e, sIf_e, sSeq_e, bNot_e, bAnd_e, bOr_e, bYes_e, lb_e, vAnd_e, vOr_e, vNot_e, fIf_e, gN_e, sFor_e, iL_e, iT_e, gTup_e, gNil_e, gCons_e, ev_lc, wpE_nil, wpE_cons, fApp_e, fExt_e, fExtF_e, sPar2_e, sUnp2_e, sUnp3_e, sAsg_e, sSetI_e, iR1_e, iR2_e, fPopA_e, fPop_e, sPut_e, sPar3_e, fSl_e, eSl_e, fSs_e, oN_e, oS_e, iZ_e, iE_e, fRev_e, sSetI2_e, gAdd_int, gSub_int, gCmp_int, gNeg_int, gInt_int, gInt_bl, gAbs_int, gLen_list, gLen_tuple, gLen_dict, gList_list, gIsN_non, gNotN_non, isNon_none, isNon_int, gIx_l0, gIx_l1, gIx_l2, gIx_t0, gIx_t1, gIx_t2, ev_iten, List.cons_append, List.nil_append, List.replicate, List.getElem?_cons_zero, List.getElem?_cons_succ, List.set_cons_zero, List.set_cons_succ, if_true, if_false, Bool.false_eq_true, $xs,*])
/-! ### graphs as texts -/
def eP (e : Nat × Nat) : List Nat := dg e.1 ++ 45 :: dg e.2
def gP (n : Nat) (es : List (Nat × Nat)) : List (List Nat) := (dg n ++ [58]) :: es.map eP
def gX (n : Nat) (es : List (Nat × Nat)) : List Nat := jn 32 (gP n es)
theorem litb : PyData.str (Str.ofString " ") = .str (xS [32]) := congrArg PyData.str (show Str.ofString " " = xS [32] by decide +kernel)
theorem litc : PyData.str (Str.ofString ":") = .str (xS [58]) := congrArg PyData.str (show Str.ofString ":" = xS [58] by decide +kernel)
theorem litm : PyData.str (Str.ofString "-") = .str (xS [45]) := congrArg PyData.str (show Str.ofString "-" = xS [45] by decide +kernel)
theorem eP_len {e : Nat × Nat} : (eP e).length ≤ 5 := by
  have h1 := (dg_len (n := e.1)).2
  have h2 := (dg_len (n := e.2)).2
  unfold eP
  rw [List.length_append, List.length_cons]
  omega
theorem gP_len {n : Nat} {es : List (Nat × Nat)} : ∀ p ∈ gP n es, p.length ≤ 5 := fun p hp => by
  rcases List.mem_cons.mp hp with rfl | hp
  · have h1 := (dg_len (n := n)).2
    rw [List.length_append, List.length_singleton]
    omega
  · obtain ⟨e, _, rfl⟩ := List.mem_map.mp hp
    exact eP_len
theorem gX_len {n : Nat} {es : List (Nat × Nat)} (h : es.length ≤ 200) : (gX n es).length ≤ 1206 := by
  have := jn_len (c := 32) (B := 5) (gP_len (n := n) (es := es))
  have e : (gP n es).length = es.length + 1 := by simp [gP]
  rw [e] at this
  unfold gX
  omega
theorem jn_snoc {c : Nat} {q : List Nat} : ∀ {ps : List (List Nat)}, ps ≠ [] → jn c (ps ++ [q]) = jn c ps ++ c :: q
  | [], h => absurd rfl h
  | [p], _ => rfl
  | p :: p' :: r, _ => by
    show p ++ c :: jn c ((p' :: r) ++ [q]) = (p ++ c :: jn c (p' :: r)) ++ c :: q
    rw [jn_snoc (by simp)]
    simp
theorem eP_t {a b : Nat} (ha : a < 100) (hb : b < 100) : gAdd (.str (xS (dg a))) (.str (xS [45])) = some (.str (xS (dg a ++ [45]))) ∧ gAdd (.str (xS (dg a ++ [45]))) (.str (xS (dg b))) = some (.str (xS (eP (a, b)))) := by
  have h1 := (dg_len (n := a)).2
  have h2 := (dg_len (n := b)).2
  refine ⟨gAdd_t (by simp; omega), ?_⟩
  rw [gAdd_t (by simp; omega)]
  unfold eP
  simp
theorem gtext_ok {n : Nat} {es : List (Nat × Nat)} (g : GOk n es) : F_graph_text [gD n es] = some (.str (xS (gX n es))) := by
  have hn := g.n40
  have hl := g.le
  refine Ev.eq (ev_semQ ?_)
  rw [g_graph_text]
  unfold gD
  have hs := gStr_dg (n := n) (by omega)
  have h1 := (dg_len (n := n)).2
  have ha : gAdd (.str (xS (dg n))) (.str (xS [58])) = some (.str (xS (dg n ++ [58]))) := gAdd_t (by simp; omega)
  simp! [hs, litb, litc, ha]
  refine ⟨small_le (by rw [eD_len]; omega), ?_⟩
  refine ev_lcA (xs := es) (ea := fun e => .tuple [.int (e.1 : Int), .int (e.2 : Int)]) eP (fun p => .str (xS p)) (fun e me => ?_) ?_
  · have := g.lt e me
    have hn2 := g.n40
    have ha := gStr_dg (n := e.1) (by omega)
    have hb := gStr_dg (n := e.2) (by omega)
    obtain ⟨q1, q2⟩ := eP_t (a := e.1) (b := e.2) (by omega) (by omega)
    simp! [ha, hb, litm, q1, q2]
    trivial
  · have hj := gJoin_jn (c := 32) (ps := gP n es) (B := 5) (by simp [gP]; omega) gP_len (by decide)
    have hc : gCat (.list [.str (xS (dg n ++ [58]))]) (.list ((es.map eP).map fun p => .str (xS p))) = some (.list ((gP n es).map fun p => .str (xS p))) := by
      show (@ite (Option D) (([PyData.str (xS (dg n ++ [58]))].length + ((es.map eP).map fun p => PyData.str (xS p)).length) ≤ sizeLine) (Classical.propDecidable _) (some (.list ([.str (xS (dg n ++ [58]))] ++ ((es.map eP).map fun p => .str (xS p))))) none) = _
      rw [if_pos (small_le (by simp; omega))]
      rfl
    simp! [hc, hj]
    rfl
theorem show_ok {n : Nat} {es : List (Nat × Nat)} (g : GOk n es) : F_show_graph [gD n es] = some (.str (xS (gX n es))) := by
  refine Ev.eq (ev_semQ ?_)
  rw [g_show_graph]
  simp! [needg_ok g, gtext_ok g]
theorem ltext_ok {n : Nat} {es : List (Nat × Nat)} (g : GOk n es) : F__law_graph_text [gD n es] = some (.str (xS (gX n es))) := by
  have hn := g.n40
  have hl := g.le
  refine Ev.eq (ev_semQ ?_)
  rw [g__law_graph_text]
  have hs := num_ok (n := n) (by omega)
  have h1 := (dg_len (n := n)).2
  have ha : gAdd (.str (xS (dg n))) (.str (xS [58])) = some (.str (xS (dg n ++ [58]))) := gAdd_t (by simp; omega)
  show Ev _ _
  unfold gD
  simp! [hs, litb, litc, litm, ha]
  refine ev_forM (xs := es) (ea := fun e => .tuple [.int (e.1 : Int), .int (e.2 : Int)]) (fun i e => e = [gD n es, .str (xS (gX n (es.take i))), .none, .none]) rfl (fun i x e hx he => ?_) (fun e he => ?_)
  · subst he
    obtain ⟨hi, hx'⟩ := List.getElem?_eq_some_iff.mp hx
    have := g.lt x (List.mem_of_getElem? hx)
    have q1 := num_ok (n := x.1) (by omega)
    have q2 := num_ok (n := x.2) (by omega)
    have d1 := (dg_len (n := x.1)).2
    have d2 := (dg_len (n := x.2)).2
    have l0 := gX_len (n := n) (es := es.take i) (by rw [List.length_take]; omega)
    have a1 : gAdd (.str (xS (gX n (es.take i)))) (.str (xS [32])) = some (.str (xS (gX n (es.take i) ++ [32]))) := gAdd_t (by simp; omega)
    have a2 : gAdd (.str (xS (gX n (es.take i) ++ [32]))) (.str (xS (dg x.1))) = some (.str (xS (gX n (es.take i) ++ [32] ++ dg x.1))) := gAdd_t (by simp; omega)
    have a3 : gAdd (.str (xS (gX n (es.take i) ++ [32] ++ dg x.1))) (.str (xS [45])) = some (.str (xS (gX n (es.take i) ++ [32] ++ dg x.1 ++ [45]))) := gAdd_t (by simp; omega)
    have a4 : gAdd (.str (xS (gX n (es.take i) ++ [32] ++ dg x.1 ++ [45]))) (.str (xS (dg x.2))) = some (.str (xS (gX n (es.take (i + 1))))) := by
      rw [gAdd_t (by simp; omega)]
      have e1 : es.take (i + 1) = es.take i ++ [x] := by rw [List.take_add_one, hx]; rfl
      have e2 : gP n (es.take i ++ [x]) = gP n (es.take i) ++ [eP x] := by simp [gP]
      unfold gX
      rw [e1, e2, jn_snoc (by simp [gP])]
      unfold eP
      simp
    simp! [q1, q2, litb, litm, a1, a2, a3, a4]
  · subst he
    rw [List.take_length]
    try simp! []

end T3
end
set_option Elab.async false
set_option linter.all false
set_option maxRecDepth 100000
set_option maxHeartbeats 1000000
noncomputable section
namespace T3
open PySem PySem.Spec PyProof.Rows L2 Gr
local macro_rules | `(tactic| simp! [$xs,*]) => `(tactic| simp only [iStrD_e, fThaw_e, fAppT_e, ev_some, ev_bind, fV_e, fC_e, lq_e, f1_e, f2_e, f3_e, e1_e, e2_e, kNil_e, kCons_e, fQ_e, aNil_e, aV_e, aS_e, fCl_e, fClI_e, fClM_e, fL_e, fT_e, fFl_e, sNil_e, sEx_e, sSet_e, sRt_e, sIf_e, sSeq_e, bNot_e, bAnd_e, bOr_e, bYes_e, lb_e, vAnd_e, vOr_e, vNot_e, fIf_e, gN_e, sFor_e, iL_e, iT_e, gTup_e, gNil_e, gCons_e, ev_lc, wpE_nil, wpE_cons, fApp_e, fExt_e, fExtF_e, sPar2_e, sUnp2_e, sUnp3_e, sAsg_e, sSetI_e, iR1_e, iR2_e, fPopA_e, fPop_e, sPut_e, sPar3_e, fSl_e, eSl_e, fSs_e, oN_e, oS_e, iZ_e, iE_e, fRev_e, sSetI2_e, gAdd_int, gSub_int, gCmp_int, gNeg_int, gInt_int, gInt_bl, gAbs_int, gLen_list, gLen_tuple, gLen_dict, gList_list, gIsN_non, gNotN_non, isNon_none, isNon_int, gIx_l0, gIx_l1, gIx_l2, gIx_t0, gIx_t1, gIx_t2, ev_iten, List.cons_append, List.nil_append, List.replicate, List.getElem?_cons_zero, List.getElem?_cons_succ, List.set_cons_zero, List.set_cons_succ, if_true, if_false, Bool.false_eq_true, $xs,*])
/-! ### a number is read -/
theorem litE : PyData.str (Str.ofString "") = .str (xS []) := congrArg PyData.str (show Str.ofString "" = xS [] by decide +kernel)
theorem lit0' : PyData.str (Str.ofString "0") = .str (xS [48]) := congrArg PyData.str (show Str.ofString "0" = xS [48] by decide +kernel)
theorem dg_128 {n : Nat} (h : n < 100) : ∀ c ∈ dg n, c < 128 := fun c m => by
  have := dg_dig h m
  omega
theorem signs_x {l : List Nat} : signsD (xS l) = l.map fun c => .str (xS [c]) := rfl
theorem inS_D {c : Nat} (h1 : 48 ≤ c) (h2 : c < 58) : gInS false (.str (xS [c])) (.str (xS [48, 49, 50, 51, 52, 53, 54, 55, 56, 57])) = some (.bool true) := by
  show some (PyData.bool (xor false (decide (c ∈ [48, 49, 50, 51, 52, 53, 54, 55, 56, 57])))) = _
  rw [Bool.false_xor, decide_eq_true]
  simp
  omega
theorem gIntS_dg {n : Nat} (h : n < 100) : gIntS [.str (xS (dg n))] = some (.int (n : Int)) := by
  show (PySem.intText? (xS (dg n))).bind (fun k => @ite (Option D) ((xS (dg n)).length ≤ 640) (Classical.propDecidable _) (some (.int k)) none) = _
  have := (dg_len (n := n)).2
  rw [dg_int h, Option.bind_some, if_pos (by rw [xS_len]; omega)]
theorem dg_ne {n : Nat} : dg n ≠ [] := fun z => by
  have := (dg_len (n := n)).1
  rw [z] at this
  simp at this
theorem dg_head {n : Nat} (h : n < 100) (h0 : n ≠ 0) : (dg n).getD 0 0 ≠ 48 := by
  unfold dg
  split
  · simp
    omega
  · simp
    omega
theorem lt1 {k : Nat} (h : k < 128) : ∀ c ∈ [k], c < 128 := fun c m => by
  have : c = k := by simpa using m
  omega
theorem whole_ok {n : Nat} (h : n < 100) : F_whole_in [.str (xS (dg n)), .int 2] = some (.int (n : Int)) := by
  refine Ev.eq (ev_semQ ?_)
  rw [g_whole_in]
  have l1 := (dg_len (n := n)).1
  have l2 := (dg_len (n := n)).2
  have h1 : gEq (.str (xS (dg n))) (.str (xS [])) = some (.bool false) := by rw [gEq_t (dg_128 h) (fun c m => by cases m), decide_eq_false dg_ne]
  have h2 := gLen_t (l := dg n) (by omega)
  have h3 : decide (2 < ((dg n).length : Int)) = false := by
    rw [decide_eq_false_iff_not]
    omega
  have h4 := gIntS_dg h
  simp! [h1, h2, h3, litE, signs_x, -fIf_e]
  refine ⟨small_le (by rw [List.length_map]; omega), ?_⟩
  refine ev_lcA (xs := dg n) (ea := fun c => .str (xS [c])) (fun c => PyData.str (xS [c])) (fun _ => .bool true) (fun c m => ?_) ?_
  · have := dg_dig h m
    simp! [litD, inS_D this.1 this.2]
    trivial
  · have hg : gAll [.list (((dg n).map fun c => PyData.str (xS [c])).map fun _ => .bool true)] = some (.bool true) := gAll_true
    by_cases h0 : n = 0
    · have e1 : gEq (.str (xS (dg n))) (.str (xS [48])) = some (.bool true) := by
        rw [gEq_t (dg_128 h) (lt1 (by decide)), h0]
        rfl
      simp! [hg, lit0', e1, h4, Bool.not_true]
    · obtain ⟨b, e1⟩ : ∃ b, gEq (.str (xS (dg n))) (.str (xS [48])) = some (.bool b) := ⟨_, gEq_t (dg_128 h) (lt1 (by decide))⟩
      have e2 : gIx (.str (xS (dg n))) (.int 0) = some (.str (xS [(dg n).getD 0 0])) := gIx_t (k := 0) (by omega) l1
      have hm : (dg n).getD 0 0 ∈ dg n := by
        rw [List.getD_eq_getElem?_getD, List.getElem?_eq_getElem l1]
        exact List.getElem_mem _
      have e3 : gNe (.str (xS [(dg n).getD 0 0])) (.str (xS [48])) = some (.bool true) := by
        rw [gNe_t (lt1 (dg_128 h _ hm)) (lt1 (by decide)), decide_eq_false (fun z => dg_head h h0 (by injection z))]
        rfl
      cases b
      · simp! [hg, lit0', e1, e2, e3, h4, Bool.not_true]
      · simp! [hg, lit0', e1, h4, Bool.not_true]
/-! ### an edge is read -/
theorem free_dg {n c : Nat} (h : n < 100) (hc : c < 48) : c ∉ dg n := fun m => by
  have := dg_dig h m
  omega
theorem edgein_ok {a b n : Nat} (h1 : a < b) (h2 : b < n) (h3 : n < 100) : F_edge_in [.str (xS (eP (a, b))), .int (n : Int)] = some (.tuple [.int (a : Int), .int (b : Int)]) := by
  refine Ev.eq (ev_semQ ?_)
  rw [g_edge_in]
  have hs : gSplit (.str (xS (eP (a, b)))) (.str (xS [45])) = some (.list ([a, b].map fun k => .str (xS (dg k)))) := by
    have := gSplit_jn (c := 45) (ps := [dg a, dg b]) (by simp) (fun p hp => by
      have : p = dg a ∨ p = dg b := by simpa using hp
      rcases this with rfl | rfl
      · exact free_dg (by omega) (by decide)
      · exact free_dg (by omega) (by decide)) (by
      have := eP_len (e := (a, b))
      show (eP (a, b)).length ≤ _
      omega)
    exact this
  simp! [litm, hs]
  refine ⟨small_le (by simp), ?_⟩
  refine ev_lcA (xs := [a, b]) (ea := fun k => .str (xS (dg k))) (fun k => k) (fun k => .int (k : Int)) (fun k m => ?_) ?_
  · have : k = a ∨ k = b := by simpa using m
    simp! [whole_ok (n := k) (by omega)]
    trivial
  · have e0 : ([a, b].map fun k => k).map (fun k => PyData.int ((k : Nat) : Int)) = [.int (a : Int), .int (b : Int)] := rfl
    have e1 : gInL false .none (.list [.int (a : Int), .int (b : Int)]) = some (.bool false) := by
      have hsh : shp (.list [.int (a : Int), .int (b : Int)]) = true := shp_nI [a, b]
      unfold gInL
      dsimp only
      rw [if_pos ⟨by decide, hsh⟩]
      rfl
    have c1 : decide ((a : Int) < (b : Int)) = true := decide_eq_true (by omega)
    have c2 : decide ((b : Int) < (n : Int)) = true := decide_eq_true (by omega)
    have e4 : gNe (.int (([PyData.int (a : Int), PyData.int (b : Int)].length : Nat) : Int)) (.int 2) = some (.bool false) := gNe_refl shp_int
    simp! [e0, e1, c1, c2, e4, gIx_l0, gIx_l1, Bool.not_true]

end T3
end
set_option Elab.async false
set_option linter.all false
set_option maxRecDepth 100000
set_option maxHeartbeats 1000000
noncomputable section
namespace T3
open PySem PySem.Spec PyProof.Rows L2 Gr
local macro_rules | `(tactic| simp! [$xs,*]) => `(tactic| simp only [iStrD_e, fThaw_e, fAppT_e, ev_some, ev_bind, fV_e, fC_e, lq_e, f1_e, f2_e, f3_e, e1_e, e2_e, kNil_e, kCons_e, fQ_e, aNil_e, aV_e, aS_e, fCl_e, fClI_e, fClM_e, fL_e, fT_e, fFl_e, sNil_e, sEx_e, sSet_e, sRt_e, sIf_e, sSeq_e, bNot_e, bAnd_e, bOr_e, bYes_e, lb_e, vAnd_e, vOr_e, vNot_e, fIf_e, gN_e, sFor_e, iL_e, iT_e, gTup_e, gNil_e, gCons_e, ev_lc, wpE_nil, wpE_cons, fApp_e, fExt_e, fExtF_e, sPar2_e, sUnp2_e, sUnp3_e, sAsg_e, sSetI_e, iR1_e, iR2_e, fPopA_e, fPop_e, sPut_e, sPar3_e, fSl_e, eSl_e, fSs_e, oN_e, oS_e, iZ_e, iE_e, fRev_e, sSetI2_e, gAdd_int, gSub_int, gCmp_int, gNeg_int, gInt_int, gInt_bl, gAbs_int, gLen_list, gLen_tuple, gLen_dict, gList_list, gIsN_non, gNotN_non, isNon_none, isNon_int, gIx_l0, gIx_l1, gIx_l2, gIx_t0, gIx_t1, gIx_t2, ev_iten, List.cons_append, List.nil_append, List.replicate, List.getElem?_cons_zero, List.getElem?_cons_succ, List.set_cons_zero, List.set_cons_succ, if_true, if_false, Bool.false_eq_true, $xs,*])
/-! ### the number of nodes is read -/
theorem kit_ss : kitB "str" "str" = some true := by decide +kernel
theorem gIsi_str {x : Str} : gIsi "str" (.str x) = some (.bool true) := by
  show (kitB "str" "str").map (fun b => PyData.bool b) = _
  rw [kit_ss]
  rfl
theorem cut_last {a : List Nat} {c : Nat} : cutS (xS (a ++ [c])) (some (-1)) none = xS [c] := by
  unfold cutS
  refine str_ext ?_
  have hl : (xS (a ++ [c])).length = a.length + 1 := by rw [xS_len]; simp
  have e1 : HT.sIx (xS (a ++ [c])).length 0 (some (-1)) = a.length := by
    rw [hl]
    show (if (-1 : Int) < 0 then ((-1 : Int) + ((a.length + 1 : Nat) : Int)).toNat else min (-1 : Int).toNat (a.length + 1)) = _
    rw [if_pos (by decide)]
    omega
  rw [e1, HT.sIx_none, hl, xS_list]
  show (((a ++ [c]).drop a.length).take (a.length + 1 - a.length)) = [c]
  simp
theorem cut_init {a : List Nat} {c : Nat} : cutS (xS (a ++ [c])) none (some (-1)) = xS a := by
  unfold cutS
  refine str_ext ?_
  have hl : (xS (a ++ [c])).length = a.length + 1 := by rw [xS_len]; simp
  have e1 : HT.sIx (xS (a ++ [c])).length (xS (a ++ [c])).length (some (-1)) = a.length := by
    rw [hl]
    show (if (-1 : Int) < 0 then ((-1 : Int) + ((a.length + 1 : Nat) : Int)).toNat else min (-1 : Int).toNat (a.length + 1)) = _
    rw [if_pos (by decide)]
    omega
  rw [e1, HT.sIx_none, xS_list]
  show (((a ++ [c]).drop 0).take (a.length - 0)) = a
  simp
theorem gNeg1 : gNeg (.int 1) = some (.int (-1)) := rfl
theorem sizein_ok {n : Nat} (h1 : 1 ≤ n) (h : n ≤ 40) : F_size_in [.str (xS (dg n ++ [58]))] = some (.int (n : Int)) := by
  refine Ev.eq (ev_semQ ?_)
  rw [g_size_in]
  have l2 := (dg_len (n := n)).2
  have hz : (xS (dg n ++ [58])).length ≤ sizeLine := by rw [xS_len]; exact small_le (by simp; omega)
  have e1 : gEq (.str (xS [58])) (.str (xS [58])) = some (.bool true) := by rw [gEq_t (lt1 (by decide)) (lt1 (by decide))]; rfl
  have e2 : gNotN (.int (n : Int)) .none = some (.bool true) := rfl
  have c1 : decide ((1 : Int) ≤ (n : Int)) = true := decide_eq_true (by omega)
  have c2 : decide ((n : Int) ≤ 40) = true := decide_eq_true (by omega)
  simp! [gNeg1, hz, cut_last, cut_init, litc, e1, whole_ok (n := n) (by omega), e2, c1, c2, true_and]
/-! ### a graph is read -/
theorem shp_eD {es : List (Nat × Nat)} : shp (.list (eD es)) = true := by
  have h1 : PyData.canLayAll0 (eD es) = true := by
    induction es with
    | nil => rfl
    | cons a l ih =>
      show (PyData.canLay0 (.tuple [.int (a.1 : Int), .int (a.2 : Int)]) && PyData.canLayAll0 (eD l)) = true
      rw [ih]
      simp [PyData.canLay0, PyData.canLayAll0]
  have h2 : PyData.depthAll (eD es) ≤ 1 := by
    clear h1
    induction es with
    | nil => simp [eD, PyData.depthAll]
    | cons a l ih =>
      show PyData.depthAll (PyData.tuple [.int (a.1 : Int), .int (a.2 : Int)] :: eD l) ≤ 1
      rw [PyData.depthAll, PyData.depth, PyData.depthAll, PyData.depthAll, PyData.depthAll, PyData.depth, PyData.depth]
      omega
  unfold shp SeqAt.shaped
  have e1 : (PyData.list (eD es)).canLay0 = true := by simp [PyData.canLay0, h1]
  have e2 : (PyData.list (eD es)).depth ≤ 2 := by rw [PyData.depth]; omega
  rw [e1, Bool.true_and, decide_eq_true_eq]
  omega
theorem free_eP {e : Nat × Nat} (h1 : e.1 < 100) (h2 : e.2 < 100) : 32 ∉ eP e := fun m => by
  unfold eP at m
  rcases List.mem_append.mp m with m | m
  · exact free_dg h1 (by decide) m
  · rcases List.mem_cons.mp m with m | m
    · cases m
    · exact free_dg h2 (by decide) m
theorem gSplit_g {n : Nat} {es : List (Nat × Nat)} (g : GOk n es) : gSplit (.str (xS (gX n es))) (.str (xS [32])) = some (.list ((gP n es).map fun p => .str (xS p))) := by
  have hn := g.n40
  refine gSplit_jn (by simp [gP]) (fun p hp => ?_) (by have := gX_len (n := n) g.le; unfold gX at this; omega)
  rcases List.mem_cons.mp hp with rfl | hp
  · intro m
    rcases List.mem_append.mp m with m | m
    · exact free_dg (by omega) (by decide) m
    · simp at m
  · obtain ⟨e, he, rfl⟩ := List.mem_map.mp hp
    have := g.lt e he
    exact free_eP (by omega) (by omega)
def pD (e : Nat × Nat) : D := .tuple [.int (e.1 : Int), .int (e.2 : Int)]
theorem eD_snoc {es : List (Nat × Nat)} {e : Nat × Nat} : eD (es ++ [e]) = eD es ++ [pD e] := by simp [eD, pD]
theorem read_ok {n : Nat} {es : List (Nat × Nat)} (g : GOk n es) : F_read_graph [.str (xS (gX n es))] = some (gD n es) := by
  have hn := g.n40
  have hl := g.le
  refine Ev.eq (ev_semQ ?_)
  rw [g_read_graph]
  have hs := gSplit_g g
  have hi : gIx (.list ((gP n es).map fun p => .str (xS p))) (.int 0) = some (.str (xS (dg n ++ [58]))) := gIx_list (n := 0) rfl rfl
  have e2 : gIsN (.int (n : Int)) .none = some (.bool false) := rfl
  simp! [gIsi_str, hs, litb, hi, sizein_ok g.n1 g.n40, e2, Bool.not_true, -bAnd_e, -bOr_e]
  refine ev_for (fun i e => ∃ x6, e = [.str (xS (gX n es)), .list ((gP n es).map fun p => .str (xS p)), .list (eD (es.take (i - 1))), .int (n : Int), .none, .none, x6]) ⟨.none, rfl⟩ (fun i d e hd he => ?_) (fun e he => ?_)
  · obtain ⟨x6, rfl⟩ := he
    rw [enumD_get] at hd
    cases i with
    | zero =>
      have hd : d = pairD (.int ((0 + 0 : Nat) : Int)) (.str (xS (dg n ++ [58]))) := by
        have : some (pairD (.int ((0 + 0 : Nat) : Int)) (.str (xS (dg n ++ [58])))) = some d := hd
        exact (Option.some.inj this).symm
      subst hd
      have c0 : decide (0 < ((0 + 0 : Nat) : Int)) = false := rfl
      simp! [pairD, c0]
      exact ⟨_, rfl⟩
    | succ j =>
      obtain ⟨x, hx, rfl⟩ : ∃ x, es[j]? = some x ∧ d = pairD (.int ((0 + (j + 1) : Nat) : Int)) (.str (xS (eP x))) := by
        have e1 : ((gP n es).map fun p => PyData.str (xS p))[j + 1]? = (es[j]?).map fun x => .str (xS (eP x)) := by
          show ((es.map eP).map fun p => PyData.str (xS p))[j]? = _
          rw [List.map_map, List.getElem?_map]
          rfl
        rw [e1] at hd
        cases hx : es[j]? with
        | none => rw [hx] at hd; cases hd
        | some x =>
          rw [hx] at hd
          exact ⟨x, rfl, (Option.some.inj hd).symm⟩
      obtain ⟨hj, hx'⟩ := List.getElem?_eq_some_iff.mp hx
      have hlt := g.lt x (List.mem_of_getElem? hx)
      have c0 : decide (0 < ((0 + (j + 1) : Nat) : Int)) = true := decide_eq_true (by omega)
      have c1 : decide (0 < ((j + 1 : Nat) : Int)) = true := decide_eq_true (by omega)
      have he := edgein_ok (a := x.1) (b := x.2) (n := n) hlt.1 hlt.2 (by omega)
      have e3 : gIsN (.tuple [.int (x.1 : Int), .int (x.2 : Int)]) .none = some (.bool false) := rfl
      have e4 := gNe_nil (l := eD (es.take j)) shp_eD
      have e5 : decide (((eD (es.take j)).length : Int) = 200) = false := decide_eq_false (by rw [eD_len, List.length_take]; omega)
      have e6 : gEq (.int ((eD (es.take j)).length : Int)) (.int 200) = some (.bool false) := by rw [gEq_int, e5]
      have e7 : ¬ sizeLine ≤ (eD (es.take j)).length := by
        have := small_line (n := (eD (es.take j)).length) (by rw [eD_len, List.length_take]; omega)
        omega
      have e8 : eD (es.take (j + 1)) = eD (es.take j) ++ [.tuple [.int (x.1 : Int), .int (x.2 : Int)]] := by
        have : es.take (j + 1) = es.take j ++ [x] := by rw [List.take_add_one, hx]; rfl
        rw [this, eD_snoc]
        rfl
      have e9 : (eD (es.take j)).length < sizeLine := Nat.lt_of_not_le e7
      by_cases h0 : j = 0
      · subst h0
        have e4 : gNe (.list (eD (es.take 0))) (.list []) = some (.bool false) := e4
        simp! [pairD, c0, he, e3, e4, e6, e9, Bool.not_true, Nat.zero_add, Nat.add_sub_cancel]
        have e8' : eD (es.take 1) = eD (es.take (1 - 1)) ++ [.tuple [.int (x.1 : Int), .int (x.2 : Int)]] := e8
        refine ⟨.tuple [.int (x.1 : Int), .int (x.2 : Int)], ?_⟩
        rw [e8']
      · obtain ⟨y, hy⟩ : ∃ y, es[j - 1]? = some y := ⟨_, List.getElem?_eq_getElem (by omega)⟩
        have hasc : y.1 < x.1 ∨ (y.1 = x.1 ∧ y.2 < x.2) := by
          obtain ⟨hq, hq'⟩ := List.getElem?_eq_some_iff.mp hy
          have := List.pairwise_iff_getElem.mp g.asc (j - 1) j hq hj (by omega)
          rw [hq', hx'] at this
          exact this
        have e10 : gLeP (.tuple [.int (x.1 : Int), .int (x.2 : Int)]) (.tuple [.int (y.1 : Int), .int (y.2 : Int)]) = some (.bool false) := by
          show some (PyData.bool (leP ((x.1 : Int), (x.2 : Int)) ((y.1 : Int), (y.2 : Int)))) = _
          have : leP ((x.1 : Int), (x.2 : Int)) ((y.1 : Int), (y.2 : Int)) = false := by
            rw [Bool.eq_false_iff]
            intro z
            rw [leP_iff] at z
            simp only at z
            omega
          rw [this]
        have e11 : gIx (.list (eD (es.take j))) (.int (-1)) = some (.tuple [.int (y.1 : Int), .int (y.2 : Int)]) := by
          show atI (eD (es.take j)) (-1) = _
          have hlen : (eD (es.take j)).length = j := by rw [eD_len, List.length_take]; omega
          unfold atI ixN
          rw [hlen, if_neg (by decide), if_pos (by omega), Option.bind_some]
          have : ((-1 : Int) + (j : Int)).toNat = j - 1 := by omega
          rw [this]
          unfold eD
          rw [List.getElem?_map, List.getElem?_take, if_pos (by omega), hy]
          rfl
        have e4 : gNe (.list (eD (es.take j))) (.list []) = some (.bool true) := by
          rw [e4]
          cases hh : eD (es.take j) with
          | nil =>
            have := congrArg List.length hh
            rw [eD_len, List.length_take, List.length_nil] at this
            omega
          | cons _ _ => rfl
        simp! [pairD, c0, c1, he, e3, e4, e6, e9, e10, e11, gNeg1, Bool.not_true, Nat.zero_add, Nat.add_sub_cancel, true_and]
        refine ⟨.tuple [.int (x.1 : Int), .int (x.2 : Int)], ?_⟩
        rw [e8]
  · obtain ⟨x6, rfl⟩ := he
    have e1 : (enumD 0 ((gP n es).map fun p => PyData.str (xS p))).length - 1 = es.length := by
      rw [enumD_len, List.length_map]
      simp [gP]
    have hf : flt (.bool true) = some (.bl true) := rfl
    rw [e1, List.take_length]
    simp! [conn_ok g, hf, Bool.not_true]
    rfl

end T3
end
set_option Elab.async false
set_option linter.all false
set_option maxRecDepth 100000
set_option maxHeartbeats 1000000
noncomputable section
namespace T3
open PySem PySem.Spec PyProof.Rows L2 Gr
local macro_rules | `(tactic| simp! [$xs,*]) => `(tactic| simp only [iStrD_e, fThaw_e, fAppT_e, ev_some, ev_bind, fV_e, fC_e, lq_e, f1_e, f2_e, f3_e, e1_e, e2_e, kNil_e, kCons_e, fQ_e, aNil_e, aV_e, aS_e, fCl_e, fClI_e, fClM_e, fL_e, fT_e, fFl_e, sNil_e, sEx_e, sSet_e, sRt_e, sIf_e, sSeq_e, bNot_e, bAnd_e, bOr_e, bYes_e, lb_e, vAnd_e, vOr_e, vNot_e, fIf_e, gN_e, sFor_e, iL_e, iT_e, gTup_e, gNil_e, gCons_e, ev_lc, wpE_nil, wpE_cons, fApp_e, fExt_e, fExtF_e, sPar2_e, sUnp2_e, sUnp3_e, sAsg_e, sSetI_e, iR1_e, iR2_e, fPopA_e, fPop_e, sPut_e, sPar3_e, fSl_e, eSl_e, fSs_e, oN_e, oS_e, iZ_e, iE_e, fRev_e, sSetI2_e, gAdd_int, gSub_int, gCmp_int, gNeg_int, gInt_int, gInt_bl, gAbs_int, gLen_list, gLen_tuple, gLen_dict, gList_list, gIsN_non, gNotN_non, isNon_none, isNon_int, gIx_l0, gIx_l1, gIx_l2, gIx_t0, gIx_t1, gIx_t2, ev_iten, List.cons_append, List.nil_append, List.replicate, List.getElem?_cons_zero, List.getElem?_cons_succ, List.set_cons_zero, List.set_cons_succ, if_true, if_false, Bool.false_eq_true, $xs,*])
/-! ### words as texts -/
theorem wD_x {w : List Bool} : wD w = .str (xS (w.map bz)) := rfl
theorem lit01 : PyData.str (Str.ofString "01") = .str (xS [48, 49]) := congrArg PyData.str (show Str.ofString "01" = xS [48, 49] by decide +kernel)
theorem litp : PyData.str (Str.ofString ".") = .str (xS [46]) := congrArg PyData.str (show Str.ofString "." = xS [46] by decide +kernel)
theorem bz_mem {w : List Bool} {c : Nat} (m : c ∈ w.map bz) : c = 48 ∨ c = 49 := by
  obtain ⟨b, _, rfl⟩ := List.mem_map.mp m
  cases b
  · exact .inl rfl
  · exact .inr rfl
theorem bz_128 {w : List Bool} : ∀ c ∈ w.map bz, c < 128 := fun c m => by
  rcases bz_mem m with rfl | rfl <;> decide
theorem inS_01 {c : Nat} (h : c = 48 ∨ c = 49) : gInS false (.str (xS [c])) (.str (xS [48, 49])) = some (.bool true) := by
  rcases h with rfl | rfl <;> rfl
def wT (w : List Bool) : List Nat := if w = [] then [46] else w.map bz
theorem wT_len {w : List Bool} : (wT w).length ≤ w.length + 1 := by
  unfold wT
  split
  · simp
  · rw [List.length_map]; omega
theorem wordtext_ok {w : List Bool} : F_word_text [wD w] = some (.str (xS (wT w))) := by
  refine Ev.eq (ev_semQ ?_)
  rw [g_word_text]
  have h1 : gEq (.str (xS (w.map bz))) (.str (xS [])) = some (.bool (decide (w.map bz = []))) := gEq_t bz_128 (fun c m => by cases m)
  by_cases h : w = []
  · subst h
    have h1 : gEq (.str (xS (([] : List Bool).map bz))) (.str (xS [])) = some (.bool true) := h1
    simp! [wD_x, litE, litp, h1]
    rfl
  · have h2 : decide (w.map bz = []) = false := decide_eq_false (fun z => h (List.map_eq_nil_iff.mp z))
    have h3 : wT w = w.map bz := if_neg h
    simp! [wD_x, litE, litp, h1, h2, h3]
theorem signstr_ok {w : List Bool} (hl : w.length ≤ 1000) : F_is_sign_string [wD w] = some (.bool true) := by
  refine Ev.eq (ev_semQ ?_)
  rw [g_is_sign_string]
  simp! [wD_x, gIsi_str, signs_x]
  refine ⟨small_le (by rw [List.length_map, List.length_map]; omega), ?_⟩
  refine ev_lcA (xs := w.map bz) (ea := fun c => .str (xS [c])) (fun c => PyData.str (xS [c])) (fun _ => .bool true) (fun c m => ?_) ?_
  · simp! [lit01, inS_01 (bz_mem m)]
    trivial
  · simp! [gAll_true]
theorem gLen_wD {w : List Bool} (h : w.length ≤ 1000) : gLen [wD w] = some (.int w.length) := gLen_w (by omega)
theorem gIsi_list {ds : List D} : gIsi "list" (.list ds) = some (.bool true) := by
  show (kitB "list" "list").map (fun b => PyData.bool b) = _
  rw [kit_ll]
  rfl
theorem aresigns_ok {ws : List (List Bool)} {len : Nat} (h1 : 1 ≤ ws.length) (h2 : ws.length ≤ 40) (hl : ∀ w ∈ ws, w.length = len) (h3 : len ≤ 40) : F_are_signs [.list (ws.map wD)] = some (.bool true) := by
  refine Ev.eq (ev_semQ ?_)
  rw [g_are_signs]
  have c1 : decide ((1 : Int) ≤ ((ws.map wD).length : Int)) = true := decide_eq_true (by rw [List.length_map]; omega)
  have c2 : decide (((ws.map wD).length : Int) ≤ 40) = true := decide_eq_true (by rw [List.length_map]; omega)
  obtain ⟨w0, hw0⟩ : ∃ w0, ws[0]? = some w0 := ⟨_, List.getElem?_eq_getElem (by omega)⟩
  have hi : gIx (.list (ws.map wD)) (.int 0) = some (wD w0) := gIx_list (n := 0) rfl (by rw [List.getElem?_map, hw0]; rfl)
  have hl0 := hl w0 (List.mem_of_getElem? hw0)
  have hg := gLen_wD (w := w0) (by omega)
  have c3 : decide ((40 : Int) < (w0.length : Int)) = false := decide_eq_false (by omega)
  simp! [gIsi_list, c1, c2, Bool.not_true]
  refine ⟨small_le (by rw [List.length_map]; omega), ?_⟩
  refine ev_lcA (xs := ws) (ea := wD) wD (fun _ => .bool true) (fun w m => ?_) ?_
  · simp! [signstr_ok (w := w) (by have := hl w m; omega)]
    trivial
  simp! [gAll_true, hi, hg, c3, Bool.not_true]
  refine ⟨small_le (by rw [List.length_map]; omega), ?_⟩
  refine ev_lcA (xs := ws) (ea := wD) wD (fun _ => .bool true) (fun w m => ?_) ?_
  · have hw := hl w m
    have e1 : gEq (.int (w.length : Int)) (.int (w0.length : Int)) = some (.bool true) := by rw [gEq_int, hw, hl0, decide_eq_true rfl]
    simp! [gLen_wD (w := w) (by omega), hi, hg, e1]
    trivial
  · simp! [gAll_true]
def wX (ws : List (List Bool)) : List Nat := jn 32 (ws.map wT)
theorem showw_ok {ws : List (List Bool)} {len : Nat} (h1 : 1 ≤ ws.length) (h2 : ws.length ≤ 40) (hl : ∀ w ∈ ws, w.length = len) (h3 : len ≤ 40) : F_show_words [.list (ws.map wD)] = some (.str (xS (wX ws))) := by
  refine Ev.eq (ev_semQ ?_)
  rw [g_show_words]
  simp! [aresigns_ok h1 h2 hl h3, Bool.not_true, litb]
  refine ⟨small_le (by rw [List.length_map]; omega), ?_⟩
  refine ev_lcA (xs := ws) (ea := wD) wT (fun p => .str (xS p)) (fun w m => ?_) ?_
  · simp! [wordtext_ok]
    trivial
  · have hj := gJoin_jn (c := 32) (ps := ws.map wT) (B := 41) (by rw [List.length_map]; omega) (fun p hp => by
      obtain ⟨w, m, rfl⟩ := List.mem_map.mp hp
      have := wT_len (w := w)
      have := hl w m
      omega) (by decide)
    simp! [hj]
    rfl
theorem wordin_ok {w : List Bool} (hl : w.length ≤ 40) : F_word_in [.str (xS (wT w))] = some (wD w) := by
  refine Ev.eq (ev_semQ ?_)
  rw [g_word_in]
  by_cases h : w = []
  · subst h
    have h1 : gEq (.str (xS (wT []))) (.str (xS [46])) = some (.bool true) := by
      show gEq (.str (xS [46])) (.str (xS [46])) = _
      rw [gEq_t (lt1 (by decide)) (lt1 (by decide))]
      rfl
    simp! [litE, litp, h1]
    rfl
  · have h3 : wT w = w.map bz := if_neg h
    have h1 : gEq (.str (xS (w.map bz))) (.str (xS [46])) = some (.bool false) := by
      rw [gEq_t bz_128 (lt1 (by decide)), decide_eq_false]
      intro z
      have : (46 : Nat) ∈ w.map bz := by rw [z]; exact List.mem_cons_self
      rcases bz_mem this with e | e <;> cases e
    have h2 : gEq (.str (xS (w.map bz))) (.str (xS [])) = some (.bool false) := by
      rw [gEq_t bz_128 (fun c m => by cases m), decide_eq_false (fun z => h (List.map_eq_nil_iff.mp z))]
    have h4 := gLen_t (l := w.map bz) (by rw [List.length_map]; omega)
    have c1 : decide ((40 : Int) < ((w.map bz).length : Int)) = false := decide_eq_false (by rw [List.length_map]; omega)
    rw [h3]
    simp! [litE, litp, h1, h2, h4, c1, signs_x]
    refine ⟨small_le (by rw [List.length_map, List.length_map]; omega), ?_⟩
    refine ev_lcA (xs := w.map bz) (ea := fun c => .str (xS [c])) (fun c => PyData.str (xS [c])) (fun _ => .bool true) (fun c m => ?_) ?_
    · simp! [lit01, inS_01 (bz_mem m)]
      trivial
    · simp! [gAll_true, Bool.not_true]
      rfl

end T3
end
set_option Elab.async false
set_option linter.all false
set_option maxRecDepth 100000
set_option maxHeartbeats 1000000
noncomputable section
namespace T3
open PySem PySem.Spec PyProof.Rows L2 Gr
local macro_rules | `(tactic| simp! [$xs,*]) => `(tactic| simp only [iStrD_e, fThaw_e, fAppT_e, ev_some, ev_bind, fV_e, fC_e, lq_e, f1_e, f2_e, f3_e, e1_e, e2_e, kNil_e, kCons_e, fQ_e, aNil_e, aV_e, aS_e, fCl_e, fClI_e, fClM_e, fL_e, fT_e, fFl_e, sNil_e, sEx_e, sSet_e, sRt_e, sIf_e, sSeq_e, bNot_e, bAnd_e, bOr_e, bYes_e, lb_e, vAnd_e, vOr_e, vNot_e, fIf_e, gN_e, sFor_e, iL_e, iT_e, gTup_e, gNil_e, gCons_e, ev_lc, wpE_nil, wpE_cons, fApp_e, fExt_e, fExtF_e, sPar2_e, sUnp2_e, sUnp3_e, sAsg_e, sSetI_e, iR1_e, iR2_e, fPopA_e, fPop_e, sPut_e, sPar3_e, fSl_e, eSl_e, fSs_e, oN_e, oS_e, iZ_e, iE_e, fRev_e, sSetI2_e, gAdd_int, gSub_int, gCmp_int, gNeg_int, gInt_int, gInt_bl, gAbs_int, gLen_list, gLen_tuple, gLen_dict, gList_list, gIsN_non, gNotN_non, isNon_none, isNon_int, gIx_l0, gIx_l1, gIx_l2, gIx_t0, gIx_t1, gIx_t2, ev_iten, List.cons_append, List.nil_append, List.replicate, List.getElem?_cons_zero, List.getElem?_cons_succ, List.set_cons_zero, List.set_cons_succ, if_true, if_false, Bool.false_eq_true, $xs,*])
/-! ### words are read -/
theorem shp_txts {ts : List (List Nat)} (h : ∀ t ∈ ts, ∀ c ∈ t, c < 128) : shp (.list (ts.map fun t => .str (xS t))) = true := by
  have h1 : PyData.canLayAll0 (ts.map fun t => .str (xS t)) = true := by
    induction ts with
    | nil => rfl
    | cons a l ih =>
      show (PyData.canLay0 (.str (xS a)) && PyData.canLayAll0 (l.map fun t => .str (xS t))) = true
      rw [ih fun t m => h t (List.mem_cons_of_mem _ m)]
      simp [PyData.canLay0, strOk_t (h a List.mem_cons_self)]
  have h2 : PyData.depthAll (ts.map fun t => .str (xS t)) ≤ 1 := by
    clear h1 h
    induction ts with
    | nil => simp [PyData.depthAll]
    | cons a l ih =>
      show PyData.depthAll (PyData.str (xS a) :: l.map fun t => .str (xS t)) ≤ 1
      rw [PyData.depthAll, PyData.depth]
      omega
  unfold shp SeqAt.shaped
  have e1 : (PyData.list (ts.map fun t => .str (xS t))).canLay0 = true := by simp [PyData.canLay0, h1]
  have e2 : (PyData.list (ts.map fun t => .str (xS t))).depth ≤ 2 := by rw [PyData.depth]; omega
  rw [e1, Bool.true_and, decide_eq_true_eq]
  omega
theorem ws_txts {ws : List (List Bool)} : ws.map wD = (ws.map fun w => w.map bz).map fun t => .str (xS t) := by
  rw [List.map_map]
  rfl
theorem shp_ws {ws : List (List Bool)} : shp (.list (ws.map wD)) = true := by
  rw [ws_txts]
  exact shp_txts fun t m => by
    obtain ⟨w, _, rfl⟩ := List.mem_map.mp m
    exact bz_128
theorem free_wT {w : List Bool} : 32 ∉ wT w := by
  unfold wT
  split
  · simp
  · intro m
    rcases bz_mem m with e | e <;> cases e
theorem readw_ok {ws : List (List Bool)} {len : Nat} (h1 : 1 ≤ ws.length) (h2 : ws.length ≤ 40) (hl : ∀ w ∈ ws, w.length = len) (h3 : len ≤ 40) : F_read_words [.str (xS (wX ws))] = some (.list (ws.map wD)) := by
  refine Ev.eq (ev_semQ ?_)
  rw [g_read_words]
  have hs : gSplit (.str (xS (wX ws))) (.str (xS [32])) = some (.list ((ws.map wT).map fun p => .str (xS p))) := by
    refine gSplit_jn (by intro z; rw [List.map_eq_nil_iff] at z; rw [z] at h1; simp at h1) (fun p hp => ?_) ?_
    · obtain ⟨w, _, rfl⟩ := List.mem_map.mp hp
      exact free_wT
    · have := jn_len (c := 32) (B := 41) (ps := ws.map wT) (fun p hp => by
        obtain ⟨w, m, rfl⟩ := List.mem_map.mp hp
        have := wT_len (w := w)
        have := hl w m
        omega)
      rw [List.length_map] at this
      omega
  simp! [gIsi_str, hs, litb, Bool.not_true, -bAnd_e, -bOr_e]
  refine ev_for (fun i e => e = [.str (xS (wX ws)), .list ((ws.take i).map wD), .none, .none, .none]) rfl (fun i d e hd he => ?_) (fun e he => ?_)
  · subst he
    rw [enumD_get, List.map_map, List.getElem?_map] at hd
    cases hx : ws[i]? with
    | none => rw [hx] at hd; cases hd
    | some w =>
      rw [hx] at hd
      have hd : d = pairD (.int ((0 + i : Nat) : Int)) (.str (xS (wT w))) := (Option.some.inj hd).symm
      subst hd
      obtain ⟨hi, hx'⟩ := List.getElem?_eq_some_iff.mp hx
      have hw := hl w (List.mem_of_getElem? hx)
      have e1 := wordin_ok (w := w) (by omega)
      have e2 : gIsN (wD w) .none = some (.bool false) := rfl
      have e3 : gEq (.int (i : Int)) (.int 40) = some (.bool false) := by rw [gEq_int, decide_eq_false (by omega)]
      have e4 := gNe_nil (l := (ws.take i).map wD) shp_ws
      have e5 := gLen_wD (w := w) (by omega)
      have e6 : (ws.take (i + 1)).map wD = (ws.take i).map wD ++ [wD w] := by
        have : ws.take (i + 1) = ws.take i ++ [w] := by rw [List.take_add_one, hx]; rfl
        rw [this, List.map_append]
        rfl
      have e7 : ((ws.take i).map wD).length < sizeLine := small_line (by rw [List.length_map, List.length_take]; omega)
      by_cases h0 : i = 0
      · subst h0
        have e4 : gNe (.list ((ws.take 0).map wD)) (.list []) = some (.bool false) := e4
        simp! [pairD, e1, e2, e3, e4, e7, Nat.zero_add]
        rw [e6]
      · obtain ⟨y, hy⟩ : ∃ y, ws[0]? = some y := ⟨_, List.getElem?_eq_getElem (by omega)⟩
        have hy2 : gIx (.list ((ws.take i).map wD)) (.int 0) = some (wD y) := gIx_list (n := 0) rfl (by rw [List.getElem?_map, List.getElem?_take, if_pos (by omega), hy]; rfl)
        have hly := hl y (List.mem_of_getElem? hy)
        have e8 := gLen_wD (w := y) (by omega)
        have e9 : gNe (.int (w.length : Int)) (.int (y.length : Int)) = some (.bool false) := by rw [gNe_int, hw, hly, decide_eq_true rfl]; rfl
        have e4 : gNe (.list ((ws.take i).map wD)) (.list []) = some (.bool true) := by
          rw [e4]
          cases hh : (ws.take i).map wD with
          | nil =>
            have := congrArg List.length hh
            rw [List.length_map, List.length_take, List.length_nil] at this
            omega
          | cons _ _ => rfl
        simp! [pairD, e1, e2, e3, e4, e5, e7, e8, e9, hy2, Nat.zero_add]
        rw [e6]
  · subst he
    have e1 : (enumD 0 ((ws.map wT).map fun p => PyData.str (xS p))).length = ws.length := by rw [enumD_len, List.length_map, List.length_map]
    rw [e1, List.take_length]
    simp! []

end T3
end
set_option Elab.async false
set_option linter.all false
set_option maxRecDepth 100000
set_option maxHeartbeats 1000000
noncomputable section
namespace T3
open PySem PySem.Spec PyProof.Rows L2 Gr
local macro_rules | `(tactic| simp! [$xs,*]) => `(tactic| simp only [iStrD_e, fThaw_e, fAppT_e, ev_some, ev_bind, fV_e, fC_e, lq_e, f1_e, f2_e, f3_e, e1_e, e2_e, kNil_e, kCons_e, fQ_e, aNil_e, aV_e, aS_e, fCl_e, fClI_e, fClM_e, fL_e, fT_e, fFl_e, sNil_e, sEx_e, sSet_e, sRt_e, sIf_e, sSeq_e, bNot_e, bAnd_e, bOr_e, bYes_e, lb_e, vAnd_e, vOr_e, vNot_e, fIf_e, gN_e, sFor_e, iL_e, iT_e, gTup_e, gNil_e, gCons_e, ev_lc, wpE_nil, wpE_cons, fApp_e, fExt_e, fExtF_e, sPar2_e, sUnp2_e, sUnp3_e, sAsg_e, sSetI_e, iR1_e, iR2_e, fPopA_e, fPop_e, sPut_e, sPar3_e, fSl_e, eSl_e, fSs_e, oN_e, oS_e, iZ_e, iE_e, fRev_e, sSetI2_e, gAdd_int, gSub_int, gCmp_int, gNeg_int, gInt_int, gInt_bl, gAbs_int, gLen_list, gLen_tuple, gLen_dict, gList_list, gIsN_non, gNotN_non, isNon_none, isNon_int, gIx_l0, gIx_l1, gIx_l2, gIx_t0, gIx_t1, gIx_t2, ev_iten, List.cons_append, List.nil_append, List.replicate, List.getElem?_cons_zero, List.getElem?_cons_succ, List.set_cons_zero, List.set_cons_succ, if_true, if_false, Bool.false_eq_true, $xs,*])
/-! ### repr of texts and of two ints -/
open PySem.Builtin.Str in
theorem reprChar_ok : ∀ q, q = 34 ∨ q = 39 → ∀ c, c < 128 → ∀ x ∈ reprChar q c, x < 1000 := by
  have k1 : ∀ c ∈ List.range 128, ∀ x ∈ reprChar 34 c, x < 1000 := by decide +kernel
  have k2 : ∀ c ∈ List.range 128, ∀ x ∈ reprChar 39 c, x < 1000 := by decide +kernel
  rintro q (rfl | rfl) c hc
  · exact k1 c (List.mem_range.mpr hc)
  · exact k2 c (List.mem_range.mpr hc)
theorem reprQ (x : Str) : reprQuote x = 34 ∨ reprQuote x = 39 := by
  unfold reprQuote
  split
  · exact .inl rfl
  · exact .inr rfl
open PySem.Builtin.Str in
theorem ok_reprText {x : Str} (h : ∀ c ∈ x.cps.toList, c < 128) : PyData.strOk (reprText x) = true := by
  have hq := reprQ x
  have go : ∀ (l : List Nat) (acc : Array Nat), (∀ c ∈ l, c < 128) → (∀ c ∈ acc.toList, c < 1000) → ∀ c ∈ (l.foldl (fun out c => out ++ (reprChar (reprQuote x) c).toArray) acc).toList, c < 1000 := by
    intro l
    induction l with
    | nil => intro acc _ ha; exact ha
    | cons d l ih =>
      intro acc hl ha
      rw [List.foldl_cons]
      refine ih _ (fun c m => hl c (List.mem_cons_of_mem _ m)) fun c m => ?_
      rw [Array.toList_append] at m
      rcases List.mem_append.mp m with m | m
      · exact ha c m
      · exact reprChar_ok _ hq d (hl d List.mem_cons_self) c (by simpa using m)
  unfold PyData.strOk
  rw [Array.all_eq_true_iff_forall_mem]
  intro c hc
  have hc : c ∈ (reprText x).cps.toList := Array.mem_toList_iff.mpr hc
  unfold reprText at hc
  simp only [Array.toList_push] at hc
  have h1 : c < 1000 := by
    rcases List.mem_append.mp hc with m | m
    · rw [← Array.foldl_toList] at m
      refine go _ _ h (fun d hd => ?_) c m
      have : d = reprQuote x := by simpa using hd
      rcases hq with q | q <;> omega
    · have : c = reprQuote x := by simpa using m
      rcases hq with q | q <;> omega
  simp
  omega
theorem shw_str {x : Str} (h : ∀ c ∈ x.cps.toList, c < 128) (hl : x.length ≤ 100000) : shwD (.str x) = true := by
  have h1 : PyData.strOk x = true := by
    unfold PyData.strOk
    rw [Array.all_eq_true_iff_forall_mem]
    intro c hc
    have := h c (Array.mem_toList_iff.mpr hc)
    simp
    omega
  unfold shwD
  rw [Bool.and_eq_true, Bool.and_eq_true]
  refine ⟨shp_str h1, rfl, ?_⟩
  rw [decide_eq_true_eq, PyData.shown]
  have := StrLaws.reprText_len x fun c hc => by have := h c hc; omega
  rw [sizeLine_eq]
  omega
theorem ok_join : ∀ {sep : Str} {ts : List Str}, PyData.strOk sep = true → (∀ t ∈ ts, PyData.strOk t = true) → PyData.strOk (Str.join sep ts) = true
  | sep, [], _, _ => by show PyData.strOk Str.empty = true; decide +kernel
  | sep, [x], _, h => h x List.mem_cons_self
  | sep, x :: y :: r, hs, h => ok_app (ok_app (h x List.mem_cons_self) hs) (ok_join hs fun t m => h t (List.mem_cons_of_mem _ m))
theorem shp_pair {a b : Int} : shp (.tuple [.int a, .int b]) = true := by
  unfold shp SeqAt.shaped
  simp [PyData.canLay0, PyData.canLayAll0, PyData.depth, PyData.depthAll]
theorem shw_pair {a b : Int} (ha : a.natAbs.log2 < 1920) (hb : b.natAbs.log2 < 1920) : shwD (.tuple [.int a, .int b]) = true := by
  unfold shwD
  rw [Bool.and_eq_true, Bool.and_eq_true]
  refine ⟨shp_pair, by simp [PyData.showable, PyData.showableAll, ha, hb], ?_⟩
  rw [decide_eq_true_eq, PyData.shown]
  have h1 := tupleText_len_le (PyData.shownAll [.int a, .int b])
  have h2 := int_text_length_le (a := a) (k := 1920) (by decide) ha
  have h3 := int_text_length_le (a := b) (k := 1920) (by decide) hb
  have e : ((PyData.shownAll [.int a, .int b]).map (·.length)).sum = (toString a).length + (toString b).length := by
    show (Str.ofString (toString a)).length + ((Str.ofString (toString b)).length + 0) = _
    rw [PySem.ofString_length, PySem.ofString_length]
    omega
  rw [e] at h1
  have e2 : (PyData.shownAll [.int a, .int b]).length = 2 := rfl
  rw [e2] at h1
  rw [sizeLine_eq]
  omega
theorem ok_shown_pair {a b : Int} : PyData.strOk (PyData.shown (.tuple [.int a, .int b])) = true := by
  rw [PyData.shown]
  unfold tupleText
  refine ok_app (ok_app (ok_ofString _) (ok_join (ok_ofString _) fun t ht => ?_)) (ok_ofString _)
  rw [shownAll_map] at ht
  obtain ⟨d, hd, rfl⟩ := List.mem_map.mp ht
  have : d = .int a ∨ d = .int b := by simpa using hd
  rcases this with rfl | rfl <;> exact ok_ofString _
/-! ### repr of graphs and of words -/
theorem shw_of {d : D} (h1 : shp d = true) (h2 : d.showable = true) (h3 : d.intsShort 13 = true) (h4 : d.weight ≤ 2 ^ 20) : shwD d = true := by
  unfold shwD
  rw [Bool.and_eq_true, Bool.and_eq_true]
  refine ⟨h1, h2, ?_⟩
  rw [decide_eq_true_eq]
  exact PyData.shown_fits (B := 13) (by decide) (by decide) (PyData.leavesShort_of_canLay0 13 _ (shp_lay h1) h3) h4
theorem shw_words {ws : List (List Bool)} (h2 : ws.length ≤ 40) (hl : ∀ w ∈ ws, w.length ≤ 40) : shwD (.list (ws.map wD)) = true := by
  refine shw_of shp_ws ?_ ?_ ?_
  · rw [PyData.showable]
    clear h2 hl
    induction ws with
    | nil => rfl
    | cons w l ih =>
      rw [List.map_cons, PyData.showableAll, ih]
      rfl
  · rw [PyData.intsShort]
    clear h2 hl
    induction ws with
    | nil => rfl
    | cons w l ih =>
      rw [List.map_cons, PyData.intsShortAll, ih]
      rfl
  · rw [PyData.weight]
    have : PyData.weightAll (ws.map wD) ≤ 100 * ws.length := by
      clear h2
      induction ws with
      | nil => simp [PyData.weightAll]
      | cons w l ih =>
        have ih := ih fun w m => hl w (List.mem_cons_of_mem _ m)
        have hw := hl w List.mem_cons_self
        have e1 : PyData.weight (wD w) ≤ (wS w).cps.size + 1 := by unfold wD; rw [PyData.weight]; omega
        have e2 : (wS w).cps.size = w.length := wS_len
        rw [List.map_cons, PyData.weightAll, List.length_cons]
        rw [e2] at e1
        omega
    omega
theorem ok_shown_words {ws : List (List Bool)} : PyData.strOk (PyData.shown (.list (ws.map wD))) = true := by
  rw [PyData.shown]
  refine ok_listText fun t ht => ?_
  rw [shownAll_map] at ht
  obtain ⟨d, hd, rfl⟩ := List.mem_map.mp ht
  obtain ⟨w, _, rfl⟩ := List.mem_map.mp hd
  unfold wD
  rw [PyData.shown]
  exact ok_reprText fun c m => bz_128 (w := w) c m
theorem ok_shown_g {n : Nat} {es : List (Nat × Nat)} : PyData.strOk (PyData.shown (gD n es)) = true := by
  unfold gD
  rw [PyData.shown]
  unfold tupleText
  refine ok_app (ok_app (ok_ofString _) (ok_join (ok_ofString _) fun t ht => ?_)) (ok_ofString _)
  rw [shownAll_map] at ht
  obtain ⟨d, hd, rfl⟩ := List.mem_map.mp ht
  have : d = .int (n : Int) ∨ d = .list (eD es) := by simpa using hd
  rcases this with rfl | rfl
  · exact ok_ofString _
  · rw [PyData.shown]
    refine ok_listText fun t ht => ?_
    rw [shownAll_map] at ht
    obtain ⟨d, hd, rfl⟩ := List.mem_map.mp ht
    obtain ⟨e, _, rfl⟩ := List.mem_map.mp hd
    exact ok_shown_pair
theorem shw_g {n : Nat} {es : List (Nat × Nat)} (g : GOk n es) : shwD (gD n es) = true := by
  have hn := g.n40
  have hl := g.le
  have hlt := g.lt
  clear g
  have lg : ∀ k : Nat, k < 1000 → k.log2 < 1920 := fun k hk => Nat.lt_of_le_of_lt (Nat.log2_le_self _) (by omega)
  have is13 : ∀ k : Nat, k < 1000 → PyData.intsShort 13 (.int (k : Int)) = true := fun k hk => by
    have := PyData.intsShortAll_ints [(k : Int)] fun n hn => by
      have : n = (k : Int) := by simpa using hn
      omega
    rw [List.map_cons, PyData.intsShortAll, Bool.and_eq_true] at this
    exact this.1
  have wt : ∀ k : Nat, k < 1000 → PyData.weight (.int (k : Int)) ≤ 100 := fun k hk => by
    rw [PyData.weight]
    have : (if (k : Int) == 0 then 0 else (k : Int).natAbs.log2 + 1) ≤ 21 := by
      split
      · omega
      · have : (k : Int).natAbs.log2 < 20 := by
          by_cases h0 : (k : Int).natAbs = 0
          · rw [h0]; decide
          · exact (Nat.log2_lt h0).mpr (by omega)
        omega
    omega
  refine shw_of shp_gD ?_ ?_ ?_
  · unfold gD
    have : PyData.showableAll (eD es) = true := by
      clear hl
      induction es with
      | nil => rfl
      | cons e l ih =>
        have := hlt e List.mem_cons_self
        show PyData.showableAll (.tuple [.int (e.1 : Int), .int (e.2 : Int)] :: eD l) = true
        rw [PyData.showableAll, ih fun e m => hlt e (List.mem_cons_of_mem _ m)]
        simp [PyData.showable, PyData.showableAll, lg e.1 (by omega), lg e.2 (by omega)]
    simp [PyData.showable, PyData.showableAll, this, lg n (by omega)]
  · unfold gD
    have : PyData.intsShortAll 13 (eD es) = true := by
      clear hl
      induction es with
      | nil => rfl
      | cons e l ih =>
        have := hlt e List.mem_cons_self
        show PyData.intsShortAll 13 (.tuple [.int (e.1 : Int), .int (e.2 : Int)] :: eD l) = true
        rw [PyData.intsShortAll, ih fun e m => hlt e (List.mem_cons_of_mem _ m), PyData.intsShort, PyData.intsShortAll, PyData.intsShortAll, PyData.intsShortAll, is13 e.1 (by omega), is13 e.2 (by omega)]
        rfl
    rw [PyData.intsShort, PyData.intsShortAll, PyData.intsShortAll, PyData.intsShortAll, is13 n (by omega), PyData.intsShort, this]
    rfl
  · unfold gD
    have : PyData.weightAll (eD es) ≤ 400 * es.length := by
      clear hl
      induction es with
      | nil => simp [eD, PyData.weightAll]
      | cons e l ih =>
        have h := hlt e List.mem_cons_self
        have ih := ih fun e m => hlt e (List.mem_cons_of_mem _ m)
        have w1 := wt e.1 (by omega)
        have w2 := wt e.2 (by omega)
        show PyData.weightAll (.tuple [.int (e.1 : Int), .int (e.2 : Int)] :: eD l) ≤ _
        rw [PyData.weightAll, PyData.weight, PyData.weightAll, PyData.weightAll, PyData.weightAll, List.length_cons]
        omega
    have w0 := wt n (by omega)
    rw [PyData.weight, PyData.weightAll, PyData.weightAll, PyData.weightAll, PyData.weight]
    omega

end T3
end
set_option Elab.async false
set_option linter.all false
set_option maxRecDepth 100000
set_option maxHeartbeats 1000000
noncomputable section
namespace T3
open PySem PySem.Spec PyProof.Rows L2 Gr
local macro_rules | `(tactic| simp! [$xs,*]) => `(tactic| simp only [iStrD_e, fThaw_e, fAppT_e, ev_some, ev_bind, fV_e, fC_e, lq_e, f1_e, f2_e, f3_e, e1_e, e2_e, kNil_e, kCons_e, fQ_e, aNil_e, aV_e, aS_e, fCl_e, fClI_e, fClM_e, fL_e, fT_e, fFl_e, sNil_e, sEx_e, sSet_e, sRt_e, sIf_e, sSeq_e, bNot_e, bAnd_e, bOr_e, bYes_e, lb_e, vAnd_e, vOr_e, vNot_e, fIf_e, gN_e, sFor_e, iL_e, iT_e, gTup_e, gNil_e, gCons_e, ev_lc, wpE_nil, wpE_cons, fApp_e, fExt_e, fExtF_e, sPar2_e, sUnp2_e, sUnp3_e, sAsg_e, sSetI_e, iR1_e, iR2_e, fPopA_e, fPop_e, sPut_e, sPar3_e, fSl_e, eSl_e, fSs_e, oN_e, oS_e, iZ_e, iE_e, fRev_e, sSetI2_e, gAdd_int, gSub_int, gCmp_int, gNeg_int, gInt_int, gInt_bl, gAbs_int, gLen_list, gLen_tuple, gLen_dict, gList_list, gIsN_non, gNotN_non, isNon_none, isNon_int, gIx_l0, gIx_l1, gIx_l2, gIx_t0, gIx_t1, gIx_t2, ev_iten, List.cons_append, List.nil_append, List.replicate, List.getElem?_cons_zero, List.getElem?_cons_succ, List.set_cons_zero, List.set_cons_succ, if_true, if_false, Bool.false_eq_true, $xs,*])
/-! ### one round of the law -/
theorem jn_mem {c x : Nat} : ∀ {ps : List (List Nat)}, x ∈ jn c ps → x = c ∨ ∃ p ∈ ps, x ∈ p
  | [], h => by cases h
  | [p], h => .inr ⟨p, List.mem_cons_self, h⟩
  | p :: q :: r, h => by
    have h : x ∈ p ++ c :: jn c (q :: r) := h
    rcases List.mem_append.mp h with h | h
    · exact .inr ⟨p, List.mem_cons_self, h⟩
    · rcases List.mem_cons.mp h with h | h
      · exact .inl h
      · rcases jn_mem h with h | ⟨p', m, h⟩
        · exact .inl h
        · exact .inr ⟨p', List.mem_cons_of_mem _ m, h⟩
theorem gX_128 {n : Nat} {es : List (Nat × Nat)} (g : GOk n es) : ∀ c ∈ gX n es, c < 128 := fun c m => by
  have hn := g.n40
  rcases jn_mem m with h | ⟨p, hp, h⟩
  · omega
  · rcases List.mem_cons.mp hp with rfl | hp
    · rcases List.mem_append.mp h with h | h
      · exact dg_128 (by omega) c h
      · have : c = 58 := by simpa using h
        omega
    · obtain ⟨e, he, rfl⟩ := List.mem_map.mp hp
      have := g.lt e he
      unfold eP at h
      rcases List.mem_append.mp h with h | h
      · exact dg_128 (by omega) c h
      · rcases List.mem_cons.mp h with h | h
        · omega
        · exact dg_128 (by omega) c h
theorem wX_128 {ws : List (List Bool)} : ∀ c ∈ wX ws, c < 128 := fun c m => by
  rcases jn_mem m with h | ⟨p, hp, h⟩
  · omega
  · obtain ⟨w, _, rfl⟩ := List.mem_map.mp hp
    unfold wT at h
    split at h
    · have : c = 46 := by simpa using h
      omega
    · exact bz_128 c h
theorem wX_len {ws : List (List Bool)} (h2 : ws.length ≤ 40) (hl : ∀ w ∈ ws, w.length ≤ 40) : (wX ws).length ≤ 2000 := by
  have := jn_len (c := 32) (B := 41) (ps := ws.map wT) (fun p hp => by
    obtain ⟨w, m, rfl⟩ := List.mem_map.mp hp
    have := wT_len (w := w)
    have := hl w m
    omega)
  rw [List.length_map] at this
  unfold wX
  omega
theorem repr_t {l : List Nat} (h : ∀ c ∈ l, c < 128) (hl : l.length ≤ 10000) : gRepr [.str (xS l)] = some (.str (PyData.shown (.str (xS l)))) ∧ gNe (.str (PyData.shown (.str (xS l)))) (.str (PyData.shown (.str (xS l)))) = some (.bool false) := by
  refine ⟨gRepr_ok (shw_str (fun c m => h c m) (by rw [xS_len]; omega)), gNe_refl (shp_str ?_)⟩
  rw [PyData.shown]
  exact ok_reprText fun c m => h c m
theorem pick4 : ∀ k : Nat, k < 4 → ∃ m : Nat, gIx (.list [.int 1, .int 3, .int 12, .int 40]) (.int (k : Int)) = some (.int (m : Int)) ∧ 1 ≤ m ∧ m ≤ 40 := fun k hk => by
  obtain rfl | rfl | rfl | rfl : k = 0 ∨ k = 1 ∨ k = 2 ∨ k = 3 := by omega
  · exact ⟨1, gIx_list (n := 0) rfl rfl, by decide, by decide⟩
  · exact ⟨3, gIx_list (n := 1) rfl rfl, by decide, by decide⟩
  · exact ⟨12, gIx_list (n := 2) rfl rfl, by decide, by decide⟩
  · exact ⟨40, gIx_list (n := 3) rfl rfl, by decide, by decide⟩
theorem pick2 : ∀ k : Nat, k < 2 → ∃ m : Nat, gIx (.list [.int 4, .int 41]) (.int (k : Int)) = some (.int (m : Int)) ∧ 1 ≤ m ∧ m ≤ 41 := fun k hk => by
  obtain rfl | rfl : k = 0 ∨ k = 1 := by omega
  · exact ⟨4, gIx_list (n := 0) rfl rfl, by decide, by decide⟩
  · exact ⟨41, gIx_list (n := 1) rfl rfl, by decide, by decide⟩
theorem gStr_2 : ∀ k : Nat, k < 2 → ∃ b, gStr [.int (k : Int)] = some (.str (sg b)) := fun k hk => by
  obtain rfl | rfl : k = 0 ∨ k = 1 := by omega
  · exact ⟨false, gStr_b (b := false)⟩
  · exact ⟨true, gStr_b (b := true)⟩
theorem right_ev {d : D} (h : TapOk d) : Ev (F__law_right [d]) fun r => ∃ d', r = (.bool true, d') ∧ TapOk d' := by
  refine ev_semI ?_
  rw [g__law_right]
  have pr : ∀ j : Int, 0 ≤ j → j < 100000 → -(2 ^ 62) ≤ j ∧ j < 2 ^ 62 := fun j h0 h1 => ⟨by omega, by omega⟩
  have lr : ∀ n : Nat, n ≤ 1000 → (nI (List.range n)).length ≤ sizeLine := fun n hn => by rw [nI_len, List.length_range]; exact small_le (by omega)
  simp! [-bOr_e]
  refine (draw_ev h (by omega) (by omega)).use ?_
  rintro _ ⟨k1, d1, rfl, hk1, h1⟩
  obtain ⟨m, hm, hm1, hm2⟩ := pick4 k1 (by omega)
  simp! [hm, -bOr_e]
  refine (any_ev h1 hm1 hm2).use ?_
  rintro _ ⟨n, es, d2, rfl, g, h2⟩
  have hn := g.n40
  have hle := g.le
  have x0 : gIx (gD n es) (.int 0) = some (.int (n : Int)) := gIx_tup (n := 0) rfl rfl
  have x1 : gIx (gD n es) (.int 1) = some (.list (eD es)) := gIx_tup (n := 1) rfl rfl
  have x2 : gList (.list (eD es)) = some (.list (eD es)) := rfl
  have x3 : PyData.tuple [.int (n : Int), .list (eD es)] = gD n es := rfl
  obtain ⟨q1, q2⟩ := repr_t (gX_128 g) (by have := gX_len (n := n) hle; omega)
  have q3 := gNe_refl (shp_gD (n := n) (es := es))
  have q4 := gRepr_ok (shw_g g)
  have q5 := gNe_refl (shp_str (ok_shown_g (n := n) (es := es)))
  have q6 : (eD es).length < sizeLine := small_line (by rw [eD_len]; omega)
  have q7 := read_ok g
  simp! [x0, x1, x2, x3, ltext_ok g, show_ok g, q1, q2, q3, q7, q4, q5, -fAppT_e]
  rw [← x3]
  have q7 : F_read_graph [.str (xS (gX n es))] = some (.tuple [.int (n : Int), .list (eD es)]) := read_ok g
  have q3 : gNe (.tuple [.int (n : Int), .list (eD es)]) (.tuple [.int (n : Int), .list (eD es)]) = some (.bool false) := q3
  simp! [q6, q7, q3, true_and, -bOr_e, -fIf_e]
  refine (draw_ev h2 (by omega) (by omega)).use ?_
  rintro _ ⟨k2, d3, rfl, hk2, h3⟩
  have a1 : gAdd (.int 1) (.int (k2 : Int)) = some (.int ((1 + k2 : Nat) : Int)) := by
    show some (PyData.int (1 + (k2 : Int))) = _
    rw [Int.natCast_add]
    rfl
  simp! [a1, -bOr_e, -fIf_e]
  refine (draw_ev h3 (by omega) (by omega)).use ?_
  rintro _ ⟨k3, d4, rfl, hk3, h4⟩
  obtain ⟨m2, hm2', hm3, hm4⟩ := pick2 k3 (by omega)
  simp! [hm2', -bOr_e, -fIf_e]
  refine (draw_ev h4 (by omega) (by omega)).use ?_
  rintro _ ⟨len, d5, rfl, hlen, h5⟩
  simp! [ints0, Int.toNat_natCast, -bOr_e, -fIf_e]
  have hk40 : 1 + k2 ≤ 40 := by omega
  have hl40 : len ≤ 40 := by omega
  refine ⟨pr _ (by omega) (by omega), lr _ (by omega), ev_lcS (fun i acc e => ∃ d ws, TapOk d ∧ acc = ws.map wD ∧ ws.length = i ∧ (∀ w ∈ ws, w.length = len) ∧ e = [d, .tuple [.int (n : Int), .list (eD es)], .tuple [.int (n : Int), .list (eD es)], .str (xS (gX n es)), .tuple [.int (n : Int), .list (eD es ++ [.none])], .int ((1 + k2 : Nat) : Int), .int (len : Int), .none, .none, .none, .none, .none])
    ⟨d5, [], h5, rfl, rfl, fun w m => (by cases m), rfl⟩ ?_ ?_⟩
  · rintro i acc x e hx ⟨d6, ws, h6, rfl, hlw, hw, rfl⟩
    simp! [ints0, Int.toNat_natCast, litE]
    refine ⟨pr _ (by omega) (by omega), lr _ (by omega), ev_lcS (fun i acc e => ∃ d bs, TapOk d ∧ acc = bs.map (fun b => .str (sg b)) ∧ bs.length = i ∧ e = [d, .tuple [.int (n : Int), .list (eD es)], .tuple [.int (n : Int), .list (eD es)], .str (xS (gX n es)), .tuple [.int (n : Int), .list (eD es ++ [.none])], .int ((1 + k2 : Nat) : Int), .int (len : Int), .none, .none, .int (x : Int), .none, .none])
      ⟨d6, [], h6, rfl, rfl, rfl⟩ ?_ ?_⟩
    · rintro i2 acc2 x2 e2 hx2 ⟨d7, bs, h7, rfl, hlb, rfl⟩
      simp! []
      refine (draw_ev h7 (by omega) (by omega)).use ?_
      rintro _ ⟨k4, d8, rfl, hk4, h8⟩
      obtain ⟨b, hb⟩ := gStr_2 k4 (by omega)
      simp! [hb]
      exact ⟨d8, bs ++ [b], h8, by rw [List.map_append]; rfl, by simp [hlb], rfl⟩
    · rintro zs e2 ⟨d7, bs, h7, rfl, hlb, rfl⟩
      have hlb : bs.length = len := by rw [hlb]; simp
      have hj : gJoin (.str (xS [])) (.list (bs.map fun b => .str (sg b))) = some (wD bs) := gJoin_sg (by omega)
      simp! [hj]
      refine ⟨d7, ws ++ [bs], h7, by rw [List.map_append]; rfl, by simp [hlw], fun w m => ?_, rfl⟩
      rcases List.mem_append.mp m with m | m
      · exact hw w m
      · rw [List.mem_singleton.mp m, hlb]
  rintro zs e ⟨d6, ws, h6, rfl, hlw, hw, rfl⟩
  have hlw : ws.length = 1 + k2 := by rw [hlw]; simp
  have y1 : gList (.list (ws.map wD)) = some (.list (ws.map wD)) := rfl
  simp! [y1, litb, -fIf_e, -bOr_e]
  refine ⟨small_le (by rw [List.length_map]; omega), ?_⟩
  refine ev_lcA (xs := ws) (ea := wD) wT (fun p => .str (xS p)) (fun w m => ?_) ?_
  · have hwl := hw w m
    by_cases h0 : len = 0
    · have c1 : decide ((0 : Int) < (len : Int)) = false := decide_eq_false (by omega)
      have e1 : w = [] := List.eq_nil_of_length_eq_zero (by omega)
      have e2 : wT w = [46] := if_pos e1
      simp! [c1, litp, e2]
      trivial
    · have c1 : decide ((0 : Int) < (len : Int)) = true := decide_eq_true (by omega)
      have e2 : wT w = w.map bz := if_neg (fun z => by rw [z] at hwl; simp at hwl; omega)
      simp! [c1, wD_x, e2]
      trivial
  have hwm : ∀ w ∈ ws, w.length ≤ 40 := fun w m => by have := hw w m; omega
  have hj : gJoin (.str (xS [32])) (.list ((ws.map wT).map fun p => .str (xS p))) = some (.str (xS (wX ws))) := gJoin_jn (B := 41) (by rw [List.length_map]; omega) (fun p hp => by
    obtain ⟨w, m, rfl⟩ := List.mem_map.mp hp
    have := wT_len (w := w)
    have := hwm w m
    omega) (by decide)
  obtain ⟨z1, z2⟩ := repr_t (wX_128 (ws := ws)) (by have := wX_len (ws := ws) (by omega) hwm; omega)
  have z3 := gNe_refl (shp_ws (ws := ws))
  have z4 := gRepr_ok (shw_words (ws := ws) (by omega) hwm)
  have z5 := gNe_refl (shp_str (ok_shown_words (ws := ws)))
  have z6 : (ws.map wD).length < sizeLine := small_line (by rw [List.length_map]; omega)
  have z7 := showw_ok (ws := ws) (len := len) (by omega) (by omega) hw hl40
  have z8 := readw_ok (ws := ws) (len := len) (by omega) (by omega) hw hl40
  have z9 := gEq_refl (shp_ws (ws := ws))
  simp! [hj, z7, z1, z2, z3, z8, z4, z5, z6, z9]
  exact ⟨d6, rfl, h6⟩

end T3
end
set_option Elab.async false
set_option linter.all false
set_option maxRecDepth 100000
set_option maxHeartbeats 1000000
noncomputable section
namespace T3
open PySem PySem.Spec PyProof.Rows L2 Gr
local macro_rules | `(tactic| simp! [$xs,*]) => `(tactic| simp only [iStrD_e, fThaw_e, fAppT_e, ev_some, ev_bind, fV_e, fC_e, lq_e, f1_e, f2_e, f3_e, e1_e, e2_e, kNil_e, kCons_e, fQ_e, aNil_e, aV_e, aS_e, fCl_e, fClI_e, fClM_e, fL_e, fT_e, fFl_e, sNil_e, sEx_e, sSet_e, sRt_e, sIf_e, sSeq_e, bNot_e, bAnd_e, bOr_e, bYes_e, lb_e, vAnd_e, vOr_e, vNot_e, fIf_e, gN_e, sFor_e, iL_e, iT_e, gTup_e, gNil_e, gCons_e, ev_lc, wpE_nil, wpE_cons, fApp_e, fExt_e, fExtF_e, sPar2_e, sUnp2_e, sUnp3_e, sAsg_e, sSetI_e, iR1_e, iR2_e, fPopA_e, fPop_e, sPut_e, sPar3_e, fSl_e, eSl_e, fSs_e, oN_e, oS_e, iZ_e, iE_e, fRev_e, sSetI2_e, gAdd_int, gSub_int, gCmp_int, gNeg_int, gInt_int, gInt_bl, gAbs_int, gLen_list, gLen_tuple, gLen_dict, gList_list, gIsN_non, gNotN_non, isNon_none, isNon_int, gIx_l0, gIx_l1, gIx_l2, gIx_t0, gIx_t1, gIx_t2, ev_iten, List.cons_append, List.nil_append, List.replicate, List.getElem?_cons_zero, List.getElem?_cons_succ, List.set_cons_zero, List.set_cons_succ, if_true, if_false, Bool.false_eq_true, $xs,*])
/-! ### the law -/
theorem g_one : GOk 1 [] := ⟨by decide, by decide, fun e m => (by cases m), List.Pairwise.nil, by decide, conn_back fun v h0 h1 => by omega⟩
theorem g_three : GOk 3 [(0, 1), (1, 2)] := by
  refine ⟨by decide, by decide, fun e m => ?_, ?_, by decide, conn_back fun v h0 h1 => ?_⟩
  · have : e = (0, 1) ∨ e = (1, 2) := by simpa using m
    rcases this with rfl | rfl <;> decide
  · unfold Asc
    simp
  · obtain rfl | rfl : v = 1 ∨ v = 2 := by omega
    · exact ⟨0, by decide, .inl (by simp)⟩
    · exact ⟨1, by decide, .inl (by simp)⟩
theorem str_kr {a b : Str} (h : a = b) : PyData.str a = .str b := congrArg PyData.str h
theorem law_true : ∀ ns : List Int, ns.length ≤ 63 → (∀ z ∈ ns, Builtin.Int.intBits z ≤ 1048576) → F_law [.list (ns.map .int)] = some (.bool true) := by
  intro ns hns _
  refine Ev.eq (ev_semQ ?_)
  rw [g_law]
  simp! []
  refine (cells_ok (show ns.length ≤ 1000 by omega) (m := 5) (by decide) (by decide)).use ?_
  rintro _ ⟨cs, rfl, hc1, hc2⟩
  simp! [List.length_map, ints0, Int.toNat_natCast]
  refine ⟨⟨by omega, by omega⟩, ev_forM (fun i e => e = [.list (ns.map .int), .list (cs.map .int), .none, .none, .none, .none]) rfl ?_ ?_⟩
  · rintro i x e hx rfl
    have hi : i < cs.length := by
      have := (List.getElem?_eq_some_iff.mp hx).1
      rwa [List.length_range] at this
    rw [List.getElem?_range hi] at hx
    cases hx
    simp! [gIx_int hi]
    refine (tap_ok (show i ≤ 1000 by omega)).use fun t0 h0 => ?_
    have h4 : intsFrom 0 (4 : Int).toNat = [.int 0, .int 1, .int 2, .int 3] := rfl
    simp! [h4]
    refine ⟨⟨by decide, by decide⟩, small_le (by decide), ev_lcI (fun i2 acc e => ∃ d, TapOk d ∧ acc = [] ∧ e = [.list (ns.map .int), .list (cs.map .int), .int (i : Int), d, .none, .none]) ⟨t0, h0, rfl, rfl⟩ ?_ ?_⟩
    · rintro i2 acc d0 e2 hd ⟨d, hd0, rfl, rfl⟩
      simp! []
      refine (right_ev hd0).use ?_
      rintro _ ⟨d', rfl, hd'⟩
      simp! [Bool.not_true]
      exact ⟨d', hd', trivial, rfl⟩
    · rintro zs e2 ⟨d, hd0, rfl, rfl⟩
      have hg : gNe (.list []) (.list []) = some (.bool false) := gNe_refl (by decide)
      simp! [hg]
  · rintro e rfl
    have r1 : F_show_graph [.tuple [.int 1, .list []]] = some (.str (Str.ofString "1:")) := by
      have := show_ok g_one
      rw [str_kr (show xS (gX 1 []) = Str.ofString "1:" by decide +kernel)] at this
      exact this
    have r2 : F_read_graph [.str (Str.ofString "3: 0-1 1-2")] = some (.tuple [.int 3, .list [.tuple [.int 0, .int 1], .tuple [.int 1, .int 2]]]) := by
      have := read_ok g_three
      rw [str_kr (show xS (gX 3 [(0, 1), (1, 2)]) = Str.ofString "3: 0-1 1-2" by decide +kernel)] at this
      exact this
    have l00 : PyData.str (Str.ofString "00") = wD [false, false] := str_kr (by decide +kernel)
    have l11 : PyData.str (Str.ofString "11") = wD [true, true] := str_kr (by decide +kernel)
    have l10 : PyData.str (Str.ofString "10") = wD [true, false] := str_kr (by decide +kernel)
    have l01 : PyData.str (Str.ofString "01") = wD [false, true] := str_kr (by decide +kernel)
    have le : PyData.str (Str.ofString "") = wD [] := str_kr (by decide +kernel)
    have r3 : F_show_words [.list [wD [false, false], wD [true, true]]] = some (.str (Str.ofString "00 11")) := by
      have := showw_ok (ws := [[false, false], [true, true]]) (len := 2) (by decide) (by decide) (by simp) (by decide)
      rw [str_kr (show xS (wX [[false, false], [true, true]]) = Str.ofString "00 11" by decide +kernel)] at this
      exact this
    have r4 : F_read_words [.str (Str.ofString ".")] = some (.list [wD []]) := by
      have := readw_ok (ws := [[]]) (len := 0) (by decide) (by decide) (by simp) (by decide)
      rw [str_kr (show xS (wX [[]]) = Str.ofString "." by decide +kernel)] at this
      exact this
    have r5 : F_read_words [.str (Str.ofString "10 01")] = some (.list [wD [true, false], wD [false, true]]) := by
      have := readw_ok (ws := [[true, false], [false, true]]) (len := 2) (by decide) (by decide) (by simp) (by decide)
      rw [str_kr (show xS (wX [[true, false], [false, true]]) = Str.ofString "10 01" by decide +kernel)] at this
      exact this
    have r6 : F_show_words [.list [wD [], wD []]] = some (.str (Str.ofString ". .")) := by
      have := showw_ok (ws := [[], []]) (len := 0) (by decide) (by decide) (by simp) (by decide)
      rw [str_kr (show xS (wX [[], []]) = Str.ofString ". ." by decide +kernel)] at this
      exact this
    have hsh : shp (.list [.str (Str.ofString "1:"), .tuple [.int 3, .list [.tuple [.int 0, .int 1], .tuple [.int 1, .int 2]]], .str (Str.ofString "00 11"), .list [wD []], .list [wD [true, false], wD [false, true]], .str (Str.ofString ". .")]) = true := by decide +kernel
    have hc : gCat (.list [.str (Str.ofString "1:"), .tuple [.int 3, .list [.tuple [.int 0, .int 1], .tuple [.int 1, .int 2]]], .str (Str.ofString "00 11"), .list [wD []]]) (.list [.list [wD [true, false], wD [false, true]], .str (Str.ofString ". .")]) = some (.list [.str (Str.ofString "1:"), .tuple [.int 3, .list [.tuple [.int 0, .int 1], .tuple [.int 1, .int 2]]], .str (Str.ofString "00 11"), .list [wD []], .list [wD [true, false], wD [false, true]], .str (Str.ofString ". .")]) := by
      rw [gCat_ok (small_le (by decide))]
      rfl
    simp! [r1, r2, l00, l11, l10, l01, le, r3, r4, r5, r6, hc, gEq_refl hsh]

end T3
end
set_option Elab.async false
set_option linter.all false
set_option maxRecDepth 100000
set_option maxHeartbeats 4000000
namespace T3
open PySem PySem.Spec PyProof.Rows L2
theorem all_mk {Pg : Program} {w : World} {K : Frg} {h : Heap} {mg : Str → Option Value} {fa : Addr} (X : K.In h) (G : h.Ns mainGlobals mg) (hfa : mg "law" = some (.ref fa))
  {f__law_cells : Addr} {od__law_cells an__law_cells : Option Addr} {sl__law_cells : Array (Option Value)} {oc__law_cells kV__law_cells dc__law_cells pm__law_cells cd__law_cells ct__law_cells : Value}
  {f__law_tap : Addr} {od__law_tap an__law_tap : Option Addr} {sl__law_tap : Array (Option Value)} {oc__law_tap kV__law_tap dc__law_tap pm__law_tap cd__law_tap ct__law_tap : Value}
  {f_distances_from : Addr} {od_distances_from an_distances_from : Option Addr} {sl_distances_from : Array (Option Value)} {oc_distances_from kV_distances_from dc_distances_from pm_distances_from cd_distances_from ct_distances_from : Value}
  {f_neighbor_rows : Addr} {od_neighbor_rows an_neighbor_rows : Option Addr} {sl_neighbor_rows : Array (Option Value)} {oc_neighbor_rows kV_neighbor_rows dc_neighbor_rows pm_neighbor_rows cd_neighbor_rows ct_neighbor_rows : Value}
  {f_is_connected : Addr} {od_is_connected an_is_connected : Option Addr} {sl_is_connected : Array (Option Value)} {oc_is_connected kV_is_connected dc_is_connected pm_is_connected cd_is_connected ct_is_connected : Value}
  {f_is_integer : Addr} {od_is_integer an_is_integer : Option Addr} {sl_is_integer : Array (Option Value)} {oc_is_integer kV_is_integer dc_is_integer pm_is_integer cd_is_integer ct_is_integer : Value}
  {f_is_ascending : Addr} {od_is_ascending an_is_ascending : Option Addr} {sl_is_ascending : Array (Option Value)} {oc_is_ascending kV_is_ascending dc_is_ascending pm_is_ascending cd_is_ascending ct_is_ascending : Value}
  {f_is_pair : Addr} {od_is_pair an_is_pair : Option Addr} {sl_is_pair : Array (Option Value)} {oc_is_pair kV_is_pair dc_is_pair pm_is_pair cd_is_pair ct_is_pair : Value}
  {f_is_graph_value : Addr} {od_is_graph_value an_is_graph_value : Option Addr} {sl_is_graph_value : Array (Option Value)} {oc_is_graph_value kV_is_graph_value dc_is_graph_value pm_is_graph_value cd_is_graph_value ct_is_graph_value : Value}
  {f_need_graph : Addr} {od_need_graph an_need_graph : Option Addr} {sl_need_graph : Array (Option Value)} {oc_need_graph kV_need_graph dc_need_graph pm_need_graph cd_need_graph ct_need_graph : Value}
  {f_graph_text : Addr} {od_graph_text an_graph_text : Option Addr} {sl_graph_text : Array (Option Value)} {oc_graph_text kV_graph_text dc_graph_text pm_graph_text cd_graph_text ct_graph_text : Value}
  {f_show_graph : Addr} {od_show_graph an_show_graph : Option Addr} {sl_show_graph : Array (Option Value)} {oc_show_graph kV_show_graph dc_show_graph pm_show_graph cd_show_graph ct_show_graph : Value}
  {f_whole_in : Addr} {od_whole_in an_whole_in : Option Addr} {sl_whole_in : Array (Option Value)} {oc_whole_in kV_whole_in dc_whole_in pm_whole_in cd_whole_in ct_whole_in : Value}
  {f_size_in : Addr} {od_size_in an_size_in : Option Addr} {sl_size_in : Array (Option Value)} {oc_size_in kV_size_in dc_size_in pm_size_in cd_size_in ct_size_in : Value}
  {f_edge_in : Addr} {od_edge_in an_edge_in : Option Addr} {sl_edge_in : Array (Option Value)} {oc_edge_in kV_edge_in dc_edge_in pm_edge_in cd_edge_in ct_edge_in : Value}
  {f_read_graph : Addr} {od_read_graph an_read_graph : Option Addr} {sl_read_graph : Array (Option Value)} {oc_read_graph kV_read_graph dc_read_graph pm_read_graph cd_read_graph ct_read_graph : Value}
  {f_is_sign_string : Addr} {od_is_sign_string an_is_sign_string : Option Addr} {sl_is_sign_string : Array (Option Value)} {oc_is_sign_string kV_is_sign_string dc_is_sign_string pm_is_sign_string cd_is_sign_string ct_is_sign_string : Value}
  {f_are_signs : Addr} {od_are_signs an_are_signs : Option Addr} {sl_are_signs : Array (Option Value)} {oc_are_signs kV_are_signs dc_are_signs pm_are_signs cd_are_signs ct_are_signs : Value}
  {f_word_text : Addr} {od_word_text an_word_text : Option Addr} {sl_word_text : Array (Option Value)} {oc_word_text kV_word_text dc_word_text pm_word_text cd_word_text ct_word_text : Value}
  {f_show_words : Addr} {od_show_words an_show_words : Option Addr} {sl_show_words : Array (Option Value)} {oc_show_words kV_show_words dc_show_words pm_show_words cd_show_words ct_show_words : Value}
  {f_word_in : Addr} {od_word_in an_word_in : Option Addr} {sl_word_in : Array (Option Value)} {oc_word_in kV_word_in dc_word_in pm_word_in cd_word_in ct_word_in : Value}
  {f_read_words : Addr} {od_read_words an_read_words : Option Addr} {sl_read_words : Array (Option Value)} {oc_read_words kV_read_words dc_read_words pm_read_words cd_read_words ct_read_words : Value}
  {f__law_draw : Addr} {od__law_draw an__law_draw : Option Addr} {sl__law_draw : Array (Option Value)} {oc__law_draw kV__law_draw dc__law_draw pm__law_draw cd__law_draw ct__law_draw : Value}
  {f__law_any_graph : Addr} {od__law_any_graph an__law_any_graph : Option Addr} {sl__law_any_graph : Array (Option Value)} {oc__law_any_graph kV__law_any_graph dc__law_any_graph pm__law_any_graph cd__law_any_graph ct__law_any_graph : Value}
  {f__law_number : Addr} {od__law_number an__law_number : Option Addr} {sl__law_number : Array (Option Value)} {oc__law_number kV__law_number dc__law_number pm__law_number cd__law_number ct__law_number : Value}
  {f__law_graph_text : Addr} {od__law_graph_text an__law_graph_text : Option Addr} {sl__law_graph_text : Array (Option Value)} {oc__law_graph_text kV__law_graph_text dc__law_graph_text pm__law_graph_text cd__law_graph_text ct__law_graph_text : Value}
  {f__law_right : Addr} {od__law_right an__law_right : Option Addr} {sl__law_right : Array (Option Value)} {oc__law_right kV__law_right dc__law_right pm__law_right cd__law_right ct__law_right : Value}
  {f_law : Addr} {od_law an_law : Option Addr} {sl_law : Array (Option Value)} {oc_law kV_law dc_law pm_law cd_law ct_law : Value}
  {t_MOST_EDGES : Tok}
  {t_MOST_LENGTH : Tok}
  {t_MOST_NODES : Tok}
  (a__law_cells : PySem.W.nsIn K mainGlobals "_law_cells" = some (some (.ref f__law_cells)))
  (l__law_cells : K.lookup f__law_cells = some ⟨oc__law_cells, od__law_cells, .func (PySem.W.fnOf "_law_cells" "_law_cells" (defArgs st__law_cells) (defBody st__law_cells) (defScope st__law_cells) .none kV__law_cells dc__law_cells pm__law_cells an__law_cells cd__law_cells ct__law_cells), sl__law_cells⟩)
  (c__law_cells : PySem.W.codeIn K cd__law_cells "_law_cells" = true)
  (p__law_cells : PySem.W.keepIn K (.ref f__law_cells) = true)
  (a__law_tap : PySem.W.nsIn K mainGlobals "_law_tap" = some (some (.ref f__law_tap)))
  (l__law_tap : K.lookup f__law_tap = some ⟨oc__law_tap, od__law_tap, .func (PySem.W.fnOf "_law_tap" "_law_tap" (defArgs st__law_tap) (defBody st__law_tap) (defScope st__law_tap) .none kV__law_tap dc__law_tap pm__law_tap an__law_tap cd__law_tap ct__law_tap), sl__law_tap⟩)
  (c__law_tap : PySem.W.codeIn K cd__law_tap "_law_tap" = true)
  (p__law_tap : PySem.W.keepIn K (.ref f__law_tap) = true)
  (a_distances_from : PySem.W.nsIn K mainGlobals "distances_from" = some (some (.ref f_distances_from)))
  (l_distances_from : K.lookup f_distances_from = some ⟨oc_distances_from, od_distances_from, .func (PySem.W.fnOf "distances_from" "distances_from" (defArgs st_distances_from) (defBody st_distances_from) (defScope st_distances_from) .none kV_distances_from dc_distances_from pm_distances_from an_distances_from cd_distances_from ct_distances_from), sl_distances_from⟩)
  (c_distances_from : PySem.W.codeIn K cd_distances_from "distances_from" = true)
  (p_distances_from : PySem.W.keepIn K (.ref f_distances_from) = true)
  (a_neighbor_rows : PySem.W.nsIn K mainGlobals "neighbor_rows" = some (some (.ref f_neighbor_rows)))
  (l_neighbor_rows : K.lookup f_neighbor_rows = some ⟨oc_neighbor_rows, od_neighbor_rows, .func (PySem.W.fnOf "neighbor_rows" "neighbor_rows" (defArgs st_neighbor_rows) (defBody st_neighbor_rows) (defScope st_neighbor_rows) .none kV_neighbor_rows dc_neighbor_rows pm_neighbor_rows an_neighbor_rows cd_neighbor_rows ct_neighbor_rows), sl_neighbor_rows⟩)
  (c_neighbor_rows : PySem.W.codeIn K cd_neighbor_rows "neighbor_rows" = true)
  (p_neighbor_rows : PySem.W.keepIn K (.ref f_neighbor_rows) = true)
  (a_is_connected : PySem.W.nsIn K mainGlobals "is_connected" = some (some (.ref f_is_connected)))
  (l_is_connected : K.lookup f_is_connected = some ⟨oc_is_connected, od_is_connected, .func (PySem.W.fnOf "is_connected" "is_connected" (defArgs st_is_connected) (defBody st_is_connected) (defScope st_is_connected) .none kV_is_connected dc_is_connected pm_is_connected an_is_connected cd_is_connected ct_is_connected), sl_is_connected⟩)
  (c_is_connected : PySem.W.codeIn K cd_is_connected "is_connected" = true)
  (p_is_connected : PySem.W.keepIn K (.ref f_is_connected) = true)
  (a_is_integer : PySem.W.nsIn K mainGlobals "is_integer" = some (some (.ref f_is_integer)))
  (l_is_integer : K.lookup f_is_integer = some ⟨oc_is_integer, od_is_integer, .func (PySem.W.fnOf "is_integer" "is_integer" (defArgs st_is_integer) (defBody st_is_integer) (defScope st_is_integer) .none kV_is_integer dc_is_integer pm_is_integer an_is_integer cd_is_integer ct_is_integer), sl_is_integer⟩)
  (c_is_integer : PySem.W.codeIn K cd_is_integer "is_integer" = true)
  (p_is_integer : PySem.W.keepIn K (.ref f_is_integer) = true)
  (a_is_ascending : PySem.W.nsIn K mainGlobals "is_ascending" = some (some (.ref f_is_ascending)))
  (l_is_ascending : K.lookup f_is_ascending = some ⟨oc_is_ascending, od_is_ascending, .func (PySem.W.fnOf "is_ascending" "is_ascending" (defArgs st_is_ascending) (defBody st_is_ascending) (defScope st_is_ascending) .none kV_is_ascending dc_is_ascending pm_is_ascending an_is_ascending cd_is_ascending ct_is_ascending), sl_is_ascending⟩)
  (c_is_ascending : PySem.W.codeIn K cd_is_ascending "is_ascending" = true)
  (p_is_ascending : PySem.W.keepIn K (.ref f_is_ascending) = true)
  (a_is_pair : PySem.W.nsIn K mainGlobals "is_pair" = some (some (.ref f_is_pair)))
  (l_is_pair : K.lookup f_is_pair = some ⟨oc_is_pair, od_is_pair, .func (PySem.W.fnOf "is_pair" "is_pair" (defArgs st_is_pair) (defBody st_is_pair) (defScope st_is_pair) .none kV_is_pair dc_is_pair pm_is_pair an_is_pair cd_is_pair ct_is_pair), sl_is_pair⟩)
  (c_is_pair : PySem.W.codeIn K cd_is_pair "is_pair" = true)
  (p_is_pair : PySem.W.keepIn K (.ref f_is_pair) = true)
  (a_is_graph_value : PySem.W.nsIn K mainGlobals "is_graph_value" = some (some (.ref f_is_graph_value)))
  (l_is_graph_value : K.lookup f_is_graph_value = some ⟨oc_is_graph_value, od_is_graph_value, .func (PySem.W.fnOf "is_graph_value" "is_graph_value" (defArgs st_is_graph_value) (defBody st_is_graph_value) (defScope st_is_graph_value) .none kV_is_graph_value dc_is_graph_value pm_is_graph_value an_is_graph_value cd_is_graph_value ct_is_graph_value), sl_is_graph_value⟩)
  (c_is_graph_value : PySem.W.codeIn K cd_is_graph_value "is_graph_value" = true)
  (p_is_graph_value : PySem.W.keepIn K (.ref f_is_graph_value) = true)
  (a_need_graph : PySem.W.nsIn K mainGlobals "need_graph" = some (some (.ref f_need_graph)))
  (l_need_graph : K.lookup f_need_graph = some ⟨oc_need_graph, od_need_graph, .func (PySem.W.fnOf "need_graph" "need_graph" (defArgs st_need_graph) (defBody st_need_graph) (defScope st_need_graph) .none kV_need_graph dc_need_graph pm_need_graph an_need_graph cd_need_graph ct_need_graph), sl_need_graph⟩)
  (c_need_graph : PySem.W.codeIn K cd_need_graph "need_graph" = true)
  (p_need_graph : PySem.W.keepIn K (.ref f_need_graph) = true)
  (a_graph_text : PySem.W.nsIn K mainGlobals "graph_text" = some (some (.ref f_graph_text)))
  (l_graph_text : K.lookup f_graph_text = some ⟨oc_graph_text, od_graph_text, .func (PySem.W.fnOf "graph_text" "graph_text" (defArgs st_graph_text) (defBody st_graph_text) (defScope st_graph_text) .none kV_graph_text dc_graph_text pm_graph_text an_graph_text cd_graph_text ct_graph_text), sl_graph_text⟩)
  (c_graph_text : PySem.W.codeIn K cd_graph_text "graph_text" = true)
  (p_graph_text : PySem.W.keepIn K (.ref f_graph_text) = true)
  (a_show_graph : PySem.W.nsIn K mainGlobals "show_graph" = some (some (.ref f_show_graph)))
  (l_show_graph : K.lookup f_show_graph = some ⟨oc_show_graph, od_show_graph, .func (PySem.W.fnOf "show_graph" "show_graph" (defArgs st_show_graph) (defBody st_show_graph) (defScope st_show_graph) .none kV_show_graph dc_show_graph pm_show_graph an_show_graph cd_show_graph ct_show_graph), sl_show_graph⟩)
  (c_show_graph : PySem.W.codeIn K cd_show_graph "show_graph" = true)
  (p_show_graph : PySem.W.keepIn K (.ref f_show_graph) = true)
  (a_whole_in : PySem.W.nsIn K mainGlobals "whole_in" = some (some (.ref f_whole_in)))
  (l_whole_in : K.lookup f_whole_in = some ⟨oc_whole_in, od_whole_in, .func (PySem.W.fnOf "whole_in" "whole_in" (defArgs st_whole_in) (defBody st_whole_in) (defScope st_whole_in) .none kV_whole_in dc_whole_in pm_whole_in an_whole_in cd_whole_in ct_whole_in), sl_whole_in⟩)
  (c_whole_in : PySem.W.codeIn K cd_whole_in "whole_in" = true)
  (p_whole_in : PySem.W.keepIn K (.ref f_whole_in) = true)
  (a_size_in : PySem.W.nsIn K mainGlobals "size_in" = some (some (.ref f_size_in)))
  (l_size_in : K.lookup f_size_in = some ⟨oc_size_in, od_size_in, .func (PySem.W.fnOf "size_in" "size_in" (defArgs st_size_in) (defBody st_size_in) (defScope st_size_in) .none kV_size_in dc_size_in pm_size_in an_size_in cd_size_in ct_size_in), sl_size_in⟩)
  (c_size_in : PySem.W.codeIn K cd_size_in "size_in" = true)
  (p_size_in : PySem.W.keepIn K (.ref f_size_in) = true)
  (a_edge_in : PySem.W.nsIn K mainGlobals "edge_in" = some (some (.ref f_edge_in)))
  (l_edge_in : K.lookup f_edge_in = some ⟨oc_edge_in, od_edge_in, .func (PySem.W.fnOf "edge_in" "edge_in" (defArgs st_edge_in) (defBody st_edge_in) (defScope st_edge_in) .none kV_edge_in dc_edge_in pm_edge_in an_edge_in cd_edge_in ct_edge_in), sl_edge_in⟩)
  (c_edge_in : PySem.W.codeIn K cd_edge_in "edge_in" = true)
  (p_edge_in : PySem.W.keepIn K (.ref f_edge_in) = true)
  (a_read_graph : PySem.W.nsIn K mainGlobals "read_graph" = some (some (.ref f_read_graph)))
  (l_read_graph : K.lookup f_read_graph = some ⟨oc_read_graph, od_read_graph, .func (PySem.W.fnOf "read_graph" "read_graph" (defArgs st_read_graph) (defBody st_read_graph) (defScope st_read_graph) .none kV_read_graph dc_read_graph pm_read_graph an_read_graph cd_read_graph ct_read_graph), sl_read_graph⟩)
  (c_read_graph : PySem.W.codeIn K cd_read_graph "read_graph" = true)
  (p_read_graph : PySem.W.keepIn K (.ref f_read_graph) = true)
  (a_is_sign_string : PySem.W.nsIn K mainGlobals "is_sign_string" = some (some (.ref f_is_sign_string)))
  (l_is_sign_string : K.lookup f_is_sign_string = some ⟨oc_is_sign_string, od_is_sign_string, .func (PySem.W.fnOf "is_sign_string" "is_sign_string" (defArgs st_is_sign_string) (defBody st_is_sign_string) (defScope st_is_sign_string) .none kV_is_sign_string dc_is_sign_string pm_is_sign_string an_is_sign_string cd_is_sign_string ct_is_sign_string), sl_is_sign_string⟩)
  (c_is_sign_string : PySem.W.codeIn K cd_is_sign_string "is_sign_string" = true)
  (p_is_sign_string : PySem.W.keepIn K (.ref f_is_sign_string) = true)
  (a_are_signs : PySem.W.nsIn K mainGlobals "are_signs" = some (some (.ref f_are_signs)))
  (l_are_signs : K.lookup f_are_signs = some ⟨oc_are_signs, od_are_signs, .func (PySem.W.fnOf "are_signs" "are_signs" (defArgs st_are_signs) (defBody st_are_signs) (defScope st_are_signs) .none kV_are_signs dc_are_signs pm_are_signs an_are_signs cd_are_signs ct_are_signs), sl_are_signs⟩)
  (c_are_signs : PySem.W.codeIn K cd_are_signs "are_signs" = true)
  (p_are_signs : PySem.W.keepIn K (.ref f_are_signs) = true)
  (a_word_text : PySem.W.nsIn K mainGlobals "word_text" = some (some (.ref f_word_text)))
  (l_word_text : K.lookup f_word_text = some ⟨oc_word_text, od_word_text, .func (PySem.W.fnOf "word_text" "word_text" (defArgs st_word_text) (defBody st_word_text) (defScope st_word_text) .none kV_word_text dc_word_text pm_word_text an_word_text cd_word_text ct_word_text), sl_word_text⟩)
  (c_word_text : PySem.W.codeIn K cd_word_text "word_text" = true)
  (p_word_text : PySem.W.keepIn K (.ref f_word_text) = true)
  (a_show_words : PySem.W.nsIn K mainGlobals "show_words" = some (some (.ref f_show_words)))
  (l_show_words : K.lookup f_show_words = some ⟨oc_show_words, od_show_words, .func (PySem.W.fnOf "show_words" "show_words" (defArgs st_show_words) (defBody st_show_words) (defScope st_show_words) .none kV_show_words dc_show_words pm_show_words an_show_words cd_show_words ct_show_words), sl_show_words⟩)
  (c_show_words : PySem.W.codeIn K cd_show_words "show_words" = true)
  (p_show_words : PySem.W.keepIn K (.ref f_show_words) = true)
  (a_word_in : PySem.W.nsIn K mainGlobals "word_in" = some (some (.ref f_word_in)))
  (l_word_in : K.lookup f_word_in = some ⟨oc_word_in, od_word_in, .func (PySem.W.fnOf "word_in" "word_in" (defArgs st_word_in) (defBody st_word_in) (defScope st_word_in) .none kV_word_in dc_word_in pm_word_in an_word_in cd_word_in ct_word_in), sl_word_in⟩)
  (c_word_in : PySem.W.codeIn K cd_word_in "word_in" = true)
  (p_word_in : PySem.W.keepIn K (.ref f_word_in) = true)
  (a_read_words : PySem.W.nsIn K mainGlobals "read_words" = some (some (.ref f_read_words)))
  (l_read_words : K.lookup f_read_words = some ⟨oc_read_words, od_read_words, .func (PySem.W.fnOf "read_words" "read_words" (defArgs st_read_words) (defBody st_read_words) (defScope st_read_words) .none kV_read_words dc_read_words pm_read_words an_read_words cd_read_words ct_read_words), sl_read_words⟩)
  (c_read_words : PySem.W.codeIn K cd_read_words "read_words" = true)
  (p_read_words : PySem.W.keepIn K (.ref f_read_words) = true)
  (a__law_draw : PySem.W.nsIn K mainGlobals "_law_draw" = some (some (.ref f__law_draw)))
  (l__law_draw : K.lookup f__law_draw = some ⟨oc__law_draw, od__law_draw, .func (PySem.W.fnOf "_law_draw" "_law_draw" (defArgs st__law_draw) (defBody st__law_draw) (defScope st__law_draw) .none kV__law_draw dc__law_draw pm__law_draw an__law_draw cd__law_draw ct__law_draw), sl__law_draw⟩)
  (c__law_draw : PySem.W.codeIn K cd__law_draw "_law_draw" = true)
  (p__law_draw : PySem.W.keepIn K (.ref f__law_draw) = true)
  (a__law_any_graph : PySem.W.nsIn K mainGlobals "_law_any_graph" = some (some (.ref f__law_any_graph)))
  (l__law_any_graph : K.lookup f__law_any_graph = some ⟨oc__law_any_graph, od__law_any_graph, .func (PySem.W.fnOf "_law_any_graph" "_law_any_graph" (defArgs st__law_any_graph) (defBody st__law_any_graph) (defScope st__law_any_graph) .none kV__law_any_graph dc__law_any_graph pm__law_any_graph an__law_any_graph cd__law_any_graph ct__law_any_graph), sl__law_any_graph⟩)
  (c__law_any_graph : PySem.W.codeIn K cd__law_any_graph "_law_any_graph" = true)
  (p__law_any_graph : PySem.W.keepIn K (.ref f__law_any_graph) = true)
  (a__law_number : PySem.W.nsIn K mainGlobals "_law_number" = some (some (.ref f__law_number)))
  (l__law_number : K.lookup f__law_number = some ⟨oc__law_number, od__law_number, .func (PySem.W.fnOf "_law_number" "_law_number" (defArgs st__law_number) (defBody st__law_number) (defScope st__law_number) .none kV__law_number dc__law_number pm__law_number an__law_number cd__law_number ct__law_number), sl__law_number⟩)
  (c__law_number : PySem.W.codeIn K cd__law_number "_law_number" = true)
  (p__law_number : PySem.W.keepIn K (.ref f__law_number) = true)
  (a__law_graph_text : PySem.W.nsIn K mainGlobals "_law_graph_text" = some (some (.ref f__law_graph_text)))
  (l__law_graph_text : K.lookup f__law_graph_text = some ⟨oc__law_graph_text, od__law_graph_text, .func (PySem.W.fnOf "_law_graph_text" "_law_graph_text" (defArgs st__law_graph_text) (defBody st__law_graph_text) (defScope st__law_graph_text) .none kV__law_graph_text dc__law_graph_text pm__law_graph_text an__law_graph_text cd__law_graph_text ct__law_graph_text), sl__law_graph_text⟩)
  (c__law_graph_text : PySem.W.codeIn K cd__law_graph_text "_law_graph_text" = true)
  (p__law_graph_text : PySem.W.keepIn K (.ref f__law_graph_text) = true)
  (a__law_right : PySem.W.nsIn K mainGlobals "_law_right" = some (some (.ref f__law_right)))
  (l__law_right : K.lookup f__law_right = some ⟨oc__law_right, od__law_right, .func (PySem.W.fnOf "_law_right" "_law_right" (defArgs st__law_right) (defBody st__law_right) (defScope st__law_right) .none kV__law_right dc__law_right pm__law_right an__law_right cd__law_right ct__law_right), sl__law_right⟩)
  (c__law_right : PySem.W.codeIn K cd__law_right "_law_right" = true)
  (p__law_right : PySem.W.keepIn K (.ref f__law_right) = true)
  (a_law : PySem.W.nsIn K mainGlobals "law" = some (some (.ref f_law)))
  (l_law : K.lookup f_law = some ⟨oc_law, od_law, .func (PySem.W.fnOf "law" "law" (defArgs st_law) (defBody st_law) (defScope st_law) .none kV_law dc_law pm_law an_law cd_law ct_law), sl_law⟩)
  (c_law : PySem.W.codeIn K cd_law "law" = true)
  (p_law : PySem.W.keepIn K (.ref f_law) = true)
  (y_abs : PySem.W.nsIn K mainGlobals "abs" = some none)
  (y_all : PySem.W.nsIn K mainGlobals "all" = some none)
  (y_bool : PySem.W.nsIn K mainGlobals "bool" = some none)
  (y_enumerate : PySem.W.nsIn K mainGlobals "enumerate" = some none)
  (y_int : PySem.W.nsIn K mainGlobals "int" = some none)
  (y_isinstance : PySem.W.nsIn K mainGlobals "isinstance" = some none)
  (y_len : PySem.W.nsIn K mainGlobals "len" = some none)
  (y_list : PySem.W.nsIn K mainGlobals "list" = some none)
  (y_max : PySem.W.nsIn K mainGlobals "max" = some none)
  (y_min : PySem.W.nsIn K mainGlobals "min" = some none)
  (y_range : PySem.W.nsIn K mainGlobals "range" = some none)
  (y_repr : PySem.W.nsIn K mainGlobals "repr" = some none)
  (y_sorted : PySem.W.nsIn K mainGlobals "sorted" = some none)
  (y_str : PySem.W.nsIn K mainGlobals "str" = some none)
  (y_tuple : PySem.W.nsIn K mainGlobals "tuple" = some none)
  (y_zip : PySem.W.nsIn K mainGlobals "zip" = some none)
  (x_MOST_EDGES : PySem.W.nsIn K mainGlobals "MOST_EDGES" = some (some (.int 200 t_MOST_EDGES)))
  (x_MOST_LENGTH : PySem.W.nsIn K mainGlobals "MOST_LENGTH" = some (some (.int 40 t_MOST_LENGTH)))
  (x_MOST_NODES : PySem.W.nsIn K mainGlobals "MOST_NODES" = some (some (.int 40 t_MOST_NODES))) :
  ∃ fd : FuncData, (∀ (s : Shared) (v : Value), BindsTo s fd ⟨[v], []⟩ [("_law_script", v)]) ∧ ∀ base : Heap, K.In base → base.Ns mainGlobals mg → FnG Pg w K mg base CX0 7 fa fd ["_law_script"] (spQ K [some .sh] .sh F_law) := by
  have e := hfa.symm.trans (PySem.W.mg_of X G a_law)
  cases e
  have I__law_cells : Is K mg "_law_cells" st__law_cells _ _ ["_law_script", "_law_many"] := ⟨fun_mk (st := st__law_cells) l__law_cells c__law_cells p__law_cells, PySem.W.mg_of X G a__law_cells, (fun_mk (st := st__law_cells) l__law_cells c__law_cells p__law_cells).binds (ps := ["_law_script", "_law_many"]) fun _ _ _ _ _ _ us hl => match us, hl with | [_, _], _ => rfl⟩
  have I__law_tap : Is K mg "_law_tap" st__law_tap _ _ ["_law_cell", "_law_turn"] := ⟨fun_mk (st := st__law_tap) l__law_tap c__law_tap p__law_tap, PySem.W.mg_of X G a__law_tap, (fun_mk (st := st__law_tap) l__law_tap c__law_tap p__law_tap).binds (ps := ["_law_cell", "_law_turn"]) fun _ _ _ _ _ _ us hl => match us, hl with | [_, _], _ => rfl⟩
  have I_distances_from : Is K mg "distances_from" st_distances_from _ _ ["start", "near"] := ⟨fun_mk (st := st_distances_from) l_distances_from c_distances_from p_distances_from, PySem.W.mg_of X G a_distances_from, (fun_mk (st := st_distances_from) l_distances_from c_distances_from p_distances_from).binds (ps := ["start", "near"]) fun _ _ _ _ _ _ us hl => match us, hl with | [_, _], _ => rfl⟩
  have I_neighbor_rows : Is K mg "neighbor_rows" st_neighbor_rows _ _ ["graph"] := ⟨fun_mk (st := st_neighbor_rows) l_neighbor_rows c_neighbor_rows p_neighbor_rows, PySem.W.mg_of X G a_neighbor_rows, (fun_mk (st := st_neighbor_rows) l_neighbor_rows c_neighbor_rows p_neighbor_rows).binds (ps := ["graph"]) fun _ _ _ _ _ _ us hl => match us, hl with | [_], _ => rfl⟩
  have I_is_connected : Is K mg "is_connected" st_is_connected _ _ ["size", "edges"] := ⟨fun_mk (st := st_is_connected) l_is_connected c_is_connected p_is_connected, PySem.W.mg_of X G a_is_connected, (fun_mk (st := st_is_connected) l_is_connected c_is_connected p_is_connected).binds (ps := ["size", "edges"]) fun _ _ _ _ _ _ us hl => match us, hl with | [_, _], _ => rfl⟩
  have I_is_integer : Is K mg "is_integer" st_is_integer _ _ ["value", "least", "most"] := ⟨fun_mk (st := st_is_integer) l_is_integer c_is_integer p_is_integer, PySem.W.mg_of X G a_is_integer, (fun_mk (st := st_is_integer) l_is_integer c_is_integer p_is_integer).binds (ps := ["value", "least", "most"]) fun _ _ _ _ _ _ us hl => match us, hl with | [_, _, _], _ => rfl⟩
  have I_is_ascending : Is K mg "is_ascending" st_is_ascending _ _ ["items"] := ⟨fun_mk (st := st_is_ascending) l_is_ascending c_is_ascending p_is_ascending, PySem.W.mg_of X G a_is_ascending, (fun_mk (st := st_is_ascending) l_is_ascending c_is_ascending p_is_ascending).binds (ps := ["items"]) fun _ _ _ _ _ _ us hl => match us, hl with | [_], _ => rfl⟩
  have I_is_pair : Is K mg "is_pair" st_is_pair _ _ ["value", "size"] := ⟨fun_mk (st := st_is_pair) l_is_pair c_is_pair p_is_pair, PySem.W.mg_of X G a_is_pair, (fun_mk (st := st_is_pair) l_is_pair c_is_pair p_is_pair).binds (ps := ["value", "size"]) fun _ _ _ _ _ _ us hl => match us, hl with | [_, _], _ => rfl⟩
  have I_is_graph_value : Is K mg "is_graph_value" st_is_graph_value _ _ ["value"] := ⟨fun_mk (st := st_is_graph_value) l_is_graph_value c_is_graph_value p_is_graph_value, PySem.W.mg_of X G a_is_graph_value, (fun_mk (st := st_is_graph_value) l_is_graph_value c_is_graph_value p_is_graph_value).binds (ps := ["value"]) fun _ _ _ _ _ _ us hl => match us, hl with | [_], _ => rfl⟩
  have I_need_graph : Is K mg "need_graph" st_need_graph _ _ ["graph"] := ⟨fun_mk (st := st_need_graph) l_need_graph c_need_graph p_need_graph, PySem.W.mg_of X G a_need_graph, (fun_mk (st := st_need_graph) l_need_graph c_need_graph p_need_graph).binds (ps := ["graph"]) fun _ _ _ _ _ _ us hl => match us, hl with | [_], _ => rfl⟩
  have I_graph_text : Is K mg "graph_text" st_graph_text _ _ ["graph"] := ⟨fun_mk (st := st_graph_text) l_graph_text c_graph_text p_graph_text, PySem.W.mg_of X G a_graph_text, (fun_mk (st := st_graph_text) l_graph_text c_graph_text p_graph_text).binds (ps := ["graph"]) fun _ _ _ _ _ _ us hl => match us, hl with | [_], _ => rfl⟩
  have I_show_graph : Is K mg "show_graph" st_show_graph _ _ ["graph"] := ⟨fun_mk (st := st_show_graph) l_show_graph c_show_graph p_show_graph, PySem.W.mg_of X G a_show_graph, (fun_mk (st := st_show_graph) l_show_graph c_show_graph p_show_graph).binds (ps := ["graph"]) fun _ _ _ _ _ _ us hl => match us, hl with | [_], _ => rfl⟩
  have I_whole_in : Is K mg "whole_in" st_whole_in _ _ ["text", "most"] := ⟨fun_mk (st := st_whole_in) l_whole_in c_whole_in p_whole_in, PySem.W.mg_of X G a_whole_in, (fun_mk (st := st_whole_in) l_whole_in c_whole_in p_whole_in).binds (ps := ["text", "most"]) fun _ _ _ _ _ _ us hl => match us, hl with | [_, _], _ => rfl⟩
  have I_size_in : Is K mg "size_in" st_size_in _ _ ["text"] := ⟨fun_mk (st := st_size_in) l_size_in c_size_in p_size_in, PySem.W.mg_of X G a_size_in, (fun_mk (st := st_size_in) l_size_in c_size_in p_size_in).binds (ps := ["text"]) fun _ _ _ _ _ _ us hl => match us, hl with | [_], _ => rfl⟩
  have I_edge_in : Is K mg "edge_in" st_edge_in _ _ ["text", "size"] := ⟨fun_mk (st := st_edge_in) l_edge_in c_edge_in p_edge_in, PySem.W.mg_of X G a_edge_in, (fun_mk (st := st_edge_in) l_edge_in c_edge_in p_edge_in).binds (ps := ["text", "size"]) fun _ _ _ _ _ _ us hl => match us, hl with | [_, _], _ => rfl⟩
  have I_read_graph : Is K mg "read_graph" st_read_graph _ _ ["text"] := ⟨fun_mk (st := st_read_graph) l_read_graph c_read_graph p_read_graph, PySem.W.mg_of X G a_read_graph, (fun_mk (st := st_read_graph) l_read_graph c_read_graph p_read_graph).binds (ps := ["text"]) fun _ _ _ _ _ _ us hl => match us, hl with | [_], _ => rfl⟩
  have I_is_sign_string : Is K mg "is_sign_string" st_is_sign_string _ _ ["value"] := ⟨fun_mk (st := st_is_sign_string) l_is_sign_string c_is_sign_string p_is_sign_string, PySem.W.mg_of X G a_is_sign_string, (fun_mk (st := st_is_sign_string) l_is_sign_string c_is_sign_string p_is_sign_string).binds (ps := ["value"]) fun _ _ _ _ _ _ us hl => match us, hl with | [_], _ => rfl⟩
  have I_are_signs : Is K mg "are_signs" st_are_signs _ _ ["value"] := ⟨fun_mk (st := st_are_signs) l_are_signs c_are_signs p_are_signs, PySem.W.mg_of X G a_are_signs, (fun_mk (st := st_are_signs) l_are_signs c_are_signs p_are_signs).binds (ps := ["value"]) fun _ _ _ _ _ _ us hl => match us, hl with | [_], _ => rfl⟩
  have I_word_text : Is K mg "word_text" st_word_text _ _ ["word"] := ⟨fun_mk (st := st_word_text) l_word_text c_word_text p_word_text, PySem.W.mg_of X G a_word_text, (fun_mk (st := st_word_text) l_word_text c_word_text p_word_text).binds (ps := ["word"]) fun _ _ _ _ _ _ us hl => match us, hl with | [_], _ => rfl⟩
  have I_show_words : Is K mg "show_words" st_show_words _ _ ["words"] := ⟨fun_mk (st := st_show_words) l_show_words c_show_words p_show_words, PySem.W.mg_of X G a_show_words, (fun_mk (st := st_show_words) l_show_words c_show_words p_show_words).binds (ps := ["words"]) fun _ _ _ _ _ _ us hl => match us, hl with | [_], _ => rfl⟩
  have I_word_in : Is K mg "word_in" st_word_in _ _ ["text"] := ⟨fun_mk (st := st_word_in) l_word_in c_word_in p_word_in, PySem.W.mg_of X G a_word_in, (fun_mk (st := st_word_in) l_word_in c_word_in p_word_in).binds (ps := ["text"]) fun _ _ _ _ _ _ us hl => match us, hl with | [_], _ => rfl⟩
  have I_read_words : Is K mg "read_words" st_read_words _ _ ["text"] := ⟨fun_mk (st := st_read_words) l_read_words c_read_words p_read_words, PySem.W.mg_of X G a_read_words, (fun_mk (st := st_read_words) l_read_words c_read_words p_read_words).binds (ps := ["text"]) fun _ _ _ _ _ _ us hl => match us, hl with | [_], _ => rfl⟩
  have I__law_draw : Is K mg "_law_draw" st__law_draw _ _ ["_law_tap_here", "_law_bound"] := ⟨fun_mk (st := st__law_draw) l__law_draw c__law_draw p__law_draw, PySem.W.mg_of X G a__law_draw, (fun_mk (st := st__law_draw) l__law_draw c__law_draw p__law_draw).binds (ps := ["_law_tap_here", "_law_bound"]) fun _ _ _ _ _ _ us hl => match us, hl with | [_, _], _ => rfl⟩
  have I__law_any_graph : Is K mg "_law_any_graph" st__law_any_graph _ _ ["_law_tap_here", "_law_most"] := ⟨fun_mk (st := st__law_any_graph) l__law_any_graph c__law_any_graph p__law_any_graph, PySem.W.mg_of X G a__law_any_graph, (fun_mk (st := st__law_any_graph) l__law_any_graph c__law_any_graph p__law_any_graph).binds (ps := ["_law_tap_here", "_law_most"]) fun _ _ _ _ _ _ us hl => match us, hl with | [_, _], _ => rfl⟩
  have I__law_number : Is K mg "_law_number" st__law_number _ _ ["_law_number_here"] := ⟨fun_mk (st := st__law_number) l__law_number c__law_number p__law_number, PySem.W.mg_of X G a__law_number, (fun_mk (st := st__law_number) l__law_number c__law_number p__law_number).binds (ps := ["_law_number_here"]) fun _ _ _ _ _ _ us hl => match us, hl with | [_], _ => rfl⟩
  have I__law_graph_text : Is K mg "_law_graph_text" st__law_graph_text _ _ ["_law_graph"] := ⟨fun_mk (st := st__law_graph_text) l__law_graph_text c__law_graph_text p__law_graph_text, PySem.W.mg_of X G a__law_graph_text, (fun_mk (st := st__law_graph_text) l__law_graph_text c__law_graph_text p__law_graph_text).binds (ps := ["_law_graph"]) fun _ _ _ _ _ _ us hl => match us, hl with | [_], _ => rfl⟩
  have I__law_right : Is K mg "_law_right" st__law_right _ _ ["_law_tap_here"] := ⟨fun_mk (st := st__law_right) l__law_right c__law_right p__law_right, PySem.W.mg_of X G a__law_right, (fun_mk (st := st__law_right) l__law_right c__law_right p__law_right).binds (ps := ["_law_tap_here"]) fun _ _ _ _ _ _ us hl => match us, hl with | [_], _ => rfl⟩
  have I_law : Is K mg "law" st_law _ _ ["_law_script"] := ⟨fun_mk (st := st_law) l_law c_law p_law, PySem.W.mg_of X G a_law, (fun_mk (st := st_law) l_law c_law p_law).binds (ps := ["_law_script"]) fun _ _ _ _ _ _ us hl => match us, hl with | [_], _ => rfl⟩
  have z_abs := PySem.W.mg_none_of X G y_abs
  have z_all := PySem.W.mg_none_of X G y_all
  have z_bool := PySem.W.mg_none_of X G y_bool
  have z_enumerate := PySem.W.mg_none_of X G y_enumerate
  have z_int := PySem.W.mg_none_of X G y_int
  have z_isinstance := PySem.W.mg_none_of X G y_isinstance
  have z_len := PySem.W.mg_none_of X G y_len
  have z_list := PySem.W.mg_none_of X G y_list
  have z_max := PySem.W.mg_none_of X G y_max
  have z_min := PySem.W.mg_none_of X G y_min
  have z_range := PySem.W.mg_none_of X G y_range
  have z_repr := PySem.W.mg_none_of X G y_repr
  have z_sorted := PySem.W.mg_none_of X G y_sorted
  have z_str := PySem.W.mg_none_of X G y_str
  have z_tuple := PySem.W.mg_none_of X G y_tuple
  have z_zip := PySem.W.mg_none_of X G y_zip
  have k_MOST_EDGES := PySem.W.mg_of X G x_MOST_EDGES
  have k_MOST_LENGTH := PySem.W.mg_of X G x_MOST_LENGTH
  have k_MOST_NODES := PySem.W.mg_of X G x_MOST_NODES
  refine ⟨PySem.W.fnOf "law" "law" (defArgs st_law) (defBody st_law) (defScope st_law) .none kV_law dc_law pm_law an_law cd_law ct_law, fun s v => .of_eq rfl, fun base _ _ => ?_⟩
  have Fn__law_cells := b__law_cells (Pg := Pg) (w := w) (base := base) I__law_cells z_len z_max z_min
  have Fn__law_tap := b__law_tap (Pg := Pg) (w := w) (base := base) I__law_tap z_abs z_int
  have Fn_distances_from := b_distances_from (Pg := Pg) (w := w) (base := base) I_distances_from z_len
  have Fn_neighbor_rows := b_neighbor_rows (Pg := Pg) (w := w) (base := base) I_neighbor_rows z_range z_sorted
  have Fn_is_connected := b_is_connected (Pg := Pg) (w := w) (base := base) I_is_connected I_distances_from Fn_distances_from I_neighbor_rows Fn_neighbor_rows
  have Fn_is_integer := b_is_integer (Pg := Pg) (w := w) (base := base) I_is_integer z_bool z_int z_isinstance
  have Fn_is_ascending := b_is_ascending (Pg := Pg) (w := w) (base := base) I_is_ascending z_all z_zip
  have Fn_is_pair := b_is_pair (Pg := Pg) (w := w) (base := base) I_is_pair z_all z_isinstance z_len z_tuple I_is_integer Fn_is_integer
  have Fn_is_graph_value := b_is_graph_value (Pg := Pg) (w := w) (base := base) I_is_graph_value z_all z_isinstance z_len z_list z_tuple k_MOST_EDGES k_MOST_NODES I_is_connected Fn_is_connected I_is_integer Fn_is_integer I_is_ascending Fn_is_ascending I_is_pair Fn_is_pair
  have Fn_need_graph := b_need_graph (Pg := Pg) (w := w) (base := base) I_need_graph I_is_graph_value Fn_is_graph_value
  have Fn_graph_text := b_graph_text (Pg := Pg) (w := w) (base := base) I_graph_text z_str
  have Fn_show_graph := b_show_graph (Pg := Pg) (w := w) (base := base) I_show_graph I_need_graph Fn_need_graph I_graph_text Fn_graph_text
  have Fn_whole_in := b_whole_in (Pg := Pg) (w := w) (base := base) I_whole_in z_all z_int z_len
  have Fn_size_in := b_size_in (Pg := Pg) (w := w) (base := base) I_size_in k_MOST_NODES I_whole_in Fn_whole_in
  have Fn_edge_in := b_edge_in (Pg := Pg) (w := w) (base := base) I_edge_in z_len I_whole_in Fn_whole_in
  have Fn_read_graph := b_read_graph (Pg := Pg) (w := w) (base := base) I_read_graph z_enumerate z_isinstance z_len z_str k_MOST_EDGES I_is_connected Fn_is_connected I_size_in Fn_size_in I_edge_in Fn_edge_in
  have Fn_is_sign_string := b_is_sign_string (Pg := Pg) (w := w) (base := base) I_is_sign_string z_all z_isinstance z_str
  have Fn_are_signs := b_are_signs (Pg := Pg) (w := w) (base := base) I_are_signs z_all z_isinstance z_len z_list k_MOST_LENGTH k_MOST_NODES I_is_sign_string Fn_is_sign_string
  have Fn_word_text := b_word_text (Pg := Pg) (w := w) (base := base) I_word_text
  have Fn_show_words := b_show_words (Pg := Pg) (w := w) (base := base) I_show_words I_are_signs Fn_are_signs I_word_text Fn_word_text
  have Fn_word_in := b_word_in (Pg := Pg) (w := w) (base := base) I_word_in z_all z_len k_MOST_LENGTH
  have Fn_read_words := b_read_words (Pg := Pg) (w := w) (base := base) I_read_words z_enumerate z_isinstance z_len z_str k_MOST_NODES I_word_in Fn_word_in
  have Fn__law_draw := b__law_draw (Pg := Pg) (w := w) (base := base) I__law_draw z_int
  have Fn__law_any_graph := b__law_any_graph (Pg := Pg) (w := w) (base := base) I__law_any_graph z_len z_max z_min z_range z_sorted I__law_draw Fn__law_draw
  have Fn__law_number := b__law_number (Pg := Pg) (w := w) (base := base) I__law_number z_int
  have Fn__law_graph_text := b__law_graph_text (Pg := Pg) (w := w) (base := base) I__law_graph_text I__law_number Fn__law_number
  have Fn__law_right := b__law_right (Pg := Pg) (w := w) (base := base) I__law_right z_list z_range z_repr z_str I_show_graph Fn_show_graph I_read_graph Fn_read_graph I_show_words Fn_show_words I_read_words Fn_read_words I__law_draw Fn__law_draw I__law_any_graph Fn__law_any_graph I__law_graph_text Fn__law_graph_text
  have Fn_law := b_law (Pg := Pg) (w := w) (base := base) I_law z_len z_range I__law_cells Fn__law_cells I__law_tap Fn__law_tap I_show_graph Fn_show_graph I_read_graph Fn_read_graph I_show_words Fn_show_words I_read_words Fn_read_words I__law_right Fn__law_right
  exact Fn_law
theorem walk {l : PySem.W.OpenLaw} {q : Program} {loose : List Str} {XP : (Str → Option Value) → Heap → Prop} {YP : World → Heap → Prop} {d : DefRec} {K : Params → Frg} (hn : l.most = some 63) (hdf : d.params.defaults = [])
  (hY : ∀ (w : World) (h : Heap), YP w h → (K w.params).In h)
  (F : ∀ (w : World) (mg : Str → Option Value) (fa : Addr) (h : Heap), (K w.params).In h → h.Ns mainGlobals mg → mg d.name = some (.ref fa) →
    ∃ fd : FuncData, (∀ (s : Shared) (u : Value), BindsTo s fd ⟨[u], []⟩ [("_law_script", u)]) ∧ ∀ base : Heap, (K w.params).In base → base.Ns mainGlobals mg → FnG l.prog w (K w.params) mg base CX0 7 fa fd ["_law_script"] (spQ (K w.params) [some .sh] .sh F_law))
  (law : ∀ ns : List Int, ns.length ≤ 63 → (∀ z ∈ ns, Builtin.Int.intBits z ≤ 1048576) → F_law [.list (ns.map .int)] = some (.bool true)) :
  PySem.W.WalkO q loose XP YP l.row.toRowW d [] (fun f vs => PySem.call f vs) :=
  walk_law hn hdf ⟨rfl, by decide, by decide⟩ hY F law
end T3
open PySem PySem.W PyProof.Rows
set_option maxRecDepth 100000 in
set_option maxHeartbeats 0 in
theorem PySem.Challenge.cw_oncewalls_k56_texts_of_graphs_and_words_holds : PySem.Challenge.rw_oncewalls_k56_texts_of_graphs_and_words.Holds := by
  w_on; o_law; k_head; (case hw => w_witness2)
  k_fill
  refine T3.walk (l := PySem.Challenge.rw_oncewalls_k56_texts_of_graphs_and_words) rfl rfl (fun w h Y => PySem.W.kIn_of Y) ?F T3.law_true
  case F =>
    intro w mg fa h KX G hmg
    refine' T3.all_mk KX G hmg ?a__law_cells ?l__law_cells ?c__law_cells ?p__law_cells ?a__law_tap ?l__law_tap ?c__law_tap ?p__law_tap ?a_distances_from ?l_distances_from ?c_distances_from ?p_distances_from ?a_neighbor_rows ?l_neighbor_rows ?c_neighbor_rows ?p_neighbor_rows ?a_is_connected ?l_is_connected ?c_is_connected ?p_is_connected ?a_is_integer ?l_is_integer ?c_is_integer ?p_is_integer ?a_is_ascending ?l_is_ascending ?c_is_ascending ?p_is_ascending ?a_is_pair ?l_is_pair ?c_is_pair ?p_is_pair ?a_is_graph_value ?l_is_graph_value ?c_is_graph_value ?p_is_graph_value ?a_need_graph ?l_need_graph ?c_need_graph ?p_need_graph ?a_graph_text ?l_graph_text ?c_graph_text ?p_graph_text ?a_show_graph ?l_show_graph ?c_show_graph ?p_show_graph ?a_whole_in ?l_whole_in ?c_whole_in ?p_whole_in ?a_size_in ?l_size_in ?c_size_in ?p_size_in ?a_edge_in ?l_edge_in ?c_edge_in ?p_edge_in ?a_read_graph ?l_read_graph ?c_read_graph ?p_read_graph ?a_is_sign_string ?l_is_sign_string ?c_is_sign_string ?p_is_sign_string ?a_are_signs ?l_are_signs ?c_are_signs ?p_are_signs ?a_word_text ?l_word_text ?c_word_text ?p_word_text ?a_show_words ?l_show_words ?c_show_words ?p_show_words ?a_word_in ?l_word_in ?c_word_in ?p_word_in ?a_read_words ?l_read_words ?c_read_words ?p_read_words ?a__law_draw ?l__law_draw ?c__law_draw ?p__law_draw ?a__law_any_graph ?l__law_any_graph ?c__law_any_graph ?p__law_any_graph ?a__law_number ?l__law_number ?c__law_number ?p__law_number ?a__law_graph_text ?l__law_graph_text ?c__law_graph_text ?p__law_graph_text ?a__law_right ?l__law_right ?c__law_right ?p__law_right ?a_law ?l_law ?c_law ?p_law ?y_abs ?y_all ?y_bool ?y_enumerate ?y_int ?y_isinstance ?y_len ?y_list ?y_max ?y_min ?y_range ?y_repr ?y_sorted ?y_str ?y_tuple ?y_zip ?x_MOST_EDGES ?x_MOST_LENGTH ?x_MOST_NODES
    (case a__law_cells => k_is)
    (case l__law_cells => k_is)
    (case c__law_cells => k_is)
    (case p__law_cells => k_is)
    (case a__law_tap => k_is)
    (case l__law_tap => k_is)
    (case c__law_tap => k_is)
    (case p__law_tap => k_is)
    (case a_distances_from => k_is)
    (case l_distances_from => k_is)
    (case c_distances_from => k_is)
    (case p_distances_from => k_is)
    (case a_neighbor_rows => k_is)
    (case l_neighbor_rows => k_is)
    (case c_neighbor_rows => k_is)
    (case p_neighbor_rows => k_is)
    (case a_is_connected => k_is)
    (case l_is_connected => k_is)
    (case c_is_connected => k_is)
    (case p_is_connected => k_is)
    (case a_is_integer => k_is)
    (case l_is_integer => k_is)
    (case c_is_integer => k_is)
    (case p_is_integer => k_is)
    (case a_is_ascending => k_is)
    (case l_is_ascending => k_is)
    (case c_is_ascending => k_is)
    (case p_is_ascending => k_is)
    (case a_is_pair => k_is)
    (case l_is_pair => k_is)
    (case c_is_pair => k_is)
    (case p_is_pair => k_is)
    (case a_is_graph_value => k_is)
    (case l_is_graph_value => k_is)
    (case c_is_graph_value => k_is)
    (case p_is_graph_value => k_is)
    (case a_need_graph => k_is)
    (case l_need_graph => k_is)
    (case c_need_graph => k_is)
    (case p_need_graph => k_is)
    (case a_graph_text => k_is)
    (case l_graph_text => k_is)
    (case c_graph_text => k_is)
    (case p_graph_text => k_is)
    (case a_show_graph => k_is)
    (case l_show_graph => k_is)
    (case c_show_graph => k_is)
    (case p_show_graph => k_is)
    (case a_whole_in => k_is)
    (case l_whole_in => k_is)
    (case c_whole_in => k_is)
    (case p_whole_in => k_is)
    (case a_size_in => k_is)
    (case l_size_in => k_is)
    (case c_size_in => k_is)
    (case p_size_in => k_is)
    (case a_edge_in => k_is)
    (case l_edge_in => k_is)
    (case c_edge_in => k_is)
    (case p_edge_in => k_is)
    (case a_read_graph => k_is)
    (case l_read_graph => k_is)
    (case c_read_graph => k_is)
    (case p_read_graph => k_is)
    (case a_is_sign_string => k_is)
    (case l_is_sign_string => k_is)
    (case c_is_sign_string => k_is)
    (case p_is_sign_string => k_is)
    (case a_are_signs => k_is)
    (case l_are_signs => k_is)
    (case c_are_signs => k_is)
    (case p_are_signs => k_is)
    (case a_word_text => k_is)
    (case l_word_text => k_is)
    (case c_word_text => k_is)
    (case p_word_text => k_is)
    (case a_show_words => k_is)
    (case l_show_words => k_is)
    (case c_show_words => k_is)
    (case p_show_words => k_is)
    (case a_word_in => k_is)
    (case l_word_in => k_is)
    (case c_word_in => k_is)
    (case p_word_in => k_is)
    (case a_read_words => k_is)
    (case l_read_words => k_is)
    (case c_read_words => k_is)
    (case p_read_words => k_is)
    (case a__law_draw => k_is)
    (case l__law_draw => k_is)
    (case c__law_draw => k_is)
    (case p__law_draw => k_is)
    (case a__law_any_graph => k_is)
    (case l__law_any_graph => k_is)
    (case c__law_any_graph => k_is)
    (case p__law_any_graph => k_is)
    (case a__law_number => k_is)
    (case l__law_number => k_is)
    (case c__law_number => k_is)
    (case p__law_number => k_is)
    (case a__law_graph_text => k_is)
    (case l__law_graph_text => k_is)
    (case c__law_graph_text => k_is)
    (case p__law_graph_text => k_is)
    (case a__law_right => k_is)
    (case l__law_right => k_is)
    (case c__law_right => k_is)
    (case p__law_right => k_is)
    (case a_law => k_is)
    (case l_law => k_is)
    (case c_law => k_is)
    (case p_law => k_is)
    (case y_abs => k_is)
    (case y_all => k_is)
    (case y_bool => k_is)
    (case y_enumerate => k_is)
    (case y_int => k_is)
    (case y_isinstance => k_is)
    (case y_len => k_is)
    (case y_list => k_is)
    (case y_max => k_is)
    (case y_min => k_is)
    (case y_range => k_is)
    (case y_repr => k_is)
    (case y_sorted => k_is)
    (case y_str => k_is)
    (case y_tuple => k_is)
    (case y_zip => k_is)
    (case x_MOST_EDGES => k_is)
    (case x_MOST_LENGTH => k_is)
    (case x_MOST_NODES => k_is)
