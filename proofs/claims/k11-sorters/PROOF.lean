import PyProof.Rows.All
import Wide.All
import OpenK.AllK
import Wide.FinOn
import HandS.ForMost
import HandS.Deep
import HandS.SetFor
import HandS.Style
import HandS.TupAny
import HandS.IsInst
import HandS.Zip
import HandS.Conv
import HandS.TupMul
import KE.DataCmp
import KE.DataMinMax
import HandS.Strs
import HandS.TupSets
import HandS.Exc
import HandS.ExcOwn
import HandS.ExcIs
import HandS.WordsExc
import KE.KDictSum
import KE.KDictCopyH
import OpenK.KOps
import PySem.Challenge.RW_agreeranks_k11_whole_sorters
set_option Elab.async false
set_option linter.all false
set_option maxRecDepth 100000
set_option maxHeartbeats 4000000
/-! The value layer: what a reading computes, told over plain data. -/
namespace Ag
open PySem L2

abbrev D := PySem.PyData
inductive Ec where
  | rank | scor | numb | text | noth
  deriving DecidableEq
inductive Rs (α : Type) where
  | val (a : α)
  | exc (c : Ec)
  | stk
def Rs.bnd {α β : Type} (m : Rs α) (k : α → Rs β) : Rs β := match m with
  | .val a => k a
  | .exc c => .exc c
  | .stk => .stk
instance : Monad Rs where
  pure := Rs.val
  bind := Rs.bnd
@[simp] theorem rs_bind_val {α β : Type} (a : α) (k : α → Rs β) : (Rs.val a >>= k) = k a := rfl
@[simp] theorem rs_bind_exc {α β : Type} (c : Ec) (k : α → Rs β) : ((Rs.exc c : Rs α) >>= k) = .exc c := rfl
@[simp] theorem rs_bind_stk {α β : Type} (k : α → Rs β) : ((Rs.stk : Rs α) >>= k) = .stk := rfl
@[simp] theorem rs_pure {α : Type} (a : α) : (pure a : Rs α) = .val a := rfl

/-! ### the heap without some places -/
noncomputable def hid (M : Addr → Prop) (H : Hp) : Hp := fun a => @ite _ (M a) (Classical.propDecidable _) none (H a)
theorem hid_some {M : Addr → Prop} {H : Hp} {a : Addr} {o : HO} : hid M H a = some o ↔ ¬ M a ∧ H a = some o := by
  unfold hid
  by_cases h : M a
  · rw [if_pos h]
    constructor
    · intro e
      cases e
    · intro e
      exact absurd h e.1
  · rw [if_neg h]
    exact ⟨fun e => ⟨h, e⟩, fun e => e.2⟩
theorem same_hid {M M' : Addr → Prop} {H H' : Hp} (s : Same H H') (m : ∀ a o, H a = some o → M' a → M a) : Same (hid M H) (hid M' H') := fun a o e => by
  rw [hid_some] at e ⊢
  exact ⟨fun q => e.1 (m a o e.2 q), s a o e.2⟩
theorem hid_same {M : Addr → Prop} {H : Hp} : Same (hid M H) H := fun a o e => (hid_some.mp e).2
theorem hid_grow {M : Addr → Prop} {H H' : Hp} (s : Same H H') : Same (hid M H) (hid M H') := same_hid s fun _ _ _ q => q

mutual
def Rep (F : Hp) : D → V → Prop
  | .none, v => v = .non
  | .bool b, v => v = .bl b
  | .int i, v => v = .int i
  | .str x, v => v = .str x
  | .list l, v => ∃ a vs, v = .ref a ∧ F a = some (.lst vs) ∧ RepL F l vs
  | .tuple l, v => ∃ a vs, v = .ref a ∧ F a = some (.tup vs) ∧ RepL F l vs
  | .dict _, _ => False
def RepL (F : Hp) : List D → List V → Prop
  | [], vs => vs = []
  | d :: l, vs => ∃ v r, vs = v :: r ∧ Rep F d v ∧ RepL F l r
end
mutual
theorem Rep.mono {F F' : Hp} (s : Same F F') : ∀ (d : D) (v : V), Rep F d v → Rep F' d v
  | .none, _, h => by rw [Rep] at h ⊢; exact h
  | .bool b, _, h => by rw [Rep] at h ⊢; exact h
  | .int b, _, h => by rw [Rep] at h ⊢; exact h
  | .str b, _, h => by rw [Rep] at h ⊢; exact h
  | .list l, _, h => by
    rw [Rep] at h ⊢
    obtain ⟨a, vs, e, h1, h2⟩ := h
    exact ⟨a, vs, e, s _ _ h1, RepL.mono s l vs h2⟩
  | .tuple l, _, h => by
    rw [Rep] at h ⊢
    obtain ⟨a, vs, e, h1, h2⟩ := h
    exact ⟨a, vs, e, s _ _ h1, RepL.mono s l vs h2⟩
  | .dict _, _, h => by rw [Rep] at h; exact h.elim
theorem RepL.mono {F F' : Hp} (s : Same F F') : ∀ (l : List D) (vs : List V), RepL F l vs → RepL F' l vs
  | [], _, h => by rw [RepL] at h ⊢; exact h
  | d :: l, _, h => by
    rw [RepL] at h ⊢
    obtain ⟨v, r, e, h1, h2⟩ := h
    exact ⟨v, r, e, Rep.mono s d v h1, RepL.mono s l r h2⟩
end
section
variable {F F' : Hp} {d : D} {v : V} {l l' : List D} {vs ws : List V}
theorem Rep.up (h : Rep F d v) (s : Same F F') : Rep F' d v := Rep.mono s d v h
theorem RepL.up (h : RepL F l vs) (s : Same F F') : RepL F' l vs := RepL.mono s l vs h
theorem repL_nil : RepL F [] [] := by rw [RepL]
theorem repL_cons (h : Rep F d v) (t : RepL F l vs) : RepL F (d :: l) (v :: vs) := by
  rw [RepL]
  exact ⟨v, vs, rfl, h, t⟩
theorem RepL.of_cons (h : RepL F (d :: l) vs) : ∃ v r, vs = v :: r ∧ Rep F d v ∧ RepL F l r := by
  rw [RepL] at h
  exact h
theorem RepL.of_nil (h : RepL F [] vs) : vs = [] := by
  rw [RepL] at h
  exact h
theorem RepL.len : ∀ {l : List D} {vs : List V}, RepL F l vs → l.length = vs.length
  | [], _, h => by
    rw [h.of_nil]
    rfl
  | d :: l, _, h => by
    obtain ⟨v, r, rfl, _, t⟩ := h.of_cons
    rw [List.length_cons, List.length_cons, t.len]
theorem RepL.app : ∀ {l : List D} {vs : List V}, RepL F l vs → RepL F l' ws → RepL F (l ++ l') (vs ++ ws)
  | [], _, h, t => by
    rw [h.of_nil]
    exact t
  | d :: l, _, h, t => by
    obtain ⟨v, r, rfl, q, z⟩ := h.of_cons
    exact repL_cons q (z.app t)
theorem RepL.get : ∀ {l : List D} {vs : List V} {i : Nat} {d : D}, RepL F l vs → l[i]? = some d → ∃ v, vs[i]? = some v ∧ Rep F d v
  | [], _, _, _, _, e => by simp at e
  | a :: l, _, 0, d, h, e => by
    obtain ⟨v, r, rfl, q, z⟩ := h.of_cons
    simp at e
    subst e
    exact ⟨v, rfl, q⟩
  | a :: l, _, i + 1, d, h, e => by
    obtain ⟨v, r, rfl, q, z⟩ := h.of_cons
    obtain ⟨u, h1, h2⟩ := z.get (i := i) (d := d) (by simpa using e)
    exact ⟨u, by simpa using h1, h2⟩
theorem RepL.get' {i : Nat} (h : RepL F l vs) (e : vs[i]? = some v) : ∃ d, l[i]? = some d ∧ Rep F d v := by
  have hl := h.len
  obtain ⟨hi, _⟩ := List.getElem?_eq_some_iff.mp e
  have hi' : i < l.length := by omega
  obtain ⟨u, h1, h2⟩ := h.get (List.getElem?_eq_getElem hi')
  rw [h1] at e
  cases e
  exact ⟨_, List.getElem?_eq_getElem hi', h2⟩
theorem RepL.take : ∀ {l : List D} {vs : List V} (n : Nat), RepL F l vs → RepL F (l.take n) (vs.take n)
  | _, _, 0, _ => repL_nil
  | [], _, _ + 1, h => by
    rw [h.of_nil]
    exact repL_nil
  | d :: l, _, n + 1, h => by
    obtain ⟨v, r, rfl, q, z⟩ := h.of_cons
    exact repL_cons q (z.take n)
theorem RepL.drop : ∀ {l : List D} {vs : List V} (n : Nat), RepL F l vs → RepL F (l.drop n) (vs.drop n)
  | _, _, 0, h => h
  | [], _, _ + 1, h => by
    rw [h.of_nil]
    exact repL_nil
  | d :: l, _, n + 1, h => by
    obtain ⟨v, r, rfl, q, z⟩ := h.of_cons
    exact z.drop n
theorem RepL.set : ∀ {l : List D} {vs : List V} (n : Nat), RepL F l vs → Rep F d v → RepL F (l.set n d) (vs.set n v)
  | [], _, _, h, _ => by
    rw [h.of_nil]
    exact repL_nil
  | a :: l, _, 0, h, g => by
    obtain ⟨v, r, rfl, q, z⟩ := h.of_cons
    exact repL_cons g z
  | a :: l, _, n + 1, h, g => by
    obtain ⟨v, r, rfl, q, z⟩ := h.of_cons
    exact repL_cons q (z.set n g)
theorem RepL.erase : ∀ {l : List D} {vs : List V} (n : Nat), RepL F l vs → RepL F (l.eraseIdx n) (vs.eraseIdx n)
  | [], _, _, h => by
    rw [h.of_nil]
    exact repL_nil
  | a :: l, _, 0, h => by
    obtain ⟨v, r, rfl, q, z⟩ := h.of_cons
    exact z
  | a :: l, _, n + 1, h => by
    obtain ⟨v, r, rfl, q, z⟩ := h.of_cons
    exact repL_cons q (z.erase n)
theorem RepL.rep (h : RepL F l vs) : ∀ k : Nat, RepL F (List.replicate k l).flatten (List.replicate k vs).flatten
  | 0 => repL_nil
  | k + 1 => by
    rw [List.replicate_succ, List.replicate_succ, List.flatten_cons, List.flatten_cons]
    exact h.app (RepL.rep h k)
theorem RepL.rev : ∀ {l : List D} {vs : List V}, RepL F l vs → RepL F l.reverse vs.reverse
  | [], _, h => by
    rw [h.of_nil]
    exact repL_nil
  | a :: l, _, h => by
    obtain ⟨v, r, rfl, q, z⟩ := h.of_cons
    rw [List.reverse_cons, List.reverse_cons]
    exact z.rev.app (repL_cons q repL_nil)
theorem rep_int {i : Int} : Rep F (.int i) v ↔ v = .int i := by rw [Rep]
theorem rep_bool {i : Bool} : Rep F (.bool i) v ↔ v = .bl i := by rw [Rep]
theorem rep_str {i : Str} : Rep F (.str i) v ↔ v = .str i := by rw [Rep]
theorem rep_none : Rep F .none v ↔ v = .non := by rw [Rep]
theorem rep_list : Rep F (.list l) v ↔ ∃ a vs, v = .ref a ∧ F a = some (.lst vs) ∧ RepL F l vs := by rw [Rep]
theorem rep_tup : Rep F (.tuple l) v ↔ ∃ a vs, v = .ref a ∧ F a = some (.tup vs) ∧ RepL F l vs := by rw [Rep]
/-- ints alone -/
theorem repL_ints : ∀ {ns : List Int} {vs : List V}, RepL F (ns.map .int) vs ↔ vs = ns.map V.int
  | [], vs => by rw [List.map_nil, RepL, List.map_nil]
  | n :: r, vs => by
    rw [List.map_cons, RepL, List.map_cons]
    constructor
    · rintro ⟨v, w, rfl, h1, h2⟩
      rw [rep_int.mp h1, repL_ints.mp h2]
    · rintro rfl
      exact ⟨_, _, rfl, rep_int.mpr rfl, repL_ints.mpr rfl⟩
theorem repL_bools : ∀ {ns : List Bool} {vs : List V}, RepL F (ns.map .bool) vs ↔ vs = ns.map V.bl
  | [], vs => by rw [List.map_nil, RepL, List.map_nil]
  | n :: r, vs => by
    rw [List.map_cons, RepL, List.map_cons]
    constructor
    · rintro ⟨v, w, rfl, h1, h2⟩
      rw [rep_bool.mp h1, repL_bools.mp h2]
    · rintro rfl
      exact ⟨_, _, rfl, rep_bool.mpr rfl, repL_bools.mpr rfl⟩
end
mutual
theorem Rep.dp {K : PySem.W.Frag} {F H : Hp} (s : Same F H) : ∀ (d : D) (v : V), Rep F d v → Dp K H v d
  | .none, _, h => by rw [Rep] at h; rw [h]; exact .non
  | .bool b, _, h => by rw [Rep] at h; rw [h]; exact .bl b
  | .int b, _, h => by rw [Rep] at h; rw [h]; exact .int b
  | .str b, _, h => by rw [Rep] at h; rw [h]; exact .str b
  | .list l, _, h => by
    rw [Rep] at h
    obtain ⟨a, vs, rfl, h1, h2⟩ := h
    exact .lst (SqL.of (s _ _ h1)) (RepL.dp s l vs h2)
  | .tuple l, _, h => by
    rw [Rep] at h
    obtain ⟨a, vs, rfl, h1, h2⟩ := h
    exact .tup (SqT.of (s _ _ h1)) (RepL.dp s l vs h2)
  | .dict _, _, h => by rw [Rep] at h; exact h.elim
theorem RepL.dp {K : PySem.W.Frag} {F H : Hp} (s : Same F H) : ∀ (l : List D) (vs : List V), RepL F l vs → DpAll K H vs l
  | [], _, h => by rw [RepL] at h; rw [h]; exact .nil
  | d :: l, _, h => by
    rw [RepL] at h
    obtain ⟨v, r, rfl, h1, h2⟩ := h
    exact .cons (Rep.dp s d v h1) (RepL.dp s l r h2)
end

/-! ### things of the frame's own: a dict whose keys are tuples of ints, an instance with three lists -/
/-- the dict at a: its keys, where they lie, its values -/
def DiO (a : Addr) (kvs : List (List Int × Addr × V)) : HO := .ext fun h => kvs.length ≤ sizeLine ∧ (a == sysModules) = false ∧ ∃ xs : List (List Int × Addr × Value),
  Paired (fun (p : List Int × Addr × V) (q : List Int × Addr × Value) => p.1 = q.1 ∧ p.2.1 = q.2.1 ∧ RelV p.2.2 q.2.2) kvs xs ∧
  ∃ o es ep, h.get? a = some o ∧ o.ExactDict ∧ o.data = .dict es ep ∧ (∀ (P : Program) (w : World), es.toList = xs.map (entryOfKey (tupleKind (intKind P w)))) ∧ (xs.map (·.1)).Nodup
inductive Gd where
  | di (kvs : List (List Int × D))
  | so (C : Addr) (now goal made : List D)
  | fo (C : Addr) (now goal made : List D)
/-- what a thing of the frame's own owns: its object, and what its slot names besides; one that is looked at only (fo) owns nothing -/
def gadr : Gd → List Addr → Option V → List Addr
  | .fo _ _ _ _, _, _ => []
  | .so _ _ _ _, as, _ => as
  | .di _, as, some (.ref p) => p :: as
  | .di _, as, _ => as
abbrev sofs (v1 v2 v3 : V) : List (Str × V) := [("now", v1), ("goal", v2), ("made", v3)]
def RGd (M : Addr → Prop) (H : Hp) (as : List Addr) : Gd → Option V → Prop
  | .di kvs, v => ∃ p kvv, as = [] ∧ v = some (.ref p) ∧ H p = some (DiO p kvv) ∧ Paired (fun (x : List Int × D) (y : List Int × Addr × V) => x.1 = y.1 ∧ hid M H y.2.1 = some (.tup (x.1.map V.int)) ∧ Rep (hid M H) x.2 y.2.2) kvs kvv
  | .so C now goal made, v => ∃ p p3 dx v1 v2 v3, as = [p, p3] ∧ p ≠ p3 ∧ v = some (.ref p) ∧ H p = some (.ins C dx (sofs v1 v2 (.ref p3))) ∧ hid M H dx = some (.own p) ∧
      H p3 = some (.lst v3) ∧ Rep (hid M H) (.list now) v1 ∧ Rep (hid M H) (.list goal) v2 ∧ RepL (hid M H) made v3
  | .fo C now goal made, v => ∃ p dx v1 v2 v3, as = [] ∧ v = some (.ref p) ∧ hid M H p = some (.ins C dx (sofs v1 v2 v3)) ∧ Rep (hid M H) (.list now) v1 ∧ Rep (hid M H) (.list goal) v2 ∧ Rep (hid M H) (.list made) v3
theorem RGd.mono {M M' : Addr → Prop} {H H' : Hp} {as : List Addr} {d : Gd} {v : Option V} (h : RGd M H as d v) (k : ∀ a ∈ gadr d as v, ∀ o, H a = some o → H' a = some o) (s : Same (hid M H) (hid M' H')) : RGd M' H' as d v := by
  cases d with
  | di kvs =>
    obtain ⟨p, kvv, e1, e2, e3, r⟩ := h
    exact ⟨p, kvv, e1, e2, k _ (by rw [e2]; exact List.mem_cons_self) _ e3, Paired.mapP r fun x y z => ⟨z.1, s _ _ z.2.1, z.2.2.up s⟩⟩
  | so C now goal made =>
    obtain ⟨p, p3, dx, v1, v2, v3, e1, n, e2, a1, a2, a3, r1, r2, r3⟩ := h
    exact ⟨p, p3, dx, v1, v2, v3, e1, n, e2, k _ (by rw [e1]; simp [gadr]) _ a1, s _ _ a2, k _ (by rw [e1]; simp [gadr]) _ a3, r1.up s, r2.up s, r3.up s⟩
  | fo C now goal made =>
    obtain ⟨p, dx, v1, v2, v3, e1, e2, a1, r1, r2, r3⟩ := h
    exact ⟨p, dx, v1, v2, v3, e1, e2, s _ _ a1, r1.up s, r2.up s, r3.up s⟩

/-! ### slots -/
inductive Sl where
  | no
  | fz (d : D)
  | ow (l : List D)
  | dr (p q : Addr) (ns : List Int) (c : Int)
  | ob (t : Nat) (k : Addr → HO)
  | gx (as : List Addr) (g : Gd)
abbrev En := List Sl
def RSl (M : Addr → Prop) (H : Hp) : Sl → Option V → Prop
  | .no, _ => True
  | .fz d, v => ∃ x, v = some x ∧ Rep (hid M H) d x
  | .ow l, v => ∃ p vs, v = some (.ref p) ∧ H p = some (.lst vs) ∧ RepL (hid M H) l vs
  | .dr p q ns c, v => v = some (.ref p) ∧ H p = some (.lst [.ref q, .int c]) ∧ H q = some (.lst (ns.map V.int))
  | .ob _ k, v => ∃ a, v = some (.ref a) ∧ hid M H a = some (k a)
  | .gx as g, v => RGd M H as g v
theorem RSl.up {M : Addr → Prop} {H H' : Hp} {s : Sl} {v : Option V} (h : RSl M H s v) (e : Same H H') : RSl M H' s v := by
  cases s with
  | no => trivial
  | fz d =>
    obtain ⟨x, e1, r⟩ := h
    exact ⟨x, e1, r.up (hid_grow e)⟩
  | ow l =>
    obtain ⟨p, vs, e1, e2, r⟩ := h
    exact ⟨p, vs, e1, e _ _ e2, r.up (hid_grow e)⟩
  | dr p q ns c => exact ⟨h.1, e _ _ h.2.1, e _ _ h.2.2⟩
  | ob _ k =>
    obtain ⟨a, e1, r⟩ := h
    exact ⟨a, e1, hid_grow e _ _ r⟩
  | gx as g => exact RGd.mono h (fun _ _ _ q => e _ _ q) (hid_grow e)
structure RSt (M : Addr → Prop) (env : En) (σ : L2.St) (H : Hp) : Prop where
  al : ∀ a, M a → ∃ o, H a = some o
  sl : ∀ (i : Nat) (s : Sl), env[i]? = some s → ∃ o : Option V, σ[i]? = some o ∧ RSl M H s o
theorem RSt.up {M : Addr → Prop} {env : En} {σ : L2.St} {H H' : Hp} (h : RSt M env σ H) (e : Same H H') : RSt M env σ H' :=
  ⟨fun a m => (h.al a m).imp fun o q => e _ _ q, fun i s q => (h.sl i s q).imp fun o r => ⟨r.1, r.2.up e⟩⟩
theorem RSt.free {M : Addr → Prop} {env : En} {σ : L2.St} {H : Hp} (h : RSt M env σ H) {p : Addr} (e : H p = none) : ¬ M p := fun m => by
  obtain ⟨o, q⟩ := h.al p m
  rw [e] at q
  cases q

/-! ### what is wanted behind a thing that computes r -/
def Pst {α β : Type} (H : Hp) (Wx : Ec → Hp → Prop) (R : α → β → Hp → Prop) (Q : β → Hp → Prop) : Rs α → Prop
  | .val a => ∀ b H', Same H H' → R a b H' → Q b H'
  | .exc c => ∀ H', Same H H' → Wx c H'
  | .stk => False
theorem Pst.up {α β : Type} {H H1 : Hp} {Wx : Ec → Hp → Prop} {R : α → β → Hp → Prop} {Q : β → Hp → Prop} {r : Rs α} (h : Pst H Wx R Q r) (e : Same H H1) : Pst H1 Wx R Q r := by
  cases r with
  | val a => exact fun b H' s q => h b H' (e.trans s) q
  | exc c => exact fun H' s => h H' (e.trans s)
  | stk => exact h
theorem Pst.step {α β γ δ : Type} {H : Hp} {Wx : Ec → Hp → Prop} {R : α → β → Hp → Prop} {R' : γ → δ → Hp → Prop} {Q : β → Hp → Prop} {Q' : δ → Hp → Prop} {m : Rs γ} {k : γ → Rs α}
    (h : Pst H Wx R Q (m >>= k)) (hk : ∀ c, m = .val c → ∀ d H', Same H H' → R' c d H' → Pst H' Wx R Q (k c) → Q' d H') : Pst H Wx R' Q' m := by
  cases m with
  | val c => exact fun d H' s r => hk c rfl d H' s r (Pst.up (r := k c) h s)
  | exc c => exact h
  | stk => exact h
abbrev WT := Ec → L2.St → Hp → Prop
abbrev EF := En → Rs D
/-- read as it lies: a list may be one that is still being made -/
def RB (M : Addr → Prop) (H : Hp) (d : D) (v : V) : Prop := Rep (hid M H) d v ∨ ∃ l a vs, d = .list l ∧ v = .ref a ∧ H a = some (.lst vs) ∧ RepL (hid M H) l vs
theorem RB.list {M : Addr → Prop} {H : Hp} {l : List D} {v : V} (h : RB M H (.list l) v) : ∃ a vs, v = .ref a ∧ H a = some (.lst vs) ∧ RepL (hid M H) l vs := by
  rcases h with h | ⟨l', a, vs, e, h⟩
  · obtain ⟨a, vs, e1, e2, r⟩ := rep_list.mp h
    exact ⟨a, vs, e1, hid_same _ _ e2, r⟩
  · cases e
    exact ⟨a, vs, h⟩
theorem RB.up {M : Addr → Prop} {H H' : Hp} {d : D} {v : V} (h : RB M H d v) (e : Same H H') : RB M H' d v := by
  rcases h with h | ⟨l, a, vs, e1, e2, e3, r⟩
  · exact .inl (h.up (hid_grow e))
  · exact .inr ⟨l, a, vs, e1, e2, e _ _ e3, r.up (hid_grow e)⟩
theorem RB.dp {K : PySem.W.Frag} {M : Addr → Prop} {H : Hp} {d : D} {v : V} (h : RB M H d v) : Dp K H v d := by
  rcases h with h | ⟨l, a, vs, rfl, rfl, e3, r⟩
  · exact h.dp hid_same
  · exact .lst (SqL.of e3) (r.dp hid_same)
theorem RB.nl {M : Addr → Prop} {H : Hp} {d : D} {v : V} (h : RB M H d v) (n : ∀ l, d ≠ .list l) : Rep (hid M H) d v := by
  rcases h with h | ⟨l, _, _, e, _⟩
  · exact h
  · exact absurd e (n l)
/-- an expression, frozen | as it lies | a new list | a test | arguments -/
def Ev (W : WT) (te : TE) (f : EF) : Prop := ∀ M env σ H, RSt M env σ H → ∀ Q : VK, Pst H (fun c H' => W c σ H') (fun d v H' => Rep (hid M H') d v) Q (f env) → te σ H Q
def EvB (W : WT) (te : TE) (f : EF) : Prop := ∀ M env σ H, RSt M env σ H → ∀ Q : VK, Pst H (fun c H' => W c σ H') (fun d v H' => RB M H' d v) Q (f env) → te σ H Q
def RO (M : Addr → Prop) (H : Hp) (l : List D) (v : V) (H' : Hp) : Prop := ∃ p vs, v = .ref p ∧ H p = none ∧ H' p = some (.lst vs) ∧ RepL (hid (fun a => M a ∨ a = p) H') l vs
def EvO (W : WT) (te : TE) (f : En → Rs (List D)) : Prop := ∀ M env σ H, RSt M env σ H → ∀ Q : VK, Pst H (fun c H' => W c σ H') (fun l v H' => RO M H l v H') Q (f env) → te σ H Q
def EvT (W : WT) (tt : TT) (f : En → Rs Bool) : Prop := ∀ M env σ H, RSt M env σ H → ∀ Q : Bool → Hp → Prop, Pst H (fun c H' => W c σ H') (fun d v H' => v = d) Q (f env) → tt σ H Q
def EvA (W : WT) (ta : TA) (f : En → Rs (List D)) : Prop := ∀ M env σ H, RSt M env σ H → ∀ Q : List V → Hp → Prop, Pst H (fun c H' => W c σ H') (fun l vs H' => RepL (hid M H') l vs) Q (f env) → ta σ H Q
def EvAB (W : WT) (ta : TA) (f : En → Rs (List D)) : Prop := ∀ M env σ H, RSt M env σ H → ∀ Q : List V → Hp → Prop, Pst H (fun c H' => W c σ H') (fun l vs H' => Paired (RB M H') l vs) Q (f env) → ta σ H Q
theorem Pst.imp {α β : Type} {H : Hp} {Wx : Ec → Hp → Prop} {R R' : α → β → Hp → Prop} {Q : β → Hp → Prop} {r : Rs α} (h : Pst H Wx R Q r) (k : ∀ a b H', Same H H' → R' a b H' → R a b H') : Pst H Wx R' Q r := by
  cases r with
  | val a => exact fun b H' s q => h b H' s (k a b H' s q)
  | exc c => exact h
  | stk => exact h
theorem Ev.b {W : WT} {te : TE} {f : EF} (h : Ev W te f) : EvB W te f := fun M env σ H r Q p => h M env σ H r Q (p.imp fun _ _ _ _ q => .inl q)
theorem EvO.ev {W : WT} {te : TE} {f : En → Rs (List D)} (h : EvO W te f) : Ev W te (fun env => f env >>= fun l => .val (.list l)) := fun M env σ H r Q p =>
  h M env σ H r Q (p.step fun l _ v H' s ⟨a, vs, e1, e2, e3, e4⟩ q => q v H' (Same.refl _) (rep_list.mpr ⟨a, vs, e1, hid_some.mpr ⟨r.free e2, e3⟩, e4.up (same_hid (Same.refl _) fun _ _ _ m => .inl m)⟩))
end Ag


namespace Ag
open PySem L2

section
variable {M : Addr → Prop} {H H' : Hp} {p : Addr} {l : List D} {vs : List V} {o : HO}
theorem same_new (h : H p = none) : Same H (upd H p o) := fun a u e => by
  rw [upd_ne (ne_of_none e h)]
  exact e
theorem rep_new_l (hf : H p = none) (hm : ¬ M p) (r : RepL (hid M H) l vs) : Rep (hid M (upd H p (.lst vs))) (.list l) (.ref p) :=
  rep_list.mpr ⟨p, vs, rfl, hid_some.mpr ⟨hm, upd_same⟩, r.up (hid_grow (same_new hf))⟩
theorem rep_new_t (hf : H p = none) (hm : ¬ M p) (r : RepL (hid M H) l vs) : Rep (hid M (upd H p (.tup vs))) (.tuple l) (.ref p) :=
  rep_tup.mpr ⟨p, vs, rfl, hid_some.mpr ⟨hm, upd_same⟩, r.up (hid_grow (same_new hf))⟩
theorem ro_new {H0 : Hp} (s : Same H0 H) (hf : H p = none) (r : RepL (hid M H) l vs) : RO M H0 l (.ref p) (upd H p (.lst vs)) :=
  ⟨p, vs, rfl, s.free hf, upd_same, r.up (same_hid (same_new hf) fun a u e m => by
    rcases m with m | m
    · exact m
    · rw [m, hf] at e
      cases e)⟩
theorem sz (h : l.length ≤ 100000) (e : l.length = vs.length) : vs.length ≤ sizeLine := by
  rw [← e]
  exact Nat.le_trans h (by decide)
end

/-! ### both sides of a piece: the kit's rule and what it computes -/
section
structure PEv (K : PySem.W.Frag) (W : WT) (X : Cx) (e : Expr) (te : TE) (f : EF) : Prop where
  pe : PE X e te
  ev : Ev W te f
structure PEB (K : PySem.W.Frag) (W : WT) (X : Cx) (e : Expr) (te : TE) (f : EF) : Prop where
  pe : PE X e te
  ev : EvB W te f
structure PEO (K : PySem.W.Frag) (W : WT) (X : Cx) (e : Expr) (te : TE) (f : En → Rs (List D)) : Prop where
  pe : PE X e te
  ev : EvO W te f
structure PTv (K : PySem.W.Frag) (W : WT) (X : Cx) (e : Expr) (tt : TT) (f : En → Rs Bool) : Prop where
  pt : PT X e tt
  ev : EvT W tt f
structure PWv (K : PySem.W.Frag) (W : WT) (X : Cx) (e : Expr) (tt : TT) (f : En → Rs Bool) : Prop where
  pw : PW X e tt
  ev : EvT W tt f
structure PAv (K : PySem.W.Frag) (W : WT) (X : Cx) (es : List Expr) (ta : TA) (f : En → Rs (List D)) : Prop where
  pa : PA X es ta
  ev : EvA W ta f
structure PAB (K : PySem.W.Frag) (W : WT) (X : Cx) (es : List Expr) (ta : TA) (f : En → Rs (List D)) : Prop where
  pa : PA X es ta
  ev : EvAB W ta f
end

section
variable {K : PySem.W.Frag} {W : WT} {X : Cx} {a b c e : Expr} {ta tb tc te : TE} {f g h : EF} {pos : Pos}

theorem PEv.bb (x : PEv K W X e te f) : PEB K W X e te f := ⟨x.pe, x.ev.b⟩
def eFz (f : En → Rs (List D)) : EF := fun env => f env >>= fun l => .val (.list l)
theorem PEO.vv {f : En → Rs (List D)} (x : PEO K W X e te f) : PEv K W X e te (eFz f) := ⟨x.pe, x.ev.ev⟩

/-! ### names, constants -/
def eVar (i : Nat) : EF := fun env => match env[i]? with
  | some (.fz d) => .val d
  | _ => .stk
def eVarB (i : Nat) : EF := fun env => match env[i]? with
  | some (.fz d) => .val d
  | some (.ow l) => .val (.list l)
  | _ => .stk
theorem ev_var (i : Nat) : Ev W (tVar i) (eVar i) := fun M env σ H r Q p => by
  unfold eVar at p
  split at p
  · rename_i d hd
    obtain ⟨o, e1, x, rfl, q⟩ := r.sl i _ hd
    exact ⟨x, e1, p x H (Same.refl H) q⟩
  · exact p.elim
theorem evB_var (i : Nat) : EvB W (tVar i) (eVarB i) := fun M env σ H r Q p => by
  unfold eVarB at p
  split at p
  · rename_i d hd
    obtain ⟨o, e1, x, rfl, q⟩ := r.sl i _ hd
    exact ⟨x, e1, p x H (Same.refl H) (.inl q)⟩
  · rename_i l hd
    obtain ⟨o, e1, a, vs, rfl, q1, q2⟩ := r.sl i _ hd
    exact ⟨_, e1, p _ H (Same.refl H) (.inr ⟨l, a, vs, rfl, rfl, q1, q2⟩)⟩
  · exact p.elim
section
variable {x : Str}
theorem v_var (i : Nat) (hN : X.N[i]? = some x := by rfl) (hv : Vis X.env.scope x := by first | exact Or.inl rfl | exact Or.inr (Or.inl rfl) | exact Or.inr (Or.inr rfl)) (hd : (x == ("__debug__" : Str)) = false := by decide)
    (hcd : (x == ("__classdict__" : Str)) = false := by decide) : PEv K W X (.Name x pos) (tVar i) (eVar i) := ⟨pe_var hN hv hd hcd, ev_var i⟩
theorem b_var (i : Nat) (hN : X.N[i]? = some x := by rfl) (hv : Vis X.env.scope x := by first | exact Or.inl rfl | exact Or.inr (Or.inl rfl) | exact Or.inr (Or.inr rfl)) (hd : (x == ("__debug__" : Str)) = false := by decide)
    (hcd : (x == ("__classdict__" : Str)) = false := by decide) : PEB K W X (.Name x pos) (tVar i) (eVarB i) := ⟨pe_var hN hv hd hcd, evB_var i⟩
end
def eC (d : D) : EF := fun _ => .val d
theorem ev_c {d : D} {v : V} (h : ∀ F, Rep F d v) : Ev W (tC v) (eC d) := fun M env σ H r Q p => p v H (Same.refl H) (h _)
theorem v_int {i j} : PEv K W X (.Constant (.int i) j pos) (tC (.int i)) (eC (.int i)) := ⟨pe_int, ev_c fun _ => rep_int.mpr rfl⟩
theorem v_bool {i j} : PEv K W X (.Constant (.bool i) j pos) (tC (.bl i)) (eC (.bool i)) := ⟨pe_bl, ev_c fun _ => rep_bool.mpr rfl⟩
theorem v_none {j} : PEv K W X (.Constant .none j pos) (tC .non) (eC .none) := ⟨pe_non, ev_c fun _ => rep_none.mpr rfl⟩
theorem v_str {i j} : PEv K W X (.Constant (.str i) j pos) (tC (.str i)) (eC (.str i)) := ⟨pe_str, ev_c fun _ => rep_str.mpr rfl⟩
theorem v_globI {x : Str} {i : Int} {t : Tok} (hg : Gl X x) (hm : X.mg x = some (.int i t)) (hd : (x == ("__debug__" : Str)) = false := by decide) : PEv K W X (.Name x pos) (tC (.int i)) (eC (.int i)) :=
  ⟨pe_glob hg hm ⟨t, rfl⟩ hd, ev_c fun _ => rep_int.mpr rfl⟩

/-! ### two places -/
def BinSem (r : R2) (g : D → D → Rs D) : Prop := ∀ (M : Addr → Prop) (H : Hp) (d e : D) (x y : V) (Wx : Ec → Hp → Prop) (Q : VK), (∀ p, H p = none → ¬ M p) → RB M H d x → RB M H e y → Pst H Wx (fun d v H' => Rep (hid M H') d v) Q (g d e) → r x y H Q
def eBin (g : D → D → Rs D) (f1 f2 : EF) : EF := fun env => f1 env >>= fun d => f2 env >>= fun e => g d e
theorem ev_bin {r : R2} {q : D → D → Rs D} (s : BinSem r q) (ha : EvB W ta f) (hb : EvB W tb g) : Ev W (tOp r ta tb) (eBin q f g) := fun M env σ H rs Q p =>
  ha M env σ H rs _ (p.step fun d _ x H1 s1 r1 p1 => hb M env σ H1 (rs.up s1) _ (p1.step fun e _ y H2 s2 r2 p2 => s M H2 d e x y _ Q (fun _ z => ((rs.up s1).up s2).free z) (r1.up s2) r2 p2))
theorem v_bin {op : Operator} {r : R2} {q : D → D → Rs D} (ho : OpR X (binaryOp op) r) (s : BinSem r q) (ha : PEB K W X a ta f) (hb : PEB K W X b tb g) : PEv K W X (.BinOp a op b pos) (tOp r ta tb) (eBin q f g) :=
  ⟨pe_op ho ha.pe hb.pe, ev_bin s ha.ev hb.ev⟩
theorem v_cmp {op : CmpOp} {r : R2} {q : D → D → Rs D} (ho : OpR X (compareOp op) r) (s : BinSem r q) (ha : PEB K W X a ta f) (hb : PEB K W X b tb g) (hm : behindInMarks op b = false) :
    PEv K W X (.Compare a [op] [b] pos) (tOp r ta tb) (eBin q f g) := ⟨pe_cmpR ho ha.pe hb.pe hm, ev_bin s ha.ev hb.ev⟩

theorem rb_int {M : Addr → Prop} {H : Hp} {i : Int} {x : V} (h : RB M H (.int i) x) : x = .int i := rep_int.mp (h.nl fun _ z => nomatch z)
theorem rb_str {M : Addr → Prop} {H : Hp} {i : Str} {x : V} (h : RB M H (.str i) x) : x = .str i := rep_str.mp (h.nl fun _ z => nomatch z)
theorem rb_bool {M : Addr → Prop} {H : Hp} {i : Bool} {x : V} (h : RB M H (.bool i) x) : x = .bl i := rep_bool.mp (h.nl fun _ z => nomatch z)
theorem rb_none {M : Addr → Prop} {H : Hp} {x : V} (h : RB M H .none x) : x = .non := rep_none.mp (h.nl fun _ z => nomatch z)
theorem rb_tup {M : Addr → Prop} {H : Hp} {l : List D} {x : V} (h : RB M H (.tuple l) x) : ∃ a vs, x = .ref a ∧ H a = some (.tup vs) ∧ RepL (hid M H) l vs := by
  obtain ⟨a, vs, e, q, r⟩ := rep_tup.mp (h.nl fun _ z => nomatch z)
  exact ⟨a, vs, e, hid_same _ _ q, r⟩
theorem rb_tup' {M : Addr → Prop} {H : Hp} {l : List D} {x : V} (h : RB M H (.tuple l) x) : Rep (hid M H) (.tuple l) x := h.nl fun _ z => nomatch z

/-! ints -/
def dI2 (k : Int → Int → Rs D) : D → D → Rs D
  | .int i, .int j => k i j
  | _, _ => .stk
theorem sem_I0 {k : Int → Int → Int} : BinSem (rI0 fun i j => .int (k i j)) (dI2 fun i j => .val (.int (k i j))) := fun M H d e x y Wx Q hf h1 h2 p => by
  unfold dI2 at p
  split at p
  · exact ⟨_, _, rb_int h1, rb_int h2, p _ H (Same.refl H) (rep_int.mpr rfl)⟩
  · exact p.elim
theorem sem_B0 {k : Int → Int → Bool} : BinSem (rI0 fun i j => .bl (k i j)) (dI2 fun i j => .val (.bool (k i j))) := fun M H d e x y Wx Q hf h1 h2 p => by
  unfold dI2 at p
  split at p
  · exact ⟨_, _, rb_int h1, rb_int h2, p _ H (Same.refl H) (rep_bool.mpr rfl)⟩
  · exact p.elim
theorem sem_I {C : Int → Int → Prop} [dec : ∀ i j, Decidable (C i j)] {k : Int → Int → Int} : BinSem (rI C fun i j => .int (k i j)) (dI2 fun i j => if C i j then .val (.int (k i j)) else .stk) := fun M H d e x y Wx Q hf h1 h2 p => by
  unfold dI2 at p
  split at p
  · rename_i i j
    dsimp only at p
    by_cases hc : C i j
    · rw [if_pos hc] at p
      exact ⟨_, _, rb_int h1, rb_int h2, hc, p _ H (Same.refl H) (rep_int.mpr rfl)⟩
    · rw [if_neg hc] at p
      exact p.elim
  · exact p.elim
instance {i j : Int} : Decidable (CDivN i j) := by unfold CDivN; infer_instance
instance {i j : Int} : Decidable (CPow i j) := by unfold CPow; infer_instance
instance {i j : Int} : Decidable (CMul i j) := by unfold CMul; infer_instance
def dSub : D → D → Rs D := dI2 fun i j => .val (.int (i - j))
def dFdiv : D → D → Rs D := dI2 fun i j => if CDivN i j then .val (.int (i.fdiv j)) else .stk
def dMod : D → D → Rs D := dI2 fun i j => if j ≠ 0 then .val (.int (i.fmod j)) else .stk
def dPow : D → D → Rs D := dI2 fun i j => if CPow i j then .val (.int (i ^ j.toNat)) else .stk
def dLt : D → D → Rs D := dI2 fun i j => .val (.bool (decide (i < j)))
def dLe : D → D → Rs D := dI2 fun i j => .val (.bool (decide (i ≤ j)))
def dGt : D → D → Rs D := dI2 fun i j => .val (.bool (decide (j < i)))
def dGe : D → D → Rs D := dI2 fun i j => .val (.bool (decide (j ≤ i)))
theorem v_sub (ha : PEB K W X a ta f) (hb : PEB K W X b tb g) : PEv K W X (.BinOp a .Sub b pos) (tOp (rI0 fun i j => .int (i - j)) ta tb) (eBin dSub f g) := v_bin op_sub sem_I0 ha hb
theorem v_fdiv (ha : PEB K W X a ta f) (hb : PEB K W X b tb g) : PEv K W X (.BinOp a .FloorDiv b pos) (tOp (rI CDivN fun i j => .int (i.fdiv j)) ta tb) (eBin dFdiv f g) := v_bin op_fdivN sem_I ha hb
theorem v_mod (ha : PEB K W X a ta f) (hb : PEB K W X b tb g) : PEv K W X (.BinOp a .Mod b pos) (tOp (rI (fun _ j => j ≠ 0) fun i j => .int (i.fmod j)) ta tb) (eBin dMod f g) := v_bin op_modN sem_I ha hb
theorem v_pow (ha : PEB K W X a ta f) (hb : PEB K W X b tb g) : PEv K W X (.BinOp a .Pow b pos) (tOp (rI CPow fun i j => .int (i ^ j.toNat)) ta tb) (eBin dPow f g) := v_bin op_pow sem_I ha hb
theorem v_lt (ha : PEB K W X a ta f) (hb : PEB K W X b tb g) : PEv K W X (.Compare a [.Lt] [b] pos) (tOp (rI0 fun i j => .bl (decide (i < j))) ta tb) (eBin dLt f g) := v_cmp op_lt sem_B0 ha hb (nobehind _ (by decide) (by decide))
theorem v_le (ha : PEB K W X a ta f) (hb : PEB K W X b tb g) : PEv K W X (.Compare a [.LtE] [b] pos) (tOp (rI0 fun i j => .bl (decide (i ≤ j))) ta tb) (eBin dLe f g) := v_cmp op_le sem_B0 ha hb (nobehind _ (by decide) (by decide))
theorem v_gt (ha : PEB K W X a ta f) (hb : PEB K W X b tb g) : PEv K W X (.Compare a [.Gt] [b] pos) (tOp (rI0 fun i j => .bl (decide (j < i))) ta tb) (eBin dGt f g) := v_cmp op_gt sem_B0 ha hb (nobehind _ (by decide) (by decide))
theorem v_ge (ha : PEB K W X a ta f) (hb : PEB K W X b tb g) : PEv K W X (.Compare a [.GtE] [b] pos) (tOp (rI0 fun i j => .bl (decide (j ≤ i))) ta tb) (eBin dGe f g) := v_cmp op_ge sem_B0 ha hb (nobehind _ (by decide) (by decide))

/-! + of ints, lists, tuples, texts; * of ints, lists, tuples by ints -/
def dAdd : D → D → Rs D
  | .int i, .int j => .val (.int (i + j))
  | .list l, .list m => if l.length + m.length ≤ 100000 then .val (.list (l ++ m)) else .stk
  | .tuple l, .tuple m => if l.length + m.length ≤ 100000 then .val (.tuple (l ++ m)) else .stk
  | .str i, .str j => if i.length + j.length ≤ 100000 then .val (.str (i ++ j)) else .stk
  | _, _ => .stk
def rAddAny (K : PySem.W.Frag) : R2 := fun x y H Q => ((rI0 fun i j => .int (i + j)) x y H Q ∨ rCat x y H Q) ∨ (rCatA K x y H Q ∨ ∃ i j, x = .str i ∧ y = .str j ∧ i.length + j.length ≤ sizeLine ∧ Q (.str (i ++ j)) H)
theorem szn {n : Nat} (h : n ≤ 100000) : n ≤ sizeLine := Nat.le_trans h (by decide)
theorem sem_add : BinSem (rAddAny K) dAdd := fun M H d e x y Wx Q hf h1 h2 p => by
  unfold dAdd at p
  split at p
  · exact .inl (.inl ⟨_, _, rb_int h1, rb_int h2, p _ H (Same.refl H) (rep_int.mpr rfl)⟩)
  · split at p
    · rename_i hz
      obtain ⟨a1, v1, e1, q1, r1⟩ := h1.list
      obtain ⟨a2, v2, e2, q2, r2⟩ := h2.list
      refine .inl (.inr ⟨a1, a2, v1, v2, e1, e2, q1, q2, by rw [← r1.len, ← r2.len]; exact szn hz, fun z hz' => p _ _ (same_new hz') (rep_new_l hz' (hf _ hz') (r1.app r2))⟩)
    · exact p.elim
  · split at p
    · rename_i l m hz
      obtain ⟨a1, v1, e1, q1, r1⟩ := rb_tup h1
      obtain ⟨a2, v2, e2, q2, r2⟩ := rb_tup h2
      refine .inr (.inl ⟨a1, a2, v1, v2, e1, e2, SqT.of q1, SqT.of q2, by rw [← r1.len, ← r2.len]; exact szn hz, fun z => ?_, fun z1 z2 => ?_, fun _ _ z hz' => p _ _ (same_new hz') (rep_new_t hz' (hf _ hz') (r1.app r2))⟩)
      · subst z
        have z := r1.len
        have z' : l = [] := List.eq_nil_of_length_eq_zero z
        subst z'
        exact e2 ▸ p y H (Same.refl H) (by rw [List.nil_append]; exact rb_tup' h2)
      · subst z2
        have z := r2.len
        have z' : m = [] := List.eq_nil_of_length_eq_zero z
        subst z'
        exact e1 ▸ p x H (Same.refl H) (by rw [List.append_nil]; exact rb_tup' h1)
    · exact p.elim
  · split at p
    · rename_i hz
      exact .inr (.inr ⟨_, _, rb_str h1, rb_str h2, szn hz, p _ H (Same.refl H) (rep_str.mpr rfl)⟩)
    · exact p.elim
  · exact p.elim
theorem v_add (hK : X.K = K := by rfl) (ha : PEB K W X a ta f) (hb : PEB K W X b tb g) : PEv K W X (.BinOp a .Add b pos) (tOp (rAddAny K) ta tb) (eBin dAdd f g) := by
  subst hK
  exact v_bin ((op_add.or op_cat).or (op_catA.or op_add_str)) sem_add ha hb
def eCatO (f g : EF) : En → Rs (List D) := fun env => f env >>= fun d => g env >>= fun e => match d, e with
  | .list l, .list m => if l.length + m.length ≤ 100000 then .val (l ++ m) else .stk
  | _, _ => .stk
theorem o_add (ha : PEB K W X a ta f) (hb : PEB K W X b tb g) : PEO K W X (.BinOp a .Add b pos) (tOp rCat ta tb) (eCatO f g) := by
  refine ⟨pe_op op_cat ha.pe hb.pe, fun M env σ H rs Q p => ?_⟩
  refine ha.ev M env σ H rs _ (p.step fun d _ x H1 s1 r1 p1 => hb.ev M env σ H1 (rs.up s1) _ (p1.step fun e _ y H2 s2 r2 p2 => ?_))
  split at p2
  · split at p2
    · rename_i hz
      obtain ⟨a1, v1, e1, q1, w1⟩ := (r1.up s2).list
      obtain ⟨a2, v2, e2, q2, w2⟩ := r2.list
      exact ⟨a1, a2, v1, v2, e1, e2, q1, q2, by rw [← w1.len, ← w2.len]; exact szn hz, fun z hz' => p2 _ _ (same_new hz') (ro_new (s1.trans s2) hz' (w1.app w2))⟩
    · exact p2.elim
  · exact p2.elim
def dMul : D → D → Rs D
  | .int i, .int j => if CMul i j then .val (.int (i * j)) else .stk
  | .list l, .int k => if k ≤ 100000 ∧ -100000 ≤ k ∧ l.length * k.toNat ≤ 100000 then .val (.list (List.replicate k.toNat l).flatten) else .stk
  | .tuple l, .int k => if l ≠ [] ∧ 2 ≤ k ∧ k ≤ 1000 ∧ l.length ≤ 1000 then .val (.tuple (List.replicate k.toNat l).flatten) else .stk
  | _, _ => .stk
end
end Ag


namespace Ag
open PySem L2
section
variable {K : PySem.W.Frag} {W : WT} {X : Cx} {a b c e : Expr} {es : List Expr} {ta tb tc te : TE} {f g h : EF} {pos p : Pos} {x : Str}
theorem OpR.or3 {f : Value → Value → Sem Value} {r r' r'' : R2} (h : OpR X f r) (h' : OpR X f r') (h'' : OpR X f r'') : OpR X f (fun x y H Q => (r x y H Q ∨ r' x y H Q) ∨ r'' x y H Q) := (h.or h').or h''

def rMulAny (K : PySem.W.Frag) : R2 := fun x y H Q => ((rI CMul fun i j => .int (i * j)) x y H Q ∨ rRep x y H Q) ∨ rRepT K x y H Q
theorem sem_mul : BinSem (rMulAny K) dMul := fun M H d e x y Wx Q hf h1 h2 p => by
  unfold dMul at p
  split at p
  · split at p
    · rename_i hc
      exact .inl (.inl ⟨_, _, rb_int h1, rb_int h2, hc, p _ H (Same.refl H) (rep_int.mpr rfl)⟩)
    · exact p.elim
  · split at p
    · rename_i l k hc
      obtain ⟨a1, v1, e1, q1, r1⟩ := h1.list
      refine .inl (.inr ⟨a1, k, v1, e1, rb_int h2, q1, by omega, by omega, by rw [← r1.len]; exact szn hc.2.2, fun z hz => p _ _ (same_new hz) (rep_new_l hz (hf _ hz) (r1.rep _))⟩)
    · exact p.elim
  · split at p
    · rename_i l k hc
      obtain ⟨a1, v1, e1, q1, r1⟩ := rb_tup h1
      refine .inr ⟨a1, k, v1, e1, rb_int h2, SqT.of q1, fun z => hc.1 (List.eq_nil_of_length_eq_zero (by rw [r1.len, z]; rfl)), hc.2.1, hc.2.2.1, by rw [← r1.len]; exact hc.2.2.2, fun z hz => p _ _ (same_new hz) (rep_new_t hz (hf _ hz) (r1.rep _))⟩
    · exact p.elim
  · exact p.elim
theorem v_mul (hK : X.K = K := by rfl) (ha : PEB K W X a ta f) (hb : PEB K W X b tb g) : PEv K W X (.BinOp a .Mult b pos) (tOp (rMulAny K) ta tb) (eBin dMul f g) := by
  subst hK
  exact v_bin (OpR.or3 op_mul op_rep op_repT) sem_mul ha hb
def eRepO (f g : EF) : En → Rs (List D) := fun env => f env >>= fun d => g env >>= fun e => match d, e with
  | .list l, .int k => if k ≤ 100000 ∧ -100000 ≤ k ∧ l.length * k.toNat ≤ 100000 then .val (List.replicate k.toNat l).flatten else .stk
  | _, _ => .stk
theorem o_mul (ha : PEB K W X a ta f) (hb : PEB K W X b tb g) : PEO K W X (.BinOp a .Mult b pos) (tOp rRep ta tb) (eRepO f g) := by
  refine ⟨pe_op op_rep ha.pe hb.pe, fun M env σ H rs Q p => ?_⟩
  refine ha.ev M env σ H rs _ (p.step fun d _ x H1 s1 r1 p1 => hb.ev M env σ H1 (rs.up s1) _ (p1.step fun e _ y H2 s2 r2 p2 => ?_))
  split at p2
  · split at p2
    · rename_i hc
      obtain ⟨a1, v1, e1, q1, w1⟩ := (r1.up s2).list
      exact ⟨a1, _, v1, e1, rb_int r2, q1, by omega, by omega, by rw [← w1.len]; exact szn hc.2.2, fun z hz' => p2 _ _ (same_new hz') (ro_new (s1.trans s2) hz' (w1.rep _))⟩
    · exact p2.elim
  · exact p2.elim

/-! ### ==, in, is -/
def dEq : D → D → Rs D := fun d e => if (SeqAt.shaped d && SeqAt.shaped e) = true then .val (.bool (PyData.eqv d e)) else .stk
def dNe : D → D → Rs D := fun d e => if (SeqAt.shaped d && SeqAt.shaped e) = true then .val (.bool (!PyData.eqv d e)) else .stk
theorem sem_eq : BinSem (rEqD K) dEq := fun M H d e x y Wx Q hf h1 h2 p => by
  unfold dEq at p
  split at p
  · rename_i hs
    rw [Bool.and_eq_true] at hs
    exact ⟨d, e, h1.dp, h2.dp, hs.1, hs.2, p _ H (Same.refl H) (rep_bool.mpr rfl)⟩
  · exact p.elim
theorem sem_ne : BinSem (rNeD K) dNe := fun M H d e x y Wx Q hf h1 h2 p => by
  unfold dNe at p
  split at p
  · rename_i hs
    rw [Bool.and_eq_true] at hs
    exact ⟨d, e, h1.dp, h2.dp, hs.1, hs.2, p _ H (Same.refl H) (rep_bool.mpr rfl)⟩
  · exact p.elim
def dIn (neg : Bool) : D → D → Rs D := fun d e => match e with
  | .list ds => if (SeqAt.shaped d && SeqAt.shaped (.list ds)) = true then .val (.bool (if neg = true then !ds.any fun z => PyData.eqv z d else ds.any fun z => PyData.eqv z d)) else .stk
  | _ => .stk
theorem sem_in : BinSem (rInD K) (dIn false) := fun M H d e x y Wx Q hf h1 h2 p => by
  unfold dIn at p
  split at p
  · split at p
    · rename_i ds hs
      rw [Bool.and_eq_true] at hs
      exact ⟨d, ds, h1.dp, h2.dp, hs.1, hs.2, p _ H (Same.refl H) (rep_bool.mpr rfl)⟩
    · exact p.elim
  · exact p.elim
theorem sem_nin : BinSem (rNotInD K) (dIn true) := fun M H d e x y Wx Q hf h1 h2 p => by
  unfold dIn at p
  split at p
  · split at p
    · rename_i ds hs
      rw [Bool.and_eq_true] at hs
      exact ⟨d, ds, h1.dp, h2.dp, hs.1, hs.2, p _ H (Same.refl H) (rep_bool.mpr rfl)⟩
    · exact p.elim
  · exact p.elim
theorem room64 {k : Nat} {A : Around} (hr : Room k A) : A.units + 64 < cLine := by have := hr.un; omega
theorem room65 {k : Nat} {A : Around} (hr : Room k A) : A.units + 65 < cLine := by have := hr.un; omega
section
variable {k : Nat}
theorem v_eq (hr : Room k X.A) (hK : X.K = K := by rfl) (ha : PEB K W X a ta f) (hb : PEB K W X b tb g) : PEv K W X (.Compare a [.Eq] [b] pos) (tOp (rEqD K) ta tb) (eBin dEq f g) := by
  subst hK
  exact v_cmp (op_eqD (room64 hr)) sem_eq ha hb (nobehind _ (by decide) (by decide))
theorem v_ne (hr : Room k X.A) (hK : X.K = K := by rfl) (ha : PEB K W X a ta f) (hb : PEB K W X b tb g) : PEv K W X (.Compare a [.NotEq] [b] pos) (tOp (rNeD K) ta tb) (eBin dNe f g) := by
  subst hK
  exact v_cmp (op_neD (room64 hr)) sem_ne ha hb (nobehind _ (by decide) (by decide))
theorem v_in (hr : Room k X.A) (hK : X.K = K := by rfl) (ha : PEB K W X a ta f) (hb : PEB K W X b tb g) (hm : behindInMarks .In b = false := by rfl) : PEv K W X (.Compare a [.In] [b] pos) (tOp (rInD K) ta tb) (eBin (dIn false) f g) := by
  subst hK
  exact v_cmp (op_inD (room65 hr)) sem_in ha hb hm
theorem v_nin (hr : Room k X.A) (hK : X.K = K := by rfl) (ha : PEB K W X a ta f) (hb : PEB K W X b tb g) (hm : behindInMarks .NotIn b = false := by rfl) : PEv K W X (.Compare a [.NotIn] [b] pos) (tOp (rNotInD K) ta tb) (eBin (dIn true) f g) := by
  subst hK
  exact v_cmp (op_notInD (room65 hr)) sem_nin ha hb hm
end
def isNon : D → Bool
  | .none => true
  | _ => false
theorem isNon_of {M : Addr → Prop} {H : Hp} {d : D} {v : V} (h : RB M H d v) : decide (v = .non) = isNon d := by
  cases d with
  | none => rw [rb_none h]; rfl
  | bool b => rw [rb_bool h]; rfl
  | int b => rw [rb_int h]; rfl
  | str b => rw [rb_str h]; rfl
  | list l => obtain ⟨_, _, e, _⟩ := h.list; rw [e]; rfl
  | tuple l => obtain ⟨_, _, e, _⟩ := rb_tup h; rw [e]; rfl
  | dict l =>
    rcases h with h | ⟨_, _, _, e, _⟩
    · rw [Rep] at h; exact h.elim
    · cases e
def dIs (neg : Bool) : D → D → Rs D := fun d e => match e with
  | .none => .val (.bool (if neg = true then !isNon d else isNon d))
  | .bool j => match d with
    | .bool i => .val (.bool (if neg = true then !decide (i = j) else decide (i = j)))
    | _ => .stk
  | _ => .stk
theorem sem_is : BinSem (fun x y H Q => (y = .non ∧ Q (.bl (decide (x = .non))) H) ∨ rIsB x y H Q) (dIs false) := fun M H d e x y Wx Q hf h1 h2 p => by
  unfold dIs at p
  split at p
  · exact .inl ⟨rb_none h2, p _ H (Same.refl H) (rep_bool.mpr (by rw [isNon_of h1]; rfl))⟩
  · split at p
    · exact .inr ⟨_, _, rb_bool h1, rb_bool h2, p _ H (Same.refl H) (rep_bool.mpr rfl)⟩
    · exact p.elim
  · exact p.elim
theorem sem_isnot : BinSem (fun x y H Q => (y = .non ∧ Q (.bl (!decide (x = .non))) H) ∨ rNotB x y H Q) (dIs true) := fun M H d e x y Wx Q hf h1 h2 p => by
  unfold dIs at p
  split at p
  · exact .inl ⟨rb_none h2, p _ H (Same.refl H) (rep_bool.mpr (by rw [isNon_of h1]; rfl))⟩
  · split at p
    · exact .inr ⟨_, _, rb_bool h1, rb_bool h2, p _ H (Same.refl H) (rep_bool.mpr rfl)⟩
    · exact p.elim
  · exact p.elim
theorem v_is (ha : PEB K W X a ta f) (hb : PEB K W X b tb g) : PEv K W X (.Compare a [.Is] [b] pos) (tOp (fun x y H Q => (y = .non ∧ Q (.bl (decide (x = .non))) H) ∨ rIsB x y H Q) ta tb) (eBin (dIs false) f g) :=
  v_cmp (op_isN.or op_isBl) sem_is ha hb (nobehind _ (by decide) (by decide))
theorem v_isnot (ha : PEB K W X a ta f) (hb : PEB K W X b tb g) : PEv K W X (.Compare a [.IsNot] [b] pos) (tOp (fun x y H Q => (y = .non ∧ Q (.bl (!decide (x = .non))) H) ∨ rNotB x y H Q) ta tb) (eBin (dIs true) f g) :=
  v_cmp (op_notN.or op_notBl) sem_isnot ha hb (nobehind _ (by decide) (by decide))

/-! ### chains of two comparisons of ints -/
def eChain (q q' : D → D → Rs D) (f g h : EF) : EF := fun env => f env >>= fun d => g env >>= fun e => q d e >>= fun b => match b with
  | .bool true => h env >>= fun z => q' e z
  | .bool false => .val (.bool false)
  | _ => .stk
theorem ev_chain {r r' : R2} {q q' : D → D → Rs D} (s : BinSem r q) (s' : BinSem r' q') (ha : EvB W ta f) (hb : EvB W tb g) (hc : EvB W tc h) : Ev W (tChain r r' ta tb tc) (eChain q q' f g h) := fun M env σ H rs Q p =>
  ha M env σ H rs _ (p.step fun d _ x H1 s1 r1 p1 => hb M env σ H1 (rs.up s1) _ (p1.step fun e _ y H2 s2 r2 p2 => s M H2 d e x y _ _ (fun _ z => ((rs.up s1).up s2).free z) (r1.up s2) r2 (p2.step fun b _ z H3 s3 r3 p3 => by
    split at p3
    · refine ⟨true, rep_bool.mp r3, ?_⟩
      rw [if_pos rfl]
      exact hc M env σ H3 (((rs.up s1).up s2).up s3) _ (p3.step fun z' _ w H4 s4 r4 p4 => s' M H4 e z' y w _ Q (fun _ z => ((((rs.up s1).up s2).up s3).up s4).free z) ((r2.up s3).up s4) r4 p4)
    · refine ⟨false, rep_bool.mp r3, ?_⟩
      rw [if_neg Bool.false_ne_true]
      exact p3 _ H3 (Same.refl _) (rep_bool.mpr rfl)
    · exact p3.elim)))
theorem v_leLe (ha : PEB K W X a ta f) (hb : PEB K W X b tb g) (hc : PEB K W X c tc h) (hm : lastMarks [.LtE, .LtE] [b, c] = false := by with_unfolding_all rfl) :
    PEv K W X (.Compare a [.LtE, .LtE] [b, c] pos) (tChain (rI0 fun i j => .bl (decide (i ≤ j))) (rI0 fun i j => .bl (decide (i ≤ j))) ta tb tc) (eChain dLe dLe f g h) :=
  ⟨pe_chain op_le op_le ha.pe hb.pe hc.pe hm, ev_chain sem_B0 sem_B0 ha.ev hb.ev hc.ev⟩
theorem v_leLt (ha : PEB K W X a ta f) (hb : PEB K W X b tb g) (hc : PEB K W X c tc h) (hm : lastMarks [.LtE, .Lt] [b, c] = false := by with_unfolding_all rfl) :
    PEv K W X (.Compare a [.LtE, .Lt] [b, c] pos) (tChain (rI0 fun i j => .bl (decide (i ≤ j))) (rI0 fun i j => .bl (decide (i < j))) ta tb tc) (eChain dLe dLt f g h) :=
  ⟨pe_chain op_le op_lt ha.pe hb.pe hc.pe hm, ev_chain sem_B0 sem_B0 ha.ev hb.ev hc.ev⟩

/-! ### tests, and, or, not -/
def asB (f : EF) : En → Rs Bool := fun env => f env >>= fun d => match d with
  | .bool b => .val b
  | _ => .stk
theorem et_of (ha : EvB W ta f) : EvT W (fun σ H Q => ta σ H fun x H' => ∃ k, x = .bl k ∧ Q k H') (asB f) := fun M env σ H rs Q p =>
  ha M env σ H rs _ (p.step fun d _ v H1 s1 r1 p1 => by
    split at p1
    · exact ⟨_, rb_bool r1, p1 _ H1 (Same.refl _) rfl⟩
    · exact p1.elim)
theorem t_val (ha : PEB K W X a ta f) (he : ∀ whole, isTrue a X.env whole = (do let v ← whole; standAt a.pos; holding [v] (truthy v)) := by intro _; rfl) : PTv K W X a (tB ta) (asB f) := ⟨pt_val ha.pe he, et_of ha.ev⟩
theorem t_cmp {op : CmpOp} {r : R2} {q : D → D → Rs D} (ho : OpR X (compareOp op) r) (s : BinSem r q) (ha : PEB K W X a ta f) (hb : PEB K W X b tb g) (hm : behindInMarks op b = false) :
    PTv K W X (.Compare a [op] [b] pos) (tTest (tOp r ta tb)) (asB (eBin q f g)) := ⟨pt_cmpR ho ha.pe hb.pe hm, et_of (ev_bin s ha.ev hb.ev).b⟩
theorem t_lt (ha : PEB K W X a ta f) (hb : PEB K W X b tb g) : PTv K W X (.Compare a [.Lt] [b] pos) (tTest (tOp (rI0 fun i j => .bl (decide (i < j))) ta tb)) (asB (eBin dLt f g)) := t_cmp op_lt sem_B0 ha hb (nobehind _ (by decide) (by decide))
theorem t_le (ha : PEB K W X a ta f) (hb : PEB K W X b tb g) : PTv K W X (.Compare a [.LtE] [b] pos) (tTest (tOp (rI0 fun i j => .bl (decide (i ≤ j))) ta tb)) (asB (eBin dLe f g)) := t_cmp op_le sem_B0 ha hb (nobehind _ (by decide) (by decide))
theorem t_gt (ha : PEB K W X a ta f) (hb : PEB K W X b tb g) : PTv K W X (.Compare a [.Gt] [b] pos) (tTest (tOp (rI0 fun i j => .bl (decide (j < i))) ta tb)) (asB (eBin dGt f g)) := t_cmp op_gt sem_B0 ha hb (nobehind _ (by decide) (by decide))
theorem t_ge (ha : PEB K W X a ta f) (hb : PEB K W X b tb g) : PTv K W X (.Compare a [.GtE] [b] pos) (tTest (tOp (rI0 fun i j => .bl (decide (j ≤ i))) ta tb)) (asB (eBin dGe f g)) := t_cmp op_ge sem_B0 ha hb (nobehind _ (by decide) (by decide))
section
variable {k : Nat}
theorem t_eq (hr : Room k X.A) (hK : X.K = K := by rfl) (ha : PEB K W X a ta f) (hb : PEB K W X b tb g) : PTv K W X (.Compare a [.Eq] [b] pos) (tTest (tOp (rEqD K) ta tb)) (asB (eBin dEq f g)) := by
  subst hK
  exact t_cmp (op_eqD (room64 hr)) sem_eq ha hb (nobehind _ (by decide) (by decide))
theorem t_ne (hr : Room k X.A) (hK : X.K = K := by rfl) (ha : PEB K W X a ta f) (hb : PEB K W X b tb g) : PTv K W X (.Compare a [.NotEq] [b] pos) (tTest (tOp (rNeD K) ta tb)) (asB (eBin dNe f g)) := by
  subst hK
  exact t_cmp (op_neD (room64 hr)) sem_ne ha hb (nobehind _ (by decide) (by decide))
theorem t_in (hr : Room k X.A) (hK : X.K = K := by rfl) (ha : PEB K W X a ta f) (hb : PEB K W X b tb g) (hm : behindInMarks .In b = false := by rfl) : PTv K W X (.Compare a [.In] [b] pos) (tTest (tOp (rInD K) ta tb)) (asB (eBin (dIn false) f g)) := by
  subst hK
  exact t_cmp (op_inD (room65 hr)) sem_in ha hb hm
theorem t_nin (hr : Room k X.A) (hK : X.K = K := by rfl) (ha : PEB K W X a ta f) (hb : PEB K W X b tb g) (hm : behindInMarks .NotIn b = false := by rfl) : PTv K W X (.Compare a [.NotIn] [b] pos) (tTest (tOp (rNotInD K) ta tb)) (asB (eBin (dIn true) f g)) := by
  subst hK
  exact t_cmp (op_notInD (room65 hr)) sem_nin ha hb hm
end
theorem t_is (ha : PEB K W X a ta f) (hb : PEB K W X b tb g) : PTv K W X (.Compare a [.Is] [b] pos) (tTest (tOp (fun x y H Q => (y = .non ∧ Q (.bl (decide (x = .non))) H) ∨ rIsB x y H Q) ta tb)) (asB (eBin (dIs false) f g)) :=
  t_cmp (op_isN.or op_isBl) sem_is ha hb (nobehind _ (by decide) (by decide))
theorem t_isnot (ha : PEB K W X a ta f) (hb : PEB K W X b tb g) : PTv K W X (.Compare a [.IsNot] [b] pos) (tTest (tOp (fun x y H Q => (y = .non ∧ Q (.bl (!decide (x = .non))) H) ∨ rNotB x y H Q) ta tb)) (asB (eBin (dIs true) f g)) :=
  t_cmp (op_notN.or op_notBl) sem_isnot ha hb (nobehind _ (by decide) (by decide))
theorem t_leLe (ha : PEB K W X a ta f) (hb : PEB K W X b tb g) (hc : PEB K W X c tc h) (hm : lastMarks [.LtE, .LtE] [b, c] = false := by with_unfolding_all rfl) :
    PTv K W X (.Compare a [.LtE, .LtE] [b, c] pos) (tTest (tChain (rI0 fun i j => .bl (decide (i ≤ j))) (rI0 fun i j => .bl (decide (i ≤ j))) ta tb tc)) (asB (eChain dLe dLe f g h)) :=
  ⟨pt_chain op_le op_le ha.pe hb.pe hc.pe hm, et_of (ev_chain sem_B0 sem_B0 ha.ev hb.ev hc.ev).b⟩
theorem t_leLt (ha : PEB K W X a ta f) (hb : PEB K W X b tb g) (hc : PEB K W X c tc h) (hm : lastMarks [.LtE, .Lt] [b, c] = false := by with_unfolding_all rfl) :
    PTv K W X (.Compare a [.LtE, .Lt] [b, c] pos) (tTest (tChain (rI0 fun i j => .bl (decide (i ≤ j))) (rI0 fun i j => .bl (decide (i < j))) ta tb tc)) (asB (eChain dLe dLt f g h)) :=
  ⟨pt_chain op_le op_lt ha.pe hb.pe hc.pe hm, et_of (ev_chain sem_B0 sem_B0 ha.ev hb.ev hc.ev).b⟩
variable {tA tB' : TT} {fA fB : En → Rs Bool} {rest : List Expr}
def bNot (f : En → Rs Bool) : En → Rs Bool := fun env => f env >>= fun b => .val (!b)
def bAnd (f g : En → Rs Bool) : En → Rs Bool := fun env => f env >>= fun b => if b = true then g env else .val false
def bOr (f g : En → Rs Bool) : En → Rs Bool := fun env => f env >>= fun b => if b = true then .val true else g env
theorem t_not (ha : PTv K W X a tA fA) : PTv K W X (.UnaryOp .Not a pos) (tNot tA) (bNot fA) := ⟨pt_not ha.pt, fun M env σ H rs Q p => ha.ev M env σ H rs _ (p.step fun b _ v H1 s1 r1 p1 => by
  subst r1
  exact p1 _ H1 (Same.refl _) rfl)⟩
theorem w_and1 (ha : PTv K W X a tA fA) : PWv K W X (.BoolOp .And [a] pos) tA fA := ⟨pw_and1 ha.pt, ha.ev⟩
theorem w_or1 (ha : PTv K W X a tA fA) : PWv K W X (.BoolOp .Or [a] pos) tA fA := ⟨pw_or1 ha.pt, ha.ev⟩
theorem w_and (ha : PTv K W X a tA fA) (hb : PWv K W X (.BoolOp .And (b :: rest) pos) tB' fB) : PWv K W X (.BoolOp .And (a :: b :: rest) pos) (tAnd tA tB') (bAnd fA fB) :=
  ⟨pw_and ha.pt hb.pw, fun M env σ H rs Q p => ha.ev M env σ H rs _ (p.step fun c _ v H1 s1 r1 p1 => by
    subst r1
    cases v with
    | true => exact hb.ev M env σ H1 (rs.up s1) Q p1
    | false => exact p1 _ H1 (Same.refl _) rfl)⟩
theorem w_or (ha : PTv K W X a tA fA) (hb : PWv K W X (.BoolOp .Or (b :: rest) pos) tB' fB) : PWv K W X (.BoolOp .Or (a :: b :: rest) pos) (tOr tA tB') (bOr fA fB) :=
  ⟨pw_or ha.pt hb.pw, fun M env σ H rs Q p => ha.ev M env σ H rs _ (p.step fun c _ v H1 s1 r1 p1 => by
    subst r1
    cases v with
    | false => exact hb.ev M env σ H1 (rs.up s1) Q p1
    | true => exact p1 _ H1 (Same.refl _) rfl)⟩
theorem t_w (h : PWv K W X a tA fA) : PTv K W X a tA fA := ⟨h.pw.pt, h.ev⟩
/-- as values -/
def eNot (f : EF) : EF := fun env => asB f env >>= fun b => .val (.bool (!b))
def eAnd (f g : EF) : EF := fun env => asB f env >>= fun b => if b = true then g env else .val (.bool false)
def eOr (f g : EF) : EF := fun env => asB f env >>= fun b => if b = true then .val (.bool true) else g env
theorem rs_assoc {α β γ : Type} (m : Rs α) (k : α → Rs β) (l : β → Rs γ) : (m >>= k) >>= l = m >>= fun a => k a >>= l := by cases m <;> rfl
theorem v_not (ha : PEB K W X a ta f) : PEv K W X (.UnaryOp .Not a pos) (tNotV ta) (eNot f) := ⟨pe_not ha.pe, fun M env σ H rs Q p => by
  unfold eNot asB at p
  rw [rs_assoc] at p
  exact ha.ev M env σ H rs _ (p.step fun d _ v H1 s1 r1 p1 => by
    split at p1
    · exact ⟨_, rb_bool r1, p1 _ H1 (Same.refl _) (rep_bool.mpr rfl)⟩
    · exact p1.elim)⟩
theorem v_one {op} (ha : PEv K W X a ta f) : PEv K W X (.BoolOp op [a] pos) ta f := ⟨pe_one ha.pe, ha.ev⟩
theorem v_and (ha : PEB K W X a ta f) (hb : PEv K W X (.BoolOp .And (b :: rest) pos) tb g) : PEv K W X (.BoolOp .And (a :: b :: rest) pos) (tAndV ta tb) (eAnd f g) := ⟨pe_and ha.pe hb.pe, fun M env σ H rs Q p => by
  unfold eAnd asB at p
  rw [rs_assoc] at p
  exact ha.ev M env σ H rs _ (p.step fun d _ v H1 s1 r1 p1 => by
    split at p1
    · rename_i b _
      refine ⟨b, rb_bool r1, ?_⟩
      cases b with
      | true => exact hb.ev M env σ H1 (rs.up s1) Q p1
      | false => exact p1 _ H1 (Same.refl _) (rep_bool.mpr rfl)
    · exact p1.elim)⟩
theorem v_or (ha : PEB K W X a ta f) (hb : PEv K W X (.BoolOp .Or (b :: rest) pos) tb g) : PEv K W X (.BoolOp .Or (a :: b :: rest) pos) (tOrV ta tb) (eOr f g) := ⟨pe_or ha.pe hb.pe, fun M env σ H rs Q p => by
  unfold eOr asB at p
  rw [rs_assoc] at p
  exact ha.ev M env σ H rs _ (p.step fun d _ v H1 s1 r1 p1 => by
    split at p1
    · rename_i b _
      refine ⟨b, rb_bool r1, ?_⟩
      cases b with
      | false => exact hb.ev M env σ H1 (rs.up s1) Q p1
      | true => exact p1 _ H1 (Same.refl _) (rep_bool.mpr rfl)
    · exact p1.elim)⟩
def eIf (t : En → Rs Bool) (f g : EF) : EF := fun env => t env >>= fun b => if b = true then f env else g env
theorem v_if (hc : PTv K W X c tA fA) (ha : PEv K W X a ta f) (hb : PEv K W X b tb g) : PEv K W X (.IfExp c a b pos) (tIf tA ta tb) (eIf fA f g) := ⟨pe_ifExp hc.pt ha.pe hb.pe, fun M env σ H rs Q p =>
  hc.ev M env σ H rs _ (p.step fun d _ v H1 s1 r1 p1 => by
    subst r1
    cases v with
    | true => exact ha.ev M env σ H1 (rs.up s1) Q p1
    | false => exact hb.ev M env σ H1 (rs.up s1) Q p1)⟩
end
end Ag


namespace Ag
open PySem L2
section
variable {K : PySem.W.Frag} {W : WT} {X : Cx} {a b c e : Expr} {es : List Expr} {ta tb tc te : TE} {tA tR : TA} {f g h : EF} {fs gs : En → Rs (List D)} {pos p : Pos} {x : Str}

/-! ### arguments -/
def aNil : En → Rs (List D) := fun _ => .val []
def aCons (f : EF) (g : En → Rs (List D)) : En → Rs (List D) := fun env => f env >>= fun d => g env >>= fun l => .val (d :: l)
theorem a_nil : PAv K W X [] tNil aNil := ⟨pa_nil, fun M env σ H rs Q p => p _ H (Same.refl H) repL_nil⟩
theorem a_cons (ha : PEv K W X e te f) (hr : PAv K W X es tR gs) (hs : starEach (e :: es) X.env = (false, eval e X.env) :: starEach es X.env := by rfl) : PAv K W X (e :: es) (tCons te tR) (aCons f gs) :=
  ⟨pa_cons ha.pe hr.pa hs, fun M env σ H rs Q p => ha.ev M env σ H rs _ (p.step fun d _ v H1 s1 r1 p1 => hr.ev M env σ H1 (rs.up s1) _ (p1.step fun l _ vs H2 s2 r2 p2 =>
    p2 _ H2 (Same.refl _) (repL_cons (r1.up (hid_grow s2)) r2)))⟩
theorem ab_nil : PAB K W X [] tNil aNil := ⟨pa_nil, fun M env σ H rs Q p => p _ H (Same.refl H) .nil⟩
theorem ab_cons (ha : PEB K W X e te f) (hr : PAB K W X es tR gs) (hs : starEach (e :: es) X.env = (false, eval e X.env) :: starEach es X.env := by rfl) : PAB K W X (e :: es) (tCons te tR) (aCons f gs) :=
  ⟨pa_cons ha.pe hr.pa hs, fun M env σ H rs Q p => ha.ev M env σ H rs _ (p.step fun d _ v H1 s1 r1 p1 => hr.ev M env σ H1 (rs.up s1) _ (p1.step fun l _ vs H2 s2 r2 p2 =>
    p2 _ H2 (Same.refl _) (.cons (r1.up s2) r2)))⟩
theorem ab1 {M : Addr → Prop} {H : Hp} {d : D} {vs : List V} (h : Paired (RB M H) [d] vs) : ∃ v, vs = [v] ∧ RB M H d v := by
  cases h with
  | cons h t => cases t; exact ⟨_, rfl, h⟩
theorem ab2 {M : Addr → Prop} {H : Hp} {d e : D} {vs : List V} (h : Paired (RB M H) [d, e] vs) : ∃ v w, vs = [v, w] ∧ RB M H d v ∧ RB M H e w := by
  cases h with
  | cons h t =>
    obtain ⟨w, rfl, q⟩ := ab1 t
    exact ⟨_, _, rfl, h, q⟩

/-! ### calls of built-ins -/
def CallSem (r : List V → Hp → VK → Prop) (g : List D → Rs D) : Prop := ∀ (M : Addr → Prop) (H : Hp) (ds : List D) (vs : List V) (Wx : Ec → Hp → Prop) (Q : VK), (∀ p, H p = none → ¬ M p) → Paired (RB M H) ds vs → Pst H Wx (fun d v H' => Rep (hid M H') d v) Q (g ds) → r vs H Q
def CallSemO (r : List V → Hp → VK → Prop) (g : List D → Rs (List D)) : Prop := ∀ (M : Addr → Prop) (H0 H : Hp) (ds : List D) (vs : List V) (Wx : Ec → Hp → Prop) (Q : VK), Same H0 H → (∀ p, H p = none → ¬ M p) → Paired (RB M H) ds vs → Pst H Wx (fun l v H' => RO M H0 l v H') Q (g ds) → r vs H Q
def eCB (q : List D → Rs D) (fs : En → Rs (List D)) : EF := fun env => fs env >>= q
def eCO (q : List D → Rs (List D)) (fs : En → Rs (List D)) : En → Rs (List D) := fun env => fs env >>= q
theorem ev_cb {r : List V → Hp → VK → Prop} {q : List D → Rs D} (s : CallSem r q) (ha : EvAB W tA fs) : Ev W (tCB r tA) (eCB q fs) := fun M env σ H rs Q p =>
  ha M env σ H rs _ (p.step fun ds _ vs H1 s1 r1 p1 => s M H1 ds vs _ Q (fun _ z => (rs.up s1).free z) r1 p1)
theorem ev_co {r : List V → Hp → VK → Prop} {q : List D → Rs (List D)} (s : CallSemO r q) (ha : EvAB W tA fs) : EvO W (tCB r tA) (eCO q fs) := fun M env σ H rs Q p =>
  ha M env σ H rs _ (p.step fun ds _ vs H1 s1 r1 p1 => s M H H1 ds vs _ Q s1 (fun _ z => (rs.up s1).free z) r1 p1)
section
variable {id T : String} {r : List V → Hp → VK → Prop} {q : List D → Rs D} {qo : List D → Rs (List D)}
theorem v_cb (hc : CallR X (.builtin id) r) (s : CallSem r q) (hg : Gl X x) (hm : X.mg x = none) (hv : bootBuiltins x = some (.builtin id)) (ha : PAB K W X (e :: es) tA fs) (hn : x ≠ "__name__") (hdb : (x == ("__debug__" : Str)) = false)
    (he : starEach (e :: es) X.env = (false, eval e X.env) :: starEach es X.env) (hpl : (backTo pos (starEach es X.env)).any (·.1) = false) : PEv K W X (.Call (.Name x p) (e :: es) [] pos) (tCB r tA) (eCB q fs) :=
  ⟨pe_callB hc hg hm hv ha.pa hn hdb he hpl, ev_cb s ha.ev⟩
theorem o_cb (hc : CallR X (.builtin id) r) (s : CallSemO r qo) (hg : Gl X x) (hm : X.mg x = none) (hv : bootBuiltins x = some (.builtin id)) (ha : PAB K W X (e :: es) tA fs) (hn : x ≠ "__name__") (hdb : (x == ("__debug__" : Str)) = false)
    (he : starEach (e :: es) X.env = (false, eval e X.env) :: starEach es X.env) (hpl : (backTo pos (starEach es X.env)).any (·.1) = false) : PEO K W X (.Call (.Name x p) (e :: es) [] pos) (tCB r tA) (eCO qo fs) :=
  ⟨pe_callB hc hg hm hv ha.pa hn hdb he hpl, ev_co s ha.ev⟩
theorem v_ct (hc : CallR X (.type T) r) (s : CallSem r q) (hg : Gl X x) (hm : X.mg x = none) (hv : bootBuiltins x = some (.type T)) (ha : PAB K W X (e :: es) tA fs) (hn : x ≠ "__name__") (hdb : (x == ("__debug__" : Str)) = false)
    (he : starEach (e :: es) X.env = (false, eval e X.env) :: starEach es X.env) (hpl : (backTo pos (starEach es X.env)).any (·.1) = false) : PEv K W X (.Call (.Name x p) (e :: es) [] pos) (tCB r tA) (eCB q fs) :=
  ⟨pe_callTy hc hg hm hv ha.pa hn hdb he hpl, ev_cb s ha.ev⟩
theorem o_ct (hc : CallR X (.type T) r) (s : CallSemO r qo) (hg : Gl X x) (hm : X.mg x = none) (hv : bootBuiltins x = some (.type T)) (ha : PAB K W X (e :: es) tA fs) (hn : x ≠ "__name__") (hdb : (x == ("__debug__" : Str)) = false)
    (he : starEach (e :: es) X.env = (false, eval e X.env) :: starEach es X.env) (hpl : (backTo pos (starEach es X.env)).any (·.1) = false) : PEO K W X (.Call (.Name x p) (e :: es) [] pos) (tCB r tA) (eCO qo fs) :=
  ⟨pe_callTy hc hg hm hv ha.pa hn hdb he hpl, ev_co s ha.ev⟩
end
/-! len -/
def dLen : List D → Rs D
  | [.list l] => .val (.int l.length)
  | [.tuple l] => .val (.int l.length)
  | [.str z] => if z.length ≤ 100000 then .val (.int z.length) else .stk
  | _ => .stk
def rLenA (K : PySem.W.Frag) : List V → Hp → VK → Prop := fun xs H Q => (∃ p ys, xs = [.ref p] ∧ (SqL K H p ys ∨ SqT K H p ys) ∧ Q (.int ys.length) H) ∨ (∃ z, xs = [.str z] ∧ z.length ≤ sizeLine ∧ Q (.int z.length) H)
theorem sem_len : CallSem (rLenA K) dLen := fun M H ds vs Wx Q hf r p => by
  unfold dLen at p
  split at p
  · obtain ⟨v, rfl, q⟩ := ab1 r
    obtain ⟨a, ws, e1, q1, q2⟩ := q.list
    exact .inl ⟨a, ws, by rw [e1], .inl (SqL.of q1), p _ H (Same.refl H) (rep_int.mpr (by rw [q2.len]))⟩
  · obtain ⟨v, rfl, q⟩ := ab1 r
    obtain ⟨a, ws, e1, q1, q2⟩ := rb_tup q
    exact .inl ⟨a, ws, by rw [e1], .inr (SqT.of q1), p _ H (Same.refl H) (rep_int.mpr (by rw [q2.len]))⟩
  · split at p
    · rename_i hz
      obtain ⟨v, rfl, q⟩ := ab1 r
      exact .inr ⟨_, by rw [rb_str q], szn hz, p _ H (Same.refl H) (rep_int.mpr rfl)⟩
    · exact p.elim
  · exact p.elim
theorem v_len (hm : X.mg "len" = none) (ha : PAB K W X [a] tA fs) (hK : X.K = K := by rfl) (hg : Gl X "len" := by rfl) (he : starEach (a :: []) X.env = (false, eval a X.env) :: starEach [] X.env := by rfl) (hpl : (backTo pos (starEach [] X.env)).any (·.1) = false := by rfl) :
    PEv K W X (.Call (.Name "len" p) [a] [] pos) (tCB (rLenA K) tA) (eCB dLen fs) := by
  subst hK
  exact v_cb (call_len_seq.or call_len_str) sem_len hg hm PySem.boot_len ha (by decide) (by decide) he hpl
/-! abs -/
def dAbs : List D → Rs D
  | [.int i] => .val (.int (if i < 0 then -i else i))
  | _ => .stk
theorem sem_abs : CallSem (fun xs H Q => ∃ i, xs = [.int i] ∧ Q (.int (if i < 0 then -i else i)) H) dAbs := fun M H ds vs Wx Q hf r p => by
  unfold dAbs at p
  split at p
  · obtain ⟨v, rfl, q⟩ := ab1 r
    exact ⟨_, by rw [rb_int q], p _ H (Same.refl H) (rep_int.mpr rfl)⟩
  · exact p.elim
theorem boot_abs' : bootBuiltins "abs" = some (.builtin "abs") := by decide +kernel
theorem v_abs (hm : X.mg "abs" = none) (ha : PAB K W X [a] tA fs) (hg : Gl X "abs" := by rfl) (he : starEach (a :: []) X.env = (false, eval a X.env) :: starEach [] X.env := by rfl) (hpl : (backTo pos (starEach [] X.env)).any (·.1) = false := by rfl) :
    PEv K W X (.Call (.Name "abs" p) [a] [] pos) (tCB (fun xs H Q => ∃ i, xs = [.int i] ∧ Q (.int (if i < 0 then -i else i)) H) tA) (eCB dAbs fs) :=
  v_cb call_abs sem_abs hg hm boot_abs' ha (by decide) (by decide) he hpl
/-! ints and bools in a list -/
def intsOf : List D → Option (List Int)
  | [] => some []
  | .int i :: l => (intsOf l).map (i :: ·)
  | _ => none
theorem intsOf_some : ∀ {l : List D} {ns : List Int}, intsOf l = some ns → l = ns.map .int
  | [], ns, h => by
    rw [intsOf] at h
    cases h
    rfl
  | d :: l, ns, h => by
    cases d with
    | int i =>
      rw [intsOf] at h
      cases e : intsOf l with
      | none =>
        rw [e] at h
        cases h
      | some r =>
        rw [e] at h
        cases h
        rw [intsOf_some e]
        rfl
    | _ => simp [intsOf] at h
@[simp] theorem intsOf_map (ns : List Int) : intsOf (ns.map .int) = some ns := by
  induction ns with
  | nil => rfl
  | cons n r ih =>
    rw [List.map_cons, intsOf, ih]
    rfl
def boolsOf : List D → Option (List Bool)
  | [] => some []
  | .bool i :: l => (boolsOf l).map (i :: ·)
  | _ => none
theorem boolsOf_some : ∀ {l : List D} {ns : List Bool}, boolsOf l = some ns → l = ns.map .bool
  | [], ns, h => by
    rw [boolsOf] at h
    cases h
    rfl
  | d :: l, ns, h => by
    cases d with
    | bool i =>
      rw [boolsOf] at h
      cases e : boolsOf l with
      | none =>
        rw [e] at h
        cases h
      | some r =>
        rw [e] at h
        cases h
        rw [boolsOf_some e]
        rfl
    | _ => simp [boolsOf] at h
@[simp] theorem boolsOf_map (ns : List Bool) : boolsOf (ns.map .bool) = some ns := by
  induction ns with
  | nil => rfl
  | cons n r ih =>
    rw [List.map_cons, boolsOf, ih]
    rfl
def ofO {α : Type} : Option α → Rs α
  | some a => .val a
  | none => .stk
theorem ofO_val {α : Type} {o : Option α} {a : α} (h : ofO o = .val a) : o = some a := by
  cases o with
  | none => cases h
  | some b => cases h; rfl
/-! sum, max, min, all, sorted -/
def maxI : List Int → Int
  | [] => 0
  | a :: l => l.foldl (fun m x => if m < x then x else m) a
def minI : List Int → Int
  | [] => 0
  | a :: l => l.foldl (fun m x => if x < m then x else m) a
theorem foldMax : ∀ (l : List Int) (a : Int), (l.foldl (fun m x => if m < x then x else m) a) ∈ a :: l ∧ ∀ y ∈ a :: l, y ≤ l.foldl (fun m x => if m < x then x else m) a
  | [], a => ⟨List.mem_cons_self, fun y h => by
    rw [List.mem_singleton] at h
    rw [h]
    exact Int.le_refl _⟩
  | b :: l, a => by
    rw [List.foldl_cons]
    obtain ⟨h1, h2⟩ := foldMax l (if a < b then b else a)
    have hab : a ≤ (if a < b then b else a) ∧ b ≤ (if a < b then b else a) := by split <;> omega
    have hmem : (if a < b then b else a) ∈ a :: b :: l := by split <;> simp
    refine ⟨?_, fun y hy => ?_⟩
    · rcases List.mem_cons.mp h1 with e | e
      · rw [e]
        exact hmem
      · exact List.mem_cons_of_mem _ (List.mem_cons_of_mem _ e)
    · have ht := h2 _ List.mem_cons_self
      rcases List.mem_cons.mp hy with e | e
      · subst e
        omega
      · rcases List.mem_cons.mp e with e | e
        · subst e
          omega
        · exact h2 y (List.mem_cons_of_mem _ e)
theorem foldMin : ∀ (l : List Int) (a : Int), (l.foldl (fun m x => if x < m then x else m) a) ∈ a :: l ∧ ∀ y ∈ a :: l, l.foldl (fun m x => if x < m then x else m) a ≤ y
  | [], a => ⟨List.mem_cons_self, fun y h => by
    rw [List.mem_singleton] at h
    rw [h]
    exact Int.le_refl _⟩
  | b :: l, a => by
    rw [List.foldl_cons]
    obtain ⟨h1, h2⟩ := foldMin l (if b < a then b else a)
    have hab : (if b < a then b else a) ≤ a ∧ (if b < a then b else a) ≤ b := by split <;> omega
    have hmem : (if b < a then b else a) ∈ a :: b :: l := by split <;> simp
    refine ⟨?_, fun y hy => ?_⟩
    · rcases List.mem_cons.mp h1 with e | e
      · rw [e]
        exact hmem
      · exact List.mem_cons_of_mem _ (List.mem_cons_of_mem _ e)
    · have ht := h2 _ List.mem_cons_self
      rcases List.mem_cons.mp hy with e | e
      · subst e
        omega
      · rcases List.mem_cons.mp e with e | e
        · subst e
          omega
        · exact h2 y (List.mem_cons_of_mem _ e)
theorem maxI_mem : ∀ {l : List Int}, l ≠ [] → maxI l ∈ l ∧ ∀ y ∈ l, y ≤ maxI l
  | [], h => absurd rfl h
  | a :: l, _ => foldMax l a
theorem minI_mem : ∀ {l : List Int}, l ≠ [] → minI l ∈ l ∧ ∀ y ∈ l, minI l ≤ y
  | [], h => absurd rfl h
  | a :: l, _ => foldMin l a
theorem maxI_eq {l : List Int} {m : Int} (h : m ∈ l) (g : ∀ y ∈ l, y ≤ m) : maxI l = m := by
  have n : l ≠ [] := fun z => by rw [z] at h; cases h
  obtain ⟨h1, h2⟩ := maxI_mem n
  have := h2 m h
  have := g _ h1
  omega
theorem minI_eq {l : List Int} {m : Int} (h : m ∈ l) (g : ∀ y ∈ l, m ≤ y) : minI l = m := by
  have n : l ≠ [] := fun z => by rw [z] at h; cases h
  obtain ⟨h1, h2⟩ := minI_mem n
  have := h2 m h
  have := g _ h1
  omega
def dSum : List D → Rs D
  | [.list l] => ofO (intsOf l) >>= fun ns => .val (.int ns.sum)
  | _ => .stk
def dMax : List D → Rs D
  | [.list l] => ofO (intsOf l) >>= fun ns => if ns ≠ [] then .val (.int (maxI ns)) else .stk
  | [.int i, .int j] => .val (.int (if j > i then j else i))
  | _ => .stk
def dMin : List D → Rs D
  | [.list l] => ofO (intsOf l) >>= fun ns => if ns ≠ [] then .val (.int (minI ns)) else .stk
  | [.int i, .int j] => .val (.int (if j < i then j else i))
  | _ => .stk
def dAll : List D → Rs D
  | [.list l] => ofO (boolsOf l) >>= fun ns => .val (.bool (ns.all id))
  | _ => .stk
theorem rb_ints {M : Addr → Prop} {H : Hp} {l : List D} {ns : List Int} {v : V} (h : RB M H (.list l) v) (e : intsOf l = some ns) : ∃ a, v = .ref a ∧ H a = some (.lst (ns.map V.int)) := by
  obtain ⟨a, vs, e1, q, r⟩ := h.list
  rw [intsOf_some e] at r
  rw [repL_ints.mp r] at q
  exact ⟨a, e1, q⟩
theorem rb_bools {M : Addr → Prop} {H : Hp} {l : List D} {ns : List Bool} {v : V} (h : RB M H (.list l) v) (e : boolsOf l = some ns) : ∃ a, v = .ref a ∧ H a = some (.lst (ns.map V.bl)) := by
  obtain ⟨a, vs, e1, q, r⟩ := h.list
  rw [boolsOf_some e] at r
  rw [repL_bools.mp r] at q
  exact ⟨a, e1, q⟩
theorem sem_sum : CallSem (rSum K) dSum := fun M H ds vs Wx Q hf r p => by
  unfold dSum at p
  split at p
  · obtain ⟨v, rfl, q⟩ := ab1 r
    rename_i l
    cases e : intsOf l with
    | none =>
      rw [e] at p
      exact p.elim
    | some ns =>
      rw [e] at p
      obtain ⟨a, e1, h⟩ := rb_ints q e
      exact ⟨a, ns, by rw [e1], SqL.of h, p _ H (Same.refl H) (rep_int.mpr rfl)⟩
  · exact p.elim
theorem sem_all : CallSem (rAll K) dAll := fun M H ds vs Wx Q hf r p => by
  unfold dAll at p
  split at p
  · obtain ⟨v, rfl, q⟩ := ab1 r
    rename_i l
    cases e : boolsOf l with
    | none =>
      rw [e] at p
      exact p.elim
    | some ns =>
      rw [e] at p
      obtain ⟨a, e1, h⟩ := rb_bools q e
      exact ⟨a, ns, by rw [e1], SqL.of h, p _ H (Same.refl H) (rep_bool.mpr rfl)⟩
  · exact p.elim
theorem sem_max : CallSem (fun xs H Q => rMax K xs H Q ∨ ∃ i j, xs = [.int i, .int j] ∧ Q (.int (if j > i then j else i)) H) dMax := fun M H ds vs Wx Q hf r p => by
  unfold dMax at p
  split at p
  · obtain ⟨v, rfl, q⟩ := ab1 r
    rename_i l
    cases e : intsOf l with
    | none =>
      rw [e] at p
      exact p.elim
    | some ns =>
      rw [e] at p
      obtain ⟨a, e1, h⟩ := rb_ints q e
      have p : Pst H Wx (fun d v H' => Rep (hid M H') d v) Q (if ns ≠ [] then .val (.int (maxI ns)) else .stk) := p
      split at p
      · rename_i hn
        exact .inl ⟨a, ns, by rw [e1], SqL.of h, List.length_pos_iff.mpr hn, fun m h1 h2 => p _ H (Same.refl H) (rep_int.mpr (by rw [maxI_eq h1 h2]))⟩
      · exact p.elim
  · obtain ⟨v, w, rfl, q1, q2⟩ := ab2 r
    exact .inr ⟨_, _, by rw [rb_int q1, rb_int q2], p _ H (Same.refl H) (rep_int.mpr rfl)⟩
  · exact p.elim
theorem sem_min : CallSem (fun xs H Q => rMin K xs H Q ∨ ∃ i j, xs = [.int i, .int j] ∧ Q (.int (if j < i then j else i)) H) dMin := fun M H ds vs Wx Q hf r p => by
  unfold dMin at p
  split at p
  · obtain ⟨v, rfl, q⟩ := ab1 r
    rename_i l
    cases e : intsOf l with
    | none =>
      rw [e] at p
      exact p.elim
    | some ns =>
      rw [e] at p
      obtain ⟨a, e1, h⟩ := rb_ints q e
      have p : Pst H Wx (fun d v H' => Rep (hid M H') d v) Q (if ns ≠ [] then .val (.int (minI ns)) else .stk) := p
      split at p
      · rename_i hn
        exact .inl ⟨a, ns, by rw [e1], SqL.of h, List.length_pos_iff.mpr hn, fun m h1 h2 => p _ H (Same.refl H) (rep_int.mpr (by rw [minI_eq h1 h2]))⟩
      · exact p.elim
  · obtain ⟨v, w, rfl, q1, q2⟩ := ab2 r
    exact .inr ⟨_, _, by rw [rb_int q1, rb_int q2], p _ H (Same.refl H) (rep_int.mpr rfl)⟩
  · exact p.elim
theorem boot_sum' : bootBuiltins "sum" = some (.builtin "sum") := by decide +kernel
theorem boot_max' : bootBuiltins "max" = some (.builtin "max") := by decide +kernel
theorem boot_min' : bootBuiltins "min" = some (.builtin "min") := by decide +kernel
theorem boot_all' : bootBuiltins "all" = some (.builtin "all") := by decide +kernel
theorem boot_sorted' : bootBuiltins "sorted" = some (.builtin "sorted") := by decide +kernel
theorem v_sum (hm : X.mg "sum" = none) (ha : PAB K W X [a] tA fs) (hc : X.calm = true := by rfl) (hK : X.K = K := by rfl) (hg : Gl X "sum" := by rfl) (he : starEach (a :: []) X.env = (false, eval a X.env) :: starEach [] X.env := by rfl) (hpl : (backTo pos (starEach [] X.env)).any (·.1) = false := by rfl) :
    PEv K W X (.Call (.Name "sum" p) [a] [] pos) (tCB (rSum K) tA) (eCB dSum fs) := by
  subst hK
  exact v_cb (cr_sum hc) sem_sum hg hm boot_sum' ha (by decide) (by decide) he hpl
theorem v_all (hm : X.mg "all" = none) (ha : PAB K W X [a] tA fs) (hc : X.calm = true := by rfl) (hK : X.K = K := by rfl) (hg : Gl X "all" := by rfl) (he : starEach (a :: []) X.env = (false, eval a X.env) :: starEach [] X.env := by rfl) (hpl : (backTo pos (starEach [] X.env)).any (·.1) = false := by rfl) :
    PEv K W X (.Call (.Name "all" p) [a] [] pos) (tCB (rAll K) tA) (eCB dAll fs) := by
  subst hK
  exact v_cb (cr_all hc) sem_all hg hm boot_all' ha (by decide) (by decide) he hpl
theorem v_max (hm : X.mg "max" = none) (ha : PAB K W X (a :: es) tA fs) (hc : X.calm = true := by rfl) (hK : X.K = K := by rfl) (hg : Gl X "max" := by rfl) (he : starEach (a :: es) X.env = (false, eval a X.env) :: starEach es X.env := by rfl) (hpl : (backTo pos (starEach es X.env)).any (·.1) = false := by rfl) :
    PEv K W X (.Call (.Name "max" p) (a :: es) [] pos) (tCB (fun xs H Q => rMax K xs H Q ∨ ∃ i j, xs = [.int i, .int j] ∧ Q (.int (if j > i then j else i)) H) tA) (eCB dMax fs) := by
  subst hK
  exact v_cb ((cr_max hc).or (call_max2 hc)) sem_max hg hm boot_max' ha (by decide) (by decide) he hpl
theorem v_min (hm : X.mg "min" = none) (ha : PAB K W X (a :: es) tA fs) (hc : X.calm = true := by rfl) (hK : X.K = K := by rfl) (hg : Gl X "min" := by rfl) (he : starEach (a :: es) X.env = (false, eval a X.env) :: starEach es X.env := by rfl) (hpl : (backTo pos (starEach es X.env)).any (·.1) = false := by rfl) :
    PEv K W X (.Call (.Name "min" p) (a :: es) [] pos) (tCB (fun xs H Q => rMin K xs H Q ∨ ∃ i j, xs = [.int i, .int j] ∧ Q (.int (if j < i then j else i)) H) tA) (eCB dMin fs) := by
  subst hK
  exact v_cb ((cr_min hc).or (call_min2 hc)) sem_min hg hm boot_min' ha (by decide) (by decide) he hpl
/-! sorted of ints -/
def insI (a : Int) : List Int → List Int
  | [] => [a]
  | b :: l => if a ≤ b then a :: b :: l else b :: insI a l
def isort : List Int → List Int
  | [] => []
  | a :: l => insI a (isort l)
theorem insI_perm (a : Int) : ∀ l : List Int, (insI a l).Perm (a :: l)
  | [] => .refl _
  | b :: l => by
    unfold insI
    split
    · exact .refl _
    · exact ((insI_perm a l).cons b).trans (.swap a b l)
theorem isort_perm : ∀ l : List Int, (isort l).Perm l
  | [] => .refl _
  | a :: l => (insI_perm a (isort l)).trans ((isort_perm l).cons a)
theorem insI_sorted (a : Int) : ∀ {l : List Int}, l.Pairwise (· ≤ ·) → (insI a l).Pairwise (· ≤ ·)
  | [], _ => List.pairwise_singleton _ _
  | b :: l, h => by
    unfold insI
    obtain ⟨h1, h2⟩ := List.pairwise_cons.mp h
    split
    · rename_i hab
      exact List.pairwise_cons.mpr ⟨fun y hy => by
        rcases List.mem_cons.mp hy with e | e
        · rw [e]
          exact hab
        · exact Int.le_trans hab (h1 y e), h⟩
    · rename_i hab
      exact List.pairwise_cons.mpr ⟨fun y hy => by
        rcases List.mem_cons.mp ((insI_perm a l).mem_iff.mp hy) with e | e
        · rw [e]
          omega
        · exact h1 y e, insI_sorted a h2⟩
theorem isort_sorted : ∀ l : List Int, (isort l).Pairwise (· ≤ ·)
  | [] => .nil
  | a :: l => insI_sorted a (isort_sorted l)
theorem sorted_uniq : ∀ {l m : List Int}, l.Perm m → l.Pairwise (· ≤ ·) → m.Pairwise (· ≤ ·) → l = m
  | [], m, h, _, _ => (List.nil_perm.mp h).symm
  | a :: l, [], h, _, _ => absurd h.length_eq (by simp)
  | a :: l, b :: m, h, h1, h2 => by
    obtain ⟨p1, q1⟩ := List.pairwise_cons.mp h1
    obtain ⟨p2, q2⟩ := List.pairwise_cons.mp h2
    have e : a = b := by
      have ha : a ∈ b :: m := h.mem_iff.mp List.mem_cons_self
      have hb : b ∈ a :: l := h.mem_iff.mpr List.mem_cons_self
      rcases List.mem_cons.mp ha with e | e
      · exact e
      · rcases List.mem_cons.mp hb with e' | e'
        · exact e'.symm
        · have := p2 a e
          have := p1 b e'
          omega
    subst e
    rw [sorted_uniq (List.Perm.cons_inv h) q1 q2]
def dSorted : List D → Rs (List D)
  | [.list l] => ofO (intsOf l) >>= fun ns => if ns.length < 64 then .val ((isort ns).map .int) else .stk
  | _ => .stk
theorem sem_sorted : CallSemO (rSorted K) dSorted := fun M H0 H ds vs Wx Q s0 hf r p => by
  unfold dSorted at p
  split at p
  · obtain ⟨v, rfl, q⟩ := ab1 r
    rename_i l
    cases e : intsOf l with
    | none =>
      rw [e] at p
      exact p.elim
    | some ns =>
      rw [e] at p
      obtain ⟨a, e1, h⟩ := rb_ints q e
      have p : Pst H Wx (fun l v H' => RO M H0 l v H') Q (if ns.length < 64 then .val ((isort ns).map .int) else .stk) := p
      split at p
      · rename_i hn
        refine ⟨a, ns, by rw [e1], SqL.of h, hn, fun ns' z h1 h2 hz => p _ _ (same_new hz) ?_⟩
        have e2 : ns' = isort ns := sorted_uniq (h1.trans (isort_perm ns).symm) h2 (isort_sorted ns)
        subst e2
        exact ro_new s0 hz (repL_ints.mpr rfl)
      · exact p.elim
  · exact p.elim
theorem o_sorted (hm : X.mg "sorted" = none) (ha : PAB K W X [a] tA fs) (hK : X.K = K := by rfl) (hg : Gl X "sorted" := by rfl) (he : starEach (a :: []) X.env = (false, eval a X.env) :: starEach [] X.env := by rfl) (hpl : (backTo pos (starEach [] X.env)).any (·.1) = false := by rfl) :
    PEO K W X (.Call (.Name "sorted" p) [a] [] pos) (tCB (rSorted K) tA) (eCO dSorted fs) := by
  subst hK
  exact o_cb cr_sorted sem_sorted hg hm boot_sorted' ha (by decide) (by decide) he hpl
/-! list(x), list(range(..)), tuple(x) -/
def dList : List D → Rs (List D)
  | [.list l] => .val l
  | [.tuple l] => .val l
  | _ => .stk
theorem sem_list : CallSemO (fun xs H Q => ∃ p ys, xs = [.ref p] ∧ (SqL K H p ys ∨ SqT K H p ys) ∧ ∀ l, H l = none → Q (.ref l) (upd H l (.lst ys))) dList := fun M H0 H ds vs Wx Q s0 hf r p => by
  unfold dList at p
  split at p
  · obtain ⟨v, rfl, q⟩ := ab1 r
    obtain ⟨a, ws, e1, q1, q2⟩ := q.list
    exact ⟨a, ws, by rw [e1], .inl (SqL.of q1), fun z hz => p _ _ (same_new hz) (ro_new s0 hz q2)⟩
  · obtain ⟨v, rfl, q⟩ := ab1 r
    obtain ⟨a, ws, e1, q1, q2⟩ := rb_tup q
    exact ⟨a, ws, by rw [e1], .inr (SqT.of q1), fun z hz => p _ _ (same_new hz) (ro_new s0 hz q2)⟩
  · exact p.elim
theorem boot_list' : bootBuiltins "list" = some (.type "list") := by decide +kernel
theorem boot_tuple' : bootBuiltins "tuple" = some (.type "tuple") := by decide +kernel
theorem o_list (hm : X.mg "list" = none) (ha : PAB K W X [a] tA fs) (hK : X.K = K := by rfl) (hg : Gl X "list" := by rfl) (he : starEach (a :: []) X.env = (false, eval a X.env) :: starEach [] X.env := by rfl) (hpl : (backTo pos (starEach [] X.env)).any (·.1) = false := by rfl) :
    PEO K W X (.Call (.Name "list" p) [a] [] pos) (tCB (fun xs H Q => ∃ p ys, xs = [.ref p] ∧ (SqL K H p ys ∨ SqT K H p ys) ∧ ∀ l, H l = none → Q (.ref l) (upd H l (.lst ys))) tA) (eCO dList fs) := by
  subst hK
  exact o_ct call_list_of sem_list hg hm boot_list' ha (by decide) (by decide) he hpl
def dTuple : List D → Rs D
  | [.list l] => .val (.tuple l)
  | [.tuple l] => .val (.tuple l)
  | _ => .stk
theorem sem_tuple : CallSem (fun xs H Q => ∃ p ys, xs = [.ref p] ∧ ((SqL K H p ys ∧ ∀ l, H l = none → Q (.ref l) (upd H l (.tup ys))) ∨ (SqT K H p ys ∧ Q (.ref p) H))) dTuple := fun M H ds vs Wx Q hf r p => by
  unfold dTuple at p
  split at p
  · obtain ⟨v, rfl, q⟩ := ab1 r
    obtain ⟨a, ws, e1, q1, q2⟩ := q.list
    exact ⟨a, ws, by rw [e1], .inl ⟨SqL.of q1, fun z hz => p _ _ (same_new hz) (rep_new_t hz (hf _ hz) q2)⟩⟩
  · obtain ⟨v, rfl, q⟩ := ab1 r
    obtain ⟨a, ws, e1, q1, q2⟩ := rb_tup q
    exact ⟨a, ws, by rw [e1], .inr ⟨SqT.of q1, e1 ▸ p _ H (Same.refl H) (rb_tup' q)⟩⟩
  · exact p.elim
theorem v_tuple (hm : X.mg "tuple" = none) (ha : PAB K W X [a] tA fs) (hK : X.K = K := by rfl) (hg : Gl X "tuple" := by rfl) (he : starEach (a :: []) X.env = (false, eval a X.env) :: starEach [] X.env := by rfl) (hpl : (backTo pos (starEach [] X.env)).any (·.1) = false := by rfl) :
    PEv K W X (.Call (.Name "tuple" p) [a] [] pos) (tCB (fun xs H Q => ∃ p ys, xs = [.ref p] ∧ ((SqL K H p ys ∧ ∀ l, H l = none → Q (.ref l) (upd H l (.tup ys))) ∨ (SqT K H p ys ∧ Q (.ref p) H))) tA) (eCB dTuple fs) := by
  subst hK
  exact v_ct call_tuple_of sem_tuple hg hm boot_tuple' ha (by decide) (by decide) he hpl
end
end Ag


namespace Ag
open PySem L2
section
variable {K : PySem.W.Frag} {W : WT} {X : Cx} {a b c e : Expr} {es : List Expr} {ta tb tc te : TE} {tA tR : TA} {f g h : EF} {fs gs : En → Rs (List D)} {pos p p2 : Pos} {x : Str}

/-! ### list(range(..)) -/
def rgI (a b : Int) : List Int := (List.range (b - a).toNat).map fun i => a + (i : Nat)
theorem rgV_eq (a b : Int) : rgV a b = (rgI a b).map V.int := by
  unfold rgV rgI
  rw [List.map_map]
  rfl
def rgL (a b : Int) : Rs (List D) := if -1000000 ≤ a ∧ a ≤ 1000000 ∧ -1000000 ≤ b ∧ b ≤ 1000000 then .val ((rgI a b).map .int) else .stk
def eRg1 (f : EF) : En → Rs (List D) := fun env => f env >>= fun d => match d with
  | .int j => rgL 0 j
  | _ => .stk
def eRg2 (f g : EF) : En → Rs (List D) := fun env => f env >>= fun d => g env >>= fun e => match d, e with
  | .int i, .int j => rgL i j
  | _, _ => .stk
theorem rg_fin {M : Addr → Prop} {H0 H : Hp} {Wx : Ec → Hp → Prop} {Q : VK} {i j : Int} (s0 : Same H0 H) (p : Pst H Wx (fun l v H' => RO M H0 l v H') Q (rgL i j)) :
    RgOk i j ∧ ∀ q, H q = none → Q (.ref q) (upd H q (.lst (rgV i j))) := by
  unfold rgL at p
  split at p
  · rename_i hb
    refine ⟨⟨by omega, by omega, by omega, by omega, by omega⟩, fun q hq => p _ _ (same_new hq) ?_⟩
    rw [rgV_eq]
    exact ro_new s0 hq (repL_ints.mpr rfl)
  · exact p.elim
theorem o_range1 (hl : X.mg "list" = none) (hm : X.mg "range" = none) (ha : PEB K W X a ta f) (hc : X.calm = true := by rfl) (hgl : Gl X "list" := by rfl) (hg : Gl X "range" := by rfl) (na : starEach [a] X.env = (false, eval a X.env) :: starEach [] X.env := by rfl)
    (nb : starEach [Expr.Call (.Name "range" p) [a] [] p2] X.env = (false, eval (Expr.Call (.Name "range" p) [a] [] p2) X.env) :: starEach [] X.env := by rfl) {pp : Pos} :
    PEO K W X (.Call (.Name "list" pp) [.Call (.Name "range" p) [a] [] p2] [] pos) (tLstRg (tRg1 ta)) (eRg1 f) := by
  refine ⟨pe_listRg hc hgl hl (prg_1 hg hm ha.pe na) nb, fun M env σ H rs Q pp => ha.ev M env σ H rs _ (pp.step fun d _ v H1 s1 r1 p1 => ?_)⟩
  split at p1
  · exact ⟨_, rb_int r1, rg_fin s1 p1⟩
  · exact p1.elim
theorem o_range2 (hl : X.mg "list" = none) (hm : X.mg "range" = none) (ha : PEB K W X a ta f) (hb : PEB K W X b tb g) (hc : X.calm = true := by rfl) (hgl : Gl X "list" := by rfl) (hg : Gl X "range" := by rfl)
    (na : starEach [a, b] X.env = (false, eval a X.env) :: starEach [b] X.env := by rfl) (na2 : starEach [b] X.env = (false, eval b X.env) :: starEach [] X.env := by rfl)
    (hpl2 : (backTo p2 (starEach [b] X.env)).any (·.1) = false := by rfl) (nb : starEach [Expr.Call (.Name "range" p) [a, b] [] p2] X.env = (false, eval (Expr.Call (.Name "range" p) [a, b] [] p2) X.env) :: starEach [] X.env := by rfl) {pp : Pos} :
    PEO K W X (.Call (.Name "list" pp) [.Call (.Name "range" p) [a, b] [] p2] [] pos) (tLstRg (tRg2 ta tb)) (eRg2 f g) := by
  refine ⟨pe_listRg hc hgl hl (prg_2 hg hm ha.pe hb.pe na na2 hpl2) nb, fun M env σ H rs Q pp => ha.ev M env σ H rs _ (pp.step fun d _ v H1 s1 r1 p1 => hb.ev M env σ H1 (rs.up s1) _ (p1.step fun e _ w H2 s2 r2 p2 => ?_))⟩
  split at p2
  · exact ⟨_, _, rb_int r1, rb_int r2, rg_fin (s1.trans s2) p2⟩
  · exact p2.elim

/-! ### isinstance -/
def tyD : D → String
  | .none => "NoneType"
  | .bool _ => "bool"
  | .int _ => "int"
  | .str _ => "str"
  | .list _ => "list"
  | .tuple _ => "tuple"
  | .dict _ => "dict"
theorem tyD_of {M : Addr → Prop} {H : Hp} {d : D} {v : V} (h : RB M H d v) : TyX K H v (.type (tyD d)) := by
  cases d with
  | none => rw [rb_none h]; exact .base .non
  | bool b => rw [rb_bool h]; exact .base (.bl _)
  | int b => rw [rb_int h]; exact .base (.int _)
  | str b => rw [rb_str h]; exact .base (.str _)
  | list l => obtain ⟨_, _, e, q, _⟩ := h.list; rw [e]; exact .base (.lst q)
  | tuple l => obtain ⟨_, _, e, q, _⟩ := rb_tup h; rw [e]; exact .base (.tup q)
  | dict l =>
    rcases h with h | ⟨_, _, _, e, _⟩
    · rw [Rep] at h; exact h.elim
    · cases e
def isD (T : String) : D → Bool
  | .none => false
  | .bool _ => T == "bool" || T == "int"
  | .int _ => T == "int"
  | .str _ => T == "str"
  | .list _ => T == "list"
  | .tuple _ => T == "tuple"
  | .dict _ => T == "dict"
theorem kit_int (d : D) : kitB (tyD d) "int" = some (isD "int" d) := by cases d <;> simp only [tyD, isD] <;> decide +kernel
theorem kit_bool (d : D) : kitB (tyD d) "bool" = some (isD "bool" d) := by cases d <;> simp only [tyD, isD] <;> decide +kernel
theorem kit_str (d : D) : kitB (tyD d) "str" = some (isD "str" d) := by cases d <;> simp only [tyD, isD] <;> decide +kernel
theorem kit_list (d : D) : kitB (tyD d) "list" = some (isD "list" d) := by cases d <;> simp only [tyD, isD] <;> decide +kernel
theorem kit_tuple (d : D) : kitB (tyD d) "tuple" = some (isD "tuple" d) := by cases d <;> simp only [tyD, isD] <;> decide +kernel
theorem boot_isinstance' : bootBuiltins "isinstance" = some (.builtin "isinstance") := by decide +kernel
def eIsi (T : String) (f : EF) : EF := fun env => f env >>= fun d => .val (.bool (isD T d))
theorem v_isi (T : String) {xT : Str} {pT : Pos} (hT : ∀ d, kitB (tyD d) T = some (isD T d)) (hm : X.mg "isinstance" = none) (hmT : X.mg xT = none) (ha : PEB K W X a ta f) (hvT : bootBuiltins xT = some (.type T) := by decide +kernel) (hgT : Gl X xT := by rfl) (hnT : xT ≠ "__name__" := by decide) (hdT : (xT == ("__debug__" : Str)) = false := by decide)
    (hK : X.K = K := by rfl) (hg : Gl X "isinstance" := by rfl) (he : starEach (a :: [Expr.Name xT pT]) X.env = (false, eval a X.env) :: starEach [Expr.Name xT pT] X.env := by rfl) (he2 : starEach (Expr.Name xT pT :: []) X.env = (false, eval (Expr.Name xT pT) X.env) :: starEach [] X.env := by rfl)
    (hpl : (backTo pos (starEach [Expr.Name xT pT] X.env)).any (·.1) = false := by rfl) : PEv K W X (.Call (.Name "isinstance" p) [a, .Name xT pT] [] pos) (tCB (rIsi K) (tCons ta (tCons (tC (.ty T)) tNil))) (eIsi T f) := by
  subst hK
  refine ⟨pe_callB call_isi hg hm boot_isinstance' (pa_cons ha.pe (pa_cons (pe_bltn hgT hmT hvT rfl hnT hdT) pa_nil he2) he) (by decide) (by decide) he hpl, fun M env σ H rs Q pp => ha.ev M env σ H rs _ (pp.step fun d _ v H1 s1 r1 p1 => ?_)⟩
  exact ⟨v, .ty T, .type (tyD d), .type T, isD T d, rfl, .ty T, tyD_of r1, kit_ty (hT d), p1 _ H1 (Same.refl _) (rep_bool.mpr rfl)⟩

/-! ### places, slices, displays -/
def dIx : D → D → Rs D := fun d e => match d, e with
  | .list l, .int i => ofO (atI l i)
  | .tuple l, .int i => ofO (atI l i)
  | .str z, .int i => if z.length ≤ 100000 then ofO (atI z.cps.toList i) >>= fun c => .val (.str ⟨#[c]⟩) else .stk
  | _, _ => .stk
theorem atI_rep {F : Hp} {l : List D} {vs : List V} {i : Int} {d : D} (r : RepL F l vs) (h : atI l i = some d) : ∃ v, atI vs i = some v ∧ Rep F d v := by
  unfold atI at h ⊢
  rw [← r.len]
  cases e : ixN l.length i with
  | none =>
    rw [e] at h
    cases h
  | some j =>
    rw [e] at h
    exact r.get h
theorem sem_ix : BinSem (fun x y H Q => rIxL K x y H Q ∨ (rIxT K x y H Q ∨ rIxS x y H Q)) dIx := fun M H d e x y Wx Q hf h1 h2 p => by
  unfold dIx at p
  split at p
  · rename_i l i
    obtain ⟨a, vs, e1, q, r⟩ := h1.list
    cases hi : atI l i with
    | none =>
      rw [hi] at p
      exact p.elim
    | some d =>
      rw [hi] at p
      obtain ⟨v, hv, rv⟩ := atI_rep r hi
      exact .inl ⟨a, vs, i, v, e1, rb_int h2, SqL.of q, hv, p v H (Same.refl H) rv⟩
  · rename_i l i
    obtain ⟨a, vs, e1, q, r⟩ := rb_tup h1
    cases hi : atI l i with
    | none =>
      rw [hi] at p
      exact p.elim
    | some d =>
      rw [hi] at p
      obtain ⟨v, hv, rv⟩ := atI_rep r hi
      exact .inr (.inl ⟨a, vs, i, v, e1, rb_int h2, SqT.of q, hv, p v H (Same.refl H) rv⟩)
  · split at p
    · rename_i z i hz
      cases hi : atI z.cps.toList i with
      | none =>
        rw [hi] at p
        exact p.elim
      | some d =>
        rw [hi] at p
        exact .inr (.inr ⟨z, i, d, rb_str h1, rb_int h2, szn hz, hi, p _ H (Same.refl H) (rep_str.mpr rfl)⟩)
    · exact p.elim
  · exact p.elim
theorem v_ix (ha : PEB K W X a ta f) (hb : PEB K W X b tb g) (hK : X.K = K := by rfl) (hs : PlainIx b := by exact fun _ _ => rfl) : PEv K W X (.Subscript a b pos) (tOp (fun x y H Q => rIxL K x y H Q ∨ (rIxT K x y H Q ∨ rIxS x y H Q)) ta tb) (eBin dIx f g) := by
  subst hK
  exact ⟨pe_ix ix_seq ha.pe hb.pe hs, ev_bin sem_ix ha.ev hb.ev⟩
structure POv (K : PySem.W.Frag) (W : WT) (X : Cx) (e : Option Expr) (to : TO) (f : En → Rs (Option Int)) : Prop where
  po : PO X e to
  ev : ∀ M env σ H, RSt M env σ H → ∀ Q : Option Int → Hp → Prop, Pst H (fun c H' => W c σ H') (fun o v H' => v = o) Q (f env) → to σ H Q
def oNo : En → Rs (Option Int) := fun _ => .val none
def oYes (f : EF) : En → Rs (Option Int) := fun env => f env >>= fun d => match d with
  | .int i => .val (some i)
  | _ => .stk
theorem po_no : POv K W X none tNoPart oNo := ⟨po_none, fun M env σ H rs Q p => p _ H (Same.refl H) rfl⟩
theorem po_yes (ha : PEB K W X a ta f) : POv K W X (some a) (tPart ta) (oYes f) := ⟨po_some ha.pe, fun M env σ H rs Q p => ha.ev M env σ H rs _ (p.step fun d _ v H1 s1 r1 p1 => by
  split at p1
  · exact ⟨_, rb_int r1, p1 _ H1 (Same.refl _) rfl⟩
  · exact p1.elim)⟩
def cutD {α : Type} (xs : List α) (lo hi : Option Int) : List α := (xs.drop (HT.sIx xs.length 0 lo)).take (HT.sIx xs.length xs.length hi - HT.sIx xs.length 0 lo)
theorem cut_rep {F : Hp} {l : List D} {vs : List V} {lo hi : Option Int} (r : RepL F l vs) : RepL F (cutD l lo hi) (cutV vs lo hi) := by
  unfold cutD cutV
  rw [← r.len]
  exact (r.drop _).take _
def eCut (f : EF) (l h : En → Rs (Option Int)) : En → Rs (List D) := fun env => f env >>= fun d => l env >>= fun lo => h env >>= fun hi => match d with
  | .list xs => .val (cutD xs lo hi)
  | _ => .stk
theorem o_cut {lo hi : Option Expr} {tl th : TO} {fl fh : En → Rs (Option Int)} (ha : PEB K W X a ta f) (hl : POv K W X lo tl fl) (hh : POv K W X hi th fh) (hK : X.K = K := by rfl) :
    PEO K W X (.Subscript a (.Slice lo hi none p2) pos) (tSl (rSlL K) ta tl th) (eCut f fl fh) := by
  subst hK
  refine ⟨pe_slice sl_list ha.pe hl.po hh.po, fun M env σ H rs Q p => ha.ev M env σ H rs _ (p.step fun d _ v H1 s1 r1 p1 => hl.ev M env σ H1 (rs.up s1) _ (p1.step fun o1 _ v1 H2 s2 e1 p2 => hh.ev M env σ H2 ((rs.up s1).up s2) _ (p2.step fun o2 _ v2 H3 s3 e2 p3 => ?_)))⟩
  subst e1 e2
  split at p3
  · obtain ⟨a, vs, e1, q, r⟩ := ((r1.up s2).up s3).list
    exact ⟨a, vs, e1, SqL.of q, fun z hz => p3 _ _ (same_new hz) (ro_new ((s1.trans s2).trans s3) hz (cut_rep r))⟩
  · exact p3.elim
def eRev (f : EF) : En → Rs (List D) := fun env => f env >>= fun d => match d with
  | .list xs => .val xs.reverse
  | _ => .stk
theorem o_rev {k : Nat} {p1 p2 p3 : Pos} (ha : PEB K W X a ta f) (hK : X.K = K := by rfl) : PEO K W X (.Subscript a (.Slice none none (some (.UnaryOp .USub (.Constant (.int 1) k p1) p2)) p3) pos) (tRevL K ta) (eRev f) := by
  subst hK
  refine ⟨pe_revL ha.pe, fun M env σ H rs Q p => ha.ev M env σ H rs _ (p.step fun d _ v H1 s1 r1 p1 => ?_)⟩
  split at p1
  · obtain ⟨a, vs, e1, q, r⟩ := r1.list
    exact ⟨a, vs, e1, SqL.of q, fun z hz => p1 _ _ (same_new hz) (ro_new s1 hz r.rev)⟩
  · exact p1.elim
def eNeg (f : EF) : EF := fun env => f env >>= fun d => match d with
  | .int i => .val (.int (-i))
  | _ => .stk
theorem v_neg (ha : PEB K W X a ta f) : PEv K W X (.UnaryOp .USub a pos) (tUn (rU fun i => .int (-i)) ta) (eNeg f) := ⟨pe_un un_neg ha.pe, fun M env σ H rs Q p => ha.ev M env σ H rs _ (p.step fun d _ v H1 s1 r1 p1 => by
  split at p1
  · exact ⟨_, rb_int r1, p1 _ H1 (Same.refl _) (rep_int.mpr rfl)⟩
  · exact p1.elim)⟩
def eTup (fs : En → Rs (List D)) : EF := fun env => fs env >>= fun l => if l.length ≤ 100000 then .val (.tuple l) else .stk
theorem v_tup {k} (ha : PAv K W X es tA fs) : PEv K W X (.Tuple es k pos) (tTup tA) (eTup fs) := ⟨pe_tup ha.pa, fun M env σ H rs Q p => ha.ev M env σ H rs _ (p.step fun l _ vs H1 s1 r1 p1 => by
  split at p1
  · rename_i hz
    exact ⟨by rw [← r1.len]; exact szn hz, fun z hz' => p1 _ _ (same_new hz') (rep_new_t hz' ((rs.up s1).free hz') r1)⟩
  · exact p1.elim)⟩
def eLst (fs : En → Rs (List D)) : En → Rs (List D) := fun env => fs env >>= fun l => if l.length ≤ 100000 then .val l else .stk
theorem o_lst (ha : PAv K W X es tA fs) : PEO K W X (.List es pos) (tLst tA) (eLst fs) := ⟨pe_lst ha.pa, fun M env σ H rs Q p => ha.ev M env σ H rs _ (p.step fun l _ vs H1 s1 r1 p1 => by
  split at p1
  · rename_i hz
    exact ⟨by rw [← r1.len]; exact szn hz, fun z hz' => p1 _ _ (same_new hz') (ro_new s1 hz' r1)⟩
  · exact p1.elim)⟩

/-! ### xs.index(y), xs.count(y) -/
def dIndex : List D → D → Rs D := fun l y => if (SeqAt.shaped (.list l) && SeqAt.shaped y) = true then (ofO (l.findIdx? fun z => PyData.eqv z y) >>= fun j => .val (.int j)) else .stk
theorem findIdx_at {α : Type} {q : α → Bool} : ∀ {l : List α} {j : Nat}, l.findIdx? q = some j → (∃ z, l[j]? = some z ∧ q z = true) ∧ ∀ (m : Nat) z, m < j → l[m]? = some z → q z = false
  | [], j, h => by simp at h
  | a :: l, j, h => by
    rw [List.findIdx?_cons] at h
    cases e : q a with
    | true =>
      rw [e] at h
      have h : some 0 = some j := h
      cases h
      exact ⟨⟨a, rfl, e⟩, fun m z hm => absurd hm (Nat.not_lt_zero _)⟩
    | false =>
      rw [e] at h
      have h : (l.findIdx? q).map (· + 1) = some j := by simpa using h
      cases e2 : l.findIdx? q with
      | none =>
        rw [e2] at h
        cases h
      | some i =>
        rw [e2] at h
        cases h
        obtain ⟨h1, h2⟩ := findIdx_at e2
        refine ⟨by simpa using h1, fun m z hm hz => ?_⟩
        cases m with
        | zero =>
          have : a = z := by simpa using hz
          rw [← this]
          exact e
        | succ m => exact h2 m z (Nat.lt_of_succ_lt_succ hm) (by simpa using hz)
def eMt (q : List D → D → Rs D) (f g : EF) : EF := fun env => f env >>= fun d => match d with
  | .list l => g env >>= fun e => q l e
  | _ => .stk
section
variable {k : Nat} {apos cpos : Pos}
theorem tyV_list {H : Hp} {z : Addr} {vs : List V} (h : H z = some (.lst vs)) : tyV K "list" (.ref z) H := .inl ⟨rfl, vs, SqL.of h⟩
theorem v_index (hr : Room k X.A) (ha : PEB K W X a ta f) (hb : PEB K W X b tb g) (hK : X.K = K := by rfl) (hbase : attributeBase a "index" X.env (eval a X.env) = eval a X.env := by rfl) (hfew : ((backTo cpos (starEach [b] X.env)).all (fun x => !x.1) && (backToKw cpos (keywordEach [] X.env)).all (fun x => x.1.isSome) && decide ([b].length + ([] : List Keyword).length + (if ([] : List Keyword).isEmpty then 0 else 1) < 30)) = true := by rfl)
    (hline : (apos.endLine == cpos.line) = true := by rfl) (hs : starEach (b :: []) X.env = (false, eval b X.env) :: starEach [] X.env := by rfl) (hplain : (backTo cpos (starEach [] X.env)).any (·.1) = false := by rfl) :
    PEv K W X (.Call (.Attribute a "index" apos) [b] [] cpos) (tBM K "list" (rIndexD K) ta (tCons tb tNil)) (eMt dIndex f g) := by
  subst hK
  refine ⟨pe_bm PySem.F.plainAttrs_list PySem.F.slot_list_index PySem.F.type_list_index (mt_indexD (room65 hr)) ha.pe (pa_cons hb.pe pa_nil hs) hbase hfew hline hs hplain, fun M env σ H rs Q p => ?_⟩
  refine ha.ev M env σ H rs _ (p.step fun d _ v H1 s1 r1 p1 => ?_)
  split at p1
  · rename_i l _
    obtain ⟨z0, vs0, e0, q0, _⟩ := r1.list
    refine ⟨by rw [e0]; exact tyV_list q0, hb.ev M env σ H1 (rs.up s1) _ (p1.step fun y _ w H2 s2 r2 p2 => ?_)⟩
    unfold dIndex at p2
    split at p2
    · rename_i hs
      rw [Bool.and_eq_true] at hs
      cases e : l.findIdx? (fun z => PyData.eqv z y) with
      | none =>
        rw [e] at p2
        exact p2.elim
      | some j =>
        rw [e] at p2
        obtain ⟨⟨z, hz, hq⟩, hno⟩ := findIdx_at e
        obtain ⟨a, vs, e1, q, r⟩ := (r1.up s2).list
        subst e1
        exact ⟨a, w, y, l, j, z, rfl, rfl, (r1.up s2).dp, r2.dp, hs.1, hs.2, hz, hq, fun m z' hm hz' => hno m z' hm hz', p2 _ H2 (Same.refl _) (rep_int.mpr rfl)⟩
    · exact p2.elim
  · exact p1.elim
def dCount : List D → D → Rs D := fun l y => match y with
  | .int i => ofO (intsOf l) >>= fun ns => .val (.int (ns.count i))
  | _ => .stk
theorem v_count (ha : PEB K W X a ta f) (hb : PEB K W X b tb g) (hK : X.K = K := by rfl) (hbase : attributeBase a "count" X.env (eval a X.env) = eval a X.env := by rfl) (hfew : ((backTo cpos (starEach [b] X.env)).all (fun x => !x.1) && (backToKw cpos (keywordEach [] X.env)).all (fun x => x.1.isSome) && decide ([b].length + ([] : List Keyword).length + (if ([] : List Keyword).isEmpty then 0 else 1) < 30)) = true := by rfl)
    (hline : (apos.endLine == cpos.line) = true := by rfl) (hs : starEach (b :: []) X.env = (false, eval b X.env) :: starEach [] X.env := by rfl) (hplain : (backTo cpos (starEach [] X.env)).any (·.1) = false := by rfl) :
    PEv K W X (.Call (.Attribute a "count" apos) [b] [] cpos) (tBM K "list" (rCntI K) ta (tCons tb tNil)) (eMt dCount f g) := by
  subst hK
  refine ⟨pe_bm PySem.F.plainAttrs_list PySem.F.slot_list_count PySem.F.type_list_count mt_lcount ha.pe (pa_cons hb.pe pa_nil hs) hbase hfew hline hs hplain, fun M env σ H rs Q p => ?_⟩
  refine ha.ev M env σ H rs _ (p.step fun d _ v H1 s1 r1 p1 => ?_)
  split at p1
  · rename_i l _
    obtain ⟨z0, vs0, e0, q0, _⟩ := r1.list
    refine ⟨by rw [e0]; exact tyV_list q0, hb.ev M env σ H1 (rs.up s1) _ (p1.step fun y _ w H2 s2 r2 p2 => ?_)⟩
    unfold dCount at p2
    split at p2
    · cases e : intsOf l with
      | none =>
        rw [e] at p2
        exact p2.elim
      | some ns =>
        rw [e] at p2
        obtain ⟨a, e1, h⟩ := rb_ints (r1.up s2) e
        exact ⟨a, ns, _, e1, by rw [rb_int r2], SqL.of h, p2 _ H2 (Same.refl _) (rep_int.mpr rfl)⟩
    · exact p2.elim
  · exact p1.elim
end
end
end Ag


namespace Ag
open PySem L2
/-! ### what is walked -/
structure Walk (B F0 : Hp) (J : It) (ds : List D) : Prop where
  stop : ∀ H', Same B H' → J.stop ds.length H'
  go : ∀ H' (i : Nat) d, Same B H' → ds[i]? = some d → J.go i H'
  yld : ∀ H' (i : Nat) d x H'' (M' : Addr → Prop), Same B H' → Same F0 (hid M' H') → (∀ p, H' p = none → ¬ M' p) → ds[i]? = some d → J.yld i H' x H'' → Same H' H'' ∧ Rep (hid M' H'') d x
theorem Walk.mono {B B' F0 : Hp} {J : It} {ds : List D} (w : Walk B F0 J ds) (s : Same B B') : Walk B' F0 J ds :=
  ⟨fun H' e => w.stop H' (s.trans e), fun H' i d e => w.go H' i d (s.trans e), fun H' i d x H'' M' e => w.yld H' i d x H'' M' (s.trans e)⟩
def EvI (W : WT) (wi : TI) (f : En → Rs (List D)) : Prop := ∀ M env σ H, RSt M env σ H → ∀ R : It → Hp → Prop, Pst H (fun c H' => W c σ H') (fun ds J H1 => Walk (hid M H1) (hid M H1) J ds) R (f env) → wi σ H R
def EvIB (W : WT) (wi : TI) (f : En → Rs (List D)) : Prop := ∀ M env σ H, RSt M env σ H → ∀ R : It → Hp → Prop, Pst H (fun c H' => W c σ H') (fun ds J H1 => Walk H1 (hid M H1) J ds) R (f env) → wi σ H R
structure PIv (K : PySem.W.Frag) (W : WT) (X : Cx) (tg e : Expr) (wi : TI) (f : En → Rs (List D)) : Prop where
  pi : PI X tg e wi
  ev : EvI W wi f
structure PIB (K : PySem.W.Frag) (W : WT) (X : Cx) (tg e : Expr) (wi : TI) (f : En → Rs (List D)) : Prop where
  pi : PI X tg e wi
  ev : EvIB W wi f
section
variable {K : PySem.W.Frag} {W : WT} {X : Cx} {a b c e tg : Expr} {es : List Expr} {ta tb tc te : TE} {tA tR : TA} {f g h : EF} {fs gs : En → Rs (List D)} {pos p p2 : Pos} {x : Str} {wi : TI}
theorem PIv.bb (h : PIv K W X tg e wi fs) : PIB K W X tg e wi fs := ⟨h.pi, fun M env σ H rs R p => h.ev M env σ H rs R (p.imp fun _ _ _ _ w => w.mono hid_same)⟩
def asL (f : EF) : En → Rs (List D) := fun env => f env >>= fun d => match d with
  | .list l => .val l
  | _ => .stk
def asT (f : EF) : En → Rs (List D) := fun env => f env >>= fun d => match d with
  | .tuple l => .val l
  | _ => .stk
theorem walk_list {B F0 : Hp} {a : Addr} {vs : List V} {ds : List D} (hB : B a = some (.lst vs)) (r : RepL F0 ds vs) : Walk B F0 (Itl K a) ds where
  stop := fun H' s => ⟨vs, SqL.of (s _ _ hB), by rw [r.len]; exact Nat.le_refl _⟩
  go := fun H' i d s hd => by
    obtain ⟨v, hv, _⟩ := r.get hd
    exact ⟨vs, v, SqL.of (s _ _ hB), hv⟩
  yld := fun H' i d x H'' M' s s0 hf hd hy => by
    obtain ⟨v, hv, q⟩ := r.get hd
    obtain ⟨rfl, hy⟩ := hy
    have e := hy vs (SqL.of (s _ _ hB))
    rw [hv] at e
    cases e
    exact ⟨Same.refl _, q.up s0⟩
theorem walk_tup {B F0 : Hp} {a : Addr} {vs : List V} {ds : List D} (hB : B a = some (.tup vs)) (r : RepL F0 ds vs) : Walk B F0 (Itt K a) ds where
  stop := fun H' s => ⟨vs, SqT.of (s _ _ hB), by rw [r.len]; exact Nat.le_refl _⟩
  go := fun H' i d s hd => by
    obtain ⟨v, hv, _⟩ := r.get hd
    exact ⟨vs, v, SqT.of (s _ _ hB), hv⟩
  yld := fun H' i d x H'' M' s s0 hf hd hy => by
    obtain ⟨v, hv, q⟩ := r.get hd
    obtain ⟨rfl, hy⟩ := hy
    have e := hy vs (SqT.of (s _ _ hB))
    rw [hv] at e
    cases e
    exact ⟨Same.refl _, q.up s0⟩
theorem i_list (ha : PEv K W X a ta f) (hK : X.K = K := by rfl) : PIv K W X tg a (iList K ta) (asL f) := by
  subst hK
  refine ⟨pi_list ha.pe, fun M env σ H rs R p => ha.ev M env σ H rs _ (p.step fun d _ v H1 s1 r1 p1 => ?_)⟩
  split at p1
  · obtain ⟨z, vs, e1, q, r⟩ := rep_list.mp r1
    exact ⟨z, e1, ⟨vs, SqL.of (hid_same _ _ q)⟩, p1 _ H1 (Same.refl _) (walk_list q r)⟩
  · exact p1.elim
theorem ib_list (ha : PEB K W X a ta f) (hK : X.K = K := by rfl) : PIB K W X tg a (iList K ta) (asL f) := by
  subst hK
  refine ⟨pi_list ha.pe, fun M env σ H rs R p => ha.ev M env σ H rs _ (p.step fun d _ v H1 s1 r1 p1 => ?_)⟩
  split at p1
  · obtain ⟨z, vs, e1, q, r⟩ := r1.list
    exact ⟨z, e1, ⟨vs, SqL.of q⟩, p1 _ H1 (Same.refl _) (walk_list q r)⟩
  · exact p1.elim
theorem i_tup (ha : PEv K W X a ta f) (hK : X.K = K := by rfl) : PIv K W X tg a (iTup K ta) (asT f) := by
  subst hK
  refine ⟨pi_tup ha.pe, fun M env σ H rs R p => ha.ev M env σ H rs _ (p.step fun d _ v H1 s1 r1 p1 => ?_)⟩
  split at p1
  · obtain ⟨z, vs, e1, q, r⟩ := rep_tup.mp r1
    exact ⟨z, e1, ⟨vs, SqT.of (hid_same _ _ q)⟩, p1 _ H1 (Same.refl _) (walk_tup q r)⟩
  · exact p1.elim
/-! ranges -/
theorem rgI_get {lo hi : Int} {i : Nat} (h : i < (hi - lo).toNat) : (rgI lo hi)[i]? = some (lo + (i : Nat)) := by
  unfold rgI
  rw [List.getElem?_map, List.getElem?_range h]
  rfl
theorem rgI_len (lo hi : Int) : (rgI lo hi).length = (hi - lo).toNat := by
  unfold rgI
  rw [List.length_map, List.length_range]
theorem map_get_int {ns : List Int} {i : Nat} {d : D} (h : (ns.map PyData.int)[i]? = some d) : ∃ n, ns[i]? = some n ∧ d = .int n := by
  rw [List.getElem?_map] at h
  cases e : ns[i]? with
  | none =>
    rw [e] at h
    cases h
  | some n =>
    rw [e] at h
    cases h
    exact ⟨n, rfl, rfl⟩
theorem walk_rng {B F0 : Hp} (lo hi : Int) : Walk B F0 (Itr lo (hi - lo).toNat) ((rgI lo hi).map .int) where
  stop := fun H' s => by
    show (hi - lo).toNat ≤ _
    rw [List.length_map, rgI_len]
    exact Nat.le_refl _
  go := fun H' i d s hd => by
    obtain ⟨n, hn, _⟩ := map_get_int hd
    have := (List.getElem?_eq_some_iff.mp hn).1
    rw [rgI_len] at this
    exact this
  yld := fun H' i d x H'' M' s s0 hf hd hy => by
    obtain ⟨n, hn, rfl⟩ := map_get_int hd
    have hl := (List.getElem?_eq_some_iff.mp hn).1
    rw [rgI_len] at hl
    rw [rgI_get hl] at hn
    cases hn
    obtain ⟨rfl, rfl⟩ := hy
    exact ⟨Same.refl _, rep_int.mpr rfl⟩
theorem i_rng1 (hm : X.mg "range" = none) (ha : PEB K W X a ta f) (hg : Gl X "range" := by rfl) (na : starEach (a :: []) X.env = (false, eval a X.env) :: starEach [] X.env := by rfl) (hs : starEach [a] X.env = [(false, eval a X.env)] := by rfl) :
    PIv K W X tg (.Call (.Name "range" p) [a] [] pos) (iRng1 (tCons ta tNil)) (eRg1 f) := by
  refine ⟨pi_range1 hg hm (pa_cons ha.pe pa_nil na) hs, fun M env σ H rs R p => ha.ev M env σ H rs _ (p.step fun d _ v H1 s1 r1 p1 => ?_)⟩
  split at p1
  · rename_i j _
    unfold rgL at p1
    split at p1
    · refine ⟨j, by rw [rb_int r1], by omega, by omega, p1 _ H1 (Same.refl _) ?_⟩
      have e : j.toNat = (j - 0).toNat := by rw [Int.sub_zero]
      rw [e]
      exact walk_rng 0 j
    · exact p1.elim
  · exact p1.elim
theorem i_rng2 (hm : X.mg "range" = none) (ha : PEB K W X a ta f) (hb : PEB K W X b tb g) (hg : Gl X "range" := by rfl) (na : starEach (a :: [b]) X.env = (false, eval a X.env) :: starEach [b] X.env := by rfl) (nb : starEach (b :: []) X.env = (false, eval b X.env) :: starEach [] X.env := by rfl)
    (hs : starEach [a, b] X.env = [(false, eval a X.env), (false, eval b X.env)] := by rfl) (hs2 : starEach [b] X.env = [(false, eval b X.env)] := by rfl) :
    PIv K W X tg (.Call (.Name "range" p) [a, b] [] pos) (iRng2 (tCons ta (tCons tb tNil))) (eRg2 f g) := by
  refine ⟨pi_range2 hg hm (pa_cons ha.pe (pa_cons hb.pe pa_nil nb) na) hs hs2, fun M env σ H rs R p => ha.ev M env σ H rs _ (p.step fun d _ v H1 s1 r1 p1 => hb.ev M env σ H1 (rs.up s1) _ (p1.step fun e _ w H2 s2 r2 p2 => ?_))⟩
  split at p2
  · rename_i i j _ _
    unfold rgL at p2
    split at p2
    · exact ⟨i, j, by rw [rb_int r1, rb_int r2], by omega, p2 _ H2 (Same.refl _) (walk_rng i j)⟩
    · exact p2.elim
  · exact p2.elim
def dnI (i j : Int) : List Int := (List.range (i - j).toNat).map fun k => i + (k : Nat) * (-1)
theorem walk_dn {B F0 : Hp} (i j : Int) : Walk B F0 (Itc i (-1) (i - j).toNat) ((dnI i j).map .int) where
  stop := fun H' s => by
    show (i - j).toNat ≤ _
    rw [List.length_map, dnI, List.length_map, List.length_range]
    exact Nat.le_refl _
  go := fun H' k d s hd => by
    obtain ⟨n, hn, _⟩ := map_get_int hd
    have := (List.getElem?_eq_some_iff.mp hn).1
    rw [dnI, List.length_map, List.length_range] at this
    exact this
  yld := fun H' k d x H'' M' s s0 hf hd hy => by
    obtain ⟨n, hn, rfl⟩ := map_get_int hd
    have hl := (List.getElem?_eq_some_iff.mp hn).1
    rw [dnI, List.length_map, List.length_range] at hl
    rw [dnI, List.getElem?_map, List.getElem?_range hl] at hn
    cases hn
    obtain ⟨rfl, rfl⟩ := hy
    exact ⟨Same.refl _, rep_int.mpr rfl⟩
def eRgD (f g h : EF) : En → Rs (List D) := fun env => f env >>= fun d => g env >>= fun e => h env >>= fun z => match d, e, z with
  | .int i, .int j, .int k => if k = -1 ∧ -1000000 ≤ i ∧ i ≤ 1000000 ∧ -1000000 ≤ j ∧ j ≤ 1000000 then .val ((dnI i j).map .int) else .stk
  | _, _, _ => .stk
theorem i_rng3 (hm : X.mg "range" = none) (ha : PEB K W X a ta f) (hb : PEB K W X b tb g) (hc : PEB K W X c tc h) (hg : Gl X "range" := by rfl) (na : starEach (a :: [b, c]) X.env = (false, eval a X.env) :: starEach [b, c] X.env := by rfl) (nb : starEach (b :: [c]) X.env = (false, eval b X.env) :: starEach [c] X.env := by rfl)
    (nc : starEach (c :: []) X.env = (false, eval c X.env) :: starEach [] X.env := by rfl) (hpl : (backTo pos (starEach [b, c] X.env)).any (·.1) = false := by rfl) :
    PIv K W X tg (.Call (.Name "range" p) [a, b, c] [] pos) (iRng3 (tCons ta (tCons tb (tCons tc tNil)))) (eRgD f g h) := by
  refine ⟨pi_range3 hg hm (pa_cons ha.pe (pa_cons hb.pe (pa_cons hc.pe pa_nil nc) nb) na) na hpl, fun M env σ H rs R p => ha.ev M env σ H rs _ (p.step fun d _ v H1 s1 r1 p1 => hb.ev M env σ H1 (rs.up s1) _ (p1.step fun e _ w H2 s2 r2 p2 => hc.ev M env σ H2 ((rs.up s1).up s2) _ (p2.step fun z _ u H3 s3 r3 p3 => ?_)))⟩
  split at p3
  · split at p3
    · rename_i i j k _ _ _ hk
      obtain ⟨rfl, hk⟩ := hk
      exact ⟨_, _, -1, _, by rw [rb_int r1, rb_int r2, rb_int r3], RgC.neg (by omega) (by omega) (by omega) (by omega), p3 _ H3 (Same.refl _) (walk_dn _ _)⟩
    · exact p3.elim
  · exact p3.elim
/-! zip, enumerate -/
def zipD : List D → List D → List D
  | a :: l, b :: m => .tuple [a, b] :: zipD l m
  | _, _ => []
theorem zipD_len : ∀ l m : List D, (zipD l m).length = min l.length m.length
  | [], _ => by simp [zipD]
  | _ :: _, [] => by simp [zipD]
  | a :: l, b :: m => by
    rw [zipD, List.length_cons, zipD_len l m, List.length_cons, List.length_cons]
    omega
theorem zipD_get : ∀ {l m : List D} {i : Nat} {d : D}, (zipD l m)[i]? = some d → ∃ x y, l[i]? = some x ∧ m[i]? = some y ∧ d = .tuple [x, y]
  | [], _, i, d, h => by simp [zipD] at h
  | _ :: _, [], i, d, h => by simp [zipD] at h
  | a :: l, b :: m, 0, d, h => by
    rw [zipD] at h
    have h : some (PyData.tuple [a, b]) = some d := h
    cases h
    exact ⟨a, b, rfl, rfl, rfl⟩
  | a :: l, b :: m, i + 1, d, h => by
    rw [zipD] at h
    obtain ⟨x, y, h1, h2, h3⟩ := zipD_get (l := l) (m := m) (i := i) (by simpa using h)
    exact ⟨x, y, by simpa using h1, by simpa using h2, h3⟩
theorem walk_zip {B F0 : Hp} {a b : Addr} {vs ws : List V} {ds es : List D} (hA : B a = some (.lst vs)) (hB : B b = some (.lst ws)) (r : RepL F0 ds vs) (q : RepL F0 es ws) : Walk B F0 (Itz K a b) (zipD ds es) where
  stop := fun H' s => ⟨vs, ws, SqL.of (s _ _ hA), SqL.of (s _ _ hB), by
    rw [zipD_len, r.len, q.len]
    omega⟩
  go := fun H' i d s hd => by
    obtain ⟨x, y, h1, h2, _⟩ := zipD_get hd
    obtain ⟨v, hv, _⟩ := r.get h1
    obtain ⟨w, hw, _⟩ := q.get h2
    exact ⟨vs, ws, v, w, SqL.of (s _ _ hA), SqL.of (s _ _ hB), hv, hw⟩
  yld := fun H' i d x H'' M' s s0 hf hd hy => by
    obtain ⟨dx, dy, h1, h2, rfl⟩ := zipD_get hd
    obtain ⟨v, hv, rv⟩ := r.get h1
    obtain ⟨w, hw, rw'⟩ := q.get h2
    obtain ⟨T, x1, y1, rfl, hT, rfl, k1, k2⟩ := hy
    have e1 := k1 vs (SqL.of (s _ _ hA))
    have e2 := k2 ws (SqL.of (s _ _ hB))
    rw [hv] at e1
    rw [hw] at e2
    cases e1
    cases e2
    exact ⟨same_new hT, rep_new_t hT (hf _ hT) (repL_cons (rv.up s0) (repL_cons (rw'.up s0) repL_nil))⟩
def enumD : Nat → List D → List D
  | _, [] => []
  | n, a :: l => .tuple [.int n, a] :: enumD (n + 1) l
theorem enumD_len : ∀ (n : Nat) (l : List D), (enumD n l).length = l.length
  | _, [] => rfl
  | n, a :: l => by rw [enumD, List.length_cons, enumD_len, List.length_cons]
theorem enumD_get : ∀ {l : List D} {n i : Nat} {d : D}, (enumD n l)[i]? = some d → ∃ x, l[i]? = some x ∧ d = .tuple [.int ((n + i : Nat) : Int), x]
  | [], n, i, d, h => by simp [enumD] at h
  | a :: l, n, 0, d, h => by
    rw [enumD] at h
    have h : some (PyData.tuple [.int n, a]) = some d := h
    cases h
    exact ⟨a, rfl, rfl⟩
  | a :: l, n, i + 1, d, h => by
    rw [enumD] at h
    obtain ⟨x, h1, h2⟩ := enumD_get (l := l) (n := n + 1) (i := i) (by simpa using h)
    refine ⟨x, by simpa using h1, ?_⟩
    rw [h2, Nat.add_right_comm, Nat.add_assoc]
theorem walk_enum {B F0 : Hp} {a : Addr} {vs : List V} {ds : List D} (hA : B a = some (.lst vs)) (r : RepL F0 ds vs) : Walk B F0 (Ite K a) (enumD 0 ds) where
  stop := fun H' s => ⟨vs, SqL.of (s _ _ hA), by
    rw [enumD_len, r.len]
    exact Nat.le_refl _⟩
  go := fun H' i d s hd => by
    obtain ⟨x, h1, _⟩ := enumD_get hd
    obtain ⟨v, hv, _⟩ := r.get h1
    exact ⟨vs, v, SqL.of (s _ _ hA), hv⟩
  yld := fun H' i d x H'' M' s s0 hf hd hy => by
    obtain ⟨dx, h1, rfl⟩ := enumD_get hd
    obtain ⟨v, hv, rv⟩ := r.get h1
    obtain ⟨T, x1, rfl, hT, rfl, k1⟩ := hy
    have e1 := k1 vs (SqL.of (s _ _ hA))
    rw [hv] at e1
    cases e1
    rw [Nat.zero_add]
    exact ⟨same_new hT, rep_new_t hT (hf _ hT) (repL_cons (rep_int.mpr rfl) (repL_cons (rv.up s0) repL_nil))⟩
def eZip (f g : EF) : En → Rs (List D) := fun env => f env >>= fun d => g env >>= fun e => match d, e with
  | .list l, .list m => .val (zipD l m)
  | _, _ => .stk
def eEnum (f : EF) : En → Rs (List D) := fun env => f env >>= fun d => match d with
  | .list l => .val (enumD 0 l)
  | _ => .stk
section
variable {elts : List Expr} {kk : Nat} {tpos : Pos}
theorem i_zip (hm : X.mg "zip" = none) (ha : PEv K W X a ta f) (hb : PEv K W X b tb g) (hK : X.K = K := by rfl) (hg : Gl X "zip" := by rfl) (na : starEach (a :: [b]) X.env = (false, eval a X.env) :: starEach [b] X.env := by rfl) (nb : starEach (b :: []) X.env = (false, eval b X.env) :: starEach [] X.env := by rfl)
    (hpl : (backTo pos (starEach [b] X.env)).any (·.1) = false := by rfl) : PIv K W X (.Tuple elts kk tpos) (.Call (.Name "zip" p) [a, b] [] pos) (iZip K (tCons ta (tCons tb tNil))) (eZip f g) := by
  subst hK
  refine ⟨pi_zip hg hm (pa_cons ha.pe (pa_cons hb.pe pa_nil nb) na) na hpl, fun M env σ H rs R p => ha.ev M env σ H rs _ (p.step fun d _ v H1 s1 r1 p1 => hb.ev M env σ H1 (rs.up s1) _ (p1.step fun e _ w H2 s2 r2 p2 => ?_))⟩
  split at p2
  · obtain ⟨z, vs, e1, q1, w1⟩ := rep_list.mp (r1.up (hid_grow s2))
    obtain ⟨y, ws, e2, q2, w2⟩ := rep_list.mp r2
    exact ⟨z, y, vs, ws, by rw [e1, e2], SqL.of (hid_same _ _ q1), SqL.of (hid_same _ _ q2), p2 _ H2 (Same.refl _) (walk_zip q1 q2 w1 w2)⟩
  · exact p2.elim
theorem ib_zip (hm : X.mg "zip" = none) (ha : PEB K W X a ta f) (hb : PEB K W X b tb g) (hK : X.K = K := by rfl) (hg : Gl X "zip" := by rfl) (na : starEach (a :: [b]) X.env = (false, eval a X.env) :: starEach [b] X.env := by rfl) (nb : starEach (b :: []) X.env = (false, eval b X.env) :: starEach [] X.env := by rfl)
    (hpl : (backTo pos (starEach [b] X.env)).any (·.1) = false := by rfl) : PIB K W X (.Tuple elts kk tpos) (.Call (.Name "zip" p) [a, b] [] pos) (iZip K (tCons ta (tCons tb tNil))) (eZip f g) := by
  subst hK
  refine ⟨pi_zip hg hm (pa_cons ha.pe (pa_cons hb.pe pa_nil nb) na) na hpl, fun M env σ H rs R p => ha.ev M env σ H rs _ (p.step fun d _ v H1 s1 r1 p1 => hb.ev M env σ H1 (rs.up s1) _ (p1.step fun e _ w H2 s2 r2 p2 => ?_))⟩
  split at p2
  · obtain ⟨z, vs, e1, q1, w1⟩ := (r1.up s2).list
    obtain ⟨y, ws, e2, q2, w2⟩ := r2.list
    exact ⟨z, y, vs, ws, by rw [e1, e2], SqL.of q1, SqL.of q2, p2 _ H2 (Same.refl _) (walk_zip q1 q2 w1 w2)⟩
  · exact p2.elim
theorem i_enum (hm : X.mg "enumerate" = none) (ha : PEv K W X a ta f) (hK : X.K = K := by rfl) (hg : Gl X "enumerate" := by rfl) (na : starEach (a :: []) X.env = (false, eval a X.env) :: starEach [] X.env := by rfl) (hs : starEach [a] X.env = [(false, eval a X.env)] := by rfl) :
    PIv K W X (.Tuple elts kk tpos) (.Call (.Name "enumerate" p) [a] [] pos) (iEnum K (tCons ta tNil)) (eEnum f) := by
  subst hK
  refine ⟨pi_enum hg hm (pa_cons ha.pe pa_nil na) hs, fun M env σ H rs R p => ha.ev M env σ H rs _ (p.step fun d _ v H1 s1 r1 p1 => ?_)⟩
  split at p1
  · obtain ⟨z, vs, e1, q, r⟩ := rep_list.mp r1
    exact ⟨z, vs, by rw [e1], SqL.of (hid_same _ _ q), p1 _ H1 (Same.refl _) (walk_enum q r)⟩
  · exact p1.elim
theorem ib_enum (hm : X.mg "enumerate" = none) (ha : PEB K W X a ta f) (hK : X.K = K := by rfl) (hg : Gl X "enumerate" := by rfl) (na : starEach (a :: []) X.env = (false, eval a X.env) :: starEach [] X.env := by rfl) (hs : starEach [a] X.env = [(false, eval a X.env)] := by rfl) :
    PIB K W X (.Tuple elts kk tpos) (.Call (.Name "enumerate" p) [a] [] pos) (iEnum K (tCons ta tNil)) (eEnum f) := by
  subst hK
  refine ⟨pi_enum hg hm (pa_cons ha.pe pa_nil na) hs, fun M env σ H rs R p => ha.ev M env σ H rs _ (p.step fun d _ v H1 s1 r1 p1 => ?_)⟩
  split at p1
  · obtain ⟨z, vs, e1, q, r⟩ := r1.list
    exact ⟨z, vs, by rw [e1], SqL.of q, p1 _ H1 (Same.refl _) (walk_enum q r)⟩
  · exact p1.elim
end

/-! ### targets: names, tuples of names -/
def setE (env : En) (l : List (Nat × D)) : En := l.foldl (fun e p => e.set p.1 (.fz p.2)) env
def setV (σ : L2.St) (l : List (Nat × V)) : L2.St := l.foldl (fun e p => e.set p.1 (some p.2)) σ
def Pr (F : Hp) (l : List (Nat × D)) (w : List (Nat × V)) : Prop := Paired (fun (p : Nat × D) (q : Nat × V) => p.1 = q.1 ∧ Rep F p.2 q.2) l w
def TgS (g : TG) (t : D → Rs (List (Nat × D))) : Prop := ∀ (M : Addr → Prop) (H : Hp) (d : D) (v : V) (σ : L2.St) (Q : L2.St → Hp → Prop) (l : List (Nat × D)), Rep (hid M H) d v → t d = .val l → (∀ w, Pr (hid M H) l w → Q (setV σ w) H) → g v σ H Q
structure PGv (X : Cx) (tg : Expr) (g : TG) (t : D → Rs (List (Nat × D))) : Prop where
  pg : PG X tg g
  ev : TgS g t
def tgN (i : Nat) : D → Rs (List (Nat × D)) := fun d => .val [(i, d)]
theorem g_name {i : Nat} (hN : X.N.Nodup) (hi : X.N[i]? = some x) (hx : Loc X.env.scope x := by first | exact Or.inl rfl | exact Or.inr rfl) (hf : X.fn x = true ∨ X.env.scope.names.lookup x = some .local := by first | exact .inl rfl | exact .inr rfl | assumption) : PGv X (.Name x pos) (gName i) (tgN i) :=
  ⟨pg_name hN hi hx hf, fun M H d v σ Q l r e k => by
    cases e
    exact k [(i, v)] (.cons ⟨rfl, r⟩ .nil)⟩
structure PGsv (X : Cx) (tg : List Expr) (g : TGs) (js : List Nat) : Prop where
  pg : PGs X tg g
  ev : ∀ (vs : List V) (σ : L2.St) (H : Hp) (Q : L2.St → Hp → Prop), vs.length = js.length → Q (setV σ (js.zip vs)) H → g vs σ H Q
theorem gs_nil : PGsv X [] gNil [] := ⟨pgs_nil, fun vs σ H Q hl q => ⟨List.eq_nil_of_length_eq_zero hl, q⟩⟩
theorem gs_cons {i : Nat} {js : List Nat} {tgs : List Expr} {gg : TGs} (hN : X.N.Nodup) (hi : X.N[i]? = some x) (h : PGsv X tgs gg js) (hx : Loc X.env.scope x := by first | exact Or.inl rfl | exact Or.inr rfl) (hf : X.fn x = true ∨ X.env.scope.names.lookup x = some .local := by first | exact .inl rfl | exact .inr rfl | assumption)
    (hs : (assignEach (Expr.Name x pos :: tgs) X.env).map (·.2) = assign (.Name x pos) X.env :: (assignEach tgs X.env).map (·.2) := by rfl) : PGsv X (.Name x pos :: tgs) (gCons (gName i) gg) (i :: js) :=
  ⟨pgs_cons (pg_name hN hi hx hf) h.pg hs, fun vs σ H Q hl q => by
    cases vs with
    | nil => cases hl
    | cons v r => exact ⟨v, r, rfl, h.ev r _ H Q (by simpa using hl) q⟩⟩
def tgT (js : List Nat) : D → Rs (List (Nat × D)) := fun d => match d with
  | .tuple l => if l.length = js.length then .val (js.zip l) else .stk
  | _ => .stk
theorem pr_zip {F : Hp} : ∀ {js : List Nat} {l : List D} {vs : List V}, RepL F l vs → Pr F (js.zip l) (js.zip vs)
  | [], _, _, _ => .nil
  | j :: js, [], vs, r => by
    rw [r.of_nil]
    exact .nil
  | j :: js, d :: l, vs, r => by
    obtain ⟨v, w, rfl, h1, h2⟩ := r.of_cons
    exact .cons ⟨rfl, h1⟩ (pr_zip h2)
theorem g_tup {js : List Nat} {tgs : List Expr} {gg : TGs} {kk : Nat} (h : PGsv X tgs gg js) (hK : X.K = K := by rfl) (hc : X.calm = true := by rfl) (hn : (assignEach tgs X.env).length = js.length := by rfl) (hst : (assignEach tgs X.env).findIdx? (·.1) = none := by rfl) :
    PGv X (.Tuple tgs kk pos) (gTup K js.length gg) (tgT js) := by
  subst hK
  refine ⟨pg_tup hc h.pg hn hst, fun M H d v σ Q l r e k => ?_⟩
  unfold tgT at e
  split at e
  · split at e
    · rename_i l' hl'
      cases e
      obtain ⟨z, vs, e1, q, w⟩ := rep_tup.mp r
      have hlen := w.len
      exact ⟨z, vs, e1, SqT.of (hid_same _ _ q), by omega, h.ev vs σ H Q (by omega) (k _ (pr_zip w))⟩
    · cases e
  · cases e
theorem RSt.set {M : Addr → Prop} {env : En} {σ : L2.St} {H : Hp} {i : Nat} {d : D} {v : V} (rs : RSt M env σ H) (r : Rep (hid M H) d v) : RSt M (env.set i (.fz d)) (σ.set i (some v)) H := by
  refine ⟨rs.al, fun j s hs => ?_⟩
  rw [List.getElem?_set] at hs
  by_cases e : i = j
  · subst e
    rw [if_pos rfl] at hs
    split at hs
    · rename_i hl
      cases hs
      obtain ⟨o, ho, _⟩ := rs.sl i _ (List.getElem?_eq_getElem hl)
      have hl' := (List.getElem?_eq_some_iff.mp ho).1
      exact ⟨some v, List.getElem?_set_self hl', v, rfl, r⟩
    · cases hs
  · rw [if_neg e] at hs
    obtain ⟨o, ho, q⟩ := rs.sl j s hs
    exact ⟨o, by rw [List.getElem?_set_ne e]; exact ho, q⟩
theorem RSt.setAll {M : Addr → Prop} {H : Hp} : ∀ {l : List (Nat × D)} {w : List (Nat × V)} {env : En} {σ : L2.St}, RSt M env σ H → Pr (hid M H) l w → RSt M (setE env l) (setV σ w) H
  | _, _, _, _, rs, .nil => rs
  | _, _, _, _, rs, .cons (a := a) (b := b) ⟨h1, h2⟩ t => by
    show RSt M (setE (_ : En) _) (setV _ _) H
    rw [setE, setV, List.foldl_cons, List.foldl_cons, h1]
    exact RSt.setAll (rs.set h2) t

/-! ### comprehensions -/
def wipeE (env : En) : List Nat → En
  | [] => env
  | v :: vs => (wipeE env vs).set v .no
theorem RSt.wipe {M : Addr → Prop} {env : En} {σ : L2.St} {H : Hp} (rs : RSt M env σ H) : ∀ vs : List Nat, RSt M (wipeE env vs) (L2.wipe σ vs) H
  | [] => rs
  | v :: vs => by
    have ih := RSt.wipe rs vs
    refine ⟨rs.al, fun j s hs => ?_⟩
    rw [wipeE, List.getElem?_set] at hs
    rw [L2.wipe]
    by_cases e : v = j
    · subst e
      rw [if_pos rfl] at hs
      split at hs
      · rename_i hl
        cases hs
        obtain ⟨o, ho, _⟩ := ih.sl v _ (List.getElem?_eq_getElem hl)
        have hl' := (List.getElem?_eq_some_iff.mp ho).1
        exact ⟨none, List.getElem?_set_self hl', trivial⟩
      · cases hs
    · rw [if_neg e] at hs
      obtain ⟨o, ho, q⟩ := ih.sl j s hs
      exact ⟨o, by rw [List.getElem?_set_ne e]; exact ho, q⟩
theorem RSt.more {M : Addr → Prop} {env : En} {σ : L2.St} {H H' : Hp} {z : Addr} {o : HO} (rs : RSt M env σ H) (s : Same H H') (hz : H z = none) (hz' : H' z = some o) : RSt (fun a => M a ∨ a = z) env σ H' := by
  have hs : Same (hid M H) (hid (fun a => M a ∨ a = z) H') := same_hid s fun a u e m => by
    rcases m with m | m
    · exact m
    · rw [m, hz] at e
      cases e
  refine ⟨fun a m => ?_, fun j t ht => ?_⟩
  · rcases m with m | m
    · exact (rs.al a m).imp fun u q => s _ _ q
    · exact ⟨o, by rw [m]; exact hz'⟩
  · obtain ⟨u, hu, q⟩ := rs.sl j t ht
    refine ⟨u, hu, ?_⟩
    cases t with
    | no => trivial
    | fz d =>
      obtain ⟨x, e1, r⟩ := q
      exact ⟨x, e1, r.up hs⟩
    | ow l =>
      obtain ⟨y, vs, e1, e2, r⟩ := q
      exact ⟨y, vs, e1, s _ _ e2, r.up hs⟩
    | dr p q' ns c => exact ⟨q.1, s _ _ q.2.1, s _ _ q.2.2⟩
    | ob _ k =>
      obtain ⟨y, e1, r⟩ := q
      exact ⟨y, e1, hs _ _ r⟩
    | gx as gd => exact RGd.mono q (fun _ _ _ e => s _ _ e) hs
theorem wipe_get {σ : L2.St} {i : Nat} : ∀ {vs : List Nat}, i ∈ vs → (wipe σ vs)[i]? = if i < σ.length then some none else none
  | v :: vs, h => by
    rw [wipe, List.getElem?_set, wipe_length]
    by_cases e : v = i
    · rw [if_pos e]
      subst e
      rfl
    · rw [if_neg e]
      have h' : i ∈ vs := by
        rcases List.mem_cons.mp h with z | z
        · exact absurd z.symm e
        · exact z
      exact wipe_get h'
theorem wipe_agree {σ σ' : L2.St} {vs : List Nat} (hl : σ'.length = σ.length) (h : ∀ i, i ∉ vs → σ'[i]? = σ[i]?) : wipe σ' vs = wipe σ vs := by
  apply List.ext_getElem?
  intro i
  by_cases hi : i ∈ vs
  · rw [wipe_get hi, wipe_get hi, hl]
  · rw [wipe_out hi, wipe_out hi, h i hi]
theorem setV_len : ∀ (w : List (Nat × V)) (σ : L2.St), (setV σ w).length = σ.length
  | [], _ => rfl
  | p :: w, σ => by
    rw [setV, List.foldl_cons]
    show (setV _ w).length = _
    rw [setV_len w, List.length_set]
theorem setV_out {i : Nat} : ∀ (w : List (Nat × V)) (σ : L2.St), i ∉ w.map (·.1) → (setV σ w)[i]? = σ[i]?
  | [], _, _ => rfl
  | p :: w, σ, h => by
    rw [List.map_cons, List.mem_cons, not_or] at h
    rw [setV, List.foldl_cons]
    show (setV _ w)[i]? = _
    rw [setV_out w _ h.2, List.getElem?_set_ne (Ne.symm h.1)]
theorem pr_fst {F : Hp} : ∀ {l : List (Nat × D)} {w : List (Nat × V)}, Pr F l w → w.map (·.1) = l.map (·.1)
  | _, _, .nil => rfl
  | _, _, .cons h t => by rw [List.map_cons, List.map_cons, h.1, pr_fst t]
def lcRun (t : D → Rs (List (Nat × D))) (fb : En → Rs Bool) (fe : EF) (env : En) : List D → Rs (List D)
  | [] => .val []
  | d :: ds => t d >>= fun l => fb (setE env l) >>= fun b => if b = true then fe (setE env l) >>= fun x => lcRun t fb fe env ds >>= fun r => .val (x :: r) else lcRun t fb fe env ds
def noEx {α : Type} : Rs α → Rs α
  | .val a => .val a
  | _ => .stk
def eLc (it : En → Rs (List D)) (t : D → Rs (List (Nat × D))) (fb : En → Rs Bool) (fe : EF) (vs : List Nat) : En → Rs (List D) := fun env => it env >>= fun ds => if ds.length ≤ 100000 then noEx (lcRun t fb fe (wipeE env vs) ds) else .stk
def W0 : WT := fun _ _ _ => False
structure PTsv (K : PySem.W.Frag) (W : WT) (X : Cx) (es : List Expr) (tt : TT) (f : En → Rs Bool) : Prop where
  pt : PTs X es tt
  ev : EvT W tt f
def bYes : En → Rs Bool := fun _ => .val true
theorem ts_nil : PTsv K W X [] tYes bYes := ⟨pts_nil, fun M env σ H rs Q p => p _ H (Same.refl _) rfl⟩
theorem ts_one {tt : TT} {fb : En → Rs Bool} (h : PTv K W X c tt fb) : PTsv K W X [c] tt fb := ⟨pts_one h.pt, h.ev⟩
theorem bind_val {α β : Type} {m : Rs α} {k : α → Rs β} {b : β} (h : (m >>= k) = .val b) : ∃ a, m = .val a ∧ k a = .val b := by
  cases m with
  | val a => exact ⟨a, rfl, h⟩
  | exc c => cases h
  | stk => cases h
def TgIn (t : D → Rs (List (Nat × D))) (vs : List Nat) : Prop := ∀ d l, t d = .val l → ∀ p ∈ l, p.1 ∈ vs
theorem evO_lc {g : TG} {t : D → Rs (List (Nat × D))} {tt : TT} {fb : En → Rs Bool} {fe : EF} {vs : List Nat} (hi : EvIB W wi fs) (hg : TgS g t) (hin : TgIn t vs) (ht : EvT W0 tt fb) (he : Ev W0 te fe) : EvO W (tLc wi g tt te vs) (eLc fs t fb fe vs) := by
  intro M env σ H rs Q p
  refine hi M env σ H rs _ (p.step fun ds _ J H1 s1 wk p1 => ?_)
  intro Dl hD
  split at p1
  · rename_i hz
    cases hrun : lcRun t fb fe (wipeE env vs) ds with
    | exc c =>
      rw [hrun] at p1
      exact p1.elim
    | stk =>
      rw [hrun] at p1
      exact p1.elim
    | val L =>
      rw [hrun] at p1
      let M' : Addr → Prop := fun a => M a ∨ a = Dl
      have hD0 : H Dl = none := s1.free hD
      let Pv : Nat → Hp → Prop := fun i H' => Same H1 H' ∧ ∃ acc accV r, H' Dl = some (.lst accV) ∧ RepL (hid M' H') acc accV ∧ acc.length ≤ i ∧ lcRun t fb fe (wipeE env vs) (ds.drop i) = .val r ∧ L = acc ++ r
      have h0 : Pv 0 (upd H1 Dl (.lst [])) := ⟨same_new hD, [], [], L, upd_same, repL_nil, Nat.zero_le _, hrun, rfl⟩
      refine ⟨fun i m H' => m = ds.length - i ∧ i ≤ ds.length ∧ Pv i H', ⟨ds.length, by simp, Nat.zero_le _, h0⟩, ?_⟩
      rintro i m H' ⟨rfl, hil, sH, acc, accV, r, hDl, hacc, hal, hr, hL⟩
      by_cases hlt : i < ds.length
      · have hd : ds[i]? = some ds[i] := List.getElem?_eq_getElem hlt
        rw [List.drop_eq_getElem_cons hlt, lcRun] at hr
        obtain ⟨l, ht1, hr⟩ := bind_val hr
        obtain ⟨b, hb1, hr⟩ := bind_val hr
        refine .inr ⟨wk.go H' i _ sH hd, Pv (i + 1), fun H'' p' => ⟨ds.length - (i + 1), by omega, rfl, hlt, p'⟩, fun x H'' hy => ?_⟩
        have rsM : RSt M' env σ H' := rs.more (s1.trans sH) hD0 hDl
        have hF0 : Same (hid M H1) (hid M' H') := same_hid sH fun a u e m => by
          rcases m with m | m
          · exact m
          · rw [m, hD] at e
            cases e
        obtain ⟨s2, rx⟩ := wk.yld H' i _ x H'' M' sH hF0 (fun _ z => rsM.free z) hd hy
        refine hg M' H'' _ x _ _ l rx ht1 fun w hw => ?_
        have rs2 : RSt M' (setE (wipeE env vs) l) (setV (wipe σ vs) w) H'' := ((rsM.up s2).wipe vs).setAll hw
        refine ⟨?_, ?_⟩
        · refine (wipe_agree (by rw [setV_len, wipe_length]) fun j hj => ?_)
          rw [setV_out, wipe_out hj]
          intro hm
          rw [pr_fst hw] at hm
          obtain ⟨q, hq, e⟩ := List.mem_map.mp hm
          exact hj (e ▸ hin _ _ ht1 q hq)
        · refine ht M' _ _ H'' rs2 _ ?_
          rw [hb1]
          intro b' H3 s3 eb
          subst eb
          cases b' with
          | true =>
            rw [if_pos rfl]
            have hr : (fe (setE (wipeE env vs) l) >>= fun x => lcRun t fb fe (wipeE env vs) (ds.drop (i + 1)) >>= fun r => .val (x :: r)) = .val r := hr
            obtain ⟨y, hy1, hr⟩ := bind_val hr
            obtain ⟨r', hr', hr⟩ := bind_val hr
            cases hr
            refine he M' _ _ H3 (rs2.up s3) _ ?_
            rw [hy1]
            intro v H4 s4 rv
            have s24 : Same H' H4 := (s2.trans s3).trans s4
            refine ⟨accV, s24 _ _ hDl, ?_, ?_, acc ++ [y], accV ++ [v], r', upd_same, ?_, ?_, hr', ?_⟩
            · have := hacc.len
              exact Nat.lt_of_lt_of_le (show accV.length < 100001 by omega) (by decide)
            · intro a u e
              have e' := s24 _ _ (sH _ _ e)
              have ne : a ≠ Dl := fun z => by
                rw [z, hD] at e
                cases e
              rw [upd_ne ne]
              exact e'
            · have hk : Same (hid M' H4) (hid M' (upd H4 Dl (.lst (accV ++ [v])))) := fun a u e => by
                rw [hid_some] at e ⊢
                have ne : a ≠ Dl := fun z => e.1 (.inr z)
                rw [upd_ne ne]
                exact e
              exact ((hacc.up (hid_grow s24)).app (repL_cons rv repL_nil)).up hk
            · rw [List.length_append, List.length_singleton]
              omega
            · rw [hL, List.append_assoc]
              rfl
          | false =>
            rw [if_neg Bool.false_ne_true]
            have hr : lcRun t fb fe (wipeE env vs) (ds.drop (i + 1)) = .val r := hr
            have s23 : Same H' H3 := s2.trans s3
            exact ⟨sH.trans s23, acc, accV, r, s23 _ _ hDl, hacc.up (hid_grow s23), by omega, hr, hL⟩
      · have e : i = ds.length := by omega
        subst e
        rw [List.drop_length] at hr
        cases hr
        rw [List.append_nil] at hL
        subst hL
        exact .inl ⟨wk.stop H' sH, p1 _ H' sH ⟨Dl, accV, rfl, hD0, hDl, hacc⟩⟩
  · exact p1.elim
theorem tgIn_N {i : Nat} {vs : List Nat} (h : i ∈ vs) : TgIn (tgN i) vs := fun d l e p hp => by
  cases e
  rw [List.mem_singleton] at hp
  rw [hp]
  exact h
theorem tgIn_T {js : List Nat} {vs : List Nat} (h : ∀ j ∈ js, j ∈ vs) : TgIn (tgT js) vs := fun d l e p hp => by
  unfold tgT at e
  split at e
  · split at e
    · cases e
      exact h _ (List.of_mem_zip hp).1
    · cases e
  · cases e
section
variable {elt iter : Expr} {ifs : List Expr} {scope : Scope} {own : List (Str × Nat)} {g : TG} {t : D → Rs (List (Nat × D))} {tt : TT} {fb : En → Rs Bool} {fe : EF}
theorem o_lc (hN : X.N.Nodup) (ok : BlkOk X.N X.env.scope scope own) (hin : TgIn t (own.map (·.2))) (hi : PIB K W X tg iter wi fs)
    (hg : ∀ (s : Shared) (H : Hp) (C : Addr) (cl : List (Str × Addr)) (fp : List Addr), PGv (X.blk s H scope (compEnvC scope cl C X.env) fp) tg g t)
    (ht : ∀ (s : Shared) (H : Hp) (C : Addr) (cl : List (Str × Addr)) (fp : List Addr), PTsv K W0 (X.blk s H scope (compEnvC scope cl C X.env) fp) ifs tt fb)
    (he : ∀ (s : Shared) (H : Hp) (C : Addr) (cl : List (Str × Addr)) (fp : List Addr), PEv K W0 (X.blk s H scope (compEnvC scope cl C X.env) fp) elt te fe) (hc : X.calm = true := by rfl) (hs : ∀ x, foldedSetIterable iter X.env x = pure x := by intro _; rfl) :
    PEO K W X (.ListComp elt [⟨tg, iter, ifs, 0⟩] scope pos) (tLc wi g tt te (own.map (·.2))) (eLc fs t fb fe (own.map (·.2))) :=
  ⟨pe_lc hc hN hi.pi ok (fun s H C cl fp => (hg s H C cl fp).pg) (fun s H C cl fp => (ht s H C cl fp).pt) (fun s H C cl fp => (he s H C cl fp).pe) hs,
    evO_lc hi.ev (hg X.s_0 X.H_0 0 [] []).ev hin (ht X.s_0 X.H_0 0 [] []).ev (he X.s_0 X.H_0 0 [] []).ev⟩
end

/-! ### calls of defs -/
inductive Rv where
  | d (d : D)
  | o (l : List D)
def Ret (M : Addr → Prop) (H : Hp) (Q : VK) : Rs Rv → Prop
  | .val (.d d) => ∀ v H', Same H H' → Rep (hid M H') d v → Q v H'
  | .val (.o l) => ∀ v H', Same H H' → RO M H l v H' → Q v H'
  | _ => False
def spP (n : Nat) (q : List D → Rs Rv) : Sp := fun vs H Q E => ∃ (M : Addr → Prop) (ds : List D), (∀ a, M a → ∃ o, H a = some o) ∧ ds.length = n ∧ RepL (hid M H) ds vs ∧ Ret M H Q (q ds)
def rvD : Rv → D
  | .d d => d
  | .o l => .list l
def eCall (n : Nat) (q : List D → Rs Rv) (fs : En → Rs (List D)) : EF := fun env => fs env >>= fun ds => if ds.length = n then q ds >>= fun r => .val (rvD r) else .stk
def eCallO (n : Nat) (q : List D → Rs Rv) (fs : En → Rs (List D)) : En → Rs (List D) := fun env => fs env >>= fun ds => if ds.length = n then q ds >>= fun r => match r with
  | .o l => .val l
  | .d _ => .stk else .stk
theorem RO.rep {M : Addr → Prop} {H H' : Hp} {l : List D} {v : V} (hf : ∀ p, H p = none → ¬ M p) (h : RO M H l v H') : Rep (hid M H') (.list l) v := by
  obtain ⟨a, vs, e1, e2, e3, e4⟩ := h
  exact rep_list.mpr ⟨a, vs, e1, hid_some.mpr ⟨hf _ e2, e3⟩, e4.up (same_hid (Same.refl _) fun _ _ _ m => .inl m)⟩
section
variable {k n : Nat} {q : List D → Rs Rv} {fa : Addr} {fd : FuncData} {ps : List Str}
theorem v_call (F : FnOk X.prog X.w X.K X.mg X.base CX0 k fa fd ps (spP n q)) (hr : Room k X.A) (hm : X.mg x = some (.ref fa)) (hk : PySem.W.keepIn X.K (.ref fa) = true) (hb : Binds X.K fd ps [])
    (ha : PAv K W0 X (e :: es) tA fs) (hg : Gl X x := by rfl) (hdb : (x == ("__debug__" : Str)) = false := by decide) (he : starEach (e :: es) X.env = (false, eval e X.env) :: starEach es X.env := by rfl) (hpl : (backTo pos (starEach es X.env)).any (·.1) = false := by rfl) :
    PEv K W0 X (.Call (.Name x p) (e :: es) [] pos) (tCall (spP n q) [] E0 tA) (eCall n q fs) := by
  refine ⟨pe_call F hr hg hm hk hb .nil pass0 ha.pa hdb he hpl, fun M env σ H rs Q p => ha.ev M env σ H rs _ (p.step fun ds _ vs H1 s1 r1 p1 => ?_)⟩
  rw [List.append_nil]
  split at p1
  · rename_i hn
    refine ⟨M, ds, (rs.up s1).al, hn, r1, ?_⟩
    cases hq : q ds with
    | val r =>
      rw [hq] at p1
      cases r with
      | d d => exact fun v H' s h => p1 v H' s h
      | o l => exact fun v H' s h => p1 v H' s (h.rep fun _ z => (rs.up s1).free z)
    | exc c =>
      rw [hq] at p1
      exact p1 H1 (Same.refl _)
    | stk =>
      rw [hq] at p1
      exact p1
  · exact p1.elim
theorem o_call (F : FnOk X.prog X.w X.K X.mg X.base CX0 k fa fd ps (spP n q)) (hr : Room k X.A) (hm : X.mg x = some (.ref fa)) (hk : PySem.W.keepIn X.K (.ref fa) = true) (hb : Binds X.K fd ps [])
    (ha : PAv K W0 X (e :: es) tA fs) (hg : Gl X x := by rfl) (hdb : (x == ("__debug__" : Str)) = false := by decide) (he : starEach (e :: es) X.env = (false, eval e X.env) :: starEach es X.env := by rfl) (hpl : (backTo pos (starEach es X.env)).any (·.1) = false := by rfl) :
    PEO K W0 X (.Call (.Name x p) (e :: es) [] pos) (tCall (spP n q) [] E0 tA) (eCallO n q fs) := by
  refine ⟨pe_call F hr hg hm hk hb .nil pass0 ha.pa hdb he hpl, fun M env σ H rs Q p => ha.ev M env σ H rs _ (p.step fun ds _ vs H1 s1 r1 p1 => ?_)⟩
  rw [List.append_nil]
  split at p1
  · rename_i hn
    refine ⟨M, ds, (rs.up s1).al, hn, r1, ?_⟩
    cases hq : q ds with
    | val r =>
      rw [hq] at p1
      cases r with
      | d d => exact p1.elim
      | o l => exact fun v H' s ⟨a, ws, h1, h2, h3, h4⟩ => p1 v H' s ⟨a, ws, h1, s1.free h2, h3, h4⟩
    | exc c =>
      rw [hq] at p1
      exact p1 H1 (Same.refl _)
    | stk =>
      rw [hq] at p1
      exact p1
  · exact p1.elim
end
end
end Ag


namespace Ag
open PySem L2
/-! ### the state of a body -/
def adr : Sl → Option V → List Addr
  | .ow _, some (.ref p) => [p]
  | .dr p q _ _, _ => [p, q]
  | .gx as g, o => gadr g as o
  | _, _ => []
def Own (env : En) (σ : L2.St) (a : Addr) : Prop := ∃ (i : Nat) (s : Sl) (o : Option V), env[i]? = some s ∧ σ[i]? = some o ∧ a ∈ adr s o
def Mo (N : Addr → Prop) (env : En) (σ : L2.St) : Addr → Prop := fun a => N a ∨ Own env σ a
structure StS (B : Hp) (N : Addr → Prop) (env : En) (σ : L2.St) (H : Hp) : Prop where
  rd : RSt (Mo N env σ) env σ H
  len : σ.length = env.length
  ext : Same B H
  dis : ∀ (i j : Nat) (s t : Sl) (o u : Option V) (a : Addr), env[i]? = some s → σ[i]? = some o → env[j]? = some t → σ[j]? = some u → a ∈ adr s o → a ∈ adr t u → i = j
  new : ∀ a, Own env σ a → ¬ N a ∧ B a = none
  drs : ∀ (i : Nat) p q ns c, env[i]? = some (.dr p q ns c) → p ≠ q
inductive So where
  | nx (e : En)
  | bk (e : En)
  | ct (e : En)
  | ret (d : D) (e : En)
  | reto (l : List D) (e : En)
  | exc (c : Ec)
  | stk
noncomputable def fr (N : Addr → Prop) (env : En) (σ : L2.St) (H : Hp) : Hp := hid (Mo N env σ) H
def SPst (W : WT) (B : Hp) (N : Addr → Prop) (F0 : Hp) (D : Ends) : So → Prop
  | .nx env => ∀ σ H, StS B N env σ H → Same F0 (fr N env σ H) → D.nx σ H
  | .bk env => ∀ σ H, StS B N env σ H → Same F0 (fr N env σ H) → D.bk σ H
  | .ct env => ∀ σ H, StS B N env σ H → Same F0 (fr N env σ H) → D.ct σ H
  | .ret d env => ∀ v σ H, StS B N env σ H → Same F0 (fr N env σ H) → Rep (fr N env σ H) d v → D.rt v H
  | .reto l env => ∀ v σ H, StS B N env σ H → Same F0 (fr N env σ H) → (∃ p vs, v = .ref p ∧ ¬ Mo N env σ p ∧ B p = none ∧ H p = some (.lst vs) ∧ RepL (hid (fun a => Mo N env σ a ∨ a = p) H) l vs) → D.rt v H
  | .exc c => ∀ env σ H, StS B N env σ H → W c σ H
  | .stk => False
theorem SPst.up {W : WT} {B : Hp} {N : Addr → Prop} {F0 F1 : Hp} {D : Ends} {r : So} (h : SPst W B N F0 D r) (s : Same F0 F1) : SPst W B N F1 D r := by
  cases r with
  | nx e => exact fun σ H a b => h σ H a (s.trans b)
  | bk e => exact fun σ H a b => h σ H a (s.trans b)
  | ct e => exact fun σ H a b => h σ H a (s.trans b)
  | ret d e => exact fun v σ H a b c => h v σ H a (s.trans b) c
  | reto l e => exact fun v σ H a b c => h v σ H a (s.trans b) c
  | exc c => exact h
  | stk => exact h
abbrev SF := En → So
def Sx (W : WT) (ts : TS) (g : SF) : Prop := ∀ (B : Hp) (N : Addr → Prop) (env : En) (σ : L2.St) (H : Hp) (D : Ends), StS B N env σ H → SPst W B N (fr N env σ H) D (g env) → ts D σ H
/-- an outcome of an expression leads on -/
def Rs.so {α : Type} (r : Rs α) (k : α → So) : So := match r with
  | .val a => k a
  | .exc c => .exc c
  | .stk => .stk

theorem get_set {α : Type} {l : List α} {i j : Nat} {x y : α} (h : (l.set i x)[j]? = some y) : (j = i ∧ y = x) ∨ (j ≠ i ∧ l[j]? = some y) := by
  rw [List.getElem?_set] at h
  by_cases e : i = j
  · subst e
    rw [if_pos rfl] at h
    by_cases hl : i < l.length
    · rw [if_pos hl] at h
      cases h
      exact .inl ⟨rfl, rfl⟩
    · rw [if_neg hl] at h
      cases h
  · rw [if_neg e] at h
    exact .inr ⟨fun z => e z.symm, h⟩
section
variable {W : WT} {B : Hp} {N : Addr → Prop} {env : En} {σ : L2.St} {H H' : Hp} {D : Ends}
theorem StS.up (h : StS B N env σ H) (s : Same H H') : StS B N env σ H' := ⟨h.rd.up s, h.len, h.ext.trans s, h.dis, h.new, h.drs⟩
theorem fr_up (s : Same H H') : Same (fr N env σ H) (fr N env σ H') := hid_grow s
/-- slot i gets a frozen value -/
theorem own_set {i : Nat} {d : Ag.D} {v : V} {a : Addr} (hl : σ.length = env.length) (h : Own (env.set i (.fz d)) (σ.set i (some v)) a) : ∃ (j : Nat) (s : Sl) (o : Option V), j ≠ i ∧ env[j]? = some s ∧ σ[j]? = some o ∧ a ∈ adr s o := by
  obtain ⟨j, s, o, h1, h2, h3⟩ := h
  rcases get_set h1 with ⟨e1, rfl⟩ | ⟨e1, g1⟩
  · cases o <;> cases h3
  · rcases get_set h2 with ⟨e2, _⟩ | ⟨_, g2⟩
    · exact absurd e2 e1
    · exact ⟨j, s, o, e1, g1, g2, h3⟩
theorem StS.setf (h : StS B N env σ H) {i : Nat} {d : Ag.D} {v : V} (r : Rep (fr N env σ H) d v) : StS B N (env.set i (.fz d)) (σ.set i (some v)) H ∧ Same (fr N env σ H) (fr N (env.set i (.fz d)) (σ.set i (some v)) H) := by
  have hM : ∀ a, Mo N (env.set i (.fz d)) (σ.set i (some v)) a → Mo N env σ a := fun a m => by
    rcases m with m | m
    · exact .inl m
    · obtain ⟨j, s, o, _, h1, h2, h3⟩ := own_set h.len m
      exact .inr ⟨j, s, o, h1, h2, h3⟩
  have hF : Same (fr N env σ H) (fr N (env.set i (.fz d)) (σ.set i (some v)) H) := same_hid (Same.refl H) fun a _ _ m => hM a m
  have get : ∀ (j : Nat) (s : Sl) (o : Option V), (env.set i (.fz d))[j]? = some s → (σ.set i (some v))[j]? = some o → (j = i ∧ s = .fz d ∧ o = some v) ∨ (j ≠ i ∧ env[j]? = some s ∧ σ[j]? = some o) := fun j s o h1 h2 => by
    rcases get_set h1 with ⟨e1, f1⟩ | ⟨e1, f1⟩
    · rcases get_set h2 with ⟨e2, f2⟩ | ⟨e2, f2⟩
      · exact .inl ⟨e1, f1, f2⟩
      · exact absurd e1 e2
    · rcases get_set h2 with ⟨e2, f2⟩ | ⟨e2, f2⟩
      · exact absurd e2 e1
      · exact .inr ⟨e1, f1, f2⟩
  refine ⟨⟨⟨fun a m => h.rd.al a (hM a m), fun j s hs => ?_⟩, by rw [List.length_set, List.length_set]; exact h.len, h.ext, fun j k s t o u a h1 h2 h3 h4 h5 h6 => ?_, fun a m => ?_, fun j p q ns c e => ?_⟩, hF⟩
  · have hj : j < env.length := by
      have := (List.getElem?_eq_some_iff.mp hs).1
      rwa [List.length_set] at this
    have hj' : j < (σ.set i (some v)).length := by
      rw [List.length_set, h.len]
      exact hj
    refine ⟨_, List.getElem?_eq_getElem hj', ?_⟩
    rcases get j s _ hs (List.getElem?_eq_getElem hj') with ⟨_, rfl, e⟩ | ⟨_, h1, h2⟩
    · rw [e]
      exact ⟨v, rfl, r.up hF⟩
    · obtain ⟨o, ho, q⟩ := h.rd.sl j s h1
      rw [h2] at ho
      cases ho
      revert q
      generalize (σ.set i (some v))[j] = o
      intro q
      cases s with
      | no => trivial
      | fz d =>
        obtain ⟨x, e1, w⟩ := q
        exact ⟨x, e1, w.up hF⟩
      | ow l =>
        obtain ⟨p, vs, e1, e2, w⟩ := q
        exact ⟨p, vs, e1, e2, w.up hF⟩
      | dr p q' ns c => exact q
      | ob _ ko =>
        obtain ⟨yo, eo, wo⟩ := q
        exact ⟨yo, eo, hF _ _ wo⟩
      | gx as gd => exact RGd.mono q (fun _ _ _ e => e) hF
  · rcases get j s o h1 h2 with ⟨_, rfl, rfl⟩ | ⟨_, g1, g2⟩
    · cases h5
    · rcases get k t u h3 h4 with ⟨_, rfl, rfl⟩ | ⟨_, g3, g4⟩
      · cases h6
      · exact h.dis j k s t o u a g1 g2 g3 g4 h5 h6
  · obtain ⟨j, s, o, _, h1, h2, h3⟩ := own_set h.len m
    exact h.new a ⟨j, s, o, h1, h2, h3⟩
  · rcases get_set e with ⟨_, f⟩ | ⟨_, f⟩
    · cases f
    · exact h.drs j p q ns c f
/-- slot i gets a list of its own; F is the frozen part ahead of its making -/
theorem StS.seto {H0 : Hp} (h : StS B N env σ H0) (s : Same H0 H) {i : Nat} {l : List Ag.D} {v : V} (r : RO (Mo N env σ) H0 l v H) (hi : i < env.length) : StS B N (env.set i (.ow l)) (σ.set i (some v)) H ∧ Same (fr N env σ H0) (fr N (env.set i (.ow l)) (σ.set i (some v)) H) := by
  obtain ⟨p, vs, rfl, hp, hp', rl⟩ := r
  have hiσ : i < σ.length := by
    rw [h.len]
    exact hi
  have get : ∀ (j : Nat) (s : Sl) (o : Option V), (env.set i (.ow l))[j]? = some s → (σ.set i (some (.ref p)))[j]? = some o → (j = i ∧ s = .ow l ∧ o = some (.ref p)) ∨ (j ≠ i ∧ env[j]? = some s ∧ σ[j]? = some o) := fun j s o h1 h2 => by
    rcases get_set h1 with ⟨e1, f1⟩ | ⟨e1, f1⟩
    · rcases get_set h2 with ⟨e2, f2⟩ | ⟨e2, f2⟩
      · exact .inl ⟨e1, f1, f2⟩
      · exact absurd e1 e2
    · rcases get_set h2 with ⟨e2, f2⟩ | ⟨e2, f2⟩
      · exact absurd e2 e1
      · exact .inr ⟨e1, f1, f2⟩
  have hM : ∀ a, Mo N (env.set i (.ow l)) (σ.set i (some (.ref p))) a → Mo N env σ a ∨ a = p := fun a m => by
    rcases m with m | ⟨j, t, o, h1, h2, h3⟩
    · exact .inl (.inl m)
    · rcases get j t o h1 h2 with ⟨_, rfl, rfl⟩ | ⟨_, g1, g2⟩
      · exact .inr (by simpa [adr] using h3)
      · exact .inl (.inr ⟨j, t, o, g1, g2, h3⟩)
  have nM : ¬ Mo N env σ p := h.rd.free hp
  have nF : ∀ a o, H0 a = some o → a ≠ p := fun a o e z => by
    rw [z, hp] at e
    cases e
  have hF : Same (fr N env σ H0) (fr N (env.set i (.ow l)) (σ.set i (some (.ref p))) H) := same_hid s fun a o e m => by
    rcases hM a m with z | z
    · exact z
    · exact absurd z (nF a o e)
  have hF2 : Same (hid (fun a => Mo N env σ a ∨ a = p) H) (fr N (env.set i (.ow l)) (σ.set i (some (.ref p))) H) := same_hid (Same.refl H) fun a o e m => hM a m
  refine ⟨⟨⟨fun a m => ?_, fun j t hs => ?_⟩, by rw [List.length_set, List.length_set]; exact h.len, h.ext.trans s, fun j k t u o w a h1 h2 h3 h4 h5 h6 => ?_, fun a m => ?_, fun j p q ns c e => ?_⟩, hF⟩
  · rcases hM a m with z | z
    · exact (h.rd.al a z).imp fun o q => s _ _ q
    · exact ⟨_, by rw [z]; exact hp'⟩
  · have hj : j < env.length := by
      have := (List.getElem?_eq_some_iff.mp hs).1
      rwa [List.length_set] at this
    have hj' : j < (σ.set i (some (.ref p))).length := by
      rw [List.length_set, h.len]
      exact hj
    refine ⟨_, List.getElem?_eq_getElem hj', ?_⟩
    rcases get j t _ hs (List.getElem?_eq_getElem hj') with ⟨_, rfl, e⟩ | ⟨_, h1, h2⟩
    · rw [e]
      exact ⟨p, vs, rfl, hp', rl.up hF2⟩
    · obtain ⟨o, ho, q⟩ := h.rd.sl j t h1
      rw [h2] at ho
      cases ho
      revert q
      generalize (σ.set i (some (.ref p)))[j] = o
      intro q
      cases t with
      | no => trivial
      | fz d =>
        obtain ⟨x, e1, w⟩ := q
        exact ⟨x, e1, w.up hF⟩
      | ow l =>
        obtain ⟨y, ws, e1, e2, w⟩ := q
        exact ⟨y, ws, e1, s _ _ e2, w.up hF⟩
      | dr y q' ns c => exact ⟨q.1, s _ _ q.2.1, s _ _ q.2.2⟩
      | ob _ ko =>
        obtain ⟨yo, eo, wo⟩ := q
        exact ⟨yo, eo, hF _ _ wo⟩
      | gx as gd => exact RGd.mono q (fun _ _ _ e => s _ _ e) hF
  · have no : ∀ (k : Nat) (u : Sl) (w : Option V), env[k]? = some u → σ[k]? = some w → p ∈ adr u w → False := fun k u w g1 g2 g3 => nM (.inr ⟨k, u, w, g1, g2, g3⟩)
    rcases get j t o h1 h2 with ⟨e1, rfl, rfl⟩ | ⟨_, g1, g2⟩
    · have ea : a = p := by simpa [adr] using h5
      subst ea
      rcases get k u w h3 h4 with ⟨e2, rfl, rfl⟩ | ⟨_, g3, g4⟩
      · rw [e1, e2]
      · exact (no k u w g3 g4 h6).elim
    · rcases get k u w h3 h4 with ⟨_, rfl, rfl⟩ | ⟨_, g3, g4⟩
      · have ea : a = p := by simpa [adr] using h6
        subst ea
        exact (no j t o g1 g2 h5).elim
      · exact h.dis j k t u o w a g1 g2 g3 g4 h5 h6
  · rcases m with ⟨j, t, o, h1, h2, h3⟩
    rcases get j t o h1 h2 with ⟨_, rfl, rfl⟩ | ⟨_, g1, g2⟩
    · have ea : a = p := by simpa [adr] using h3
      subst ea
      exact ⟨fun z => nM (.inl z), h.ext.free hp⟩
    · exact h.new a ⟨j, t, o, g1, g2, h3⟩
  · rcases get_set e with ⟨_, f⟩ | ⟨_, f⟩
    · cases f
    · exact h.drs j p q ns c f
/-- the owned list in slot i becomes l' -/
theorem StS.upd (h : StS B N env σ H) {i : Nat} {l l' : List Ag.D} {p : Addr} {vs' : List V} (hi : env[i]? = some (.ow l)) (hs : σ[i]? = some (some (.ref p))) (rl : RepL (fr N env σ H) l' vs') :
    StS B N (env.set i (.ow l')) σ (upd H p (.lst vs')) ∧ Same (fr N env σ H) (fr N (env.set i (.ow l')) σ (upd H p (.lst vs'))) := by
  have own : Own env σ p := ⟨i, _, _, hi, hs, by simp [adr]⟩
  have get : ∀ (j : Nat) (s : Sl), (env.set i (.ow l'))[j]? = some s → (j = i ∧ s = .ow l') ∨ (j ≠ i ∧ env[j]? = some s) := fun j s h1 => by
    exact get_set h1
  have ad : ∀ (j : Nat) (s : Sl) (o : Option V) (a : Addr), (env.set i (.ow l'))[j]? = some s → σ[j]? = some o → a ∈ adr s o → ∃ t, env[j]? = some t ∧ a ∈ adr t o := fun j s o a h1 h2 h3 => by
    rcases get j s h1 with ⟨rfl, rfl⟩ | ⟨_, g⟩
    · refine ⟨_, hi, ?_⟩
      rw [hs] at h2
      cases h2
      simpa [adr] using h3
    · exact ⟨s, g, h3⟩
  have hM : ∀ a, Mo N (env.set i (.ow l')) σ a → Mo N env σ a := fun a m => by
    rcases m with m | ⟨j, s, o, h1, h2, h3⟩
    · exact .inl m
    · obtain ⟨t, g1, g2⟩ := ad j s o a h1 h2 h3
      exact .inr ⟨j, t, o, g1, h2, g2⟩
  have hF : Same (fr N env σ H) (fr N (env.set i (.ow l')) σ (L2.upd H p (.lst vs'))) := fun a o e => by
    unfold fr at e ⊢
    rw [hid_some] at e ⊢
    have ne : a ≠ p := fun z => e.1 (by rw [z]; exact .inr own)
    exact ⟨fun m => e.1 (hM a m), by rw [upd_ne ne]; exact e.2⟩
  have oth : ∀ (j : Nat) (t : Sl) (o : Option V) (a : Addr), j ≠ i → env[j]? = some t → σ[j]? = some o → a ∈ adr t o → a ≠ p := fun j t o a hj g1 g2 g3 z => by
    subst z
    exact hj (h.dis j i t _ o _ a g1 g2 hi hs g3 (by simp [adr]))
  refine ⟨⟨⟨fun a m => ?_, fun j t ht => ?_⟩, by rw [List.length_set]; exact h.len, fun a o e => ?_, fun j k s t o u a h1 h2 h3 h4 h5 h6 => ?_, fun a m => ?_, fun j p q ns c e => ?_⟩, hF⟩
  · obtain ⟨o, q⟩ := h.rd.al a (hM a m)
    by_cases e : a = p
    · exact ⟨_, by rw [e]; exact upd_same⟩
    · exact ⟨o, by rw [upd_ne e]; exact q⟩
  · rcases get j t ht with ⟨rfl, rfl⟩ | ⟨hj, g⟩
    · exact ⟨_, hs, p, vs', rfl, upd_same, rl.up hF⟩
    · obtain ⟨o, ho, q⟩ := h.rd.sl j t g
      refine ⟨o, ho, ?_⟩
      cases t with
      | no => trivial
      | fz d =>
        obtain ⟨x, e1, w⟩ := q
        exact ⟨x, e1, w.up hF⟩
      | ow m =>
        obtain ⟨y, ws, e1, e2, w⟩ := q
        have ne : y ≠ p := oth j _ o y hj g ho (by rw [e1]; simp [adr])
        exact ⟨y, ws, e1, by rw [upd_ne ne]; exact e2, w.up hF⟩
      | dr y z ns c =>
        have n1 : y ≠ p := oth j _ o y hj g ho (by simp [adr])
        have n2 : z ≠ p := oth j _ o z hj g ho (by simp [adr])
        exact ⟨q.1, by rw [upd_ne n1]; exact q.2.1, by rw [upd_ne n2]; exact q.2.2⟩
      | ob _ ko =>
        obtain ⟨yo, eo, wo⟩ := q
        exact ⟨yo, eo, hF _ _ wo⟩
      | gx as gd => exact RGd.mono q (fun a ha _ e => by rw [upd_ne (oth j _ o a hj g ho (by simpa [adr] using ha))]; exact e) hF
  · have ne : a ≠ p := fun z => by
      rw [z, (h.new p own).2] at e
      cases e
    rw [upd_ne ne]
    exact h.ext a o e
  · obtain ⟨s', g1, g2⟩ := ad j s o a h1 h2 h5
    obtain ⟨t', g3, g4⟩ := ad k t u a h3 h4 h6
    exact h.dis j k s' t' o u a g1 h2 g3 h4 g2 g4
  · obtain ⟨j, s, o, h1, h2, h3⟩ := m
    obtain ⟨t, g1, g2⟩ := ad j s o a h1 h2 h3
    exact h.new a ⟨j, t, o, g1, h2, g2⟩
  · rcases get_set e with ⟨_, f⟩ | ⟨_, f⟩
    · cases f
    · exact h.drs j p q ns c f
/-- the owned list in slot i is frozen -/
theorem StS.frz (h : StS B N env σ H) {i : Nat} {l : List Ag.D} (hi : env[i]? = some (.ow l)) : StS B N (env.set i (.fz (.list l))) σ H ∧ Same (fr N env σ H) (fr N (env.set i (.fz (.list l))) σ H) := by
  obtain ⟨o, ho, p, vs, rfl, hp, rl⟩ := h.rd.sl i _ hi
  have own : Own env σ p := ⟨i, _, _, hi, ho, by simp [adr]⟩
  have get : ∀ (j : Nat) (s : Sl), (env.set i (.fz (.list l)))[j]? = some s → (j = i ∧ s = .fz (.list l)) ∨ (j ≠ i ∧ env[j]? = some s) := fun j s h1 => by
    exact get_set h1
  have ad : ∀ (j : Nat) (s : Sl) (o : Option V) (a : Addr), (env.set i (.fz (.list l)))[j]? = some s → σ[j]? = some o → a ∈ adr s o → j ≠ i ∧ env[j]? = some s := fun j s o a h1 h2 h3 => by
    rcases get j s h1 with ⟨rfl, rfl⟩ | ⟨hj, g⟩
    · cases o <;> cases h3
    · exact ⟨hj, g⟩
  have hM : ∀ a, Mo N (env.set i (.fz (.list l))) σ a → Mo N env σ a := fun a m => by
    rcases m with m | ⟨j, s, o, h1, h2, h3⟩
    · exact .inl m
    · exact .inr ⟨j, s, o, (ad j s o a h1 h2 h3).2, h2, h3⟩
  have hF : Same (fr N env σ H) (fr N (env.set i (.fz (.list l))) σ H) := same_hid (Same.refl H) fun a _ _ m => hM a m
  have np : ¬ Mo N (env.set i (.fz (.list l))) σ p := fun m => by
    rcases m with m | ⟨j, s, o, h1, h2, h3⟩
    · exact (h.new p own).1 m
    · obtain ⟨hj, g⟩ := ad j s o p h1 h2 h3
      exact hj (h.dis j i s _ o _ p g h2 hi ho h3 (by simp [adr]))
  refine ⟨⟨⟨fun a m => h.rd.al a (hM a m), fun j t ht => ?_⟩, by rw [List.length_set]; exact h.len, h.ext, fun j k s t o u a h1 h2 h3 h4 h5 h6 => ?_, fun a m => ?_, fun j p q ns c e => ?_⟩, hF⟩
  · rcases get j t ht with ⟨rfl, rfl⟩ | ⟨hj, g⟩
    · exact ⟨_, ho, _, rfl, rep_list.mpr ⟨p, vs, rfl, hid_some.mpr ⟨np, hp⟩, rl.up hF⟩⟩
    · obtain ⟨o, ho, q⟩ := h.rd.sl j t g
      refine ⟨o, ho, ?_⟩
      cases t with
      | no => trivial
      | fz d =>
        obtain ⟨x, e1, w⟩ := q
        exact ⟨x, e1, w.up hF⟩
      | ow m =>
        obtain ⟨y, ws, e1, e2, w⟩ := q
        exact ⟨y, ws, e1, e2, w.up hF⟩
      | dr y z ns c => exact q
      | ob _ ko =>
        obtain ⟨yo, eo, wo⟩ := q
        exact ⟨yo, eo, hF _ _ wo⟩
      | gx as gd => exact RGd.mono q (fun _ _ _ e => e) hF
  · exact h.dis j k s t o u a (ad j s o a h1 h2 h5).2 h2 (ad k t u a h3 h4 h6).2 h4 h5 h6
  · obtain ⟨j, s, o, h1, h2, h3⟩ := m
    exact h.new a ⟨j, s, o, (ad j s o a h1 h2 h3).2, h2, h3⟩
  · rcases get_set e with ⟨_, f⟩ | ⟨_, f⟩
    · cases f
    · exact h.drs j p q ns c f
theorem StS.setAll : ∀ {l : List (Nat × Ag.D)} {w : List (Nat × V)} {env : En} {σ : L2.St}, StS B N env σ H → Pr (fr N env σ H) l w → StS B N (setE env l) (setV σ w) H ∧ Same (fr N env σ H) (fr N (setE env l) (setV σ w) H)
  | _, _, _, _, h, .nil => ⟨h, Same.refl _⟩
  | p :: l, q :: w, env, σ, h, .cons ⟨h1, h2⟩ t => by
    obtain ⟨g1, g2⟩ := h.setf (i := p.1) h2
    have t' : Pr (fr N (env.set p.1 (.fz p.2)) (σ.set p.1 (some q.2)) H) l w := Paired.mapP t fun a b ⟨e, r⟩ => ⟨e, r.up g2⟩
    obtain ⟨k1, k2⟩ := StS.setAll g1 t'
    rw [setE, setV, List.foldl_cons, List.foldl_cons, ← h1]
    exact ⟨k1, g2.trans k2⟩
end
end Ag


namespace Ag
open PySem L2
structure PSv (K : PySem.W.Frag) (W : WT) (X : Cx) (st : Stmt) (ts : TS) (g : SF) : Prop where
  ps : PS X st ts
  ev : Sx W ts g
structure PSsv (K : PySem.W.Frag) (W : WT) (X : Cx) (sts : List Stmt) (ts : TS) (g : SF) : Prop where
  ps : PSs X sts ts
  ev : Sx W ts g
section
variable {K : PySem.W.Frag} {W : WT} {X : Cx} {a b c e tg : Expr} {es : List Expr} {ta tb tc te : TE} {tA tR : TA} {f g h : EF} {fs gs : En → Rs (List D)} {pos p p2 : Pos} {x : Str} {wi : TI}
  {st : Stmt} {rest sts : List Stmt} {t u : TS} {k1 k2 : SF} {tt : TT} {fb : En → Rs Bool}
theorem Rs.so_p {α β : Type} {W : WT} {B : Hp} {N : Addr → Prop} {env : En} {σ : L2.St} {H : Hp} {D : Ends} {m : Rs α} {k : α → So} {R : α → β → Hp → Prop} {Q : β → Hp → Prop} (s : StS B N env σ H) (h : SPst W B N (fr N env σ H) D (Rs.so m k))
    (hk : ∀ a, m = .val a → ∀ b H', Same H H' → R a b H' → StS B N env σ H' → SPst W B N (fr N env σ H') D (k a) → Q b H') : Pst H (fun c H' => W c σ H') R Q m := by
  cases m with
  | val a => exact fun b H' e r => hk a rfl b H' e r (s.up e) (SPst.up (r := k a) h (fr_up e))
  | exc c => exact fun H' e => h env σ H' (s.up e)
  | stk => exact h
/-! ### blocks -/
def sNil : SF := fun env => .nx env
def sSeq (g h : SF) : SF := fun env => match g env with
  | .nx e => h e
  | r => r
theorem ss_nil : PSsv K W X [] tNext sNil := ⟨pss_nil, fun B N env σ H D s p => p σ H s (Same.refl _)⟩
theorem sx_seq {t u : TS} (h1 : Sx W t k1) (h2 : Sx W u k2) : Sx W (tSeq t u) (sSeq k1 k2) := fun B N env σ H D s p => by
  refine h1 B N env σ H _ s ?_
  unfold sSeq at p
  cases e : k1 env with
  | nx e' =>
    rw [e] at p
    exact fun σ' H' s' q => h2 B N e' σ' H' D s' (SPst.up (r := k2 e') p q)
  | bk e' => rw [e] at p; exact p
  | ct e' => rw [e] at p; exact p
  | ret d e' => rw [e] at p; exact p
  | reto l e' => rw [e] at p; exact p
  | exc c => rw [e] at p; exact p
  | stk => rw [e] at p; exact p
theorem ss_cons (h1 : PSv K W X st t k1) (h2 : PSsv K W X rest u k2) : PSsv K W X (st :: rest) (tSeq t u) (sSeq k1 k2) := ⟨pss_cons h1.ps h2.ps, sx_seq h1.ev h2.ev⟩
theorem ss_one (h1 : PSv K W X st t k1) : PSsv K W X [st] t k1 := ⟨pss_one h1.ps, h1.ev⟩
/-- the owned list in slot i is not changed any more -/
def sFrz (i : Nat) (g : SF) : SF := fun env => match env[i]? with
  | some (.ow l) => g (env.set i (.fz (.list l)))
  | _ => g env
theorem sx_frz (i : Nat) (h : Sx W t k1) : Sx W t (sFrz i k1) := fun B N env σ H D s p => by
  unfold sFrz at p
  split at p
  · rename_i l hl
    obtain ⟨s', q⟩ := s.frz hl
    exact h B N _ σ H D s' (SPst.up p q)
  · exact h B N env σ H D s p
theorem s_frz (i : Nat) (h : PSv K W X st t k1) : PSv K W X st t (sFrz i k1) := ⟨h.ps, sx_frz i h.ev⟩
theorem ss_frz (i : Nat) (h : PSsv K W X sts t k1) : PSsv K W X sts t (sFrz i k1) := ⟨h.ps, sx_frz i h.ev⟩
/-! ### small statements -/
def sBrk : SF := fun env => .bk env
def sCont : SF := fun env => .ct env
theorem s_pass : PSv K W X (.Pass pos) tNext sNil := ⟨ps_pass, fun B N env σ H D s p => p σ H s (Same.refl _)⟩
theorem s_break : PSv K W X (.Break pos) tBreak sBrk := ⟨ps_break, fun B N env σ H D s p => p σ H s (Same.refl _)⟩
theorem s_continue : PSv K W X (.Continue pos) tCont sCont := ⟨ps_continue, fun B N env σ H D s p => p σ H s (Same.refl _)⟩
def sRet (f : EF) : SF := fun env => (f env).so fun d => .ret d env
def sRetO (f : En → Rs (List D)) : SF := fun env => (f env).so fun l => .reto l env
theorem s_ret (ha : PEv K W X a ta f) : PSv K W X (.Return (some a) pos) (tRet ta) (sRet f) := ⟨ps_ret ha.pe, fun B N env σ H D s p =>
  ha.ev _ env σ H s.rd _ (Rs.so_p s p fun d _ v H' e r s' p' => p' v σ H' s' (Same.refl _) r)⟩
theorem s_reto (ha : PEO K W X a ta fs) : PSv K W X (.Return (some a) pos) (tRet ta) (sRetO fs) := ⟨ps_ret ha.pe, fun B N env σ H D s p =>
  ha.ev _ env σ H s.rd _ (Rs.so_p s p fun l _ v H' e ⟨z, vs, e1, e2, e3, e4⟩ s' p' => p' v σ H' s' (Same.refl _) ⟨z, vs, e1, s.rd.free e2, s.ext.free e2, e3, e4⟩)⟩
/-- return of the owned list in slot i -/
def sRetV (i : Nat) : SF := fun env => match env[i]? with
  | some (.ow l) => .reto l (env.set i (.fz (.list l)))
  | some (.fz d) => .ret d env
  | _ => .stk
theorem s_retv (i : Nat) (hN : X.N[i]? = some x := by rfl) (hv : Vis X.env.scope x := by first | exact Or.inl rfl | exact Or.inr (Or.inl rfl) | exact Or.inr (Or.inr rfl)) (hd : (x == ("__debug__" : Str)) = false := by decide)
    (hcd : (x == ("__classdict__" : Str)) = false := by decide) : PSv K W X (.Return (some (.Name x p)) pos) (tRet (tVar i)) (sRetV i) := ⟨ps_ret (pe_var hN hv hd hcd), fun B N env σ H D s q => by
  unfold sRetV at q
  split at q
  · rename_i l hl
    obtain ⟨o, ho, z, vs, rfl, hz, rl⟩ := s.rd.sl i _ hl
    obtain ⟨s', k⟩ := s.frz hl
    have own : Own env σ z := ⟨i, _, _, hl, ho, by simp [adr]⟩
    obtain ⟨o', ho', x', e1, r⟩ := s'.rd.sl i (.fz (.list l)) (by rw [List.getElem?_set_self (List.getElem?_eq_some_iff.mp hl).1])
    rw [ho] at ho'
    cases ho'
    cases e1
    obtain ⟨z', vs', e2, e3, e4⟩ := rep_list.mp r
    cases e2
    refine ⟨_, ho, q _ σ H s' k ⟨z, vs, rfl, (hid_some.mp e3).1, (s.new z own).2, hz, ?_⟩⟩
    exact rl.up (same_hid (Same.refl _) fun a _ _ m => by
      rcases m with m | m
      · rcases m with m | ⟨j, t, o, h1, h2, h3⟩
        · exact .inl m
        · rcases get_set h1 with ⟨rfl, rfl⟩ | ⟨_, g⟩
          · cases o <;> cases h3
          · exact .inr ⟨j, t, o, g, h2, h3⟩
      · rw [m]
        exact .inr own)
  · rename_i d hd
    obtain ⟨o, ho, x', rfl, r⟩ := s.rd.sl i _ hd
    exact ⟨x', ho, q x' σ H s (Same.refl _) r⟩
  · exact q.elim⟩
def sRetN : SF := fun env => .ret .none env
theorem s_retN : PSv K W X (.Return none pos) tRetN sRetN := ⟨ps_retN, fun B N env σ H D s q => q .non σ H s (Same.refl _) (rep_none.mpr rfl)⟩
def sExc (c : Ec) : SF := fun _ => .exc c
theorem s_never (c : Ec) : PSv K W0 X st tNever (sExc c) := ⟨ps_never, fun B N env σ H D s q => q env σ H s⟩
def sDrop (f : EF) : SF := fun env => (f env).so fun _ => .nx env
theorem s_drop (ha : PEv K W X a ta f) (hs : swapsWith a none pos.line X.env = pure false := by rfl) : PSv K W X (.Expr a pos) (tDrop ta) (sDrop f) := ⟨ps_expr ha.pe hs, fun B N env σ H D s p =>
  ha.ev _ env σ H s.rd _ (Rs.so_p s p fun d _ v H' e r s' p' => p' σ H' s' (Same.refl _))⟩
/-! ### if -/
def sIf (c : En → Rs Bool) (g h : SF) : SF := fun env => (c env).so fun b => if b = true then g env else h env
theorem s_if (hc : PTv K W X c tt fb) (ha : PSsv K W X sts t k1) (hb : PSsv K W X rest u k2) : PSv K W X (.If c sts rest pos) (tIfS tt t u) (sIf fb k1 k2) := ⟨ps_if hc.pt ha.ps hb.ps, fun B N env σ H D s p =>
  hc.ev _ env σ H s.rd _ (Rs.so_p s p fun b _ v H' e r s' p' => by
    subst r
    cases v with
    | true => exact ha.ev B N env σ H' D s' p'
    | false => exact hb.ev B N env σ H' D s' p')⟩
/-! ### name = e -/
def sSet (i : Nat) (f : EF) : SF := fun env => (f env).so fun d => .nx (env.set i (.fz d))
def sSetO (i : Nat) (f : En → Rs (List D)) : SF := fun env => (f env).so fun l => if i < env.length then .nx (env.set i (.ow l)) else .stk
theorem sx_set {i : Nat} (ha : Ev W ta f) : Sx W (tAsg ta (gName i)) (sSet i f) := fun B N env σ H D s p =>
  ha _ env σ H s.rd _ (Rs.so_p s p fun d _ v H' e r s' p' => by
    obtain ⟨s2, q⟩ := s'.setf (i := i) r
    exact p' _ H' s2 q)
theorem sx_seto {i : Nat} (ha : EvO W ta fs) : Sx W (tAsg ta (gName i)) (sSetO i fs) := fun B N env σ H D s p =>
  ha _ env σ H s.rd _ (by
    unfold sSetO at p
    cases hf : fs env with
    | exc c =>
      rw [hf] at p
      exact fun H' e => p env σ H' (s.up e)
    | stk =>
      rw [hf] at p
      exact p
    | val l =>
      rw [hf] at p
      have p : SPst W B N (fr N env σ H) D (if i < env.length then .nx (env.set i (.ow l)) else .stk) := p
      intro v H' e r
      split at p
      · rename_i hi
        obtain ⟨s2, q⟩ := s.seto e r hi
        exact p _ H' s2 q
      · exact p.elim)
section
variable {i : Nat} {pos' : Pos}
theorem s_set (hN : X.N.Nodup) (hi : X.N[i]? = some x) (ha : PEv K W X a ta f) (hx : Loc X.env.scope x := by first | exact Or.inl rfl | exact Or.inr rfl) (hs : swapsWith a (some (.Name x pos')) pos.line X.env = pure false := by rfl)
    (hf : X.fn x = true ∨ X.env.scope.names.lookup x = some .local := by first | exact .inl rfl | exact .inr rfl | assumption) : PSv K W X (.Assign [.Name x pos'] a pos) (tAsg ta (gName i)) (sSet i f) := ⟨ps_set hN hi hx ha.pe hs hf, sx_set ha.ev⟩
theorem s_seto (hN : X.N.Nodup) (hi : X.N[i]? = some x) (ha : PEO K W X a ta fs) (hx : Loc X.env.scope x := by first | exact Or.inl rfl | exact Or.inr rfl) (hs : swapsWith a (some (.Name x pos')) pos.line X.env = pure false := by rfl)
    (hf : X.fn x = true ∨ X.env.scope.names.lookup x = some .local := by first | exact .inl rfl | exact .inr rfl | assumption) : PSv K W X (.Assign [.Name x pos'] a pos) (tAsg ta (gName i)) (sSetO i fs) := ⟨ps_set hN hi hx ha.pe hs hf, sx_seto ha.ev⟩
variable {elt iter : Expr} {ifs : List Expr} {scope : Scope} {own : List (Str × Nat)} {gg : TG} {tq : D → Rs (List (Nat × D))} {fe : EF}
/-- name = [..] on one line -/
theorem s_setLc (hN : X.N.Nodup) (hy : X.N[i]? = some x) (hyl : X.env.scope.names.lookup x = some .local) (hsw : swapsWith (.ListComp elt [⟨tg, iter, ifs, 0⟩] scope p2) (some (.Name x pos')) pos.line X.env = pure true)
    (ok : BlkOk X.N X.env.scope scope own) (hin : TgIn tq (own.map (·.2))) (hi : PIB K W X tg iter wi fs)
    (hg : ∀ (s : Shared) (H : Hp) (C : Addr) (cl : List (Str × Addr)) (fp : List Addr), PGv (X.blk s H scope (compEnvC scope cl C X.env) fp) tg gg tq)
    (ht : ∀ (s : Shared) (H : Hp) (C : Addr) (cl : List (Str × Addr)) (fp : List Addr), PTsv K W0 (X.blk s H scope (compEnvC scope cl C X.env) fp) ifs tt fb)
    (he : ∀ (s : Shared) (H : Hp) (C : Addr) (cl : List (Str × Addr)) (fp : List Addr), PEv K W0 (X.blk s H scope (compEnvC scope cl C X.env) fp) elt te fe) (hc : X.calm = true := by rfl) (hs : ∀ x, foldedSetIterable iter X.env x = pure x := by intro _; rfl) :
    PSv K W X (.Assign [.Name x pos'] (.ListComp elt [⟨tg, iter, ifs, 0⟩] scope p2) pos) (tAsg (tLc wi gg tt te (own.map (·.2))) (gName i)) (sSet i (eFz (eLc fs tq fb fe (own.map (·.2))))) :=
  ⟨ps_setLc hc hN hy hyl hsw hi.pi ok (fun s H C cl fp => (hg s H C cl fp).pg) (fun s H C cl fp => (ht s H C cl fp).pt) (fun s H C cl fp => (he s H C cl fp).pe) hs,
    sx_set (evO_lc hi.ev (hg X.s_0 X.H_0 0 [] []).ev hin (ht X.s_0 X.H_0 0 [] []).ev (he X.s_0 X.H_0 0 [] []).ev).ev⟩
theorem s_setLcO (hN : X.N.Nodup) (hy : X.N[i]? = some x) (hyl : X.env.scope.names.lookup x = some .local) (hsw : swapsWith (.ListComp elt [⟨tg, iter, ifs, 0⟩] scope p2) (some (.Name x pos')) pos.line X.env = pure true)
    (ok : BlkOk X.N X.env.scope scope own) (hin : TgIn tq (own.map (·.2))) (hi : PIB K W X tg iter wi fs)
    (hg : ∀ (s : Shared) (H : Hp) (C : Addr) (cl : List (Str × Addr)) (fp : List Addr), PGv (X.blk s H scope (compEnvC scope cl C X.env) fp) tg gg tq)
    (ht : ∀ (s : Shared) (H : Hp) (C : Addr) (cl : List (Str × Addr)) (fp : List Addr), PTsv K W0 (X.blk s H scope (compEnvC scope cl C X.env) fp) ifs tt fb)
    (he : ∀ (s : Shared) (H : Hp) (C : Addr) (cl : List (Str × Addr)) (fp : List Addr), PEv K W0 (X.blk s H scope (compEnvC scope cl C X.env) fp) elt te fe) (hc : X.calm = true := by rfl) (hs : ∀ x, foldedSetIterable iter X.env x = pure x := by intro _; rfl) :
    PSv K W X (.Assign [.Name x pos'] (.ListComp elt [⟨tg, iter, ifs, 0⟩] scope p2) pos) (tAsg (tLc wi gg tt te (own.map (·.2))) (gName i)) (sSetO i (eLc fs tq fb fe (own.map (·.2)))) :=
  ⟨ps_setLc hc hN hy hyl hsw hi.pi ok (fun s H C cl fp => (hg s H C cl fp).pg) (fun s H C cl fp => (ht s H C cl fp).pt) (fun s H C cl fp => (he s H C cl fp).pe) hs,
    sx_seto (evO_lc hi.ev (hg X.s_0 X.H_0 0 [] []).ev hin (ht X.s_0 X.H_0 0 [] []).ev (he X.s_0 X.H_0 0 [] []).ev)⟩
end
/-- a, b = e -/
def sSetT (t : D → Rs (List (Nat × D))) (f : EF) : SF := fun env => (f env).so fun d => (noEx (t d)).so fun l => .nx (setE env l)
theorem s_sett {gg : TG} {tq : D → Rs (List (Nat × D))} (ha : PEv K W X a ta f) (hg : PGv X tg gg tq) (hs : swapsWithSole [tg] a pos.line X.env = pure false := by rfl) (hw : swappedStores [tg] a X.env = pure none := by rfl)
    (h1 : (assignEach [tg] X.env).map (·.2) = [assign tg X.env] := by rfl) : PSv K W X (.Assign [tg] a pos) (tAsg ta gg) (sSetT tq f) := ⟨ps_asg ha.pe hg.pg hs hw h1, fun B N env σ H D s p =>
  ha.ev _ env σ H s.rd _ (Rs.so_p s p fun d _ v H' e r s' p' => by
    cases ht : tq d with
    | val l =>
      rw [ht] at p'
      exact hg.ev _ H' d v σ D.nx l r ht fun w hw => by
        obtain ⟨s2, q⟩ := s'.setAll hw
        exact p' _ H' s2 q
    | exc c =>
      rw [ht] at p'
      exact p'.elim
    | stk =>
      rw [ht] at p'
      exact p'.elim)⟩
/-- a, b = x, y of plain local names -/
def sPar (i j : Nat) (fs : En → Rs (List D)) : SF := fun env => (fs env).so fun l => match l with
  | [d, e] => .nx ((env.set i (.fz d)).set j (.fz e))
  | _ => .stk
theorem s_par {i j : Nat} {y : Str} {px py pt : Pos} {kt k2 : Nat} {pt2 : Pos} (hN : X.N.Nodup) (hi : X.N[i]? = some x) (hj : X.N[j]? = some y) (hij : i ≠ j) (hx : X.env.scope.names.lookup x = some .local) (hy : X.env.scope.names.lookup y = some .local)
    (ha : PAv K W X [a, b] tA fs) (hw : swappedStores [.Tuple [.Name x px, .Name y py] kt pt] (.Tuple [a, b] k2 pt2) X.env = pure (some [x, y]) := by rfl)
    (hs : swapsWithSole [.Tuple [.Name x px, .Name y py] kt pt] (.Tuple [a, b] k2 pt2) pos.line X.env = pure false := by rfl) (hc : X.calm = true := by rfl) :
    PSv K W X (.Assign [.Tuple [.Name x px, .Name y py] kt pt] (.Tuple [a, b] k2 pt2) pos) (tPar i j tA) (sPar i j fs) := ⟨ps_par hc hN hi hj hij hx hy ha.pa hw hs, fun B N env σ H D s p =>
  ha.ev _ env σ H s.rd _ (Rs.so_p s p fun l _ vs H' e r s' p' => by
    split at p'
    · rename_i d e'
      obtain ⟨v, w1, rfl, r1, r2⟩ := r.of_cons
      obtain ⟨w, w2, rfl, r3, r4⟩ := r2.of_cons
      rw [r4.of_nil]
      refine ⟨v, w, rfl, ?_⟩
      obtain ⟨s2, q⟩ := s'.setf (i := i) r1
      obtain ⟨s3, q'⟩ := s2.setf (i := j) (r3.up q)
      exact p' _ H' s3 (q.trans q')
    · exact p'.elim)⟩
/-! ### x op= e -/
def IpSem (t : TIp) (g : D → D → Rs D) : Prop := ∀ (M : Addr → Prop) (H : Hp) (d e : D) (x y : V) (Wx : Ec → Hp → Prop) (Q : VK), (∀ p, H p = none → ¬ M p) → Rep (hid M H) d x → RB M H e y → Pst H Wx (fun d v H' => Rep (hid M H') d v) Q (g d e) → t x y H Q
def sAug (i : Nat) (q : D → D → Rs D) (f : EF) : SF := fun env => match env[i]? with
  | some (.fz d) => (f env >>= fun e => q d e).so fun z => .nx (env.set i (.fz z))
  | _ => .stk
theorem Rs.so_bind {α β : Type} (m : Rs α) (k : α → Rs β) (l : β → So) : (m >>= k).so l = m.so fun a => (k a).so l := by cases m <;> rfl
theorem s_aug {i : Nat} {op : Operator} {ti : TIp} {q : D → D → Rs D} {pos' : Pos} (ho : PIp X op ti) (hq : IpSem ti q) (hN : X.N.Nodup) (hi : X.N[i]? = some x) (ha : PEB K W X a ta f) (hx : Loc X.env.scope x := by first | exact Or.inl rfl | exact Or.inr rfl)
    (hf : X.fn x = true ∨ X.env.scope.names.lookup x = some .local := by first | exact .inl rfl | exact .inr rfl | assumption) : PSv K W X (.AugAssign (.Name x pos') op a pos) (tAug i ta ti) (sAug i q f) := ⟨ps_aug hN hi hx ha.pe ho hf, fun B N env σ H D s p => by
  unfold sAug at p
  split at p
  · rename_i d hd
    obtain ⟨o, ho, x0, rfl, r⟩ := s.rd.sl i _ hd
    rw [Rs.so_bind] at p
    refine ⟨x0, ho, ha.ev _ env σ H s.rd _ (Rs.so_p s p fun e _ y H1 e1 r1 s1 p1 => ?_)⟩
    refine hq (Mo N env σ) H1 d e x0 y (fun c H' => W c σ H') _ (fun _ z => s1.rd.free z) (r.up (hid_grow e1)) r1 (Rs.so_p s1 p1 fun z _ v H2 e2 r2 s2 p2 => ?_)
    obtain ⟨s3, k⟩ := s2.setf (i := i) r2
    exact p2 _ H2 s3 k
  · exact p.elim⟩
theorem ipsem_I {k : Int → Int → Int} : IpSem (ipI k) (dI2 fun i j => .val (.int (k i j))) := fun M H d e x y Wx Q hf h1 h2 p => by
  unfold dI2 at p
  split at p
  · exact ⟨_, _, rep_int.mp h1, rb_int h2, p _ H (Same.refl H) (rep_int.mpr rfl)⟩
  · exact p.elim
def ipC (C : Int → Int → Prop) (f : Int → Int → Int) : TIp := fun x y H Q => ∃ i j, x = .int i ∧ y = .int j ∧ C i j ∧ Q (.int (f i j)) H
theorem ipsem_C {C : Int → Int → Prop} [dec : ∀ i j, Decidable (C i j)] {k : Int → Int → Int} : IpSem (ipC C k) (dI2 fun i j => if C i j then .val (.int (k i j)) else .stk) := fun M H d e x y Wx Q hf h1 h2 p => by
  unfold dI2 at p
  split at p
  · rename_i i j
    dsimp only at p
    by_cases hc : C i j
    · rw [if_pos hc] at p
      exact ⟨_, _, rep_int.mp h1, rb_int h2, hc, p _ H (Same.refl H) (rep_int.mpr rfl)⟩
    · rw [if_neg hc] at p
      exact p.elim
  · exact p.elim
theorem ip_mul : PIp X .Mult (ipC CMul fun i j => i * j) := by
  intro pins s σ H x y v u Q I r1 r2 h
  obtain ⟨i, j, rfl, rfl, hc, q⟩ := h
  obtain ⟨t, rfl⟩ := r1
  obtain ⟨t', rfl⟩ := r2
  exact PySem.P.imul_int ⟨.int _, H, I.tok _, ⟨_, rfl⟩, q⟩ hc.ok
theorem ip_mod : PIp X .Mod (ipC (fun _ j => j ≠ 0) fun i j => i.fmod j) := by
  intro pins s σ H x y v u Q I r1 r2 h
  obtain ⟨i, j, rfl, rfl, hc, q⟩ := h
  obtain ⟨t, rfl⟩ := r1
  obtain ⟨t', rfl⟩ := r2
  exact PyProof.Rows.imod_int hc ⟨.int _, H, I.tok _, ⟨_, rfl⟩, q⟩
theorem s_augAdd {i : Nat} {pos' : Pos} (hN : X.N.Nodup) (hi : X.N[i]? = some x) (ha : PEB K W X a ta f) (hx : Loc X.env.scope x := by first | exact Or.inl rfl | exact Or.inr rfl) (hf : X.fn x = true ∨ X.env.scope.names.lookup x = some .local := by first | exact .inl rfl | exact .inr rfl | assumption) :
    PSv K W X (.AugAssign (.Name x pos') .Add a pos) (tAug i ta (ipI fun i j => i + j)) (sAug i (dI2 fun i j => .val (.int (i + j))) f) := s_aug ip_add ipsem_I hN hi ha hx hf
theorem s_augMul {i : Nat} {pos' : Pos} (hN : X.N.Nodup) (hi : X.N[i]? = some x) (ha : PEB K W X a ta f) (hx : Loc X.env.scope x := by first | exact Or.inl rfl | exact Or.inr rfl) (hf : X.fn x = true ∨ X.env.scope.names.lookup x = some .local := by first | exact .inl rfl | exact .inr rfl | assumption) :
    PSv K W X (.AugAssign (.Name x pos') .Mult a pos) (tAug i ta (ipC CMul fun i j => i * j)) (sAug i (dI2 fun i j => if CMul i j then .val (.int (i * j)) else .stk) f) := s_aug ip_mul ipsem_C hN hi ha hx hf
theorem s_augMod {i : Nat} {pos' : Pos} (hN : X.N.Nodup) (hi : X.N[i]? = some x) (ha : PEB K W X a ta f) (hx : Loc X.env.scope x := by first | exact Or.inl rfl | exact Or.inr rfl) (hf : X.fn x = true ∨ X.env.scope.names.lookup x = some .local := by first | exact .inl rfl | exact .inr rfl | assumption) :
    PSv K W X (.AugAssign (.Name x pos') .Mod a pos) (tAug i ta (ipC (fun _ j => j ≠ 0) fun i j => i.fmod j)) (sAug i dMod f) := s_aug ip_mod ipsem_C hN hi ha hx hf
/-- xs += ys, xs the owned list in slot i -/
def sAugL (i : Nat) (f : EF) : SF := fun env => match env[i]? with
  | some (.ow l) => (f env).so fun d => match d with
    | .list m => if l.length + m.length ≤ 100000 then .nx (env.set i (.ow (l ++ m))) else .stk
    | _ => .stk
  | _ => .stk
theorem s_augL {i : Nat} {pos' : Pos} (hN : X.N.Nodup) (hi : X.N[i]? = some x) (ha : PEv K W X a ta f) (hx : Loc X.env.scope x := by first | exact Or.inl rfl | exact Or.inr rfl) (hf : X.fn x = true ∨ X.env.scope.names.lookup x = some .local := by first | exact .inl rfl | exact .inr rfl | assumption) :
    PSv K W X (.AugAssign (.Name x pos') .Add a pos) (tAug i ta rExt2) (sAugL i f) := ⟨ps_aug hN hi hx ha.pe iop_ext hf, fun B N env σ H D s p => by
  unfold sAugL at p
  split at p
  · rename_i l hl
    obtain ⟨o, ho, z, vs, rfl, hz, rl⟩ := s.rd.sl i _ hl
    refine ⟨_, ho, ha.ev _ env σ H s.rd _ (Rs.so_p s p fun d _ y H1 e1 r1 s1 p1 => ?_)⟩
    split at p1
    · split at p1
      · rename_i m hm
        obtain ⟨b, ws, rfl, hb, rm⟩ := rep_list.mp r1
        have rl' := rl.up (fr_up e1)
        obtain ⟨s2, k⟩ := s1.upd hl ho (rl'.app rm)
        refine ⟨z, b, vs, ws, rfl, rfl, e1 _ _ hz, hid_same _ _ hb, by rw [← rl.len, ← rm.len]; exact szn hm, ?_⟩
        have e0 : σ.set i (some (.ref z)) = σ := by
          apply List.ext_getElem?
          intro j
          rw [List.getElem?_set]
          by_cases e : i = j
          · subst e
            rw [if_pos rfl, ho, if_pos (List.getElem?_eq_some_iff.mp ho).1]
          · rw [if_neg e]
        show D.nx (σ.set i (some (.ref z))) _
        rw [e0]
        exact p1 _ _ s2 k
      · exact p1.elim
    · exact p1.elim
  · exact p.elim⟩
/-! ### xs.append(e), xs.remove(e), xs[i] = e -/
def sApp (i : Nat) (f : EF) : SF := fun env => match env[i]? with
  | some (.ow l) => (f env).so fun d => if l.length < 100000 then .nx (env.set i (.ow (l ++ [d]))) else .stk
  | _ => .stk
section
variable {apos cpos : Pos} {i : Nat}
theorem s_app (hN : X.N[i]? = some x) (ha : PEv K W X a ta f) (hv : Vis X.env.scope x := by first | exact Or.inl rfl | exact Or.inr (Or.inl rfl) | exact Or.inr (Or.inr rfl)) (hd : (x == ("__debug__" : Str)) = false := by decide) (hcd : (x == ("__classdict__" : Str)) = false := by decide)
    (hK : X.K = K := by rfl) (hbase : attributeBase (Expr.Name x p) "append" X.env (eval (Expr.Name x p) X.env) = eval (Expr.Name x p) X.env := by rfl)
    (hfew : ((backTo cpos (starEach [a] X.env)).all (fun x => !x.1) && (backToKw cpos (keywordEach [] X.env)).all (fun x => x.1.isSome) && decide ([a].length + ([] : List Keyword).length + (if ([] : List Keyword).isEmpty then 0 else 1) < 30)) = true := by rfl)
    (hline : (apos.endLine == cpos.line) = true := by rfl) (hs : starEach (a :: []) X.env = (false, eval a X.env) :: starEach [] X.env := by rfl) (hplain : (backTo cpos (starEach [] X.env)).any (·.1) = false := by rfl)
    (hsw : swapsWith (Expr.Call (.Attribute (.Name x p) "append" apos) [a] [] cpos) none pos.line X.env = pure false := by rfl) :
    PSv K W X (.Expr (.Call (.Attribute (.Name x p) "append" apos) [a] [] cpos) pos) (tDrop (tBM K "list" rAppend (tVar i) (tCons ta tNil))) (sApp i f) := by
  subst hK
  refine ⟨ps_expr (pe_bm PySem.F.plainAttrs_list PySem.F.slot_list_append PySem.F.type_list_append mt_append (pe_var hN hv hd hcd) (pa_cons ha.pe pa_nil hs) hbase hfew hline hs hplain) hsw, fun B N env σ H D s p => ?_⟩
  unfold sApp at p
  split at p
  · rename_i l hl
    obtain ⟨o, ho, z, vs, rfl, hz, rl⟩ := s.rd.sl i _ hl
    refine ⟨_, ho, tyV_list hz, ha.ev _ env σ H s.rd _ (Rs.so_p s p fun d _ y H1 e1 r1 s1 p1 => ?_)⟩
    split at p1
    · rename_i hm
      obtain ⟨s2, k⟩ := s1.upd hl ho ((rl.up (fr_up e1)).app (repL_cons r1 repL_nil))
      exact ⟨z, vs, y, rfl, rfl, e1 _ _ hz, by rw [← rl.len]; exact Nat.lt_of_lt_of_le hm (by decide), p1 _ _ s2 k⟩
    · exact p1.elim
  · exact p.elim
def sRem (i : Nat) (f : EF) : SF := fun env => match env[i]? with
  | some (.ow l) => (f env).so fun d => match d with
    | .int k => (ofO (intsOf l)).so fun ns => (ofO (ns.findIdx? fun z => z == k)).so fun j => .nx (env.set i (.ow (l.eraseIdx j)))
    | _ => .stk
  | _ => .stk
theorem s_rem (hN : X.N[i]? = some x) (ha : PEB K W X a ta f) (hv : Vis X.env.scope x := by first | exact Or.inl rfl | exact Or.inr (Or.inl rfl) | exact Or.inr (Or.inr rfl)) (hd : (x == ("__debug__" : Str)) = false := by decide) (hcd : (x == ("__classdict__" : Str)) = false := by decide)
    (hK : X.K = K := by rfl) (hbase : attributeBase (Expr.Name x p) "remove" X.env (eval (Expr.Name x p) X.env) = eval (Expr.Name x p) X.env := by rfl)
    (hfew : ((backTo cpos (starEach [a] X.env)).all (fun x => !x.1) && (backToKw cpos (keywordEach [] X.env)).all (fun x => x.1.isSome) && decide ([a].length + ([] : List Keyword).length + (if ([] : List Keyword).isEmpty then 0 else 1) < 30)) = true := by rfl)
    (hline : (apos.endLine == cpos.line) = true := by rfl) (hs : starEach (a :: []) X.env = (false, eval a X.env) :: starEach [] X.env := by rfl) (hplain : (backTo cpos (starEach [] X.env)).any (·.1) = false := by rfl)
    (hsw : swapsWith (Expr.Call (.Attribute (.Name x p) "remove" apos) [a] [] cpos) none pos.line X.env = pure false := by rfl) :
    PSv K W X (.Expr (.Call (.Attribute (.Name x p) "remove" apos) [a] [] cpos) pos) (tDrop (tBM K "list" rRemI (tVar i) (tCons ta tNil))) (sRem i f) := by
  subst hK
  refine ⟨ps_expr (pe_bm PySem.F.plainAttrs_list PySem.F.slot_list_remove PySem.F.type_list_remove mt_remove (pe_var hN hv hd hcd) (pa_cons ha.pe pa_nil hs) hbase hfew hline hs hplain) hsw, fun B N env σ H D s p => ?_⟩
  unfold sRem at p
  split at p
  · rename_i l hl
    obtain ⟨o, ho, z, vs, rfl, hz, rl⟩ := s.rd.sl i _ hl
    refine ⟨_, ho, tyV_list hz, ha.ev _ env σ H s.rd _ (Rs.so_p s p fun d _ y H1 e1 r1 s1 p1 => ?_)⟩
    split at p1
    · rename_i k _
      cases e : intsOf l with
      | none =>
        rw [e] at p1
        exact p1.elim
      | some ns =>
        rw [e] at p1
        cases e' : ns.findIdx? (fun z => z == k) with
        | none =>
          have p1 : SPst W B N _ D ((ofO (ns.findIdx? fun z => z == k)).so _) := p1
          rw [e'] at p1
          exact p1.elim
        | some j =>
          have p1 : SPst W B N _ D ((ofO (ns.findIdx? fun z => z == k)).so _) := p1
          rw [e'] at p1
          have el := intsOf_some e
          subst el
          have ev : vs = ns.map V.int := repL_ints.mp rl
          subst ev
          obtain ⟨⟨w, hw, hq⟩, hno⟩ := findIdx_at e'
          obtain ⟨s2, kk⟩ := s1.upd hl ho ((rl.up (fr_up e1)).erase j)
          refine ⟨z, ns, k, j, rfl, by rw [rb_int r1], e1 _ _ hz, ?_, fun m hm hm' => ?_, ?_⟩
          · rw [hw]
            have : w = k := by simpa using hq
            rw [this]
          · have := hno m _ hm hm'
            simp at this
          · have q := p1 _ _ s2 kk
            rw [erase_mapI] at q
            exact q
    · exact p1.elim
  · exact p.elim
def sPut (i : Nat) (fi fe : EF) : SF := fun env => (fe env).so fun d => match env[i]? with
  | some (.ow l) => (fi env).so fun e => match e with
    | .int k => (ofO (ixN l.length k)).so fun j => .nx (env.set i (.ow (l.set j d)))
    | _ => .stk
  | _ => .stk
theorem s_put {spos : Pos} (hN : X.N[i]? = some x) (hb : PEB K W X b tb g) (ha : PEv K W X a ta f) (hv : Vis X.env.scope x := by first | exact Or.inl rfl | exact Or.inr (Or.inl rfl) | exact Or.inr (Or.inr rfl)) (hd : (x == ("__debug__" : Str)) = false := by decide) (hcd : (x == ("__classdict__" : Str)) = false := by decide)
    (hsub : ∀ v, assign (.Subscript (.Name x p) b spos) X.env v = (do
      let ov ← holding [v] (eval (.Name x p) X.env)
      let iv ← holding [v, ov] (eval b X.env)
      standAt spos
      holding [v, ov, iv] (setItem ov iv v)
      release [v, ov, iv] []) := by intro _; rfl)
    (hs : swapsWithSole [.Subscript (.Name x p) b spos] a pos.line X.env = pure false := by rfl) (hw : swappedStores [.Subscript (.Name x p) b spos] a X.env = pure none := by rfl)
    (h1 : (assignEach [.Subscript (.Name x p) b spos] X.env).map (·.2) = [assign (.Subscript (.Name x p) b spos) X.env] := by rfl) :
    PSv K W X (.Assign [.Subscript (.Name x p) b spos] a pos) (tAsg ta (gSub (tVar i) tb rSetL)) (sPut i g f) := by
  refine ⟨ps_asg ha.pe (pg_sub (pe_var hN hv hd hcd) hb.pe set_list hsub) hs hw h1, fun B N env σ H D s p => ?_⟩
  refine ha.ev _ env σ H s.rd _ (Rs.so_p s p fun d _ v H1 e1 r1 s1 p1 => ?_)
  split at p1
  · rename_i l hl
    obtain ⟨o, ho, z, vs, rfl, hz, rl⟩ := s1.rd.sl i _ hl
    refine ⟨_, ho, hb.ev _ env σ H1 s1.rd _ (Rs.so_p s1 p1 fun e _ y H2 e2 r2 s2 p2 => ?_)⟩
    split at p2
    · rename_i k _
      cases hj : ixN l.length k with
      | none =>
        rw [hj] at p2
        exact p2.elim
      | some j =>
        rw [hj] at p2
        obtain ⟨s3, kk⟩ := s2.upd hl ho ((rl.up (fr_up e2)).set j (r1.up (fr_up e2)))
        exact ⟨z, vs, k, j, rfl, rb_int r2, e2 _ _ hz, by rw [← rl.len]; exact hj, p2 _ _ s3 kk⟩
    · exact p2.elim
  · exact p1.elim
end
/-! ### for, while -/
def forL (t : D → Rs (List (Nat × D))) (body : SF) : List D → SF
  | [], env => .nx env
  | d :: ds, env => (noEx (t d)).so fun l => match body (setE env l) with
    | .nx e => forL t body ds e
    | .ct e => forL t body ds e
    | .bk e => .nx e
    | r => r
def sFor (it : En → Rs (List D)) (t : D → Rs (List (Nat × D))) (body : SF) : SF := fun env => (it env).so fun ds => forL t body ds env
theorem sx_for {gg : TG} {tq : D → Rs (List (Nat × D))} {tb : TS} (hi : EvI W wi fs) (hg : TgS gg tq) (hb : Sx W tb k1) : Sx W (tFor wi gg tb) (sFor fs tq k1) := fun B N env σ H D s p => by
  refine hi _ env σ H s.rd _ (Rs.so_p s p fun ds _ J H1 e1 wk s1 p1 => ?_)
  let F1 := fr N env σ H1
  refine ⟨fun i m σ' H' => m = ds.length - i ∧ i ≤ ds.length ∧ ∃ env', StS B N env' σ' H' ∧ Same F1 (fr N env' σ' H') ∧ SPst W B N F1 D (forL tq k1 (ds.drop i) env'),
    ⟨ds.length, by simp, Nat.zero_le _, env, s1, Same.refl _, p1⟩, ?_⟩
  rintro i m σ' H' ⟨rfl, hil, env', s', q, pp⟩
  have sF : Same F1 H' := q.trans hid_same
  by_cases hlt : i < ds.length
  · have hd : ds[i]? = some ds[i] := List.getElem?_eq_getElem hlt
    rw [List.drop_eq_getElem_cons hlt, forL] at pp
    refine .inr ⟨wk.go H' i _ sF hd, fun σ2 H2 => ∃ m', m' < ds.length - i ∧ m' = ds.length - (i + 1) ∧ i + 1 ≤ ds.length ∧ ∃ env', StS B N env' σ2 H2 ∧ Same F1 (fr N env' σ2 H2) ∧ SPst W B N F1 D (forL tq k1 (ds.drop (i + 1)) env'),
      fun σ2 H2 h => h, fun x H'' hy => ?_⟩
    obtain ⟨s2, rx⟩ := wk.yld H' i _ x H'' (Mo N env' σ') sF q (fun _ z => s'.rd.free z) hd hy
    cases ht : tq ds[i] with
    | exc c =>
      rw [ht] at pp
      exact pp.elim
    | stk =>
      rw [ht] at pp
      exact pp.elim
    | val l =>
      rw [ht] at pp
      have pp : SPst W B N F1 D (match k1 (setE env' l) with
        | .nx e => forL tq k1 (ds.drop (i + 1)) e
        | .ct e => forL tq k1 (ds.drop (i + 1)) e
        | .bk e => .nx e
        | r => r) := pp
      refine hg _ H'' _ x σ' _ l rx ht fun w hw => ?_
      obtain ⟨s3, q3⟩ := (s'.up s2).setAll hw
      have qq : Same F1 (fr N (setE env' l) (setV σ' w) H'') := (q.trans (fr_up s2)).trans q3
      refine hb B N _ _ H'' _ s3 ?_
      cases e : k1 (setE env' l) with
      | nx e' =>
        rw [e] at pp
        exact fun σ4 H4 s4 q4 => ⟨_, by omega, rfl, by omega, e', s4, qq.trans q4, pp⟩
      | ct e' =>
        rw [e] at pp
        exact fun σ4 H4 s4 q4 => ⟨_, by omega, rfl, by omega, e', s4, qq.trans q4, pp⟩
      | bk e' =>
        rw [e] at pp
        exact fun σ4 H4 s4 q4 => pp σ4 H4 s4 (qq.trans q4)
      | ret d e' =>
        rw [e] at pp
        exact fun v σ4 H4 s4 q4 => pp v σ4 H4 s4 (qq.trans q4)
      | reto l e' =>
        rw [e] at pp
        exact fun v σ4 H4 s4 q4 => pp v σ4 H4 s4 (qq.trans q4)
      | exc c =>
        rw [e] at pp
        exact pp
      | stk =>
        rw [e] at pp
        exact pp
  · have e : i = ds.length := by omega
    subst e
    rw [List.drop_length] at pp
    exact .inl ⟨wk.stop H' sF, pp σ' H' s' q⟩
theorem s_for {iter : Expr} {body : List Stmt} {gg : TG} {tq : D → Rs (List (Nat × D))} {tb : TS} (hp : PassesOwn (model X.prog X.w) X.A X.env X.xe) (hi : PIv K W X tg iter wi fs) (hg : PGv X tg gg tq) (hb : PSsv K W X body tb k1) (hc : X.calm = true := by rfl)
    (hs : ∀ x, foldedSetIterable iter X.env x = pure x := by intro _; rfl) : PSv K W X (.For tg iter body [] pos) (tFor wi gg tb) (sFor fs tq k1) := ⟨ps_for hp hc hi.pi hg.pg hb.ps hs, sx_for hi.ev hg.ev hb.ev⟩
def sWhile (c : En → Rs Bool) (body : SF) : Nat → SF
  | 0, _ => .stk
  | n + 1, env => (c env).so fun b => if b = true then (match body env with
    | .nx e => sWhile c body n e
    | .ct e => sWhile c body n e
    | .bk e => .nx e
    | r => r) else .nx env
theorem s_while (n : Nat) {body : List Stmt} {tb : TS} (hp : PassesOwn (model X.prog X.w) X.A X.env X.xe) (hc : PTv K W X c tt fb) (hb : PSsv K W X body tb k1) : PSv K W X (.While c body [] pos) (tWhile tt tb) (sWhile fb k1 n) := ⟨ps_while hp hc.pt hb.ps, fun B N env σ H D s p => by
  let F1 := fr N env σ H
  refine ⟨fun m σ' H' => ∃ env', StS B N env' σ' H' ∧ Same F1 (fr N env' σ' H') ∧ SPst W B N F1 D (sWhile fb k1 m env'), ⟨n, env, s, Same.refl _, p⟩, ?_⟩
  rintro m σ' H' ⟨env', s', q, pp⟩
  cases m with
  | zero => exact pp.elim
  | succ m =>
    rw [sWhile] at pp
    refine hc.ev _ env' σ' H' s'.rd _ (Rs.so_p s' (SPst.up pp q) fun b hb' v H1 e1 r1 s1 p1 => ?_)
    subst r1
    have q1 : Same F1 (fr N env' σ' H1) := q.trans (fr_up e1)
    rw [hb'] at pp
    cases v with
    | false =>
      have pp : SPst W B N F1 D (.nx env') := pp
      exact pp σ' H1 s1 q1
    | true =>
      have pp : SPst W B N F1 D (match k1 env' with
        | .nx e => sWhile fb k1 m e
        | .ct e => sWhile fb k1 m e
        | .bk e => .nx e
        | r => r) := pp
      rw [if_pos rfl]
      refine ⟨fun σ2 H2 => ∃ env', StS B N env' σ2 H2 ∧ Same F1 (fr N env' σ2 H2) ∧ SPst W B N F1 D (sWhile fb k1 m env'), fun σ2 H2 h => ⟨m, Nat.lt_succ_self _, h⟩, hb.ev B N env' σ' H1 _ s1 ?_⟩
      cases e : k1 env' with
      | nx e' =>
        rw [e] at pp
        exact fun σ4 H4 s4 q4 => ⟨e', s4, q1.trans q4, pp⟩
      | ct e' =>
        rw [e] at pp
        exact fun σ4 H4 s4 q4 => ⟨e', s4, q1.trans q4, pp⟩
      | bk e' =>
        rw [e] at pp
        exact fun σ4 H4 s4 q4 => pp σ4 H4 s4 (q1.trans q4)
      | ret d e' =>
        rw [e] at pp
        exact fun v σ4 H4 s4 q4 => pp v σ4 H4 s4 (q1.trans q4)
      | reto l e' =>
        rw [e] at pp
        exact fun v σ4 H4 s4 q4 => pp v σ4 H4 s4 (q1.trans q4)
      | exc c =>
        rw [e] at pp
        exact pp
      | stk =>
        rw [e] at pp
        exact pp⟩
end
/-! ### a def -/
def run (n : Nat) (g : SF) (ds : List D) : Rs Rv := match g (ds.map .fz ++ List.replicate (n - ds.length) .no) with
  | .nx _ => .val (.d .none)
  | .ret d _ => .val (.d d)
  | .reto l _ => .val (.o l)
  | .exc c => .exc c
  | _ => .stk
theorem start_get {F : Hp} {ds : List D} {vs : List V} {N : List Str} (r : RepL F ds vs) {i : Nat} {s : Sl} (h : (ds.map Sl.fz ++ List.replicate (N.length - ds.length) .no)[i]? = some s) (hl : vs.length ≤ N.length) :
    ∃ o, (L2.start N vs)[i]? = some o ∧ ((∃ d v, s = .fz d ∧ o = some v ∧ Rep F d v) ∨ s = .no) := by
  have e := r.len
  unfold L2.start
  by_cases hi : i < ds.length
  · rw [List.getElem?_append_left (by simpa using hi), List.getElem?_map, List.getElem?_eq_getElem hi] at h
    cases h
    obtain ⟨v, hv, q⟩ := r.get (List.getElem?_eq_getElem hi)
    refine ⟨some v, ?_, .inl ⟨_, v, rfl, rfl, q⟩⟩
    rw [List.getElem?_append_left (by rw [List.length_map]; omega), List.getElem?_map, hv]
    rfl
  · rw [List.getElem?_append_right (by simpa using hi), List.length_map, List.getElem?_replicate] at h
    split at h
    · cases h
      refine ⟨none, ?_, .inr rfl⟩
      rw [List.getElem?_append_right (by rw [List.length_map]; omega), List.length_map, List.getElem?_replicate, if_pos (by omega)]
    · cases h
section
variable {P : Program} {w : World} {K : PySem.W.Frag} {mg : Str → Option Value} {base : Heap} 
theorem start_StS {H : Hp} {M : Addr → Prop} {ds : List D} {vs : List V} {N : List Str} (al : ∀ a, M a → ∃ o, H a = some o) (r : RepL (hid M H) ds vs) (hl : ds.length ≤ N.length) :
    StS H M (ds.map Sl.fz ++ List.replicate (N.length - ds.length) .no) (L2.start N vs) H := by
  have e := r.len
  have hl' : vs.length ≤ N.length := by omega
  have noown : ∀ a, ¬ Own (ds.map Sl.fz ++ List.replicate (N.length - ds.length) .no) (L2.start N vs) a := fun a ⟨i, s, o, h1, h2, h3⟩ => by
    obtain ⟨o', ho, h⟩ := start_get r h1 hl'
    rw [h2] at ho
    cases ho
    rcases h with ⟨d, v, rfl, rfl, _⟩ | rfl
    · cases h3
    · cases o <;> cases h3
  have hM : ∀ a, Mo M (ds.map Sl.fz ++ List.replicate (N.length - ds.length) .no) (L2.start N vs) a → M a := fun a m => by
    rcases m with m | m
    · exact m
    · exact (noown a m).elim
  refine ⟨⟨fun a m => al a (hM a m), fun i s hs => ?_⟩, ?_, Same.refl _, fun i j s t o u a h1 h2 h3 h4 h5 _ => (noown a ⟨i, s, o, h1, h2, h5⟩).elim, fun a m => (noown a m).elim, fun i p q ns c h => ?_⟩
  · obtain ⟨o, ho, h⟩ := start_get r hs hl'
    refine ⟨o, ho, ?_⟩
    rcases h with ⟨d, v, rfl, rfl, q⟩ | rfl
    · exact ⟨v, rfl, q.up (same_hid (Same.refl _) fun a _ _ m => hM a m)⟩
    · trivial
  · unfold L2.start
    rw [List.length_append, List.length_append, List.length_map, List.length_map, List.length_replicate, List.length_replicate]
    omega
  · obtain ⟨o, ho, h⟩ := start_get r h hl'
    rcases h with ⟨d, v, e, _⟩ | e <;> cases e
/-- a def that computes q, no exception leaving it -/
theorem fn_ok {x qual : Str} {st : Stmt} {f : Addr} {fd : FuncData} {N ps : List Str} {k n : Nat} {g : SF} {q : List D → Rs Rv} (F : Fun K x qual st f fd) (S : FnScope N ps (defScope st)) (hn : ps.length = n) (hnN : n ≤ N.length) (hq : q = run N.length g)
    (hbody : ∀ (cdv : Value) (A : Around) (outer : List Env) (s : Shared) (H : Hp) (E : XK), Room k (A.deeper (PyProof.Rows.envOfC qual (defScope st) s.heap.objs.size f cdv)) →
      ∃ t, PSsv K W0 (cxOf CX0 P w K mg base N qual (defScope st) f cdv A outer s H E).nox (defBody st) t g) : FnOk P w K mg base CX0 (k + 1) f fd ps (spP n q) := by
  refine F.ok S (fun vs H Q E h => ?_) (fun cdv A outer s H vs Q E hr h => ?_)
  · obtain ⟨M, ds, al, hl, r, _⟩ := h
    rw [← r.len, hl, hn]
  · obtain ⟨M, ds, al, hl, r, hret⟩ := h
    obtain ⟨t, ht⟩ := hbody cdv A outer s H E hr
    refine ⟨t, ht.ps, ?_⟩
    have st := start_StS (N := N) al r (by omega)
    refine ht.ev H M _ _ H _ st ?_
    subst hq
    unfold run at hret
    have up : ∀ {env' : En} {σ' : L2.St} {H' : Hp}, StS H M env' σ' H' → Same (fr M env' σ' H') (hid M H') := fun {env' σ' H'} s' => same_hid (Same.refl _) fun a _ _ m => .inl m
    split at hret
    · rename_i e he
      rw [he]
      exact fun σ' H' s' _ => hret _ H' s'.ext (rep_none.mpr rfl)
    · rename_i d e he
      rw [he]
      exact fun v σ' H' s' _ rv => hret v H' s'.ext (rv.up (up s'))
    · rename_i l e he
      rw [he]
      exact fun v σ' H' s' _ ⟨p, vs', h1, h2, h3, h4, h5⟩ => hret v H' s'.ext ⟨p, vs', h1, h3, h4, h5.up (same_hid (Same.refl _) fun a _ _ m => by
        rcases m with m | m
        · exact .inl (.inl m)
        · exact .inr m)⟩
    · rename_i c he
      rw [he]
      exact hret.elim
    · exact hret.elim
end
end Ag


namespace Ag
open PySem L2
/-- turns enough for any while of the program -/
def fuel : Nat := 1000
section
variable {K : PySem.W.Frag} {W : WT} {X : Cx} {a b c e tg : Expr} {es : List Expr} {ta tb tc te : TE} {tA tR : TA} {f g h : EF} {fs gs : En → Rs (List D)} {pos p p2 : Pos} {x : Str} {wi : TI}
  {st : Stmt} {rest sts : List Stmt} {t u : TS} {k1 k2 : SF} {tt : TT} {fb : En → Rs Bool}
theorem v_globI' {i : Int} (hg : Gl X x) (hm : ∃ t, X.mg x = some (.int i t)) (hd : (x == ("__debug__" : Str)) = false := by decide) : PEv K W X (.Name x pos) (tC (.int i)) (eC (.int i)) := by
  obtain ⟨t, h⟩ := hm
  exact v_globI hg h hd
def qAdd : D → D → Rs D := dI2 fun i j => .val (.int (i + j))
def qMul : D → D → Rs D := dI2 fun i j => if CMul i j then .val (.int (i * j)) else .stk
def qMod : D → D → Rs D := dMod
instance {i j : Int} : Decidable (CDiv i j) := by unfold CDiv; infer_instance
def qFdiv : D → D → Rs D := dI2 fun i j => if CDiv i j then .val (.int (i / j)) else .stk
theorem ipsem_R {C : Int → Int → Prop} [dec : ∀ i j, Decidable (C i j)] {k : Int → Int → Int} : IpSem (rI C fun i j => .int (k i j)) (dI2 fun i j => if C i j then .val (.int (k i j)) else .stk) := ipsem_C
theorem s_augFdiv {i : Nat} {pos' : Pos} (hN : X.N.Nodup) (hi : X.N[i]? = some x) (ha : PEB K W X a ta f) (hx : Loc X.env.scope x := by first | exact Or.inl rfl | exact Or.inr rfl) (hf : X.fn x = true ∨ X.env.scope.names.lookup x = some .local := by first | exact .inl rfl | exact .inr rfl | assumption) :
    PSv K W X (.AugAssign (.Name x pos') .FloorDiv a pos) (tAug i ta (rI CDiv fun i j => .int (i / j))) (sAug i qFdiv f) := s_aug (fun pins s σ H x y v u Q I r1 r2 q => iop_fdiv pins s σ H x y v u Q I r1 r2 q) ipsem_R hN hi ha hx hf
/-! xs[i], xs[j] = x, y -/
def put1 (i : Nat) (fi : EF) (d : D) (env : En) (k : En → So) : So := match env[i]? with
  | some (.ow l) => (fi env).so fun e => match e with
    | .int z => (ofO (ixN l.length z)).so fun j => k (env.set i (.ow (l.set j d)))
    | _ => .stk
  | _ => .stk
def sPut2 (i : Nat) (f1 f2 : EF) (fs : En → Rs (List D)) : SF := fun env => (fs env).so fun l => match l with
  | [d, e] => put1 i f1 d env fun env1 => put1 i f2 e env1 fun env2 => .nx env2
  | _ => .stk
theorem put1_ok {i : Nat} {B : Hp} {N : Addr → Prop} {env : En} {σ : L2.St} {H : Hp} {D : Ends} {d : Ag.D} {v : V} {k : En → So} {Q : L2.St → Hp → Prop} (s : StS B N env σ H) (rv : Rep (fr N env σ H) d v) (hb : EvB W tb g) (p : SPst W B N (fr N env σ H) D (put1 i g d env k))
    (hk : ∀ env1 H1, StS B N env1 σ H1 → Same (fr N env σ H) (fr N env1 σ H1) → SPst W B N (fr N env1 σ H1) D (k env1) → Q σ H1) : gSub (tVar i) tb rSetL v σ H Q := by
  unfold put1 at p
  split at p
  · rename_i l hl
    obtain ⟨o, ho, z, vs, rfl, hz, rl⟩ := s.rd.sl i _ hl
    refine ⟨_, ho, hb _ env σ H s.rd _ (Rs.so_p s p fun e _ y H2 e2 r2 s2 p2 => ?_)⟩
    split at p2
    · rename_i kk _
      cases hj : ixN l.length kk with
      | none =>
        rw [hj] at p2
        exact p2.elim
      | some j =>
        rw [hj] at p2
        obtain ⟨s3, q3⟩ := s2.upd hl ho ((rl.up (fr_up e2)).set j (rv.up (fr_up e2)))
        exact ⟨z, vs, kk, j, rfl, rb_int r2, e2 _ _ hz, by rw [← rl.len]; exact hj, hk _ _ s3 ((fr_up e2).trans q3) (SPst.up (r := k _) p2 q3)⟩
    · exact p2.elim
  · exact p.elim
theorem s_put2 {i : Nat} {b1 b2 : Expr} {t1 t2 : TE} {f1 f2 : EF} {p1 p3 sp1 sp2 tp : Pos} {kt k2 : Nat} {pt2 : Pos} (hN : X.N[i]? = some x) (h1 : PEB K W X b1 t1 f1) (h2 : PEB K W X b2 t2 f2) (ha : PAv K W X [a, b] tA fs) (hK : X.K = K := by rfl) (hc : X.calm = true := by rfl)
    (hv : Vis X.env.scope x := by first | exact Or.inl rfl | exact Or.inr (Or.inl rfl) | exact Or.inr (Or.inr rfl)) (hd : (x == ("__debug__" : Str)) = false := by decide) (hcd : (x == ("__classdict__" : Str)) = false := by decide)
    (hsub1 : ∀ v, assign (.Subscript (.Name x p1) b1 sp1) X.env v = (do
      let ov ← holding [v] (eval (.Name x p1) X.env)
      let iv ← holding [v, ov] (eval b1 X.env)
      standAt sp1
      holding [v, ov, iv] (setItem ov iv v)
      release [v, ov, iv] []) := by intro _; rfl)
    (hsub2 : ∀ v, assign (.Subscript (.Name x p3) b2 sp2) X.env v = (do
      let ov ← holding [v] (eval (.Name x p3) X.env)
      let iv ← holding [v, ov] (eval b2 X.env)
      standAt sp2
      holding [v, ov, iv] (setItem ov iv v)
      release [v, ov, iv] []) := by intro _; rfl)
    (ha1 : (assignEach [Expr.Subscript (.Name x p1) b1 sp1, .Subscript (.Name x p3) b2 sp2] X.env).map (·.2) = assign (.Subscript (.Name x p1) b1 sp1) X.env :: (assignEach [Expr.Subscript (.Name x p3) b2 sp2] X.env).map (·.2) := by rfl)
    (ha2 : (assignEach [Expr.Subscript (.Name x p3) b2 sp2] X.env).map (·.2) = assign (.Subscript (.Name x p3) b2 sp2) X.env :: (assignEach [] X.env).map (·.2) := by rfl)
    (hn : (assignEach [Expr.Subscript (.Name x p1) b1 sp1, .Subscript (.Name x p3) b2 sp2] X.env).length = 2 := by rfl) (hst : (assignEach [Expr.Subscript (.Name x p1) b1 sp1, .Subscript (.Name x p3) b2 sp2] X.env).findIdx? (·.1) = none := by rfl)
    (hs : swapsWithSole [.Tuple [.Subscript (.Name x p1) b1 sp1, .Subscript (.Name x p3) b2 sp2] kt tp] (.Tuple [a, b] k2 pt2) pos.line X.env = pure false := by rfl) (hw : swappedStores [.Tuple [.Subscript (.Name x p1) b1 sp1, .Subscript (.Name x p3) b2 sp2] kt tp] (.Tuple [a, b] k2 pt2) X.env = pure none := by rfl)
    (hz : (assignEach [.Tuple [.Subscript (.Name x p1) b1 sp1, .Subscript (.Name x p3) b2 sp2] kt tp] X.env).map (·.2) = [assign (.Tuple [.Subscript (.Name x p1) b1 sp1, .Subscript (.Name x p3) b2 sp2] kt tp) X.env] := by rfl) :
    PSv K W X (.Assign [.Tuple [.Subscript (.Name x p1) b1 sp1, .Subscript (.Name x p3) b2 sp2] kt tp] (.Tuple [a, b] k2 pt2) pos)
      (tAsg (tTup tA) (gTup K 2 (gCons (gSub (tVar i) t1 rSetL) (gCons (gSub (tVar i) t2 rSetL) gNil)))) (sPut2 i f1 f2 fs) := by
  subst hK
  refine ⟨ps_asg (pe_tup ha.pa) (pg_tup hc (pgs_cons (pg_sub (pe_var hN hv hd hcd) h1.pe set_list hsub1) (pgs_cons (pg_sub (pe_var hN hv hd hcd) h2.pe set_list hsub2) pgs_nil ha2) ha1) hn hst) hs hw hz, fun B N env σ H D s p => ?_⟩
  refine ha.ev _ env σ H s.rd _ (Rs.so_p s p fun l _ vs H1 e1 r1 s1 p1 => ?_)
  split at p1
  · rename_i d e' _
    obtain ⟨v, w1, rfl, q1, r2⟩ := r1.of_cons
    obtain ⟨w, w2, rfl, q2, r3⟩ := r2.of_cons
    cases r3.of_nil
    refine ⟨by show 2 ≤ sizeLine; decide, fun z hz => ⟨z, [v, w], rfl, SqT.of upd_same, rfl, ?_⟩⟩
    have e2 := same_new (o := .tup [v, w]) hz
    have s2 := s1.up e2
    refine ⟨v, [w], rfl, put1_ok s2 (q1.up (fr_up e2)) h1.ev (SPst.up (r := put1 _ _ _ _ _) p1 (fr_up e2)) fun env1 H2 s3 e3 p3 => ?_⟩
    refine ⟨w, [], rfl, put1_ok s3 ((q2.up (fr_up e2)).up e3) h2.ev p3 fun env2 H3 s4 e4 p4 => ?_⟩
    exact ⟨rfl, p4 σ H3 s4 (Same.refl _)⟩
  · exact p1.elim
end
end Ag


namespace Ag
open PySem L2
/-! ### the draws of a law: a list of a list of ints and a count -/
def drawAt (ns : List Int) (c : Int) : Nat := ((c + 1).fmod (ns.length : Int)).toNat
def drawCell (ns : List Int) (c : Int) : Int := ns.getD (drawAt ns c) 0
def drawR (ns : List Int) (c lim : Int) : Int :=
  let cell := drawCell ns c
  if 1000000000000000000 ≤ cell then cell.fmod lim else
    let m := (cell + 104729 * (c + 1)).fmod 4294967291
    let m2 := (m ^ (5 : Int).toNat).fmod 4294967279
    ((((m2.fdiv 64 * 69621 + m2).fmod 4294967231).fdiv 8).fmod lim)
def drawN (ns : List Int) (c lim : Int) : List Int :=
  let cell := drawCell ns c
  if 1000000000000000000 ≤ cell then ns.set (drawAt ns c) (cell.fdiv lim) else ns
theorem drawN_len (ns : List Int) (c lim : Int) : (drawN ns c lim).length = ns.length := by
  unfold drawN
  dsimp only
  split
  · rw [List.length_set]
  · rfl
theorem drawR_range (ns : List Int) (c : Int) {lim : Int} (h : 0 < lim) : 0 ≤ drawR ns c lim ∧ drawR ns c lim < lim := by
  unfold drawR
  dsimp only
  split
  · exact ⟨Int.fmod_nonneg_of_pos _ h, Int.fmod_lt_of_pos _ h⟩
  · exact ⟨Int.fmod_nonneg_of_pos _ h, Int.fmod_lt_of_pos _ h⟩
theorem drawAt_lt {ns : List Int} (h : ns ≠ []) (c : Int) : drawAt ns c < ns.length := by
  have hl : 0 < ns.length := List.length_pos_iff.mpr h
  have h0 : (0 : Int) < (ns.length : Int) := by omega
  have h1 := Int.fmod_nonneg_of_pos (c + 1) h0
  have h2 := Int.fmod_lt_of_pos (c + 1) h0
  unfold drawAt
  omega
/-- the draws stand at p, q -/
def DrAt (H : Hp) (p q : Addr) (ns : List Int) (c : Int) : Prop := H p = some (.lst [.ref q, .int c]) ∧ H q = some (.lst (ns.map V.int))
def Elsewhere (H H' : Hp) (p q : Addr) : Prop := ∀ a o, a ≠ p → a ≠ q → H a = some o → H' a = some o
def spDraw : Sp := fun vs H Q _ => ∃ p q ns c lim, vs = [.ref p, .int lim] ∧ p ≠ q ∧ DrAt H p q ns c ∧ ns ≠ [] ∧ ns.length ≤ 100000 ∧ 0 < lim ∧ lim < 1073741824 ∧
  ∀ H', DrAt H' p q (drawN ns c lim) (c + 1) → Elsewhere H H' p q → (∀ a, H a = none → H' a = none) → Q (.int (drawR ns c lim)) H'
def spPick : Sp := fun vs H Q _ => ∃ p q ns c b ws, vs = [.ref p, .ref b] ∧ p ≠ q ∧ DrAt H p q ns c ∧ ns ≠ [] ∧ ns.length ≤ 100000 ∧ b ≠ p ∧ b ≠ q ∧ H b = some (.lst ws) ∧ ws ≠ [] ∧ ws.length ≤ 100000 ∧
  ∀ H' v, DrAt H' p q (drawN ns c ws.length) (c + 1) → Elsewhere H H' p q → (∀ a, H a = none → H' a = none) → ws[(drawR ns c ws.length).toNat]? = some v → Q v H'

section
variable {W : WT} {B : Hp} {N : Addr → Prop} {env : En} {σ : L2.St} {H H' : Hp} {D : Ends}
/-- the draws in slot i have gone on -/
theorem StS.drUpd (h : StS B N env σ H) {i : Nat} {p q : Addr} {ns ns' : List Int} {c c' : Int} (hi : env[i]? = some (.dr p q ns c)) (d : DrAt H' p q ns' c') (el : Elsewhere H H' p q) :
    StS B N (env.set i (.dr p q ns' c')) σ H' ∧ Same (fr N env σ H) (fr N (env.set i (.dr p q ns' c')) σ H') := by
  obtain ⟨o, ho, e0, hp, hq⟩ := h.rd.sl i _ hi
  have ownp : Own env σ p := ⟨i, _, _, hi, ho, by simp [adr]⟩
  have ownq : Own env σ q := ⟨i, _, _, hi, ho, by simp [adr]⟩
  have ad : ∀ (j : Nat) (s : Sl) (o' : Option V) (a : Addr), (env.set i (.dr p q ns' c'))[j]? = some s → σ[j]? = some o' → a ∈ adr s o' → ∃ t, env[j]? = some t ∧ a ∈ adr t o' := fun j s o' a h1 h2 h3 => by
    rcases get_set h1 with ⟨rfl, rfl⟩ | ⟨_, g⟩
    · exact ⟨_, hi, by simpa [adr] using h3⟩
    · exact ⟨s, g, h3⟩
  have hM : ∀ a, Mo N (env.set i (.dr p q ns' c')) σ a → Mo N env σ a := fun a m => by
    rcases m with m | ⟨j, s, o', h1, h2, h3⟩
    · exact .inl m
    · obtain ⟨t, g1, g2⟩ := ad j s o' a h1 h2 h3
      exact .inr ⟨j, t, o', g1, h2, g2⟩
  have hF : Same (fr N env σ H) (fr N (env.set i (.dr p q ns' c')) σ H') := fun a o e => by
    unfold fr at e ⊢
    rw [hid_some] at e ⊢
    exact ⟨fun m => e.1 (hM a m), el a o (fun z => e.1 (by rw [z]; exact .inr ownp)) (fun z => e.1 (by rw [z]; exact .inr ownq)) e.2⟩
  have oth : ∀ (j : Nat) (t : Sl) (o' : Option V) (a : Addr), j ≠ i → env[j]? = some t → σ[j]? = some o' → a ∈ adr t o' → a ≠ p ∧ a ≠ q := fun j t o' a hj g1 g2 g3 =>
    ⟨fun z => hj (h.dis j i t _ o' _ a g1 g2 hi ho g3 (by rw [z]; simp [adr])), fun z => hj (h.dis j i t _ o' _ a g1 g2 hi ho g3 (by rw [z]; simp [adr]))⟩
  refine ⟨⟨⟨fun a m => ?_, fun j t ht => ?_⟩, by rw [List.length_set]; exact h.len, fun a o e => ?_, fun j k s t o u a h1 h2 h3 h4 h5 h6 => ?_, fun a m => ?_, fun j p1 q1 ns1 c1 e => ?_⟩, hF⟩
  · by_cases e1 : a = p
    · exact ⟨_, by rw [e1]; exact d.1⟩
    · by_cases e2 : a = q
      · exact ⟨_, by rw [e2]; exact d.2⟩
      · obtain ⟨o, z⟩ := h.rd.al a (hM a m)
        exact ⟨o, el a o e1 e2 z⟩
  · rcases get_set ht with ⟨rfl, rfl⟩ | ⟨hj, g⟩
    · exact ⟨_, ho, e0, d.1, d.2⟩
    · obtain ⟨o', ho', w⟩ := h.rd.sl j t g
      refine ⟨o', ho', ?_⟩
      cases t with
      | no => trivial
      | fz d =>
        obtain ⟨x, e1, w⟩ := w
        exact ⟨x, e1, w.up hF⟩
      | ow m =>
        obtain ⟨y, ws, e1, e2, w⟩ := w
        obtain ⟨n1, n2⟩ := oth j _ o' y hj g ho' (by rw [e1]; simp [adr])
        exact ⟨y, ws, e1, el _ _ n1 n2 e2, w.up hF⟩
      | dr y z ns c =>
        obtain ⟨n1, n2⟩ := oth j _ o' y hj g ho' (by simp [adr])
        obtain ⟨n3, n4⟩ := oth j _ o' z hj g ho' (by simp [adr])
        exact ⟨w.1, el _ _ n1 n2 w.2.1, el _ _ n3 n4 w.2.2⟩
      | ob _ ko =>
        obtain ⟨yo, eo, wo⟩ := w
        exact ⟨yo, eo, hF _ _ wo⟩
      | gx as gd =>
        refine RGd.mono w (fun a ha u e => ?_) hF
        obtain ⟨n1, n2⟩ := oth j _ o' a hj g ho' (by simpa [adr] using ha)
        exact el _ _ n1 n2 e
  · refine el a o (fun z => ?_) (fun z => ?_) (h.ext a o e)
    · rw [z, (h.new p ownp).2] at e
      cases e
    · rw [z, (h.new q ownq).2] at e
      cases e
  · obtain ⟨s', g1, g2⟩ := ad j s o a h1 h2 h5
    obtain ⟨t', g3, g4⟩ := ad k t u a h3 h4 h6
    exact h.dis j k s' t' o u a g1 h2 g3 h4 g2 g4
  · obtain ⟨j, s, o, h1, h2, h3⟩ := m
    obtain ⟨t, g1, g2⟩ := ad j s o a h1 h2 h3
    exact h.new a ⟨j, t, o, g1, h2, g2⟩
  · rcases get_set e with ⟨_, f⟩ | ⟨_, f⟩
    · cases f
      exact h.drs i p q ns c hi
    · exact h.drs j p1 q1 ns1 c1 f
end

/-! ### expressions that draw -/
abbrev MF := En → Rs (D × En)
def MPst {α β : Type} (W : WT) (B : Hp) (N : Addr → Prop) (F0 : Hp) (σ : L2.St) (R : Hp → α → β → Prop) (Q : β → Hp → Prop) : Rs (α × En) → Prop
  | .val (d, env) => ∀ v H, StS B N env σ H → Same F0 (fr N env σ H) → R (fr N env σ H) d v → Q v H
  | .exc c => ∀ env H, StS B N env σ H → W c σ H
  | .stk => False
theorem MPst.up {α β : Type} {W : WT} {B : Hp} {N : Addr → Prop} {F0 F1 : Hp} {σ : L2.St} {R : Hp → α → β → Prop} {Q : β → Hp → Prop} {r : Rs (α × En)} (h : MPst W B N F0 σ R Q r) (s : Same F0 F1) : MPst W B N F1 σ R Q r := by
  cases r with
  | val a => exact fun v H a b => h v H a (s.trans b)
  | exc c => exact h
  | stk => exact h
theorem MPst.step {α β γ δ : Type} {W : WT} {B : Hp} {N : Addr → Prop} {F0 : Hp} {σ : L2.St} {R : Hp → α → β → Prop} {R' : Hp → γ → δ → Prop} {Q : β → Hp → Prop} {Q' : δ → Hp → Prop} {m : Rs (γ × En)} {k : γ × En → Rs (α × En)}
    (h : MPst W B N F0 σ R Q (m >>= k)) (hk : ∀ c e, m = .val (c, e) → ∀ d H, StS B N e σ H → Same F0 (fr N e σ H) → R' (fr N e σ H) c d → MPst W B N (fr N e σ H) σ R Q (k (c, e)) → Q' d H) : MPst W B N F0 σ R' Q' m := by
  cases m with
  | val c =>
    obtain ⟨c, e⟩ := c
    exact fun d H s q r => hk c e rfl d H s q r (MPst.up (r := k (c, e)) h q)
  | exc c => exact h
  | stk => exact h
def RpD : Hp → D → V → Prop := fun F d v => Rep F d v
def RpB : Hp → Bool → Bool → Prop := fun _ b v => v = b
def RpL : Hp → List D → List V → Prop := fun F l vs => RepL F l vs
def EvM (W : WT) (te : TE) (f : MF) : Prop := ∀ B N env σ H, StS B N env σ H → ∀ Q : VK, MPst W B N (fr N env σ H) σ RpD Q (f env) → te σ H Q
def EvMT (W : WT) (tt : TT) (f : En → Rs (Bool × En)) : Prop := ∀ B N env σ H, StS B N env σ H → ∀ Q : Bool → Hp → Prop, MPst W B N (fr N env σ H) σ RpB Q (f env) → tt σ H Q
def EvMA (W : WT) (ta : TA) (f : En → Rs (List D × En)) : Prop := ∀ B N env σ H, StS B N env σ H → ∀ Q : List V → Hp → Prop, MPst W B N (fr N env σ H) σ RpL Q (f env) → ta σ H Q
structure PEM (K : PySem.W.Frag) (W : WT) (X : Cx) (e : Expr) (te : TE) (f : MF) : Prop where
  pe : PE X e te
  ev : EvM W te f
structure PTM (K : PySem.W.Frag) (W : WT) (X : Cx) (e : Expr) (tt : TT) (f : En → Rs (Bool × En)) : Prop where
  pt : PT X e tt
  ev : EvMT W tt f
structure PAM (K : PySem.W.Frag) (W : WT) (X : Cx) (es : List Expr) (ta : TA) (f : En → Rs (List D × En)) : Prop where
  pa : PA X es ta
  ev : EvMA W ta f
section
variable {K : PySem.W.Frag} {W : WT} {X : Cx} {a b c e tg : Expr} {es : List Expr} {ta tb tc te : TE} {tA tR : TA} {f g h : EF} {fm gm hm : MF} {fs gs : En → Rs (List D × En)} {pos p p2 : Pos} {x : Str} {wi : TI}
  {st : Stmt} {rest sts : List Stmt} {t u : TS} {k1 k2 : SF} {tt : TT} {fb : En → Rs Bool} {fbm : En → Rs (Bool × En)}
theorem pst_of {α β : Type} {B : Hp} {N : Addr → Prop} {env : En} {σ : L2.St} {H : Hp} {Q : β → Hp → Prop} {m : Rs α} {R : Hp → α → β → Prop} {R' : α → β → Hp → Prop} (s : StS B N env σ H) (h : MPst W B N (fr N env σ H) σ R Q (m >>= fun d => .val (d, env)))
    (hR : ∀ a b H', R' a b H' → R (fr N env σ H') a b) : Pst H (fun c H' => W c σ H') R' Q m := by
  cases m with
  | val a => exact fun b H' e r => h b H' (s.up e) (fr_up e) (hR _ _ _ r)
  | exc c => exact fun H' e => h env H' (s.up e)
  | stk => exact h
def mP (f : EF) : MF := fun env => f env >>= fun d => .val (d, env)
def mPT (f : En → Rs Bool) : En → Rs (Bool × En) := fun env => f env >>= fun d => .val (d, env)
theorem m_p (ha : PEv K W X e te f) : PEM K W X e te (mP f) := ⟨ha.pe, fun B N env σ H s Q p => ha.ev _ env σ H s.rd Q (pst_of s p fun _ _ _ r => r)⟩
theorem mt_p (ha : PTv K W X e tt fb) : PTM K W X e tt (mPT fb) := ⟨ha.pt, fun B N env σ H s Q p => ha.ev _ env σ H s.rd Q (pst_of s p fun _ _ _ r => r)⟩
def mBin (g : D → D → Rs D) (f1 f2 : MF) : MF := fun env => f1 env >>= fun r1 => f2 r1.2 >>= fun r2 => g r1.1 r2.1 >>= fun z => .val (z, r2.2)
theorem evm_bin {r : R2} {q : D → D → Rs D} (s : BinSem r q) (ha : EvM W ta fm) (hb : EvM W tb gm) : EvM W (tOp r ta tb) (mBin q fm gm) := fun B N env σ H st Q p =>
  ha B N env σ H st _ (p.step fun d e1 _ x H1 s1 q1 r1 p1 => hb B N e1 σ H1 s1 _ (p1.step fun e e2 _ y H2 s2 q2 r2 p2 =>
    s (Mo N e2 σ) H2 d e x y _ Q (fun _ z => s2.rd.free z) (.inl (Rep.up r1 q2)) (.inl r2) (pst_of s2 p2 fun _ _ _ r => r)))
theorem m_bin {op : Operator} {r : R2} {q : D → D → Rs D} (ho : OpR X (binaryOp op) r) (s : BinSem r q) (ha : PEM K W X a ta fm) (hb : PEM K W X b tb gm) : PEM K W X (.BinOp a op b pos) (tOp r ta tb) (mBin q fm gm) :=
  ⟨pe_op ho ha.pe hb.pe, evm_bin s ha.ev hb.ev⟩
theorem m_add (ha : PEM K W X a ta fm) (hb : PEM K W X b tb gm) (hK : X.K = K := by rfl) : PEM K W X (.BinOp a .Add b pos) (tOp (rAddAny K) ta tb) (mBin dAdd fm gm) := by
  subst hK
  exact m_bin ((op_add.or op_cat).or (op_catA.or op_add_str)) sem_add ha hb
theorem m_sub (ha : PEM K W X a ta fm) (hb : PEM K W X b tb gm) : PEM K W X (.BinOp a .Sub b pos) (tOp (rI0 fun i j => .int (i - j)) ta tb) (mBin dSub fm gm) := m_bin op_sub sem_I0 ha hb
def mAsB (f : MF) : En → Rs (Bool × En) := fun env => f env >>= fun r => match r.1 with
  | .bool b => .val (b, r.2)
  | _ => .stk
theorem evm_tst (ha : EvM W ta fm) : EvMT W (fun σ H Q => ta σ H fun x H' => ∃ k, x = .bl k ∧ Q k H') (mAsB fm) := fun B N env σ H s Q p =>
  ha B N env σ H s _ (p.step fun d e1 _ v H1 s1 q1 r1 p1 => by
    dsimp only at p1
    split at p1
    · exact ⟨_, rep_bool.mp r1, p1 _ H1 s1 (Same.refl _) rfl⟩
    · exact p1.elim)
theorem mt_eq {k : Nat} (hr : Room k X.A) (ha : PEM K W X a ta fm) (hb : PEM K W X b tb gm) (hK : X.K = K := by rfl) : PTM K W X (.Compare a [.Eq] [b] pos) (tTest (tOp (rEqD K) ta tb)) (mAsB (mBin dEq fm gm)) := by
  subst hK
  exact ⟨pt_cmpR (op_eqD (room64 hr)) ha.pe hb.pe (nobehind _ (by decide) (by decide)), evm_tst (evm_bin sem_eq ha.ev hb.ev)⟩
theorem mt_gt (ha : PEM K W X a ta fm) (hb : PEM K W X b tb gm) : PTM K W X (.Compare a [.Gt] [b] pos) (tTest (tOp (rI0 fun i j => .bl (decide (j < i))) ta tb)) (mAsB (mBin dGt fm gm)) :=
  ⟨pt_cmpR op_gt ha.pe hb.pe (nobehind _ (by decide) (by decide)), evm_tst (evm_bin sem_B0 ha.ev hb.ev)⟩
def mIf (t : En → Rs (Bool × En)) (f g : MF) : MF := fun env => t env >>= fun b => if b.1 = true then f b.2 else g b.2
theorem m_if (hc : PTM K W X c tt fbm) (ha : PEM K W X a ta fm) (hb : PEM K W X b tb gm) : PEM K W X (.IfExp c a b pos) (tIf tt ta tb) (mIf fbm fm gm) := ⟨pe_ifExp hc.pt ha.pe hb.pe, fun B N env σ H s Q p =>
  hc.ev B N env σ H s _ (p.step fun d e1 _ v H1 s1 q1 r1 p1 => by
    have r1 : v = d := r1
    subst r1
    cases v with
    | true => exact ha.ev B N e1 σ H1 s1 Q p1
    | false => exact hb.ev B N e1 σ H1 s1 Q p1)⟩
def maNil : En → Rs (List D × En) := fun env => .val ([], env)
def maCons (f : MF) (g : En → Rs (List D × En)) : En → Rs (List D × En) := fun env => f env >>= fun d => g d.2 >>= fun l => .val (d.1 :: l.1, l.2)
theorem ma_nil : PAM K W X [] tNil maNil := ⟨pa_nil, fun B N env σ H s Q p => p _ H s (Same.refl _) repL_nil⟩
theorem ma_cons (ha : PEM K W X e te fm) (hr : PAM K W X es tR gs) (hs : starEach (e :: es) X.env = (false, eval e X.env) :: starEach es X.env := by rfl) : PAM K W X (e :: es) (tCons te tR) (maCons fm gs) :=
  ⟨pa_cons ha.pe hr.pa hs, fun B N env σ H s Q p => ha.ev B N env σ H s _ (p.step fun d e1 _ v H1 s1 q1 r1 p1 => hr.ev B N e1 σ H1 s1 _ (p1.step fun l e2 _ vs H2 s2 q2 r2 p2 =>
    p2 _ H2 s2 (Same.refl _) (repL_cons (Rep.up r1 q2) r2)))⟩
def mTup (fs : En → Rs (List D × En)) : MF := fun env => fs env >>= fun l => if l.1.length ≤ 100000 then .val (.tuple l.1, l.2) else .stk
theorem m_tup {k} (ha : PAM K W X es tA fs) : PEM K W X (.Tuple es k pos) (tTup tA) (mTup fs) := ⟨pe_tup ha.pa, fun B N env σ H s Q p => ha.ev B N env σ H s _ (p.step fun l e1 _ vs H1 s1 q1 r1 p1 => by
  dsimp only at p1
  have r1 : RepL _ l vs := r1
  split at p1
  · rename_i hz
    exact ⟨by rw [← r1.len]; exact szn hz, fun z hz' => p1 _ _ (s1.up (same_new hz')) (fr_up (same_new hz')) (rep_new_t hz' (s1.rd.free hz') r1)⟩
  · exact p1.elim)⟩
/-! the calls that draw -/
def drOf (env : En) (i : Nat) : Rs (Addr × Addr × List Int × Int) := match env[i]? with
  | some (.dr p q ns c) => if ns ≠ [] ∧ ns.length ≤ 100000 then .val (p, q, ns, c) else .stk
  | _ => .stk
theorem drOf_val {env : En} {i : Nat} {p q : Addr} {ns : List Int} {c : Int} (h : drOf env i = .val (p, q, ns, c)) : env[i]? = some (.dr p q ns c) ∧ ns ≠ [] ∧ ns.length ≤ 100000 := by
  unfold drOf at h
  split at h
  · split at h
    · rename_i hn
      cases h
      exact ⟨by assumption, hn⟩
    · cases h
  · cases h
def mDraw (i : Nat) (f : MF) : MF := fun env => drOf env i >>= fun _ => f env >>= fun r => match r.1 with
  | .int lim => drOf r.2 i >>= fun d => if 0 < lim ∧ lim < 1073741824 then .val (.int (drawR d.2.2.1 d.2.2.2 lim), r.2.set i (.dr d.1 d.2.1 (drawN d.2.2.1 d.2.2.2 lim) (d.2.2.2 + 1))) else .stk
  | _ => .stk
section
variable {k : Nat} {fa : Addr} {fd : FuncData} {ps : List Str} {i : Nat} {y : Str} {py : Pos}
theorem sl_dr {B : Hp} {N : Addr → Prop} {env : En} {σ : L2.St} {H : Hp} {p q : Addr} {ns : List Int} {c : Int} (s : StS B N env σ H) (h : env[i]? = some (.dr p q ns c)) : σ[i]? = some (some (.ref p)) ∧ p ≠ q ∧ DrAt H p q ns c := by
  obtain ⟨o, ho, e, h1, h2⟩ := s.rd.sl i _ h
  exact ⟨by rw [ho, e], s.drs i _ _ _ _ h, h1, h2⟩
theorem m_draw (F : FnOk X.prog X.w X.K X.mg X.base CX0 k fa fd ps spDraw) (hr : Room k X.A) (hm : X.mg x = some (.ref fa)) (hk : PySem.W.keepIn X.K (.ref fa) = true) (hb : Binds X.K fd ps []) (hN : X.N[i]? = some y)
    (ha : PEM K W0 X a ta fm) (hv : Vis X.env.scope y := by first | exact Or.inl rfl | exact Or.inr (Or.inl rfl) | exact Or.inr (Or.inr rfl)) (hdy : (y == ("__debug__" : Str)) = false := by decide) (hcd : (y == ("__classdict__" : Str)) = false := by decide)
    (hg : Gl X x := by rfl) (hdb : (x == ("__debug__" : Str)) = false := by decide) (he : starEach (.Name y py :: [a]) X.env = (false, eval (.Name y py) X.env) :: starEach [a] X.env := by rfl) (he2 : starEach (a :: []) X.env = (false, eval a X.env) :: starEach [] X.env := by rfl)
    (hpl : (backTo pos (starEach [a] X.env)).any (·.1) = false := by rfl) : PEM K W0 X (.Call (.Name x p) [.Name y py, a] [] pos) (tCall spDraw [] E0 (tCons (tVar i) (tCons ta tNil))) (mDraw i fm) := by
  refine ⟨pe_call F hr hg hm hk hb .nil pass0 (pa_cons (pe_var hN hv hdy hcd) (pa_cons ha.pe pa_nil he2) he) hdb he hpl, fun B N env σ H s Q p => ?_⟩
  unfold mDraw at p
  cases h0 : drOf env i with
  | exc c => rw [h0] at p; exact (p env H s).elim
  | stk => rw [h0] at p; exact p.elim
  | val d0 =>
    rw [h0] at p
    obtain ⟨p0, q0, ns0, c0⟩ := d0
    obtain ⟨hi0, _⟩ := drOf_val h0
    have e0 := (sl_dr s hi0).1
    refine ⟨_, e0, ha.ev B N env σ H s _ (MPst.step (R := RpD) (Q := Q) p fun d e1 _ v H1 s1 q1 r1 p1 => ?_)⟩
    show spDraw [V.ref p0, v] H1 Q E0
    dsimp only at p1
    split at p1
    · rename_i lim _
      have ev : v = .int lim := rep_int.mp r1
      cases h1 : drOf e1 i with
      | exc c => rw [h1] at p1; exact (p1 e1 H1 s1).elim
      | stk => rw [h1] at p1; exact p1.elim
      | val d1 =>
        rw [h1] at p1
        obtain ⟨p1', q1', ns1, c1⟩ := d1
        obtain ⟨hi1, hne, hlen⟩ := drOf_val h1
        obtain ⟨ez, npq, dr⟩ := sl_dr s1 hi1
        rw [e0] at ez
        cases ez
        have p1 : MPst W0 B N (fr N e1 σ H1) σ RpD Q (if 0 < lim ∧ lim < 1073741824 then .val (.int (drawR ns1 c1 lim), e1.set i (.dr p0 q1' (drawN ns1 c1 lim) (c1 + 1))) else .stk) := p1
        split at p1
        · rename_i hl
          refine ⟨p0, q1', ns1, c1, lim, by rw [ev], npq, dr, hne, hlen, hl.1, hl.2, fun H' dr' el _ => ?_⟩
          obtain ⟨s2, q2⟩ := s1.drUpd hi1 dr' el
          exact p1 _ H' s2 q2 (rep_int.mpr rfl)
        · exact p1.elim
    · exact p1.elim
def pickK (i : Nat) (env : En) (d : Addr × Addr × List Int × Int) (l : List D) : Rs (D × En) :=
  if l ≠ [] ∧ l.length ≤ 100000 then (ofO (l[(drawR d.2.2.1 d.2.2.2 l.length).toNat]?) >>= fun z => .val (z, env.set i (.dr d.1 d.2.1 (drawN d.2.2.1 d.2.2.2 l.length) (d.2.2.2 + 1)))) else .stk
theorem pick_go {B : Hp} {N : Addr → Prop} {env : En} {σ : L2.St} {H : Hp} {Q : VK} {l : List D} {d : Addr × Addr × List Int × Int} {b : Addr} {ws : List V} (s : StS B N env σ H) (h0 : drOf env i = .val d) (hb : H b = some (.lst ws)) (rl : RepL (fr N env σ H) l ws)
    (n1 : b ≠ d.1) (n2 : b ≠ d.2.1) (p : MPst W0 B N (fr N env σ H) σ RpD Q (pickK i env d l)) : spPick [V.ref d.1, V.ref b] H Q E0 := by
  obtain ⟨p0, q0, ns, c⟩ := d
  obtain ⟨hi, hne, hlen⟩ := drOf_val h0
  obtain ⟨e0, npq, dr⟩ := sl_dr s hi
  unfold pickK at p
  split at p
  · rename_i hl
    have lw := rl.len
    refine ⟨p0, q0, ns, c, b, ws, rfl, npq, dr, hne, hlen, n1, n2, hb, fun z => hl.1 (List.eq_nil_of_length_eq_zero (by rw [lw, z]; rfl)), by omega, fun H' v dr' el _ hv => ?_⟩
    obtain ⟨s2, q2⟩ := s.drUpd hi dr' el
    rw [← lw] at hv s2 q2
    cases hx : l[(drawR ns c l.length).toNat]? with
    | none =>
      rw [hx] at p
      exact p.elim
    | some z =>
      rw [hx] at p
      obtain ⟨v', hv', rv⟩ := rl.get hx
      rw [hv] at hv'
      cases hv'
      exact p v H' s2 q2 (Rep.up rv q2)
  · exact p.elim
def mPick (i : Nat) (f : EF) : MF := fun env => drOf env i >>= fun d => f env >>= fun r => match r with
  | .list l => pickK i env d l
  | _ => .stk
theorem m_pick (F : FnOk X.prog X.w X.K X.mg X.base CX0 k fa fd ps spPick) (hr : Room k X.A) (hm : X.mg x = some (.ref fa)) (hk : PySem.W.keepIn X.K (.ref fa) = true) (hb : Binds X.K fd ps []) (hN : X.N[i]? = some y)
    (ha : PEv K W0 X a ta f) (hv : Vis X.env.scope y := by first | exact Or.inl rfl | exact Or.inr (Or.inl rfl) | exact Or.inr (Or.inr rfl)) (hdy : (y == ("__debug__" : Str)) = false := by decide) (hcd : (y == ("__classdict__" : Str)) = false := by decide)
    (hg : Gl X x := by rfl) (hdb : (x == ("__debug__" : Str)) = false := by decide) (he : starEach (.Name y py :: [a]) X.env = (false, eval (.Name y py) X.env) :: starEach [a] X.env := by rfl) (he2 : starEach (a :: []) X.env = (false, eval a X.env) :: starEach [] X.env := by rfl)
    (hpl : (backTo pos (starEach [a] X.env)).any (·.1) = false := by rfl) : PEM K W0 X (.Call (.Name x p) [.Name y py, a] [] pos) (tCall spPick [] E0 (tCons (tVar i) (tCons ta tNil))) (mPick i f) := by
  refine ⟨pe_call F hr hg hm hk hb .nil pass0 (pa_cons (pe_var hN hv hdy hcd) (pa_cons ha.pe pa_nil he2) he) hdb he hpl, fun B N env σ H s Q p => ?_⟩
  unfold mPick at p
  cases h0 : drOf env i with
  | exc c => rw [h0] at p; exact (p env H s).elim
  | stk => rw [h0] at p; exact p.elim
  | val d0 =>
    rw [h0] at p
    obtain ⟨p0, q0, ns, c⟩ := d0
    obtain ⟨hi, hne, hlen⟩ := drOf_val h0
    obtain ⟨e0, npq, dr⟩ := sl_dr s hi
    have p : MPst W0 B N (fr N env σ H) σ RpD Q (f env >>= fun r => match r with
      | .list l => pickK i env (p0, q0, ns, c) l
      | _ => .stk) := p
    refine ⟨_, e0, ha.ev _ env σ H s.rd _ ?_⟩
    cases hf : f env with
    | exc c => rw [hf] at p; exact fun H' e => p env H' (s.up e)
    | stk => rw [hf] at p; exact p.elim
    | val r =>
      rw [hf] at p
      intro v H1 e1 r1
      cases r with
      | list l =>
        obtain ⟨b, ws, rfl, hb', rl⟩ := rep_list.mp r1
        obtain ⟨nb, hb2⟩ := hid_some.mp hb'
        exact pick_go (s.up e1) h0 hb2 rl (fun z => nb (by rw [z]; exact .inr ⟨i, _, _, hi, e0, by simp [adr]⟩)) (fun z => nb (by rw [z]; exact .inr ⟨i, _, _, hi, e0, by simp [adr]⟩)) (MPst.up (r := pickK i env (p0, q0, ns, c) l) p (fr_up e1))
      | _ => exact p.elim
/-- the choices are the owned list in slot j -/
def mPickV (i j : Nat) : MF := fun env => drOf env i >>= fun d => match env[j]? with
  | some (.ow l) => pickK i env d l
  | some (.fz (.list l)) => pickK i env d l
  | _ => .stk
theorem m_pickV {j : Nat} {z : Str} {pz : Pos} (F : FnOk X.prog X.w X.K X.mg X.base CX0 k fa fd ps spPick) (hr : Room k X.A) (hm : X.mg x = some (.ref fa)) (hk : PySem.W.keepIn X.K (.ref fa) = true) (hb : Binds X.K fd ps []) (hN : X.N[i]? = some y) (hNz : X.N[j]? = some z)
    (hv : Vis X.env.scope y := by first | exact Or.inl rfl | exact Or.inr (Or.inl rfl) | exact Or.inr (Or.inr rfl)) (hdy : (y == ("__debug__" : Str)) = false := by decide) (hcd : (y == ("__classdict__" : Str)) = false := by decide)
    (hvz : Vis X.env.scope z := by first | exact Or.inl rfl | exact Or.inr (Or.inl rfl) | exact Or.inr (Or.inr rfl)) (hdz : (z == ("__debug__" : Str)) = false := by decide) (hcdz : (z == ("__classdict__" : Str)) = false := by decide)
    (hg : Gl X x := by rfl) (hdb : (x == ("__debug__" : Str)) = false := by decide) (he : starEach (.Name y py :: [.Name z pz]) X.env = (false, eval (.Name y py) X.env) :: starEach [.Name z pz] X.env := by rfl) (he2 : starEach (.Name z pz :: []) X.env = (false, eval (.Name z pz) X.env) :: starEach [] X.env := by rfl)
    (hpl : (backTo pos (starEach [.Name z pz] X.env)).any (·.1) = false := by rfl) : PEM K W0 X (.Call (.Name x p) [.Name y py, .Name z pz] [] pos) (tCall spPick [] E0 (tCons (tVar i) (tCons (tVar j) tNil))) (mPickV i j) := by
  refine ⟨pe_call F hr hg hm hk hb .nil pass0 (pa_cons (pe_var hN hv hdy hcd) (pa_cons (pe_var hNz hvz hdz hcdz) pa_nil he2) he) hdb he hpl, fun B N env σ H s Q p => ?_⟩
  unfold mPickV at p
  cases h0 : drOf env i with
  | exc c => rw [h0] at p; exact (p env H s).elim
  | stk => rw [h0] at p; exact p.elim
  | val d0 =>
    rw [h0] at p
    obtain ⟨p0, q0, ns, c⟩ := d0
    obtain ⟨hi, hne, hlen⟩ := drOf_val h0
    obtain ⟨e0, npq, dr⟩ := sl_dr s hi
    have p : MPst W0 B N (fr N env σ H) σ RpD Q (match env[j]? with
      | some (.ow l) => pickK i env (p0, q0, ns, c) l
      | some (.fz (.list l)) => pickK i env (p0, q0, ns, c) l
      | _ => .stk) := p
    split at p
    · rename_i l hj
      obtain ⟨o, ho, b, ws, rfl, hb', rl⟩ := s.rd.sl j _ hj
      have nij : i ≠ j := fun e => by
        rw [e, hj] at hi
        cases hi
      refine ⟨_, e0, _, ho, ?_⟩
      exact pick_go s h0 hb' rl (fun z => nij (s.dis i j _ _ _ _ b hi e0 hj ho (by rw [z]; simp [adr]) (by simp [adr]))) (fun z => nij (s.dis i j _ _ _ _ b hi e0 hj ho (by rw [z]; simp [adr]) (by simp [adr]))) p
    · rename_i l hj
      obtain ⟨o, ho, x', rfl, r⟩ := s.rd.sl j _ hj
      obtain ⟨b, ws, rfl, hb', rl⟩ := rep_list.mp r
      obtain ⟨nb, hb2⟩ := hid_some.mp hb'
      refine ⟨_, e0, _, ho, ?_⟩
      exact pick_go s h0 hb2 rl (fun z => nb (by rw [z]; exact .inr ⟨i, _, _, hi, e0, by simp [adr]⟩)) (fun z => nb (by rw [z]; exact .inr ⟨i, _, _, hi, e0, by simp [adr]⟩)) p
    · exact p.elim
/-! a def of the draws and one more value, told by its run: a new list, the draws gone on -/
def spRank (g : SF) (n : Nat) : Sp := fun vs H Q _ => ∃ (M : Addr → Prop) (p q : Addr) (ns : List Int) (c : Int) (d : D) (w : V), vs = [.ref p, w] ∧ p ≠ q ∧ DrAt H p q ns c ∧ (∀ a, M a → ∃ o, H a = some o) ∧ M p ∧ M q ∧ Rep (hid M H) d w ∧
  ∃ l env' ns' c', g (.dr p q ns c :: .fz d :: List.replicate n .no) = .reto l env' ∧ env'[0]? = some (.dr p q ns' c') ∧
  ∀ v H', DrAt H' p q ns' c' → Elsewhere H H' p q → RO M H l v H' → Q v H'
def mRank (g : SF) (n i : Nat) (f : MF) : MF := fun env => drOf env i >>= fun _ => f env >>= fun r => drOf r.2 i >>= fun d => match g (.dr d.1 d.2.1 d.2.2.1 d.2.2.2 :: .fz r.1 :: List.replicate n .no) with
  | .reto l env' => (match (env'[0]? : Option Sl) with
    | some (Sl.dr p q ns' c') => if p = d.1 ∧ q = d.2.1 then .val (.list l, r.2.set i (.dr p q ns' c')) else .stk
    | _ => .stk)
  | _ => .stk
theorem m_rank {g : SF} {n : Nat} (F : FnOk X.prog X.w X.K X.mg X.base CX0 k fa fd ps (spRank g n)) (hr : Room k X.A) (hm : X.mg x = some (.ref fa)) (hk : PySem.W.keepIn X.K (.ref fa) = true) (hb : Binds X.K fd ps []) (hN : X.N[i]? = some y)
    (ha : PEM K W0 X a ta fm) (hv : Vis X.env.scope y := by first | exact Or.inl rfl | exact Or.inr (Or.inl rfl) | exact Or.inr (Or.inr rfl)) (hdy : (y == ("__debug__" : Str)) = false := by decide) (hcd : (y == ("__classdict__" : Str)) = false := by decide)
    (hg : Gl X x := by rfl) (hdb : (x == ("__debug__" : Str)) = false := by decide) (he : starEach (.Name y py :: [a]) X.env = (false, eval (.Name y py) X.env) :: starEach [a] X.env := by rfl) (he2 : starEach (a :: []) X.env = (false, eval a X.env) :: starEach [] X.env := by rfl)
    (hpl : (backTo pos (starEach [a] X.env)).any (·.1) = false := by rfl) : PEM K W0 X (.Call (.Name x p) [.Name y py, a] [] pos) (tCall (spRank g n) [] E0 (tCons (tVar i) (tCons ta tNil))) (mRank g n i fm) := by
  refine ⟨pe_call F hr hg hm hk hb .nil pass0 (pa_cons (pe_var hN hv hdy hcd) (pa_cons ha.pe pa_nil he2) he) hdb he hpl, fun B N env σ H s Q p => ?_⟩
  unfold mRank at p
  cases h0 : drOf env i with
  | exc c => rw [h0] at p; exact (p env H s).elim
  | stk => rw [h0] at p; exact p.elim
  | val d0 =>
    rw [h0] at p
    obtain ⟨p0, q0, ns0, c0⟩ := d0
    obtain ⟨hi0, _⟩ := drOf_val h0
    have e0 := (sl_dr s hi0).1
    refine ⟨_, e0, ha.ev B N env σ H s _ (MPst.step (R := RpD) (Q := Q) p fun d e1 _ v H1 s1 q1 r1 p1 => ?_)⟩
    show spRank g n [V.ref p0, v] H1 Q E0
    dsimp only at p1
    cases h1 : drOf e1 i with
    | exc c => rw [h1] at p1; exact (p1 e1 H1 s1).elim
    | stk => rw [h1] at p1; exact p1.elim
    | val d1 =>
      rw [h1] at p1
      obtain ⟨p1', q1', ns1, c1⟩ := d1
      obtain ⟨hi1, hne, hlen⟩ := drOf_val h1
      obtain ⟨ez, npq, dr⟩ := sl_dr s1 hi1
      rw [e0] at ez
      cases ez
      have p2 : MPst W0 B N (fr N e1 σ H1) σ RpD Q (match g (.dr p0 q1' ns1 c1 :: .fz d :: List.replicate n .no) with
        | .reto l env' => (match (env'[0]? : Option Sl) with
          | some (Sl.dr p q ns' c') => if p = p0 ∧ q = q1' then .val (.list l, e1.set i (.dr p q ns' c')) else .stk
          | _ => .stk)
        | _ => .stk) := p1
      split at p2
      · rename_i l env' hgr
        split at p2
        · rename_i pp qq ns' c' h2
          split at p2
          · rename_i hpq
            obtain ⟨rfl, rfl⟩ := hpq
            refine ⟨Mo N e1 σ, pp, qq, ns1, c1, d, v, rfl, npq, dr, s1.rd.al, .inr ⟨i, _, _, hi1, e0, by simp [adr]⟩, .inr ⟨i, _, _, hi1, e0, by simp [adr]⟩, r1, l, env', ns', c', hgr, h2, fun w H' dr' el ro => ?_⟩
            obtain ⟨s2, q2⟩ := s1.drUpd hi1 dr' el
            refine p2 w H' s2 q2 ?_
            obtain ⟨z, vs, rfl, hz, hz', rl⟩ := ro
            have sub : ∀ a, Mo N (e1.set i (.dr pp qq ns' c')) σ a → Mo N e1 σ a := fun a m => by
              rcases m with m | ⟨j, t, o, g1, g2, g3⟩
              · exact .inl m
              · rcases get_set g1 with ⟨rfl, rfl⟩ | ⟨_, g4⟩
                · exact .inr ⟨_, _, _, hi1, g2, by simpa [adr] using g3⟩
                · exact .inr ⟨j, t, o, g4, g2, g3⟩
            exact rep_list.mpr ⟨z, vs, rfl, hid_some.mpr ⟨fun m => s1.rd.free hz (sub z m), hz'⟩, rl.up (same_hid (Same.refl _) fun a _ _ m => .inl (sub a m))⟩
          · exact p2.elim
        · exact p2.elim
      · exact p2.elim
end
/-! ### statements that draw -/
theorem mpst_so {α β : Type} {B : Hp} {N : Addr → Prop} {env : En} {σ : L2.St} {H : Hp} {D : Ends} {m : Rs (α × En)} {k : α × En → So} {R : Hp → α → β → Prop} {Q : β → Hp → Prop} (h : SPst W B N (fr N env σ H) D (Rs.so m k))
    (hw : ∀ c, m = .exc c → ∀ env' H', StS B N env' σ H' → W c σ H')
    (hk : ∀ a e, m = .val (a, e) → ∀ b H', StS B N e σ H' → Same (fr N env σ H) (fr N e σ H') → R (fr N e σ H') a b → SPst W B N (fr N e σ H') D (k (a, e)) → Q b H') : MPst W B N (fr N env σ H) σ R Q m := by
  cases m with
  | val a =>
    obtain ⟨a, e⟩ := a
    exact fun b H' s q r => hk a e rfl b H' s q r (SPst.up (r := k (a, e)) h q)
  | exc c => exact fun env' H' s => hw c rfl env' H' s
  | stk => exact h
theorem so_exc {α : Type} {B : Hp} {N : Addr → Prop} {F0 : Hp} {D : Ends} {m : Rs α} {k : α → So} (h : SPst W B N F0 D (Rs.so m k)) {σ : L2.St} (c : Ec) (e : m = .exc c) (env' : En) (H' : Hp) (s : StS B N env' σ H') : W c σ H' := by
  rw [e] at h
  exact h env' σ H' s
def sSetM (i : Nat) (f : MF) : SF := fun env => (f env).so fun r => .nx (r.2.set i (.fz r.1))
def sSetTM (t : D → Rs (List (Nat × D))) (f : MF) : SF := fun env => (f env).so fun r => (noEx (t r.1)).so fun l => .nx (setE r.2 l)
def sIfM (c : En → Rs (Bool × En)) (g h : SF) : SF := fun env => (c env).so fun b => if b.1 = true then g b.2 else h b.2
section
variable {i : Nat} {pos' : Pos}
theorem s_setM (hN : X.N.Nodup) (hi : X.N[i]? = some x) (ha : PEM K W X a ta fm) (hx : Loc X.env.scope x := by first | exact Or.inl rfl | exact Or.inr rfl) (hs : swapsWith a (some (.Name x pos')) pos.line X.env = pure false := by rfl)
    (hf : X.fn x = true ∨ X.env.scope.names.lookup x = some .local := by first | exact .inl rfl | exact .inr rfl | assumption) : PSv K W X (.Assign [.Name x pos'] a pos) (tAsg ta (gName i)) (sSetM i fm) := ⟨ps_set hN hi hx ha.pe hs hf, fun B N env σ H D s p =>
  ha.ev B N env σ H s _ (mpst_so p (fun c e => so_exc p c e) fun d e _ v H' s' q r p' => by
    obtain ⟨s2, q2⟩ := s'.setf (i := i) r
    exact p' _ H' s2 q2)⟩
theorem s_setTM {gg : TG} {tq : D → Rs (List (Nat × D))} (ha : PEM K W X a ta fm) (hg : PGv X tg gg tq) (hs : swapsWithSole [tg] a pos.line X.env = pure false := by rfl) (hw : swappedStores [tg] a X.env = pure none := by rfl)
    (h1 : (assignEach [tg] X.env).map (·.2) = [assign tg X.env] := by rfl) : PSv K W X (.Assign [tg] a pos) (tAsg ta gg) (sSetTM tq fm) := ⟨ps_asg ha.pe hg.pg hs hw h1, fun B N env σ H D s p =>
  ha.ev B N env σ H s _ (mpst_so p (fun c e => so_exc p c e) fun d e _ v H' s' q r p' => by
    dsimp only at p'
    cases ht : tq d with
    | val l =>
      rw [ht] at p'
      exact hg.ev _ H' d v σ D.nx l r ht fun w hw => by
        obtain ⟨s2, q2⟩ := s'.setAll hw
        exact p' _ H' s2 q2
    | exc c =>
      rw [ht] at p'
      exact p'.elim
    | stk =>
      rw [ht] at p'
      exact p'.elim)⟩
theorem s_ifM (hc : PTM K W X c tt fbm) (ha : PSsv K W X sts t k1) (hb : PSsv K W X rest u k2) : PSv K W X (.If c sts rest pos) (tIfS tt t u) (sIfM fbm k1 k2) := ⟨ps_if hc.pt ha.ps hb.ps, fun B N env σ H D s p =>
  hc.ev B N env σ H s _ (mpst_so p (fun c e => so_exc p c e) fun b e _ v H' s' q r p' => by
    have r : v = b := r
    subst r
    cases v with
    | true => exact ha.ev B N e σ H' D s' p'
    | false => exact hb.ev B N e σ H' D s' p')⟩
def sParM (i j : Nat) (fs : En → Rs (List D × En)) : SF := fun env => (fs env).so fun r => match r.1 with
  | [d, e] => .nx ((r.2.set i (.fz d)).set j (.fz e))
  | _ => .stk
theorem s_parM {j : Nat} {y : Str} {px py pt : Pos} {kt k2 : Nat} {pt2 : Pos} (hN : X.N.Nodup) (hi : X.N[i]? = some x) (hj : X.N[j]? = some y) (hij : i ≠ j) (hx : X.env.scope.names.lookup x = some .local) (hy : X.env.scope.names.lookup y = some .local)
    (ha : PAM K W X [a, b] tA fs) (hw : swappedStores [.Tuple [.Name x px, .Name y py] kt pt] (.Tuple [a, b] k2 pt2) X.env = pure (some [x, y]) := by rfl)
    (hs : swapsWithSole [.Tuple [.Name x px, .Name y py] kt pt] (.Tuple [a, b] k2 pt2) pos.line X.env = pure false := by rfl) (hc : X.calm = true := by rfl) :
    PSv K W X (.Assign [.Tuple [.Name x px, .Name y py] kt pt] (.Tuple [a, b] k2 pt2) pos) (tPar i j tA) (sParM i j fs) := ⟨ps_par hc hN hi hj hij hx hy ha.pa hw hs, fun B N env σ H D s p =>
  ha.ev B N env σ H s _ (mpst_so p (fun c e => so_exc p c e) fun l e1 _ vs H' s' q r p' => by
    dsimp only at p'
    have r : RepL _ l vs := r
    split at p'
    · rename_i d e'
      obtain ⟨v, w1, rfl, r1, r2⟩ := r.of_cons
      obtain ⟨w, w2, rfl, r3, r4⟩ := r2.of_cons
      rw [r4.of_nil]
      refine ⟨v, w, rfl, ?_⟩
      obtain ⟨s2, q2⟩ := s'.setf (i := i) r1
      obtain ⟨s3, q3⟩ := s2.setf (i := j) (r3.up q2)
      exact p' _ H' s3 (q2.trans q3)
    · exact p'.elim)⟩
def sPar3M (i j l : Nat) (fs : En → Rs (List D × En)) : SF := fun env => (fs env).so fun r => match r.1 with
  | [d, e, f] => .nx (((r.2.set i (.fz d)).set j (.fz e)).set l (.fz f))
  | _ => .stk
theorem s_par3M {j l : Nat} {y z : Str} {px py pz pt : Pos} {kt k2 : Nat} {pt2 : Pos} (hN : X.N.Nodup) (hi : X.N[i]? = some x) (hj : X.N[j]? = some y) (hl : X.N[l]? = some z) (hij : i ≠ j) (hil : i ≠ l) (hjl : j ≠ l) (hx : X.env.scope.names.lookup x = some .local) (hy : X.env.scope.names.lookup y = some .local) (hz : X.env.scope.names.lookup z = some .local)
    (ha : PAM K W X [a, b, c] tA fs) (hw : swappedStores [.Tuple [.Name x px, .Name y py, .Name z pz] kt pt] (.Tuple [a, b, c] k2 pt2) X.env = pure (some [x, y, z]) := by rfl)
    (hs : swapsWithSole [.Tuple [.Name x px, .Name y py, .Name z pz] kt pt] (.Tuple [a, b, c] k2 pt2) pos.line X.env = pure false := by rfl) (hc : X.calm = true := by rfl) :
    PSv K W X (.Assign [.Tuple [.Name x px, .Name y py, .Name z pz] kt pt] (.Tuple [a, b, c] k2 pt2) pos) (tPar3 i j l tA) (sPar3M i j l fs) := ⟨ps_par3 hc hN hi hj hl hij hil hjl hx hy hz ha.pa hw hs, fun B N env σ H D s p =>
  ha.ev B N env σ H s _ (mpst_so p (fun c e => so_exc p c e) fun ll e1 _ vs H' s' q r p' => by
    dsimp only at p'
    have r : RepL _ ll vs := r
    split at p'
    · rename_i d e' f'
      obtain ⟨v, w1, rfl, r1, r2⟩ := r.of_cons
      obtain ⟨w, w2, rfl, r3, r4⟩ := r2.of_cons
      obtain ⟨u, w3, rfl, r5, r6⟩ := r4.of_cons
      rw [r6.of_nil]
      refine ⟨v, w, u, rfl, ?_⟩
      obtain ⟨s2, q2⟩ := s'.setf (i := i) r1
      obtain ⟨s3, q3⟩ := s2.setf (i := j) (r3.up q2)
      obtain ⟨s4, q4⟩ := s3.setf (i := l) ((r5.up q2).up q3)
      exact p' _ H' s4 ((q2.trans q3).trans q4)
    · exact p'.elim)⟩
end
end
end Ag


namespace Ag
open PySem L2
/-! ### _law_draw, _law_pick, _law_start: their readings, once -/
def rLn (K : PySem.W.Frag) : List V → Hp → VK → Prop := fun xs H Q => ∃ p ys, xs = [.ref p] ∧ (SqL K H p ys ∨ SqT K H p ys) ∧ Q (.int ys.length) H
def rMd : R2 := rI (fun _ j => j ≠ 0) fun i j => .int (i.fmod j)
def rFd : R2 := rI CDivN fun i j => .int (i.fdiv j)
def rAd : R2 := rI0 fun i j => .int (i + j)
def rMu : R2 := rI CMul fun i j => .int (i * j)
def rPw : R2 := rI CPow fun i j => .int (i ^ j.toNat)
def rGeI : R2 := rI0 fun i j => .bl (decide (j ≤ i))
def tDraw (K : PySem.W.Frag) : TS :=
  tSeq (tAsg (tOp (rIxL K) (tVar 0) (tC (.int 0))) (gName 2))
  (tSeq (tAsg (tOp rAd (tOp (rIxL K) (tVar 0) (tC (.int 1))) (tC (.int 1))) (gSub (tVar 0) (tC (.int 1)) rSetL))
  (tSeq (tAsg (tOp rMd (tOp (rIxL K) (tVar 0) (tC (.int 1))) (tCB (rLn K) (tCons (tVar 2) tNil))) (gName 3))
  (tSeq (tAsg (tOp (rIxL K) (tVar 2) (tVar 3)) (gName 4))
  (tSeq (tIfS (tTest (tOp rGeI (tVar 4) (tC (.int 1000000000000000000)))) (tSeq (tAsg (tOp rFd (tVar 4) (tVar 1)) (gSub (tVar 2) (tVar 3) rSetL)) (tRet (tOp rMd (tVar 4) (tVar 1)))) tNext)
  (tSeq (tAsg (tOp rMd (tOp rAd (tVar 4) (tOp rMu (tC (.int 104729)) (tOp (rIxL K) (tVar 0) (tC (.int 1))))) (tC (.int 4294967291))) (gName 5))
  (tSeq (tAsg (tOp rMd (tOp rPw (tVar 5) (tC (.int 5))) (tC (.int 4294967279))) (gName 5))
  (tRet (tOp rMd (tOp rFd (tOp rMd (tOp rAd (tOp rMu (tOp rFd (tVar 5) (tC (.int 64))) (tC (.int 69621))) (tVar 5)) (tC (.int 4294967231))) (tC (.int 8))) (tVar 1)))))))))
theorem fdiv_bounds {a : Int} (h0 : 0 ≤ a) (h1 : a < 4294967296) : 0 ≤ a.fdiv 64 ∧ a.fdiv 64 < 4294967296 := by
  rw [Int.fdiv_eq_ediv_of_nonneg _ (by decide)]
  omega
theorem atI0 {x y : V} : atI [x, y] 0 = some x := rfl
theorem atI1 {x y : V} : atI [x, y] 1 = some y := rfl
theorem read_draw {K : PySem.W.Frag} {vs : List V} {H : Hp} {Q : VK} {E : XK} {nxx : L2.St → Hp → Prop} (h : spDraw vs H Q E) : tDraw K { nx := nxx, rt := Q } (L2.start ["_law_draws", "_law_limit", "_law_numbers", "_law_at", "_law_cell", "_law_mixed"] vs) H := by
  obtain ⟨p, q, ns, c, lim, rfl, npq, ⟨hp, hq⟩, hne, hlen, hl0, hl1, k⟩ := h
  have hl : 0 < ns.length := List.length_pos_iff.mpr hne
  have hat := drawAt_lt hne c
  have hl' : (0 : Int) < (ns.length : Int) := by omega
  -- numbers = draws[0]
  refine ⟨_, rfl, p, _, 0, _, rfl, rfl, SqL.of hp, atI0, ?_⟩
  -- draws[1] = draws[1] + 1
  refine ⟨_, rfl, p, _, 1, _, rfl, rfl, SqL.of hp, atI1, c, 1, rfl, rfl, _, rfl, p, _, 1, 1, rfl, rfl, hp, rfl, ?_⟩
  have hp1 : (upd H p (.lst ([V.ref q, .int c].set 1 (.int (c + 1))))) p = some (.lst [.ref q, .int (c + 1)]) := upd_same
  have hq1 : (upd H p (.lst ([V.ref q, .int c].set 1 (.int (c + 1))))) q = some (.lst (ns.map V.int)) := by
    rw [upd_ne (Ne.symm npq)]
    exact hq
  have el1 : Elsewhere H (upd H p (.lst ([V.ref q, .int c].set 1 (.int (c + 1))))) p q := fun a o n1 n2 e => by
    rw [upd_ne n1]
    exact e
  have fr1 : ∀ a, H a = none → (upd H p (.lst ([V.ref q, .int c].set 1 (.int (c + 1))))) a = none := fun a e => by
    rw [upd_ne (fun z => by rw [z, hp] at e; cases e)]
    exact e
  generalize upd H p (.lst ([V.ref q, .int c].set 1 (.int (c + 1)))) = H1 at *
  -- at = draws[1] % len(numbers)
  refine ⟨_, rfl, p, _, 1, _, rfl, rfl, SqL.of hp1, atI1, _, rfl, q, _, rfl, .inl (SqL.of hq1), c + 1, _, rfl, rfl, by rw [List.length_map]; omega, ?_⟩
  rw [List.length_map]
  have e1 : (c + 1).fmod (ns.length : Int) = ((drawAt ns c : Nat) : Int) := by
    unfold drawAt
    have := Int.fmod_nonneg_of_pos (c + 1) hl'
    omega
  dsimp only
  rw [e1]
  -- cell = numbers[at]
  have hcell : (ns.map V.int)[drawAt ns c]? = some (.int (drawCell ns c)) := by
    rw [List.getElem?_map, List.getElem?_eq_getElem hat]
    unfold drawCell
    rw [List.getD_eq_getElem?_getD, List.getElem?_eq_getElem hat]
    rfl
  refine ⟨_, rfl, _, rfl, q, _, _, _, rfl, rfl, SqL.of hq1, atI_nat hcell, ?_⟩
  -- if cell >= ..
  refine ⟨_, rfl, _, _, rfl, rfl, _, rfl, ?_⟩
  by_cases hc : 1000000000000000000 ≤ drawCell ns c
  · rw [decide_eq_true hc]
    refine iteT ?_
    have eN : drawN ns c lim = ns.set (drawAt ns c) ((drawCell ns c).fdiv lim) := by
      unfold drawN
      dsimp only
      rw [if_pos hc]
    have eR : drawR ns c lim = (drawCell ns c).fmod lim := by
      unfold drawR
      dsimp only
      rw [if_pos hc]
    refine ⟨_, rfl, _, rfl, _, _, rfl, rfl, ⟨by omega, by omega⟩, _, rfl, _, rfl, q, _, _, drawAt ns c, rfl, rfl, hq1, ?_, ?_⟩
    · rw [List.length_map]
      unfold ixN
      rw [if_pos (by omega), if_pos (by omega)]
      rfl
    · refine ⟨_, rfl, _, rfl, _, _, rfl, rfl, by omega, ?_⟩
      rw [eR] at k
      refine k _ ⟨?_, ?_⟩ (fun a o n1 n2 e => ?_) (fun a e => ?_)
      · rw [upd_ne npq]
        exact hp1
      · rw [upd_same, eN, ← List.map_set]
      · rw [upd_ne n2]
        exact el1 a o n1 n2 e
      · have e' := fr1 a e
        rw [upd_ne (fun z => by rw [z, hq1] at e'; cases e')]
        exact e'
  · rw [decide_eq_false hc]
    refine iteF ?_
    have eN : drawN ns c lim = ns := by
      unfold drawN
      dsimp only
      rw [if_neg hc]
    have b1 := Int.fmod_nonneg_of_pos (drawCell ns c + 104729 * (c + 1)) (show (0 : Int) < 4294967291 by decide)
    have b2 := Int.fmod_lt_of_pos (drawCell ns c + 104729 * (c + 1)) (show (0 : Int) < 4294967291 by decide)
    have eR : drawR ns c lim = (((((((drawCell ns c + 104729 * (c + 1)).fmod 4294967291) ^ (5 : Int).toNat).fmod 4294967279).fdiv 64 * 69621 + (((drawCell ns c + 104729 * (c + 1)).fmod 4294967291) ^ (5 : Int).toNat).fmod 4294967279).fmod 4294967231).fdiv 8).fmod lim := by
      unfold drawR
      dsimp only
      rw [if_neg hc]
    have c1 := Int.fmod_nonneg_of_pos (((drawCell ns c + 104729 * (c + 1)).fmod 4294967291) ^ (5 : Int).toNat) (show (0 : Int) < 4294967279 by decide)
    have c2 := Int.fmod_lt_of_pos (((drawCell ns c + 104729 * (c + 1)).fmod 4294967291) ^ (5 : Int).toNat) (show (0 : Int) < 4294967279 by decide)
    obtain ⟨d1, d2⟩ := fdiv_bounds c1 (by omega)
    have nz1 : (4294967291 : Int) ≠ 0 := by decide
    have nz2 : (4294967279 : Int) ≠ 0 := by decide
    have nz3 : (4294967231 : Int) ≠ 0 := by decide
    have hpw : CPow ((drawCell ns c + 104729 * (c + 1)).fmod 4294967291) 5 := ⟨by decide, by decide, by omega⟩
    have hmu : CMul (((((drawCell ns c + 104729 * (c + 1)).fmod 4294967291) ^ (5 : Int).toNat).fmod 4294967279).fdiv 64) 69621 := .inl (by omega)
    refine ⟨_, rfl, _, rfl, p, _, 1, _, rfl, rfl, SqL.of hp1, atI1, 104729, c + 1, rfl, rfl, .inl (by omega), _, _, rfl, rfl, _, _, rfl, rfl, nz1, ?_⟩
    refine ⟨_, rfl, _, _, rfl, rfl, hpw, _, _, rfl, rfl, nz2, ?_⟩
    refine ⟨_, rfl, _, _, rfl, rfl, ⟨by decide, by decide⟩, _, _, rfl, rfl, hmu, _, rfl, _, _, rfl, rfl, _, _, rfl, rfl, nz3, _, _, rfl, rfl, ⟨by decide, by decide⟩, _, rfl, _, _, rfl, rfl, (by show lim ≠ 0; omega), ?_⟩
    rw [eR] at k
    refine k _ ⟨hp1, ?_⟩ el1 fr1
    rw [eN]
    exact hq1
/-- choices[draw(draws, len(choices))] -/
def tPick (K : PySem.W.Frag) : TS := tRet (tOp (rIxL K) (tVar 1) (tCall spDraw [] E0 (tCons (tVar 0) (tCons (tCB (rLn K) (tCons (tVar 1) tNil)) tNil))))
theorem read_pick {K : PySem.W.Frag} {vs : List V} {H : Hp} {Q : VK} {E : XK} {nxx : L2.St → Hp → Prop} (h : spPick vs H Q E) : tPick K { nx := nxx, rt := Q } (L2.start ["_law_draws", "_law_choices"] vs) H := by
  obtain ⟨p, q, ns, c, b, ws, rfl, npq, dr, hne, hlen, n1, n2, hb, hw, hwl, k⟩ := h
  have hl : 0 < ws.length := List.length_pos_iff.mpr hw
  refine ⟨_, rfl, _, rfl, _, rfl, b, ws, rfl, .inl (SqL.of hb), p, q, ns, c, ws.length, rfl, npq, dr, hne, hlen, by omega, by omega, fun H' dr' el fr => ?_⟩
  obtain ⟨r0, r1⟩ := drawR_range ns c (show (0 : Int) < (ws.length : Int) by omega)
  have hi : (drawR ns c ws.length).toNat < ws.length := by omega
  have ev : drawR ns c ws.length = (((drawR ns c ws.length).toNat : Nat) : Int) := by omega
  refine ⟨b, ws, drawR ns c ws.length, ws[(drawR ns c ws.length).toNat], rfl, rfl, SqL.of (el b _ n1 n2 hb), ?_, ?_⟩
  · have h2 : ws[(drawR ns c ws.length).toNat]? = some ws[(drawR ns c ws.length).toNat] := List.getElem?_eq_getElem hi
    exact at_of ev h2
  · exact k H' _ dr' el fr (List.getElem?_eq_getElem hi)
/-- the draws made of a script -/
def startN (ns : List Int) : List Int := if ns = [] then [0] else ns
theorem startN_ne (ns : List Int) : startN ns ≠ [] := by
  unfold startN
  split
  · exact List.cons_ne_nil _ _
  · assumption
theorem startN_len {ns : List Int} (h : ns.length ≤ 63) : (startN ns).length ≤ 63 := by
  unfold startN
  split
  · decide
  · exact h
def spStart (K : PySem.W.Frag) : Sp := fun vs H Q _ => ∃ a ns, vs = [.ref a] ∧ SqL K H a (ns.map V.int) ∧ ns.length ≤ 63 ∧ ∀ p q H', p ≠ q → H p = none → H q = none → Same H H' → DrAt H' p q (startN ns) 0 → Q (.ref p) H'
def tStart (K : PySem.W.Frag) : TS := tRet (tLst (tCons (tIf (tTest (tOp (rNeD K) (tVar 0) (tLst tNil)))
  (tCB (fun xs H Q => ∃ p ys, xs = [.ref p] ∧ (SqL K H p ys ∨ SqT K H p ys) ∧ ∀ l, H l = none → Q (.ref l) (upd H l (.lst ys))) (tCons (tVar 0) tNil)) (tLst (tCons (tC (.int 0)) tNil))) (tCons (tC (.int 0)) tNil)))
theorem dpAll_ints {K : PySem.W.Frag} {H : Hp} : ∀ ns : List Int, DpAll K H (ns.map V.int) (ns.map PyData.int)
  | [] => .nil
  | n :: r => .cons (.int n) (dpAll_ints r)
theorem canLay_ints : ∀ ns : List Int, PyData.canLayAll0 (ns.map PyData.int) = true
  | [] => rfl
  | n :: r => by
    rw [List.map_cons]
    show (true && PyData.canLayAll0 (r.map PyData.int)) = true
    rw [canLay_ints r]
    rfl
theorem depth_ints : ∀ ns : List Int, PyData.depthAll (ns.map PyData.int) ≤ PyData.depth (.int 0)
  | [] => Nat.zero_le _
  | n :: r => by
    rw [List.map_cons]
    show max (PyData.depth (.int n)) (PyData.depthAll (r.map PyData.int)) ≤ _
    have := depth_ints r
    have e : PyData.depth (.int n) = PyData.depth (.int 0) := rfl
    omega
theorem shaped_ints (ns : List Int) : SeqAt.shaped (.list (ns.map PyData.int)) = true := by
  unfold SeqAt.shaped
  have h1 : PyData.canLay0 (.list (ns.map PyData.int)) = true := canLay_ints ns
  have h2 : PyData.depth (.list (ns.map PyData.int)) ≤ 64 := by
    have := depth_ints ns
    have e : PyData.depth (.list (ns.map PyData.int)) = 1 + PyData.depthAll (ns.map PyData.int) := by
      first
        | rfl
        | (show PyData.depthAll (ns.map PyData.int) + 1 = _; omega)
    have e0 : PyData.depth (.int 0) ≤ 1 := by decide
    omega
  rw [h1]
  simpa using h2
theorem eqv_nil (ns : List Int) : PyData.eqv (.list (ns.map PyData.int)) (.list []) = ns.isEmpty := by cases ns <;> rfl
theorem read_start {K : PySem.W.Frag} {vs : List V} {H : Hp} {Q : VK} {E : XK} {nxx : L2.St → Hp → Prop} (h : spStart K vs H Q E) : tStart K { nx := nxx, rt := Q } (L2.start ["_law_script"] vs) H := by
  obtain ⟨a, ns, rfl, hs, hlen, k⟩ := h
  refine ⟨_, rfl, Nat.zero_le _, fun z hz => ?_⟩
  have s1 := same_new (o := .lst []) hz
  refine ⟨_, _, .lst (s1.seq hs) (dpAll_ints ns), .lst (SqL.of upd_same) .nil, shaped_ints ns, rfl, _, rfl, ?_⟩
  rw [eqv_nil]
  cases hn : ns.isEmpty with
  | true =>
    have e : ns = [] := List.isEmpty_iff.mp hn
    subst e
    show if false = true then _ else _
    rw [if_neg Bool.false_ne_true]
    refine ⟨by show 1 ≤ sizeLine; decide, fun q hq => ⟨by show 2 ≤ sizeLine; decide, fun p hp => ?_⟩⟩
    have s2 := same_new (o := .lst [.int 0]) hq
    have npq : p ≠ q := fun e => by
      rw [e, upd_same] at hp
      cases hp
    refine k p q _ npq (s1.free (s2.free hp)) (s1.free hq) ((s1.trans s2).trans (same_new hp)) ⟨upd_same, ?_⟩
    rw [upd_ne (Ne.symm npq), upd_same]
    rfl
  | false =>
    have e : ns ≠ [] := fun z => by
      rw [z] at hn
      cases hn
    show if true = true then _ else _
    rw [if_pos rfl]
    refine ⟨_, rfl, a, _, rfl, .inl (s1.seq hs), fun q hq => ⟨by show 2 ≤ sizeLine; decide, fun p hp => ?_⟩⟩
    have s2 := same_new (o := .lst (ns.map V.int)) hq
    have npq : p ≠ q := fun e => by
      rw [e, upd_same] at hp
      cases hp
    refine k p q _ npq (s1.free (s2.free hp)) (s1.free hq) ((s1.trans s2).trans (same_new hp)) ⟨upd_same, ?_⟩
    rw [upd_ne (Ne.symm npq), upd_same]
    unfold startN
    rw [if_neg e]
/-! ### _law_ranking and the law itself -/
section
variable {P : Program} {w : World} {K : PySem.W.Frag} {mg : Str → Option Value} {base : Heap}
theorem rank_StS {H : Hp} {M : Addr → Prop} {p q : Addr} {ns : List Int} {c : Int} {d : D} {v : V} {n : Nat} (al : ∀ a, M a → ∃ o, H a = some o) (npq : p ≠ q) (dr : DrAt H p q ns c) (mp : M p) (mq : M q) (r : Rep (hid M H) d v) :
    StS (fun a => if a = p ∨ a = q then none else H a) (fun a => M a ∧ a ≠ p ∧ a ≠ q) (.dr p q ns c :: .fz d :: List.replicate n .no) (some (.ref p) :: some v :: List.replicate n none) H := by
  have own : ∀ a, Own (.dr p q ns c :: .fz d :: List.replicate n .no) (some (.ref p) :: some v :: List.replicate n none) a → a = p ∨ a = q := fun a ⟨i, s, o, h1, h2, h3⟩ => by
    match i with
    | 0 =>
      cases h1
      cases h2
      simpa [adr] using h3
    | 1 =>
      cases h1
      cases h2
      cases h3
    | i + 2 =>
      have h1 : (List.replicate n Sl.no)[i]? = some s := h1
      rw [List.getElem?_replicate] at h1
      split at h1
      · cases h1
        cases o <;> cases h3
      · cases h1
  have hM : ∀ a, Mo (fun a => M a ∧ a ≠ p ∧ a ≠ q) (.dr p q ns c :: .fz d :: List.replicate n .no) (some (.ref p) :: some v :: List.replicate n none) a → M a := fun a m => by
    rcases m with m | m
    · exact m.1
    · rcases own a m with e | e
      · rw [e]
        exact mp
      · rw [e]
        exact mq
  refine ⟨⟨fun a m => al a (hM a m), fun i s hs => ?_⟩, by simp, fun a o e => ?_, fun i j s t o u a h1 h2 h3 h4 h5 h6 => ?_, fun a m => ?_, fun i p' q' ns' c' h => ?_⟩
  · match i with
    | 0 =>
      cases hs
      exact ⟨_, rfl, rfl, dr.1, dr.2⟩
    | 1 =>
      cases hs
      exact ⟨_, rfl, v, rfl, r.up (same_hid (Same.refl _) fun a _ _ m => hM a m)⟩
    | i + 2 =>
      have hs : (List.replicate n Sl.no)[i]? = some s := hs
      rw [List.getElem?_replicate] at hs
      split at hs
      · rename_i hi
        cases hs
        refine ⟨none, ?_, trivial⟩
        show (List.replicate n (none : Option V))[i]? = _
        rw [List.getElem?_replicate, if_pos hi]
      · cases hs
  · have e : (if a = p ∨ a = q then none else H a) = some o := e
    split at e
    · cases e
    · exact e
  · have z : ∀ (i : Nat) (s : Sl) (o : Option V), (Sl.dr p q ns c :: .fz d :: List.replicate n .no)[i]? = some s → (some (V.ref p) :: some v :: List.replicate n none)[i]? = some o → a ∈ adr s o → i = 0 := fun i s o h1 h2 h3 => by
      match i with
      | 0 => rfl
      | 1 =>
        cases h1
        cases h2
        cases h3
      | i + 2 =>
        have h1 : (List.replicate n Sl.no)[i]? = some s := h1
        rw [List.getElem?_replicate] at h1
        split at h1
        · cases h1
          cases o <;> cases h3
        · cases h1
    rw [z i s o h1 h2 h5, z j t u h3 h4 h6]
  · rcases own a m with e | e
    · exact ⟨fun z => z.2.1 e, by show (if a = p ∨ a = q then none else H a) = none; rw [if_pos (.inl e)]⟩
    · exact ⟨fun z => z.2.2 e, by show (if a = p ∨ a = q then none else H a) = none; rw [if_pos (.inr e)]⟩
  · match i with
    | 0 =>
      cases h
      exact npq
    | 1 => cases h
    | i + 2 =>
      have h : (List.replicate n Sl.no)[i]? = some _ := h
      rw [List.getElem?_replicate] at h
      split at h <;> cases h
theorem start2 {N : List Str} {x y : V} {n : Nat} (h : N.length = n + 2) : L2.start N [x, y] = some x :: some y :: List.replicate n none := by
  unfold L2.start
  rw [h]
  rfl
theorem fn_rank {x qual : Str} {st : Stmt} {f : Addr} {fd : FuncData} {N ps : List Str} {k n : Nat} {g : SF} (F : Fun K x qual st f fd) (S : FnScope N ps (defScope st)) (hps : ps.length = 2) (hN : N.length = n + 2)
    (hbody : ∀ (cdv : Value) (A : Around) (outer : List Env) (s : Shared) (H : Hp) (E : XK), Room k (A.deeper (PyProof.Rows.envOfC qual (defScope st) s.heap.objs.size f cdv)) →
      ∃ t, PSsv K W0 (cxOf CX0 P w K mg base N qual (defScope st) f cdv A outer s H E).nox (defBody st) t g) : FnOk P w K mg base CX0 (k + 1) f fd ps (spRank g n) := by
  refine F.ok S (fun vs H Q E h => ?_) (fun cdv A outer s H vs Q E hr h => ?_)
  · obtain ⟨M, p, q, ns, c, d, w, rfl, _⟩ := h
    rw [hps]
    rfl
  · obtain ⟨M, p, q, ns, c, d, w, rfl, npq, dr, al, mp, mq, r, l, env', ns', c', hg, h0, k⟩ := h
    obtain ⟨t, ht⟩ := hbody cdv A outer s H E hr
    refine ⟨t, ht.ps, ?_⟩
    rw [start2 hN]
    refine ht.ev _ _ _ _ H _ (rank_StS al npq dr mp mq r) ?_
    rw [hg]
    intro v σ' H' s' _ ⟨z, vs, e1, nz, bz, hz, rl⟩
    obtain ⟨e0, _, dr'⟩ := sl_dr s' h0
    have ownp : Own env' σ' p := ⟨0, _, _, h0, e0, by simp [adr]⟩
    have ownq : Own env' σ' q := ⟨0, _, _, h0, e0, by simp [adr]⟩
    have z1 : z ≠ p := fun e => nz (by rw [e]; exact .inr ownp)
    have z2 : z ≠ q := fun e => nz (by rw [e]; exact .inr ownq)
    refine k v H' dr' (fun a o n1 n2 e => s'.ext a o ?_) ⟨z, vs, e1, ?_, hz, rl.up (same_hid (Same.refl _) fun a o _ m => ?_)⟩
    · show (if a = p ∨ a = q then none else H a) = some o
      rw [if_neg (by rintro (h | h); exact n1 h; exact n2 h)]
      exact e
    · have bz : (if z = p ∨ z = q then none else H z) = none := bz
      rw [if_neg (by rintro (h | h); exact z1 h; exact z2 h)] at bz
      exact bz
    · rcases m with m | m
      · by_cases n1 : a = p
        · rw [n1]
          exact .inl (.inr ownp)
        · by_cases n2 : a = q
          · rw [n2]
            exact .inl (.inr ownq)
          · exact .inl (.inl ⟨m, n1, n2⟩)
      · exact .inr m
def spLaw (K : PySem.W.Frag) : Sp := fun vs H Q _ => ∃ (a : Addr) (ns : List Int), vs = [.ref a] ∧ SqL K H a (ns.map V.int) ∧ ns.length ≤ 63 ∧ ∀ H', Q (.bl true) H'
/-- the rest of a law, behind its draws' making, gives True -/
def LawTrue (g : SF) (n : Nat) : Prop := ∀ (p q : Addr) (ns : List Int), ns ≠ [] → ns.length ≤ 63 → ∃ env', g (.no :: .dr p q ns 0 :: List.replicate n .no) = .ret (.bool true) env'
theorem law_StS {H H' : Hp} {p q : Addr} {ns : List Int} {v : V} {n : Nat} (npq : p ≠ q) (hp : H p = none) (hq : H q = none) (s : Same H H') (dr : DrAt H' p q ns 0) :
    StS H (fun _ => False) (.no :: .dr p q ns 0 :: List.replicate n .no) (some v :: some (.ref p) :: List.replicate n none) H' := by
  have at1 : ∀ (i : Nat) (s : Sl) (o : Option V) (a : Addr), (Sl.no :: .dr p q ns 0 :: List.replicate n .no)[i]? = some s → (some v :: some (V.ref p) :: List.replicate n none)[i]? = some o → a ∈ adr s o → i = 1 ∧ (a = p ∨ a = q) := fun i s o a h1 h2 h3 => by
    match i with
    | 0 =>
      cases h1
      cases h2
      cases v <;> cases h3
    | 1 =>
      cases h1
      cases h2
      exact ⟨rfl, by simpa [adr] using h3⟩
    | i + 2 =>
      have h1 : (List.replicate n Sl.no)[i]? = some s := h1
      rw [List.getElem?_replicate] at h1
      split at h1
      · cases h1
        cases o <;> cases h3
      · cases h1
  have own : ∀ a, Own (Sl.no :: .dr p q ns 0 :: List.replicate n .no) (some v :: some (V.ref p) :: List.replicate n none) a → a = p ∨ a = q := fun a ⟨i, s, o, h1, h2, h3⟩ => (at1 i s o a h1 h2 h3).2
  refine ⟨⟨fun a m => ?_, fun i t hs => ?_⟩, by simp, s, fun i j s t o u a h1 h2 h3 h4 h5 h6 => by rw [(at1 i s o a h1 h2 h5).1, (at1 j t u a h3 h4 h6).1], fun a m => ⟨fun z => z, ?_⟩, fun i p' q' ns' c' h => ?_⟩
  · rcases m with m | m
    · exact m.elim
    · rcases own a m with e | e
      · exact ⟨_, by rw [e]; exact dr.1⟩
      · exact ⟨_, by rw [e]; exact dr.2⟩
  · match i with
    | 0 =>
      cases hs
      exact ⟨_, rfl, trivial⟩
    | 1 =>
      cases hs
      exact ⟨_, rfl, rfl, dr.1, dr.2⟩
    | i + 2 =>
      have hs : (List.replicate n Sl.no)[i]? = some t := hs
      rw [List.getElem?_replicate] at hs
      split at hs
      · rename_i hi
        cases hs
        refine ⟨none, ?_, trivial⟩
        show (List.replicate n (none : Option V))[i]? = _
        rw [List.getElem?_replicate, if_pos hi]
      · cases hs
  · rcases own a m with e | e
    · rw [e]
      exact hp
    · rw [e]
      exact hq
  · match i with
    | 0 => cases h
    | 1 =>
      cases h
      exact npq
    | i + 2 =>
      have h : (List.replicate n Sl.no)[i]? = some _ := h
      rw [List.getElem?_replicate] at h
      split at h <;> cases h
theorem fn_law {x qual : Str} {st : Stmt} {st0 : Stmt} {rest : List Stmt} {f : Addr} {fd : FuncData} {N ps : List Str} {k n : Nat} {g : SF} (F : Fun K x qual st f fd) (S : FnScope N ps (defScope st)) (hps : ps.length = 1) (hN : N.length = n + 2) (hb : defBody st = st0 :: rest)
    (hbody : ∀ (cdv : Value) (A : Around) (outer : List Env) (s : Shared) (H : Hp) (E : XK), Room k (A.deeper (PyProof.Rows.envOfC qual (defScope st) s.heap.objs.size f cdv)) →
      PS (cxOf CX0 P w K mg base N qual (defScope st) f cdv A outer s H E).nox st0 (tAsg (tCall (spStart K) [] E0 (tCons (tVar 0) tNil)) (gName 1)) ∧ ∃ t, PSsv K W0 (cxOf CX0 P w K mg base N qual (defScope st) f cdv A outer s H E).nox rest t g)
    (law : LawTrue g n) : FnOk P w K mg base CX0 (k + 1) f fd ps (spLaw K) := by
  refine F.ok S (fun vs H Q E h => ?_) (fun cdv A outer s H vs Q E hr h => ?_)
  · obtain ⟨a, ns, rfl, _⟩ := h
    rw [hps]
    rfl
  · obtain ⟨a, ns, rfl, hs, hlen, kk⟩ := h
    obtain ⟨h0, t, ht⟩ := hbody cdv A outer s H E hr
    rw [hb]
    refine ⟨_, pss_cons h0 ht.ps, ?_⟩
    have e0 : L2.start N [V.ref a] = some (.ref a) :: none :: List.replicate n none := by
      unfold L2.start
      rw [hN]
      rfl
    rw [e0]
    refine ⟨_, rfl, a, ns, rfl, hs, hlen, fun p q H' npq hp hq sm dr => ?_⟩
    obtain ⟨env', hg⟩ := law p q (startN ns) (startN_ne ns) (startN_len hlen)
    refine ht.ev _ _ _ _ H' _ (law_StS npq hp hq sm dr) ?_
    rw [hg]
    intro v σ' H2 s' _ r
    rw [rep_bool.mp r]
    exact kk H2
/-! ### what the top has written: by names -/
def adrOf (mg : Str → Option Value) (x : Str) : Addr := match mg x with
  | some (.ref a) => a
  | _ => 0
def fdOf (K : PySem.W.Frag) (a : Addr) : FuncData := match K.lookup a with
  | some ⟨_, _, .func fd, _⟩ => fd
  | _ => PySem.W.fnOf "x" "x" (defArgs (.Pass ⟨0, 0, 0, 0⟩)) [] (defScope (.Pass ⟨0, 0, 0, 0⟩)) .none .none .none .none none .none .none
structure Dfn (K : PySem.W.Frag) (mg : Str → Option Value) (x : Str) (st : Stmt) (ps : List Str) : Prop where
  F : Fun K x x st (adrOf mg x) (fdOf K (adrOf mg x))
  g : mg x = some (.ref (adrOf mg x))
  bb : ∀ us : List Value, us.length = ps.length → bindArgs (fdOf K (adrOf mg x)) ⟨us, []⟩ = pure (ps.zip us)
theorem Dfn.b {K : PySem.W.Frag} {mg : Str → Option Value} {x : Str} {st : Stmt} {ps : List Str} (d : Dfn K mg x st ps) : Binds K (fdOf K (adrOf mg x)) ps [] := .all d.bb
theorem dfn_mk {K : PySem.W.Frag} {h : Heap} {mg : Str → Option Value} {x : Str} {st : Stmt} {ps : List Str} {f : Addr} {oc : Value} {od an : Option Addr} {sl : Array (Option Value)} {kV dc pm cd ct : Value} (X : K.In h) (G : h.Ns mainGlobals mg)
    (a1 : PySem.W.nsIn K mainGlobals x = some (some (.ref f))) (l1 : K.lookup f = some ⟨oc, od, .func (PySem.W.fnOf x x (defArgs st) (defBody st) (defScope st) .none kV dc pm an cd ct), sl⟩) (c1 : PySem.W.codeIn K cd x = true) (k1 : PySem.W.keepIn K (.ref f) = true)
    (hb : ∀ (kV doc pm : Value) (an : Option Addr) (cdv ct : Value) (us : List Value), us.length = ps.length → bindArgs (PySem.W.fnOf x x (defArgs st) (defBody st) (defScope st) .none kV doc pm an cdv ct) ⟨us, []⟩ = pure (ps.zip us)) : Dfn K mg x st ps := by
  have e := PySem.W.mg_of X G a1
  have ea : adrOf mg x = f := by
    unfold adrOf
    rw [e]
  have ef : fdOf K f = PySem.W.fnOf x x (defArgs st) (defBody st) (defScope st) .none kV dc pm an cd ct := by
    unfold fdOf
    rw [l1]
  have F := fun_mk (st := st) l1 c1 k1
  refine ⟨?_, by rw [ea]; exact e, ?_⟩
  · rw [ea, ef]
    exact F
  · rw [ea, ef]
    exact hb _ _ _ _ _ _
theorem law_mk {K : PySem.W.Frag} {mg : Str → Option Value} {st : Stmt} {fa : Addr} (d : Dfn K mg "law" st ["_law_script"]) (hfa : mg "law" = some (.ref fa)) (hk : ∀ base : Heap, K.In base → base.Ns mainGlobals mg → FnOk P w K mg base CX0 k (adrOf mg "law") (fdOf K (adrOf mg "law")) ["_law_script"] (spLaw K)) :
    ∃ fd : FuncData, (∀ (s : Shared) (v : Value), BindsTo s fd ⟨[v], []⟩ [("_law_script", v)]) ∧ ∀ base : Heap, K.In base → base.Ns mainGlobals mg → FnOk P w K mg base CX0 k fa fd ["_law_script"] (spLaw K) := by
  have e : adrOf mg "law" = fa := by
    unfold adrOf
    rw [hfa]
  rw [← e]
  exact ⟨fdOf K (adrOf mg "law"), fun s v => .of_eq (d.bb [v] rfl), hk⟩
end
end Ag


namespace Ag
open PySem L2
/-! ### comprehensions whose elements draw -/
def shut : Sl → Sl
  | .fz d => .fz d
  | _ => .no
def shutE : Nat → En → En
  | _, [] => []
  | 0, s :: r => s :: r.map shut
  | i + 1, s :: r => shut s :: shutE i r
theorem shutE_get : ∀ (i : Nat) (e : En) (j : Nat), (shutE i e)[j]? = if j = i then e[j]? else (e[j]?).map shut
  | 0, [], j => by simp [shutE]
  | _ + 1, [], j => by simp [shutE]
  | 0, s :: r, 0 => rfl
  | 0, s :: r, j + 1 => by
    rw [if_neg (by omega)]
    show (r.map shut)[j]? = _
    rw [List.getElem?_map]
    rfl
  | i + 1, s :: r, 0 => by
    rw [if_neg (by omega)]
    rfl
  | i + 1, s :: r, j + 1 => by
    have e : (shutE (i + 1) (s :: r))[j + 1]? = (shutE i r)[j]? := rfl
    rw [e, shutE_get i r j]
    by_cases h : j = i
    · rw [if_pos h, if_pos (by omega)]
      rfl
    · rw [if_neg h, if_neg (by omega)]
      rfl
theorem shutE_len : ∀ (i : Nat) (e : En), (shutE i e).length = e.length
  | _, [] => by simp [shutE]
  | 0, s :: r => by simp [shutE]
  | i + 1, s :: r => by simp [shutE, shutE_len i r]
theorem shutE_at {i : Nat} {e : En} {j : Nat} {s : Sl} (h : (shutE i e)[j]? = some s) : (j = i ∧ e[j]? = some s) ∨ (j ≠ i ∧ ∃ t, e[j]? = some t ∧ s = shut t) := by
  rw [shutE_get] at h
  split at h
  · rename_i hj
    exact .inl ⟨hj, h⟩
  · rename_i hj
    cases ht : e[j]? with
    | none => rw [ht] at h; cases h
    | some t =>
      rw [ht] at h
      cases h
      exact .inr ⟨hj, t, rfl, rfl⟩
theorem RSt.shut {M : Addr → Prop} {env : En} {σ : L2.St} {H : Hp} (rs : RSt M env σ H) (i : Nat) : RSt M (shutE i env) σ H := ⟨rs.al, fun j s hs => by
  rcases shutE_at hs with ⟨_, h⟩ | ⟨_, t, ht, rfl⟩
  · exact rs.sl j s h
  · obtain ⟨o, ho, q⟩ := rs.sl j t ht
    refine ⟨o, ho, ?_⟩
    cases t with
    | fz d => exact q
    | _ => trivial⟩
/-- one slot of draws and frozen ones, seen by a body of its own -/
theorem dr_StS {M : Addr → Prop} {env : En} {σ : L2.St} {H : Hp} {i : Nat} {p q : Addr} {ns : List Int} {c : Int} (rs : RSt M (shutE i env) σ H) (hl : σ.length = env.length) (hi : env[i]? = some (.dr p q ns c)) (npq : p ≠ q) (mp : M p) (mq : M q) :
    StS (fun a => if a = p ∨ a = q then none else H a) (fun a => M a ∧ a ≠ p ∧ a ≠ q) (shutE i env) σ H := by
  have at1 : ∀ (j : Nat) (s : Sl) (o : Option V) (a : Addr), (shutE i env)[j]? = some s → a ∈ adr s o → j = i ∧ (a = p ∨ a = q) := fun j s o a h1 h3 => by
    rcases shutE_at h1 with ⟨rfl, h⟩ | ⟨_, t, _, rfl⟩
    · rw [hi] at h
      cases h
      exact ⟨rfl, by simpa [adr] using h3⟩
    · cases t <;> cases o <;> cases h3
  have own : ∀ a, Own (shutE i env) σ a → a = p ∨ a = q := fun a ⟨j, s, o, h1, h2, h3⟩ => (at1 j s o a h1 h3).2
  have hM : ∀ a, Mo (fun a => M a ∧ a ≠ p ∧ a ≠ q) (shutE i env) σ a → M a := fun a m => by
    rcases m with m | m
    · exact m.1
    · rcases own a m with e | e
      · rw [e]; exact mp
      · rw [e]; exact mq
  refine ⟨⟨fun a m => rs.al a (hM a m), fun j s hs => ?_⟩, by rw [shutE_len]; exact hl, fun a o e => ?_, fun j k s t o u a h1 h2 h3 h4 h5 h6 => by rw [(at1 j s o a h1 h5).1, (at1 k t u a h3 h6).1], fun a m => ?_, fun j p' q' ns' c' h => ?_⟩
  · obtain ⟨o, ho, w⟩ := rs.sl j s hs
    refine ⟨o, ho, ?_⟩
    rcases shutE_at hs with ⟨rfl, h⟩ | ⟨_, t, _, rfl⟩
    · rw [hi] at h
      cases h
      exact w
    · cases t with
      | fz d =>
        obtain ⟨x, e, r⟩ := w
        exact ⟨x, e, r.up (same_hid (Same.refl _) fun a _ _ m => hM a m)⟩
      | _ => trivial
  · have e : (if a = p ∨ a = q then none else H a) = some o := e
    split at e
    · cases e
    · exact e
  · rcases own a m with e | e
    · exact ⟨fun z => z.2.1 e, if_pos (.inl e)⟩
    · exact ⟨fun z => z.2.2 e, if_pos (.inr e)⟩
  · rcases shutE_at h with ⟨rfl, hx⟩ | ⟨_, t, _, h⟩
    · rw [hi] at hx
      cases hx
      exact npq
    · cases t <;> cases h
def mlcRun (i : Nat) (t : D → Rs (List (Nat × D))) (fe : MF) (vs : List Nat) : En → List D → Rs (List D × En)
  | env, [] => .val ([], env)
  | env, d :: ds => drOf env i >>= fun z => t d >>= fun l => fe (shutE i (setE (wipeE env vs) l)) >>= fun r => match (r.2[i]? : Option Sl) with
    | some (Sl.dr p q ns c) => if p = z.1 ∧ q = z.2.1 then mlcRun i t fe vs (env.set i (.dr p q ns c)) ds >>= fun w => .val (r.1 :: w.1, w.2) else .stk
    | _ => .stk
def mLc (i : Nat) (fi : En → Rs (List D × En)) (t : D → Rs (List (Nat × D))) (fe : MF) (vs : List Nat) : MF := fun env => fi env >>= fun ds => if ds.1.length ≤ 100000 then noEx (mlcRun i t fe vs ds.2 ds.1) >>= fun w => .val (.list w.1, w.2) else .stk
def RpW : Hp → List D → It → Prop := fun F ds J => Walk F F J ds
def EvMI (W : WT) (wi : TI) (f : En → Rs (List D × En)) : Prop := ∀ B N env σ H, StS B N env σ H → ∀ R : It → Hp → Prop, MPst W B N (fr N env σ H) σ RpW R (f env) → wi σ H R
structure PIM (K : PySem.W.Frag) (W : WT) (X : Cx) (tg e : Expr) (wi : TI) (f : En → Rs (List D × En)) : Prop where
  pi : PI X tg e wi
  ev : EvMI W wi f
theorem StS.less {B : Hp} {N N' : Addr → Prop} {env : En} {σ : L2.St} {H : Hp} (s : StS B N env σ H) (h : ∀ a, N' a → N a) : StS B N' env σ H ∧ Same (fr N env σ H) (fr N' env σ H) := by
  have hM : ∀ a, Mo N' env σ a → Mo N env σ a := fun a m => m.imp (h a) id
  have hF : Same (fr N env σ H) (fr N' env σ H) := same_hid (Same.refl H) fun a _ _ m => hM a m
  refine ⟨⟨⟨fun a m => s.rd.al a (hM a m), fun j t ht => ?_⟩, s.len, s.ext, s.dis, fun a m => ⟨fun z => (s.new a m).1 (h a z), (s.new a m).2⟩, s.drs⟩, hF⟩
  obtain ⟨o, ho, q⟩ := s.rd.sl j t ht
  refine ⟨o, ho, ?_⟩
  cases t with
  | no => trivial
  | fz d =>
    obtain ⟨x, e, r⟩ := q
    exact ⟨x, e, r.up hF⟩
  | ow l =>
    obtain ⟨y, vs, e1, e2, r⟩ := q
    exact ⟨y, vs, e1, e2, r.up hF⟩
  | dr y z ns c => exact q
  | ob _ ko =>
    obtain ⟨yo, eo, wo⟩ := q
    exact ⟨yo, eo, hF _ _ wo⟩
  | gx as gd => exact RGd.mono q (fun _ _ _ e => e) hF
theorem StS.more {B : Hp} {N : Addr → Prop} {env : En} {σ : L2.St} {H H' : Hp} {z : Addr} {o : HO} (st : StS B N env σ H) (s : Same H H') (hz : H z = none) (hz' : H' z = some o) : StS B (fun a => N a ∨ a = z) env σ H' ∧ Same (fr N env σ H) (fr (fun a => N a ∨ a = z) env σ H') := by
  have hM : ∀ a, Mo (fun a => N a ∨ a = z) env σ a ↔ (Mo N env σ a ∨ a = z) := fun a => by
    constructor
    · rintro ((m | m) | m)
      · exact .inl (.inl m)
      · exact .inr m
      · exact .inl (.inr m)
    · rintro ((m | m) | m)
      · exact .inl (.inl m)
      · exact .inr m
      · exact .inl (.inr m)
  have rs := st.rd.more s hz hz'
  have eM : Mo (fun a => N a ∨ a = z) env σ = fun a => Mo N env σ a ∨ a = z := funext fun a => propext (hM a)
  refine ⟨⟨by rw [eM]; exact rs, st.len, st.ext.trans s, st.dis, fun a m => ⟨?_, (st.new a m).2⟩, st.drs⟩, ?_⟩
  · rintro (h | h)
    · exact (st.new a m).1 h
    · exact st.rd.free hz (by rw [← h]; exact .inr m)
  · refine same_hid s fun a u e m => ?_
    rcases (hM a).mp m with m | m
    · exact m
    · rw [m, hz] at e
      cases e
/-- a hidden place that is none of the frame's own may be written -/
theorem StS.upN {B : Hp} {N : Addr → Prop} {env : En} {σ : L2.St} {H : Hp} {z : Addr} {o : HO} (st : StS B N env σ H) (hz : N z) (hB : B z = none) : StS B N env σ (L2.upd H z o) ∧ Same (fr N env σ H) (fr N env σ (L2.upd H z o)) := by
  have ne : ∀ a u, fr N env σ H a = some u → a ≠ z := fun a u e h => (hid_some.mp e).1 (by rw [h]; exact .inl hz)
  have hF : Same (fr N env σ H) (fr N env σ (L2.upd H z o)) := fun a u e => by
    have n := ne a u e
    unfold fr at e ⊢
    rw [hid_some] at e ⊢
    exact ⟨e.1, by rw [upd_ne n]; exact e.2⟩
  have ow : ∀ a, Own env σ a → a ≠ z := fun a m h => (st.new a m).1 (by rw [h]; exact hz)
  refine ⟨⟨⟨fun a m => ?_, fun j t ht => ?_⟩, st.len, fun a u e => ?_, st.dis, st.new, st.drs⟩, hF⟩
  · obtain ⟨u, q⟩ := st.rd.al a m
    by_cases e : a = z
    · exact ⟨_, by rw [e]; exact upd_same⟩
    · exact ⟨u, by rw [upd_ne e]; exact q⟩
  · obtain ⟨u, hu, q⟩ := st.rd.sl j t ht
    refine ⟨u, hu, ?_⟩
    cases t with
    | no => trivial
    | fz d =>
      obtain ⟨x, e, r⟩ := q
      exact ⟨x, e, r.up hF⟩
    | ow l =>
      obtain ⟨y, vs, e1, e2, r⟩ := q
      exact ⟨y, vs, e1, by rw [upd_ne (ow y ⟨j, _, _, ht, hu, by rw [e1]; simp [adr]⟩)]; exact e2, r.up hF⟩
    | dr y w ns c => exact ⟨q.1, by rw [upd_ne (ow y ⟨j, _, _, ht, hu, by simp [adr]⟩)]; exact q.2.1, by rw [upd_ne (ow w ⟨j, _, _, ht, hu, by simp [adr]⟩)]; exact q.2.2⟩
    | ob _ ko =>
      obtain ⟨yo, eo, wo⟩ := q
      exact ⟨yo, eo, hF _ _ wo⟩
    | gx as gd => exact RGd.mono q (fun a ha _ e => by rw [upd_ne (ow a ⟨j, _, _, ht, hu, by simpa [adr] using ha⟩)]; exact e) hF
  · have n : a ≠ z := fun h => by
      rw [h, hB] at e
      cases e
    rw [upd_ne n]
    exact st.ext a u e
theorem wipeE_get {env : En} {i : Nat} : ∀ {vs : List Nat}, i ∉ vs → (wipeE env vs)[i]? = env[i]?
  | [], _ => rfl
  | v :: vs, h => by
    rw [List.mem_cons, not_or] at h
    rw [wipeE, List.getElem?_set_ne (Ne.symm h.1)]
    exact wipeE_get h.2
theorem wipeE_len {env : En} : ∀ {vs : List Nat}, (wipeE env vs).length = env.length
  | [] => rfl
  | v :: vs => by
    rw [wipeE, List.length_set]
    exact wipeE_len
theorem setE_out {i : Nat} : ∀ (l : List (Nat × D)) (e : En), i ∉ l.map (·.1) → (setE e l)[i]? = e[i]?
  | [], _, _ => rfl
  | p :: l, e, h => by
    rw [List.map_cons, List.mem_cons, not_or] at h
    rw [setE, List.foldl_cons]
    show (setE _ l)[i]? = _
    rw [setE_out l _ h.2, List.getElem?_set_ne (Ne.symm h.1)]
theorem setE_len : ∀ (l : List (Nat × D)) (e : En), (setE e l).length = e.length
  | [], _ => rfl
  | p :: l, e => by
    rw [setE, List.foldl_cons]
    show (setE _ l).length = _
    rw [setE_len l, List.length_set]
theorem evM_lc {W : WT} {wi : TI} {i0 : Nat} {fi : En → Rs (List D × En)} {g : TG} {t : D → Rs (List (Nat × D))} {te : TE} {fe : MF} {vs : List Nat} (hi : EvMI W wi fi) (hg : TgS g t) (hin : TgIn t vs) (h0 : i0 ∉ vs) (he : EvM W0 te fe) : EvM W (tLc wi g tYes te vs) (mLc i0 fi t fe vs) := by
  intro B N env σ H st Q p
  refine hi B N env σ H st _ (MPst.step (R := RpD) (Q := Q) p fun ds env1 _ J H1 st1 q1 wk p1 => ?_)
  have wk : Walk (fr N env1 σ H1) (fr N env1 σ H1) J ds := wk
  intro Dl hD
  dsimp only at p1
  split at p1
  · rename_i hz
    cases hrun : mlcRun i0 t fe vs env1 ds with
    | exc c =>
      rw [hrun] at p1
      exact p1.elim
    | stk =>
      rw [hrun] at p1
      exact p1.elim
    | val L =>
      obtain ⟨L, envF⟩ := L
      rw [hrun] at p1
      have p1 : ∀ v H', StS B N envF σ H' → Same (fr N env1 σ H1) (fr N envF σ H') → Rep (fr N envF σ H') (.list L) v → Q v H' := p1
      have hBD : B Dl = none := st1.ext.free hD
      have nN : ¬ N Dl := fun m => st1.rd.free hD (.inl m)
      let N' : Addr → Prop := fun a => N a ∨ a = Dl
      let Pv : Nat → Hp → Prop := fun i H' => ∃ acc accV r e, StS B N' e σ H' ∧ Same (fr N env1 σ H1) (fr N' e σ H') ∧ H' Dl = some (.lst accV) ∧ RepL (fr N' e σ H') acc accV ∧ acc.length ≤ i ∧ mlcRun i0 t fe vs e (ds.drop i) = .val (r, envF) ∧ L = acc ++ r
      have hst := st1.more (same_new (o := .lst []) hD) hD upd_same
      have hP0 : Pv 0 (upd H1 Dl (.lst [])) := ⟨[], [], L, env1, hst.1, hst.2, upd_same, repL_nil, Nat.zero_le _, hrun, rfl⟩
      refine ⟨fun i m H' => m = ds.length - i ∧ i ≤ ds.length ∧ Pv i H', ⟨ds.length, by simp, Nat.zero_le _, hP0⟩, ?_⟩
      rintro i m H' ⟨rfl, hil, acc, accV, r, e, sE, sF, hDl, hacc, hal, hr, hL⟩
      by_cases hlt : i < ds.length
      · have hd : ds[i]? = some ds[i] := List.getElem?_eq_getElem hlt
        rw [List.drop_eq_getElem_cons hlt, mlcRun] at hr
        obtain ⟨z, hz0, hr⟩ := bind_val hr
        obtain ⟨p0, q0, ns0, c0⟩ := z
        obtain ⟨hi0, hne, hlen⟩ := drOf_val hz0
        obtain ⟨ez, npq, dr⟩ := sl_dr sE hi0
        obtain ⟨l, ht1, hr⟩ := bind_val hr
        obtain ⟨y, hy1, hrC⟩ := bind_val hr
        have sF1 : Same (fr N env1 σ H1) H' := fun a o h => hid_same _ _ (sF a o h)
        refine .inr ⟨wk.go H' i _ sF1 hd, Pv (i + 1), fun H'' p' => ⟨ds.length - (i + 1), by omega, rfl, hlt, p'⟩, fun x H'' hyy => ?_⟩
        obtain ⟨s2, rx⟩ := wk.yld H' i _ x H'' (Mo N' e σ) sF1 sF (fun _ z => sE.rd.free z) hd hyy
        refine hg (Mo N' e σ) H'' _ x _ _ l rx ht1 fun w hw => ?_
        have outE : i0 ∉ l.map (·.1) := fun hm => by
          obtain ⟨q, hq, e⟩ := List.mem_map.mp hm
          exact h0 (e ▸ hin _ _ ht1 q hq)
        have rs2 : RSt (Mo N' e σ) (setE (wipeE e vs) l) (setV (wipe σ vs) w) H'' := ((sE.rd.up s2).wipe vs).setAll hw
        have hlE : (setV (wipe σ vs) w).length = (setE (wipeE e vs) l).length := by
          rw [setV_len, wipe_length, setE_len, wipeE_len]
          exact sE.len
        have hiE : (setE (wipeE e vs) l)[i0]? = some (.dr p0 q0 ns0 c0) := by
          rw [setE_out l _ outE, wipeE_get h0]
          exact hi0
        have sIn := dr_StS (rs2.shut i0) hlE hiE npq (.inr ⟨i0, _, _, hi0, ez, by simp [adr]⟩) (.inr ⟨i0, _, _, hi0, ez, by simp [adr]⟩)
        refine ⟨?_, ?_⟩
        · refine (wipe_agree (by rw [setV_len, wipe_length]) fun j hj => ?_)
          rw [setV_out, wipe_out hj]
          intro hm
          rw [pr_fst hw] at hm
          obtain ⟨q, hq, e⟩ := List.mem_map.mp hm
          exact hj (e ▸ hin _ _ ht1 q hq)
        · show te (setV (wipe σ vs) w) H'' (fun y H4 => ∃ acc, H4 Dl = some (.lst acc) ∧ acc.length < sizeLine ∧ Pv (i + 1) (upd H4 Dl (.lst (acc ++ [y]))))
          refine he _ _ (shutE i0 (setE (wipeE e vs) l)) _ H'' sIn _ ?_
          rw [hy1]
          obtain ⟨y, e1⟩ := y
          intro v H4 s4 q4 rv
          dsimp only at hrC
          split at hrC
          · rename_i pp qq ns' c' h2
            split at hrC
            · rename_i hpq
              obtain ⟨rfl, rfl⟩ := hpq
              obtain ⟨w', hr', hrD⟩ := bind_val hrC
              obtain ⟨r', e'⟩ := w'
              cases hrD
              obtain ⟨ez4, _, dr4⟩ := sl_dr s4 h2
              have el : Elsewhere H'' H4 pp qq := fun a o n1 n2 h => s4.ext a o (by
                show (if a = pp ∨ a = qq then none else H'' a) = some o
                rw [if_neg (by rintro (h | h); exact n1 h; exact n2 h)]
                exact h)
              obtain ⟨s5, q5⟩ := (sE.up s2).drUpd hi0 dr4 el
              have hfr : Same (fr N' e σ H') (fr N' (e.set i0 (.dr pp qq ns' c')) σ H4) := (fr_up s2).trans q5
              have nD : Dl ≠ pp ∧ Dl ≠ qq := ⟨fun h => (sE.new pp ⟨i0, _, _, hi0, ez, by simp [adr]⟩).1 (.inr h.symm), fun h => (sE.new qq ⟨i0, _, _, hi0, ez, by simp [adr]⟩).1 (.inr h.symm)⟩
              have hD4 : H4 Dl = some (.lst accV) := el _ _ nD.1 nD.2 (s2 _ _ hDl)
              have rv5 : Rep (fr N' (e.set i0 (.dr pp qq ns' c')) σ H4) y v := by
                have rv : Rep (hid (Mo _ e1 (setV (wipe σ vs) w)) H4) y v := rv
                refine Rep.up rv (same_hid (Same.refl _) fun a o h m => ?_)
                by_cases n1 : a = pp
                · rw [n1]
                  exact .inr ⟨i0, _, _, h2, ez4, by simp [adr]⟩
                · by_cases n2 : a = qq
                  · rw [n2]
                    exact .inr ⟨i0, _, _, h2, ez4, by simp [adr]⟩
                  · refine .inl ⟨?_, n1, n2⟩
                    rcases m with m | ⟨j, t, o', g1, g2, g3⟩
                    · exact .inl m
                    · rcases get_set g1 with ⟨rfl, rfl⟩ | ⟨_, g4⟩
                      · have : a = pp ∨ a = qq := by simpa [adr] using g3
                        rcases this with h | h
                        · exact absurd h n1
                        · exact absurd h n2
                      · exact .inr ⟨j, t, o', g4, g2, g3⟩
              obtain ⟨s6, q6⟩ := s5.upN (o := .lst (accV ++ [v])) (.inr rfl) hBD
              refine ⟨accV, hD4, ?_, acc ++ [y], accV ++ [v], r', _, s6, (sF.trans hfr).trans q6, upd_same, ((hacc.up hfr).app (repL_cons rv5 repL_nil)).up q6, ?_, hr', ?_⟩
              · have := hacc.len
                exact Nat.lt_of_lt_of_le (show accV.length < 100001 by omega) (by decide)
              · rw [List.length_append, List.length_singleton]
                omega
              · rw [hL, List.append_assoc]
                rfl
            · cases hrC
          · cases hrC
      · have e0 : i = ds.length := by omega
        subst e0
        rw [List.drop_length] at hr
        cases hr
        rw [List.append_nil] at hL
        subst hL
        obtain ⟨sZ, qZ⟩ := sE.less (N' := N) fun a m => .inl m
        refine .inl ⟨wk.stop H' fun a o h => hid_same _ _ (sF a o h), p1 _ H' sZ (sF.trans qZ) (rep_list.mpr ⟨Dl, accV, rfl, hid_some.mpr ⟨?_, hDl⟩, hacc.up qZ⟩)⟩
        rintro (m | m)
        · exact nN m
        · exact (sE.new Dl m).1 (.inr rfl)
  · exact p1.elim
section
variable {K : PySem.W.Frag} {W : WT} {X : Cx} {a b c e tg : Expr} {te ta : TE} {fm : MF} {pos p p2 : Pos} {x : Str} {wi : TI} {fs : En → Rs (List D)} {fi : En → Rs (List D × En)}
def mPL (f : En → Rs (List D)) : En → Rs (List D × En) := fun env => f env >>= fun d => .val (d, env)
theorem im_p (h : PIv K W X tg e wi fs) : PIM K W X tg e wi (mPL fs) := ⟨h.pi, fun B N env σ H s R p => h.ev _ env σ H s.rd R (pst_of s p fun _ _ _ r => r)⟩
def mRg1 (f : MF) : En → Rs (List D × En) := fun env => f env >>= fun r => match r.1 with
  | .int n => if 0 ≤ n ∧ n < 100000 then .val ((rgI 0 n).map .int, r.2) else .stk
  | _ => .stk
theorem im_rng1 (hm : X.mg "range" = none) (ha : PEM K W X a ta fm) (hg : Gl X "range" := by rfl) (na : starEach (a :: []) X.env = (false, eval a X.env) :: starEach [] X.env := by rfl) (hs : starEach [a] X.env = [(false, eval a X.env)] := by rfl) :
    PIM K W X tg (.Call (.Name "range" p) [a] [] pos) (iRng1 (tCons ta tNil)) (mRg1 fm) := by
  refine ⟨pi_range1 hg hm (pa_cons ha.pe pa_nil na) hs, fun B N env σ H s R p => ha.ev B N env σ H s _ (MPst.step (R := RpW) (Q := R) p fun d e1 _ v H1 s1 q1 r1 p1 => ?_)⟩
  dsimp only at p1
  split at p1
  · rename_i j _
    split at p1
    · refine ⟨j, by rw [rep_int.mp r1], by omega, by omega, p1 _ H1 s1 (Same.refl _) ?_⟩
      have e : j.toNat = (j - 0).toNat := by rw [Int.sub_zero]
      rw [e]
      exact walk_rng 0 j
    · exact p1.elim
  · exact p1.elim
variable {elt iter : Expr} {scope : Scope} {own : List (Str × Nat)} {g : TG} {t : D → Rs (List (Nat × D))} {fe : MF}
theorem m_lc (i : Nat) (hN : X.N.Nodup) (ok : BlkOk X.N X.env.scope scope own) (hin : TgIn t (own.map (·.2))) (h0 : i ∉ own.map (·.2)) (hi : PIM K W X tg iter wi fi)
    (hg : ∀ (s : Shared) (H : Hp) (C : Addr) (cl : List (Str × Addr)) (fp : List Addr), PGv (X.blk s H scope (compEnvC scope cl C X.env) fp) tg g t)
    (he : ∀ (s : Shared) (H : Hp) (C : Addr) (cl : List (Str × Addr)) (fp : List Addr), PEM K W0 (X.blk s H scope (compEnvC scope cl C X.env) fp) elt te fe) (hc : X.calm = true := by rfl) (hs : ∀ x, foldedSetIterable iter X.env x = pure x := by intro _; rfl) :
    PEM K W X (.ListComp elt [⟨tg, iter, [], 0⟩] scope pos) (tLc wi g tYes te (own.map (·.2))) (mLc i fi t fe (own.map (·.2))) :=
  ⟨pe_lc hc hN hi.pi ok (fun s H C cl fp => (hg s H C cl fp).pg) (fun s H C cl fp => pts_nil) (fun s H C cl fp => (he s H C cl fp).pe) hs,
    evM_lc hi.ev (hg X.s_0 X.H_0 0 [] []).ev hin h0 (he X.s_0 X.H_0 0 [] []).ev⟩
theorem s_setMLc {i : Nat} {pos' : Pos} (hN : X.N.Nodup) (hy : X.N[i]? = some x) (hyl : X.env.scope.names.lookup x = some .local) (hsw : swapsWith (.ListComp elt [⟨tg, iter, [], 0⟩] scope p2) (some (.Name x pos')) pos.line X.env = pure true)
    (i0 : Nat) (ok : BlkOk X.N X.env.scope scope own) (hin : TgIn t (own.map (·.2))) (h0 : i0 ∉ own.map (·.2)) (hi : PIM K W X tg iter wi fi)
    (hg : ∀ (s : Shared) (H : Hp) (C : Addr) (cl : List (Str × Addr)) (fp : List Addr), PGv (X.blk s H scope (compEnvC scope cl C X.env) fp) tg g t)
    (he : ∀ (s : Shared) (H : Hp) (C : Addr) (cl : List (Str × Addr)) (fp : List Addr), PEM K W0 (X.blk s H scope (compEnvC scope cl C X.env) fp) elt te fe) (hc : X.calm = true := by rfl) (hs : ∀ x, foldedSetIterable iter X.env x = pure x := by intro _; rfl) :
    PSv K W X (.Assign [.Name x pos'] (.ListComp elt [⟨tg, iter, [], 0⟩] scope p2) pos) (tAsg (tLc wi g tYes te (own.map (·.2))) (gName i)) (sSetM i (mLc i0 fi t fe (own.map (·.2)))) :=
  ⟨ps_setLc hc hN hy hyl hsw hi.pi ok (fun s H C cl fp => (hg s H C cl fp).pg) (fun s H C cl fp => pts_nil) (fun s H C cl fp => (he s H C cl fp).pe) hs, fun B N env σ H D s p =>
  evM_lc hi.ev (hg X.s_0 X.H_0 0 [] []).ev hin h0 (he X.s_0 X.H_0 0 [] []).ev B N env σ H s _ (mpst_so p (fun c e => so_exc p c e) fun d e _ v H' s' q r p' => by
    obtain ⟨s2, q2⟩ := s'.setf (i := i) r
    exact p' _ H' s2 q2)⟩
end
theorem no_stk {n : Nat} {vs : List V} {H : Hp} {Q : VK} {E : XK} (h : spP n (fun _ => .stk) vs H Q E) : False := by
  obtain ⟨M, ds, _, _, _, r⟩ := h
  exact r
end Ag


namespace Ag
open PySem L2
open PySem.W (alike dataLt minD AlikeAll)
section
variable {K : PySem.W.Frag} {W : WT} {X : Cx} {a b c e : Expr} {es : List Expr} {ta tb tc te : TE} {tA tR : TA} {f g h : EF} {fs gs : En → Rs (List D)} {pos p p2 : Pos} {x : Str}
/-! ### < of lists -/
def rLtDa (K : PySem.W.Frag) : R2 := fun x y H Q => ∃ d e, Dp K H x d ∧ Dp K H y e ∧ alike d e = true ∧ d ≠ .none ∧ SeqAt.shaped d = true ∧ Q (.bl (dataLt d e)) H
theorem op_ltDa (hu : X.A.units + 64 < cLine) : OpR X (compareOp .Lt) (rLtDa X.K) := by
  intro pins s σ H x y v u Q I rx ry h
  obtain ⟨d, e, hd, he, ha, hn, hs, q⟩ := h
  obtain ⟨as, r1⟩ := Dp.reads I d x v hd rx
  obtain ⟨bs, r2⟩ := Dp.reads I e y u he ry
  exact PySem.W.lt_data r1 r2 ha hn (SeqAt.room_of_shaped hs hu) ⟨.bl _, H, I, rfl, q⟩
def dLtD : D → D → Rs D := fun d e => if (alike d e && (SeqAt.shaped d && !isNon d)) = true then .val (.bool (dataLt d e)) else .stk
theorem sem_ltD : BinSem (rLtDa K) dLtD := fun M H d e x y Wx Q hf h1 h2 p => by
  unfold dLtD at p
  split at p
  · rename_i hs
    rw [Bool.and_eq_true, Bool.and_eq_true] at hs
    exact ⟨d, e, h1.dp, h2.dp, hs.1, (fun z => by rw [z] at hs; exact absurd hs.2.2 (by decide)), hs.2.1, p _ H (Same.refl H) (rep_bool.mpr rfl)⟩
  · exact p.elim
section
variable {k : Nat}
theorem v_ltD (hr : Room k X.A) (hK : X.K = K := by rfl) (ha : PEB K W X a ta f) (hb : PEB K W X b tb g) : PEv K W X (.Compare a [.Lt] [b] pos) (tOp (rLtDa K) ta tb) (eBin dLtD f g) := by
  subst hK
  exact v_cmp (op_ltDa (room64 hr)) sem_ltD ha hb (nobehind _ (by decide) (by decide))
theorem t_ltD (hr : Room k X.A) (hK : X.K = K := by rfl) (ha : PEB K W X a ta f) (hb : PEB K W X b tb g) : PTv K W X (.Compare a [.Lt] [b] pos) (tTest (tOp (rLtDa K) ta tb)) (asB (eBin dLtD f g)) := by
  subst hK
  exact t_cmp (op_ltDa (room64 hr)) sem_ltD ha hb (nobehind _ (by decide) (by decide))
/-! ### x in a tuple -/
def rInTu (K : PySem.W.Frag) : R2 := fun x y H Q => ∃ d ds, Dp K H x d ∧ Dp K H y (.tuple ds) ∧ SeqAt.shaped d = true ∧ SeqAt.shaped (.tuple ds) = true ∧ Q (.bl (ds.any fun z => PyData.eqv z d)) H
theorem op_inTu (hu : X.A.units + 65 < cLine) : OpR X (compareOp .In) (rInTu X.K) := by
  intro pins s σ H x y v u Q I rx ry h
  obtain ⟨d, ds, hd, he, sd, se, q⟩ := h
  obtain ⟨as, r1⟩ := Dp.reads I d x v hd rx
  obtain ⟨bs, r2⟩ := Dp.reads I (.tuple ds) y u he ry
  exact SeqAt.in_tuple_reads r2 r1 (SeqAt.canLay_of_shaped se) (SeqAt.canLay_of_shaped sd) (PyProof.Rows.room_in_shaped sd hu) ⟨.bl _, H, I, rfl, q⟩
def dInTu : D → D → Rs D := fun d e => match e with
  | .tuple ds => if (SeqAt.shaped d && SeqAt.shaped (.tuple ds)) = true then .val (.bool (ds.any fun z => PyData.eqv z d)) else .stk
  | _ => .stk
theorem sem_inTu : BinSem (rInTu K) dInTu := fun M H d e x y Wx Q hf h1 h2 p => by
  unfold dInTu at p
  split at p
  · split at p
    · rename_i ds hs
      rw [Bool.and_eq_true] at hs
      exact ⟨d, ds, h1.dp, h2.dp, hs.1, hs.2, p _ H (Same.refl H) (rep_bool.mpr rfl)⟩
    · exact p.elim
  · exact p.elim
theorem t_inTu (hr : Room k X.A) (hK : X.K = K := by rfl) (ha : PEB K W X a ta f) (hb : PEB K W X b tb g) (hm : behindInMarks .In b = false := by rfl) : PTv K W X (.Compare a [.In] [b] pos) (tTest (tOp (rInTu K) ta tb)) (asB (eBin dInTu f g)) := by
  subst hK
  exact t_cmp (op_inTu (room65 hr)) sem_inTu ha hb hm
end
/-! ### min of lists -/
def rMinDa (K : PySem.W.Frag) : List V → Hp → VK → Prop := fun vs H Q => ∃ (p : Addr) (xs : List V) (d : D) (ds : List D), vs = [.ref p] ∧ SqL K H p xs ∧ DpAll K H xs (d :: ds) ∧ AlikeAll (d :: ds) ∧ PyData.depthAll (d :: ds) ≤ 60 ∧ ∀ (i : Nat) v, xs[i]? = some v → (d :: ds)[i]? = some (minD d ds) → Q v H
theorem vals_get : ∀ {xs : List V} {us : List Value}, Vals xs us → ∀ {i : Nat} {u : Value}, us[i]? = some u → ∃ v, xs[i]? = some v ∧ RelV v u
  | _, _, .nil, i, u, h => by simp at h
  | _, _, .cons (a := v) r t, 0, u, h => by
    simp at h
    subst h
    exact ⟨v, rfl, r⟩
  | _, _, .cons r t, i + 1, u, h => by
    obtain ⟨v, h1, h2⟩ := vals_get t (i := i) (by simpa using h)
    exact ⟨v, by simpa using h1, h2⟩
theorem reads_get {h : Heap} : ∀ {us : List Value} {ds : List D} {as : List Addr}, ReadsAll h us ds as → ∀ {i : Nat} {u : Value}, us[i]? = some u → ∃ d bs, ds[i]? = some d ∧ Reads h u d bs
  | _, _, _, .nil, i, u, e => by simp at e
  | _, _, _, .cons r t, 0, u, e => by
    simp at e
    subst e
    exact ⟨_, _, rfl, r⟩
  | _, _, _, .cons r t, i + 1, u, e => by
    obtain ⟨d, bs, h1, h2⟩ := reads_get t (i := i) (by simpa using e)
    exact ⟨d, bs, by simpa using h1, h2⟩
theorem minD_mem : ∀ (xs : List D) (d : D), minD d xs ∈ d :: xs
  | [], d => List.mem_singleton.mpr rfl
  | y :: xs, d => by
    have e : minD d (y :: xs) = minD (if dataLt y d then y else d) xs := rfl
    rw [e]
    have := minD_mem xs (if dataLt y d then y else d)
    rcases List.mem_cons.mp this with h | h
    · rw [h]
      split <;> simp
    · exact List.mem_cons_of_mem _ (List.mem_cons_of_mem _ h)
theorem cr_minDa (hc : X.calm = true) (hu : X.A.units + 64 < cLine) : CallR X (.builtin "min") (rMinDa X.K) := by
  intro pins s σ H vs us Q I r h
  obtain ⟨p, xs, d, ds, rfl, hp, hd, hA, hdep, q⟩ := h
  rw [Vals.ref1 r]
  obtain ⟨its, rv, pl, hz⟩ := I.list hp
  obtain ⟨as, ra⟩ := Dp.readsAll I (d :: ds) _ its hd rv
  refine PySem.W.min_list_data (I.ok.hd hc) pl.isList (by simpa using ra) hA (by omega) fun i v h' tk bs hv rd hk => ?_
  have hv' : its[i]? = some v := by simpa using hv
  obtain ⟨w, hw, rw'⟩ := vals_get rv hv'
  obtain ⟨d', cs, h1, h2⟩ := reads_get ra hv'
  have h2' : Reads h' v d' cs := PyProof.Rows.Reads.keeps hk h2
  have e : d' = minD d ds := PySem.W.alike_unique d' (minD d ds) v cs bs (hA.1 _ (List.mem_of_getElem? h1) _ (minD_mem ds d)) h2' rd
  rw [e] at h1
  exact ⟨w, H, I.kept fun b o e => hk b o e, rw', q i w hw h1⟩
def allAl (l : List D) : Bool := l.all fun d => !isNon d && l.all fun e => alike d e
theorem allAl_ok {l : List D} (h : allAl l = true) : AlikeAll l := by
  unfold allAl at h
  rw [List.all_eq_true] at h
  refine ⟨fun x hx y hy => ?_, fun x hx z => ?_⟩
  · have := h x hx
    rw [Bool.and_eq_true, List.all_eq_true] at this
    exact this.2 y hy
  · have := h x hx
    rw [Bool.and_eq_true, z] at this
    exact absurd this.1 (by decide)
def dMinD : List D → Rs D
  | [.list (d :: ds)] => if allAl (d :: ds) = true ∧ PyData.depthAll (d :: ds) ≤ 60 then .val (minD d ds) else .stk
  | _ => .stk
theorem sem_minD : CallSem (rMinDa K) dMinD := fun M H ds vs Wx Q hf r p => by
  unfold dMinD at p
  split at p
  · split at p
    · rename_i d l hs
      obtain ⟨v, rfl, q⟩ := ab1 r
      obtain ⟨z, ws, e1, q1, q2⟩ := q.list
      refine ⟨z, ws, d, l, by rw [e1], SqL.of q1, q2.dp hid_same, allAl_ok hs.1, hs.2, fun i v hv hi => ?_⟩
      obtain ⟨d', h1, h2⟩ := q2.get' hv
      rw [hi] at h1
      cases h1
      exact p v H (Same.refl H) h2
    · exact p.elim
  · exact p.elim
theorem v_minD {k : Nat} (hr : Room k X.A) (hm : X.mg "min" = none) (ha : PAB K W X [a] tA fs) (hc : X.calm = true := by rfl) (hK : X.K = K := by rfl) (hg : Gl X "min" := by rfl) (he : starEach (a :: []) X.env = (false, eval a X.env) :: starEach [] X.env := by rfl) (hpl : (backTo pos (starEach [] X.env)).any (·.1) = false := by rfl) :
    PEv K W X (.Call (.Name "min" p) [a] [] pos) (tCB (rMinDa K) tA) (eCB dMinD fs) := by
  subst hK
  exact v_cb (cr_minDa hc (room64 hr)) sem_minD hg hm boot_min' ha (by decide) (by decide) he hpl
/-! ### sorted of pairs -/
def pairsOf : List D → Option (List (Int × Int))
  | [] => some []
  | .tuple [.int i, .int j] :: l => (pairsOf l).map ((i, j) :: ·)
  | _ => none
abbrev PI2 (p : Int × Int) : D := .tuple [.int p.1, .int p.2]
theorem pairsOf_some : ∀ {l : List D} {ps : List (Int × Int)}, pairsOf l = some ps → l = ps.map PI2
  | [], ps, h => by
    rw [pairsOf] at h
    cases h
    rfl
  | d :: l, ps, h => by
    unfold pairsOf at h
    split at h
    · rename_i e
      cases e
    · rename_i i j r e
      cases e
      cases e : pairsOf l with
      | none =>
        rw [e] at h
        cases h
      | some r =>
        rw [e] at h
        cases h
        rw [pairsOf_some e]
        rfl
    · cases h
theorem pairsOf_map : ∀ ps : List (Int × Int), pairsOf (ps.map PI2) = some ps
  | [] => rfl
  | p :: r => by
    rw [List.map_cons, pairsOf, pairsOf_map r]
    rfl
def ltP2 (p q : Int × Int) : Bool := decide (p.1 < q.1) || (decide (p.1 = q.1) && decide (p.2 < q.2))
def insP (p : Int × Int) : List (Int × Int) → List (Int × Int)
  | [] => [p]
  | q :: l => if ltP2 q p = true then q :: insP p l else p :: q :: l
def psort : List (Int × Int) → List (Int × Int)
  | [] => []
  | p :: l => insP p (psort l)
theorem insP_perm (p : Int × Int) : ∀ l : List (Int × Int), (insP p l).Perm (p :: l)
  | [] => .refl _
  | q :: l => by
    unfold insP
    split
    · exact ((insP_perm p l).cons q).trans (.swap p q l)
    · exact .refl _
theorem psort_perm : ∀ l : List (Int × Int), (psort l).Perm l
  | [] => .refl _
  | p :: l => (insP_perm p (psort l)).trans ((psort_perm l).cons p)
def leP2 (p q : Int × Int) : Prop := ltP2 q p = false
theorem leP2_iff {p q : Int × Int} : leP2 p q ↔ p.1 < q.1 ∨ (p.1 = q.1 ∧ p.2 ≤ q.2) := by
  unfold leP2 ltP2
  by_cases h1 : q.1 < p.1 <;> by_cases h2 : q.1 = p.1 <;> by_cases h3 : q.2 < p.2 <;> simp [h1, h2, h3] <;> omega
theorem ltP2_iff {p q : Int × Int} : ltP2 p q = true ↔ p.1 < q.1 ∨ (p.1 = q.1 ∧ p.2 < q.2) := by
  unfold ltP2
  simp
theorem insP_sorted (p : Int × Int) : ∀ {l : List (Int × Int)}, l.Pairwise leP2 → (insP p l).Pairwise leP2
  | [], _ => List.pairwise_singleton _ _
  | q :: l, h => by
    unfold insP
    obtain ⟨h1, h2⟩ := List.pairwise_cons.mp h
    split
    · rename_i hq
      refine List.pairwise_cons.mpr ⟨fun y hy => ?_, insP_sorted p h2⟩
      rcases List.mem_cons.mp ((insP_perm p l).mem_iff.mp hy) with e | e
      · rw [e, leP2_iff]
        rw [ltP2_iff] at hq
        omega
      · exact h1 y e
    · rename_i hq
      have hq : leP2 p q := by
        unfold leP2
        simpa using hq
      refine List.pairwise_cons.mpr ⟨fun y hy => ?_, h⟩
      rcases List.mem_cons.mp hy with e | e
      · rw [e]
        exact hq
      · have := h1 y e
        rw [leP2_iff] at hq this ⊢
        omega
theorem psort_sorted : ∀ l : List (Int × Int), (psort l).Pairwise leP2
  | [] => .nil
  | p :: l => insP_sorted p (psort_sorted l)
theorem psorted_uniq : ∀ {l m : List (Int × Int)}, l.Perm m → l.Pairwise leP2 → m.Pairwise leP2 → l = m
  | [], m, h, _, _ => (List.nil_perm.mp h).symm
  | a :: l, [], h, _, _ => absurd h.length_eq (by simp)
  | a :: l, b :: m, h, h1, h2 => by
    obtain ⟨p1, q1⟩ := List.pairwise_cons.mp h1
    obtain ⟨p2, q2⟩ := List.pairwise_cons.mp h2
    have e : a = b := by
      have ha : a ∈ b :: m := h.mem_iff.mp List.mem_cons_self
      have hb : b ∈ a :: l := h.mem_iff.mpr List.mem_cons_self
      rcases List.mem_cons.mp ha with e | e
      · exact e
      · rcases List.mem_cons.mp hb with e' | e'
        · exact e'.symm
        · have h3 := p2 a e
          have h4 := p1 b e'
          rw [leP2_iff] at h3 h4
          obtain ⟨a1, a2⟩ := a
          obtain ⟨b1, b2⟩ := b
          dsimp only at h3 h4
          have e1 : a1 = b1 := by omega
          have e2 : a2 = b2 := by omega
          rw [e1, e2]
    subst e
    rw [psorted_uniq (List.Perm.cons_inv h) q1 q2]
def okP (ps : List (Int × Int)) : Bool := ps.all fun p => decide (0 ≤ p.1) && (decide (p.1 < 1000) && (decide (0 ≤ p.2) && decide (p.2 < 1000)))
def dSortedP : List D → Rs (List D)
  | [.list l] => ofO (pairsOf l) >>= fun ps => if ps.length < 64 ∧ okP ps = true then .val ((psort ps).map PI2) else .stk
  | _ => .stk
theorem repL_perm {F : Hp} : ∀ {vs ws : List V}, ws.Perm vs → ∀ {l : List D}, RepL F l vs → ∃ m, RepL F m ws ∧ m.Perm l := by
  intro vs ws hp
  induction hp with
  | nil => exact fun {l} r => ⟨l, r, .refl _⟩
  | cons x _ ih =>
    intro l r
    cases l with
    | nil =>
      have := r.len
      simp at this
    | cons d l =>
      obtain ⟨v, w, e, h1, h2⟩ := r.of_cons
      cases e
      obtain ⟨m, h3, h4⟩ := ih h2
      exact ⟨d :: m, repL_cons h1 h3, h4.cons d⟩
  | swap x y t =>
    intro l r
    match l, r with
    | d :: e :: l, r =>
      obtain ⟨v, w, e1, h1, h2⟩ := r.of_cons
      cases e1
      obtain ⟨v', w', e2, h3, h4⟩ := h2.of_cons
      cases e2
      exact ⟨e :: d :: l, repL_cons h3 (repL_cons h1 h4), .swap _ _ _⟩
    | [], r =>
      have := r.len
      simp at this
    | [d], r =>
      have := r.len
      simp at this
  | trans _ _ ih1 ih2 =>
    intro l r
    obtain ⟨m, h1, h2⟩ := ih2 r
    obtain ⟨m', h3, h4⟩ := ih1 h1
    exact ⟨m', h3, h4.trans h2⟩
theorem map_perm_of : ∀ {m : List D} {ps : List (Int × Int)}, m.Perm (ps.map PI2) → ∃ qs : List (Int × Int), m = qs.map PI2 ∧ qs.Perm ps := by
  intro m ps h
  have hm : ∀ d ∈ m, ∃ p, d = PI2 p := fun d hd => by
    obtain ⟨p, _, e⟩ := List.mem_map.mp (h.mem_iff.mp hd)
    exact ⟨p, e.symm⟩
  have : ∃ qs : List (Int × Int), m = qs.map PI2 := by
    clear h
    induction m with
    | nil => exact ⟨[], rfl⟩
    | cons d r ih =>
      obtain ⟨p, e⟩ := hm d List.mem_cons_self
      obtain ⟨qs, e2⟩ := ih fun z hz => hm z (List.mem_cons_of_mem _ hz)
      exact ⟨p :: qs, by rw [e, e2]; rfl⟩
  obtain ⟨qs, e⟩ := this
  refine ⟨qs, e, ?_⟩
  rw [e] at h
  let back : D → Int × Int := fun d => match d with
    | .tuple [.int i, .int j] => (i, j)
    | _ => (0, 0)
  have := h.map back
  rw [List.map_map, List.map_map] at this
  have eb : (back ∘ PI2) = id := by
    funext p
    rfl
  rw [eb, List.map_id, List.map_id] at this
  exact this
theorem rep_PI2 {F H : Hp} {p : Int × Int} {v : V} (s : Same F H) (r : Rep F (PI2 p) v) : TupI K H v [p.1, p.2] := by
  obtain ⟨t, vs, rfl, h1, h2⟩ := rep_tup.mp r
  have : vs = [p.1, p.2].map V.int := repL_ints.mp (show RepL F ([p.1, p.2].map PyData.int) vs from h2)
  rw [this] at h1
  exact ⟨t, rfl, SqT.of (s _ _ h1)⟩
theorem pair_le {x y x' y' : Int} (h : TS.code 1000 [x, y] ≤ TS.code 1000 [x', y']) (b1 : 0 ≤ x ∧ x < 1000) (b2 : 0 ≤ y ∧ y < 1000) (b3 : 0 ≤ x' ∧ x' < 1000) (b4 : 0 ≤ y' ∧ y' < 1000) : x < x' ∨ (x = x' ∧ y ≤ y') := by
  have e : ∀ u v : Int, TS.code 1000 [u, v] = u * 1000 + v := fun u v => by
    show u * 1000 ^ 1 + (v * 1000 ^ 0 + 0) = _
    omega
  rw [e, e] at h
  omega
theorem sem_sortedP : CallSemO (rSortU K 2 1000) dSortedP := fun M H0 H ds vs Wx Q s0 hf r p => by
  unfold dSortedP at p
  split at p
  · obtain ⟨v, rfl, q⟩ := ab1 r
    rename_i l
    cases e : pairsOf l with
    | none =>
      rw [e] at p
      exact p.elim
    | some ps =>
      rw [e] at p
      have p : Pst H Wx (fun l v H' => RO M H0 l v H') Q (if ps.length < 64 ∧ okP ps = true then .val ((psort ps).map PI2) else .stk) := p
      obtain ⟨z, ws, e1, q1, q2⟩ := q.list
      split at p
      · rename_i hn
        have el := pairsOf_some e
        subst el
        have hl := q2.len
        rw [List.length_map] at hl
        have hb : ∀ p ∈ ps, (0 ≤ p.1 ∧ p.1 < 1000) ∧ (0 ≤ p.2 ∧ p.2 < 1000) := fun p hp => by
          have := List.all_eq_true.mp hn.2 p hp
          simp only [Bool.and_eq_true, decide_eq_true_eq] at this
          omega
        refine ⟨z, ws, by rw [e1], SqL.of q1, by omega, fun x hx => ?_, fun ys z' hp hsrt hz' => ?_⟩
        · obtain ⟨i, hi⟩ := List.mem_iff_getElem?.mp hx
          obtain ⟨d, hd, rd⟩ := q2.get' hi
          obtain ⟨p, hp, rfl⟩ := List.mem_map.mp (List.mem_of_getElem? hd)
          refine ⟨[p.1, p.2], rep_PI2 hid_same rd, rfl, fun m hm => ?_⟩
          have := hb p hp
          rcases List.mem_cons.mp hm with rfl | hm
          · exact this.1
          · rw [List.mem_singleton.mp hm]
            exact this.2
        · obtain ⟨m, rm, pm⟩ := repL_perm hp q2
          obtain ⟨qs, rfl, pq⟩ := map_perm_of pm
          have hs : qs.Pairwise leP2 := by
            rw [List.pairwise_iff_getElem]
            intro i j hi hj hij
            have hlen := rm.len
            rw [List.length_map] at hlen
            have gi : (qs.map PI2)[i]? = some (PI2 qs[i]) := by rw [List.getElem?_map, List.getElem?_eq_getElem hi]; rfl
            have gj : (qs.map PI2)[j]? = some (PI2 qs[j]) := by rw [List.getElem?_map, List.getElem?_eq_getElem hj]; rfl
            obtain ⟨vi, hvi, ri⟩ := rm.get gi
            obtain ⟨vj, hvj, rj⟩ := rm.get gj
            obtain ⟨ei, hvi'⟩ := List.getElem?_eq_some_iff.mp hvi
            obtain ⟨ej, hvj'⟩ := List.getElem?_eq_some_iff.mp hvj
            have := List.pairwise_iff_getElem.mp hsrt i j ei ej hij [qs[i].1, qs[i].2] [qs[j].1, qs[j].2] (by rw [hvi']; exact rep_PI2 hid_same ri) (by rw [hvj']; exact rep_PI2 hid_same rj)
            have bi := hb _ (pq.mem_iff.mp (List.getElem_mem hi))
            have bj := hb _ (pq.mem_iff.mp (List.getElem_mem hj))
            rw [leP2_iff]
            exact pair_le this bi.1 bi.2 bj.1 bj.2
          have e2 : qs = psort ps := psorted_uniq (pq.trans (psort_perm ps).symm) hs (psort_sorted ps)
          subst e2
          exact p _ _ (same_new hz') (ro_new s0 hz' rm)
      · exact p.elim
  · exact p.elim
theorem o_sortedP (hm : X.mg "sorted" = none) (ha : PAB K W X [a] tA fs) (hK : X.K = K := by rfl) (hg : Gl X "sorted" := by rfl) (he : starEach (a :: []) X.env = (false, eval a X.env) :: starEach [] X.env := by rfl) (hpl : (backTo pos (starEach [] X.env)).any (·.1) = false := by rfl) :
    PEO K W X (.Call (.Name "sorted" p) [a] [] pos) (tCB (rSortU K 2 1000) tA) (eCO dSortedP fs) := by
  subst hK
  exact o_cb (cr_sortT (by decide)) sem_sortedP hg hm boot_sorted' ha (by decide) (by decide) he hpl
/-! ### a list or a tuple walked -/
section
variable {tg : Expr} {w1 w2 : TI}
theorem pi_or (h1 : PI X tg e w1) (h2 : PI X tg e w2) : PI X tg e (fun σ H R => w1 σ H R ∨ w2 σ H R) := ⟨fun pins s σ H R I h => h.elim (h1.run pins s σ H R I) (h2.run pins s σ H R I)⟩
def asQK (d : D) : Rs (List D) := match d with
  | .list l => .val l
  | .tuple l => .val l
  | _ => .stk
def asQ (f : EF) : En → Rs (List D) := fun env => f env >>= asQK
theorem ib_seq (ha : PEB K W X a ta f) (hK : X.K = K := by rfl) : PIB K W X tg a (fun σ H R => iList K ta σ H R ∨ iTup K ta σ H R) (asQ f) := by
  subst hK
  refine ⟨pi_or (pi_list ha.pe) (pi_tup ha.pe), fun M env σ H rs R p => ?_⟩
  unfold asQ at p
  cases hf : f env with
  | exc c =>
    rw [hf] at p
    exact .inl (ha.ev M env σ H rs _ (by rw [hf]; exact p))
  | stk =>
    rw [hf] at p
    exact p.elim
  | val d =>
    rw [hf] at p
    cases d with
    | list l =>
      refine .inl (ha.ev M env σ H rs _ ?_)
      rw [hf]
      intro v H1 s1 r1
      obtain ⟨z, vs, e1, q, r⟩ := r1.list
      exact ⟨z, e1, ⟨vs, SqL.of q⟩, p _ H1 s1 (walk_list q r)⟩
    | tuple l =>
      refine .inr (ha.ev M env σ H rs _ ?_)
      rw [hf]
      intro v H1 s1 r1
      obtain ⟨z, vs, e1, q, r⟩ := rb_tup r1
      exact ⟨z, e1, ⟨vs, SqT.of q⟩, p _ H1 s1 (walk_tup q r)⟩
    | _ => exact p.elim
end
end
end Ag


/-! ### set(xs) of a list of ints -/
namespace Ag
open PySem PySem.Spec PyProof.Rows L2
def nob (w : World) : Obj := { cls := .type "set", dict := none, data := .set #[] 0 (.fresh 0 0 (!w.params.followText "set-order")) }
/-- what the filled set keeps of the heap before -/
def Fld (w : World) (s : Shared) (ns : List Int) (h' : Heap) (c : Nat) : Prop := SetR w h' s.heap.objs.size (fun j => decide (j ∈ ns)) c ∧ c ≤ ns.length ∧ ∀ b o, s.heap.get? b = some o → h'.get? b = some o
section
variable {P : Program} {w : World} {A : Around} {E : Value → Shared → Prop} {s : Shared}
theorem call_set_lst {l : Addr} {items : Array Value} (ns : List Int) {Q : Value → Shared → Prop} (hh : A.handled = none) (hl : s.heap.IsList l items) (hit : IntsAre items.toList ns) (hb : ns.length + 1 < scanBound)
    (h : ∀ h' tk c, Fld w s ns h' c → Q (.ref s.heap.objs.size) { s with heap := h', toks := tk }) : wpAny (model P w) A (call (.type "set") [.ref l]) Q E s := by
  have n0 : items.size = ns.length := (Array.length_toList (xs := items)).symm.trans (IntsAre.length hit)
  obtain ⟨_, _, q0⟩ := F.called_set.mro
  have q1 := F.called_set.made
  have q2 := F.called_set.sub
  have q3 := F.called_set.notType
  have q4 := F.called_set.canCreate
  have q5 := F.typeCall_set_1 (.ref l)
  refine wpAny_call (codeAny_of_tree (wpAny_pure ⟨Code.quiet_builtin _ (by decide +kernel), codeAny_builtin F.entry_type_call ?_⟩))
  rw [Around.under_plain (weight_type_call_type "set" [.ref l] []) rfl]
  repeat (any_goals (first | assumption | wp_step))
  refine codeAny_mono (code_set_led1 (.ref l) (E := E) (Q₁ := fun v s₁ => v = .ref s.heap.objs.size ∧ s₁ = { s with heap := s.heap.push (nob w) }) ⟨rfl, rfl⟩) fun r s₁ hr => ?_
  match r, hr with
  | .ok (.ret _), ⟨e1, e2⟩ =>
    subst e1
    subst e2
    have g0 : (s.heap.push (nob w)).get? s.heap.objs.size = some (nob w) := Heap.get?_push_size _ rfl
    have gT : Shared.TypeIs { s with heap := s.heap.push (nob w) } (.ref s.heap.objs.size) "set" := ⟨_, g0, rfl⟩
    have q6 := F.called_set.init.lookup
    have q7 := F.called_set.init.bind (.ref s.heap.objs.size)
    repeat (any_goals (first | assumption | wp_step))
    refine codeAny_mono (codeAny_call_builtin (R := wants (fun r s₂ => r = .none ∧ ∃ h' tk c, s₂ = { s with heap := h', toks := tk } ∧ Fld w s ns h' c) E) F.called_set.init.plain F.entry_set_init (check_set_init_1 gT ?_)) fun r₂ s₂ hr₂ => ?_
    · obtain ⟨ol, hol, hcl, nl, hdl⟩ := hl
      obtain ⟨ocls, odict, odata, oslots⟩ := ol
      dsimp only at hcl hdl
      subst hcl
      subst hdl
      have gl : (s.heap.push (nob w)).get? l = some { cls := .type "list", dict := odict, data := .seq items nl, slots := oslots } := Heap.get?_push_of_some _ hol
      have q8 := F.sub_list_set
      have q9 := F.sub_list_frozenset
      have qa : (Value.type "list" == Value.type "dict") = false := by decide
      have gL : (s.heap.push (nob w)).IsList l items := ⟨_, gl, rfl, nl, rfl⟩
      unfold Builtin.«set.__init__» noKeywords Builtin.Frozenset.updateFrom
      generalize hPI : pyIter = PI
      wp_walk
      subst hPI
      refine wpAny_pyIter_list gL (wpAny_bind (wpAny_runValue ?_))
      have lt0 : l < s.heap.objs.size := Heap.lt_size hol
      have sz : (s.heap.push (nob w)).objs.size = s.heap.objs.size + 1 := Heap.size_push ..
      have val : ∀ (i : Nat) (v : Value), items[i]? = some v → ∃ k t, ns[i]? = some k ∧ v = .int k t := fun i v hv => by
        have hi : i < ns.length := n0 ▸ (Array.getElem?_eq_some_iff.mp hv).1
        obtain ⟨t, e⟩ := IntsAre.int_at hit i v (by rw [Array.getElem?_toList]; exact hv)
        exact ⟨ns[i], t, List.getElem?_eq_getElem hi, by rw [e, List.getD_eq_getElem?_getD, List.getElem?_eq_getElem hi]; rfl⟩
      have a1 : l ≠ (s.heap.push (nob w)).objs.size := by rw [sz]; exact Nat.ne_of_lt (Nat.lt_succ_of_lt lt0)
      have a2 : s.heap.objs.size ∉ [(s.heap.push (nob w)).objs.size, l] := fun z => by
        rw [sz, List.mem_cons, List.mem_singleton] at z
        exact z.elim (Nat.ne_of_lt (Nat.lt_succ_self _)) (Nat.ne_of_gt lt0)
      refine set_update_ints ((Walks.list (by simp [hh]) _ l a1 items).toS) s.heap.objs.size a2 ns n0 hb val (items.size - 0) 0 _ (by omega) (Nat.zero_le _) ⟨⟨_, Heap.get?_push_size _ rfl, rfl, rfl⟩, gL.push _⟩ ⟨0, Nat.le_refl 0, setR_new_at (Heap.get?_push_of_some _ g0)⟩ ?_
      intro s' c hm hc hS
      obtain ⟨h', g, d, tk, os⟩ := s'
      have eg : g = s.gens := hm.gens
      have ed : d = s.drawn := hm.drawn
      have eo : os = s.os := hm.os
      subst eg
      subst ed
      subst eo
      refine wpAny_pure (wpAny_pure ⟨rfl, h', tk, c, rfl, hS, n0 ▸ hc, fun b o e => ?_⟩)
      have hb0 := Heap.lt_size e
      exact hm.heap b o (fun z => by
        rw [sz, List.mem_cons, List.mem_singleton] at z
        exact z.elim (Nat.ne_of_lt hb0) (Nat.ne_of_lt (Nat.lt_succ_of_lt hb0))) (Heap.get?_push_of_some _ (Heap.get?_push_of_some _ e))
    · match r₂, hr₂ with
      | .ok (.ret _), ⟨e, h', tk, c, e2, k⟩ =>
        subst e
        subst e2
        repeat (any_goals (first | assumption | wp_step))
        exact h _ _ _ k
      | .ok .next, z => exact z.elim
      | .ok .brk, z => exact z.elim
      | .ok .cont, z => exact z.elim
      | .error _, z => exact z
  | .ok .next, z => exact z.elim
  | .ok .brk, z => exact z.elim
  | .ok .cont, z => exact z.elim
  | .error _, z => exact z
end
section
variable {X : Cx}
def rSetLi (K : PySem.W.Frag) (w : World) : List V → Hp → VK → Prop := fun xs H Q => ∃ (p : Addr) (ns : List Int), xs = [.ref p] ∧ SqL K H p (ns.map V.int) ∧ ns.length ≤ 1000 ∧
  ∀ (a : Addr) (c : Nat), H a = none → c ≤ ns.length → Q (.ref a) (upd H a (SetO w a (fun j => decide (j ∈ ns)) c))
theorem cr_setL (hc : X.calm = true) : CallR X (.type "set") (rSetLi X.K X.w) := by
  intro pins s σ H xs us Q I r h
  obtain ⟨p, ns, e, hq, hl, q⟩ := h
  subst e
  rw [Vals.ref1 r]
  obtain ⟨its, rv, pl, hz⟩ := I.list hq
  refine call_set_lst ns (I.ok.hd hc) pl.isList (show IntsAre its.toArray.toList ns from ints_of_vals rv) (by unfold scanBound; omega) fun h' tk c k => ?_
  obtain ⟨k1, k2, k3⟩ := k
  have hf := I.hok.fresh (Nat.le_refl s.heap.objs.size)
  exact ⟨.ref _, upd H s.heap.objs.size (SetO X.w s.heap.objs.size (fun j => decide (j ∈ ns)) c), I.call (ch := []) (Un.laid k3 (Nat.le_refl _) hf) (I.hok.laid k3 (Nat.le_refl _) (setO_new k1)) I.bare (fun _ z => nomatch z), rfl, q _ c hf k2⟩
/-- how many a set holds: as many as any list of them, each once -/
def rLenSet (w : World) : List V → Hp → VK → Prop := fun xs H Q => ∃ (a : Addr) (S : Int → Bool) (n : Nat), xs = [.ref a] ∧ H a = some (SetO w a S n) ∧ n ≤ 1000 ∧ ∀ out : List Int, out.Nodup → (∀ k, k ∈ out ↔ S k = true) → Q (.int out.length) H
theorem cr_lenSet : CallR X (.builtin "len") (rLenSet X.w) := by
  intro pins s σ H xs us Q I r h
  obtain ⟨a, S, n, e, ha, hn, q⟩ := h
  subst e
  rw [Vals.ref1 r]
  obtain ⟨o, es, ep, t, ho, hex, hd, _, nd, hm, _, hf, hs, _, _⟩ := setO_get I ha
  have hq := q (es.toList.map keyOf) nd fun k => (hm k).symm
  rw [List.length_map, Array.length_toList] at hq
  exact PySem.call_len_set ho hex hd hf (by rw [hs] <;> omega) ⟨.int es.size, H, I.tok _, ⟨_, rfl⟩, hq⟩
end
end Ag
namespace Ag
open PySem L2
/-! the sorted members of a list of ints, each once -/
def insS (x : Int) : List Int → List Int
  | [] => [x]
  | y :: l => if x < y then x :: y :: l else if x = y then y :: l else y :: insS x l
def sset : List Int → List Int
  | [] => []
  | x :: l => insS x (sset l)
theorem insS_mem {x y : Int} : ∀ {l : List Int}, y ∈ insS x l ↔ y = x ∨ y ∈ l
  | [] => by simp [insS]
  | z :: l => by
    rw [insS]
    split
    · simp
    · split
      · rename_i h
        subst h
        simp
      · rw [List.mem_cons, insS_mem (l := l), List.mem_cons]
        constructor
        · rintro (h | h | h)
          · exact .inr (.inl h)
          · exact .inl h
          · exact .inr (.inr h)
        · rintro (h | h | h)
          · exact .inr (.inl h)
          · exact .inl h
          · exact .inr (.inr h)
theorem insS_srt {x : Int} : ∀ {l : List Int}, l.Pairwise (· < ·) → (insS x l).Pairwise (· < ·)
  | [], _ => List.pairwise_singleton _ _
  | z :: l, h => by
    obtain ⟨h1, h2⟩ := List.pairwise_cons.mp h
    rw [insS]
    split
    · rename_i hx
      refine List.pairwise_cons.mpr ⟨fun y hy => ?_, h⟩
      rcases List.mem_cons.mp hy with e | e
      · rw [e]
        exact hx
      · have := h1 y e
        omega
    · split
      · exact h
      · rename_i hx hz
        refine List.pairwise_cons.mpr ⟨fun y hy => ?_, insS_srt h2⟩
        rcases insS_mem.mp hy with e | e
        · omega
        · exact h1 y e
theorem sset_mem {y : Int} : ∀ {l : List Int}, y ∈ sset l ↔ y ∈ l
  | [] => Iff.rfl
  | x :: l => by
    rw [sset, insS_mem, sset_mem (l := l), List.mem_cons]
theorem sset_srt : ∀ l : List Int, (sset l).Pairwise (· < ·)
  | [] => .nil
  | _ :: l => insS_srt (sset_srt l)
theorem lt_uniq : ∀ {l m : List Int}, (∀ k, k ∈ l ↔ k ∈ m) → l.Pairwise (· < ·) → m.Pairwise (· < ·) → l = m
  | [], [], _, _, _ => rfl
  | [], b :: m, h, _, _ => absurd ((h b).mpr (List.mem_cons_self ..)) (List.not_mem_nil)
  | a :: l, [], h, _, _ => absurd ((h a).mp (List.mem_cons_self ..)) (List.not_mem_nil)
  | a :: l, b :: m, h, h1, h2 => by
    obtain ⟨p1, q1⟩ := List.pairwise_cons.mp h1
    obtain ⟨p2, q2⟩ := List.pairwise_cons.mp h2
    have e : a = b := by
      rcases List.mem_cons.mp ((h a).mp (List.mem_cons_self ..)) with e | e
      · exact e
      · rcases List.mem_cons.mp ((h b).mpr (List.mem_cons_self ..)) with e' | e'
        · exact e'.symm
        · have := p1 b e'
          have := p2 a e
          omega
    subst e
    rw [lt_uniq (fun k => ?_) q1 q2]
    constructor
    · intro hk
      rcases List.mem_cons.mp ((h k).mp (List.mem_cons_of_mem _ hk)) with e | e
      · have := p1 k hk
        omega
      · exact e
    · intro hk
      rcases List.mem_cons.mp ((h k).mpr (List.mem_cons_of_mem _ hk)) with e | e
      · have := p2 k hk
        omega
      · exact e
theorem lt_nodup {l : List Int} (h : l.Pairwise (· < ·)) : l.Nodup := List.Pairwise.imp (fun h e => by omega) h
section
variable {K : PySem.W.Frag} {W : WT} {X : Cx} {a : Expr} {es : List Expr} {ta : TE} {tA : TA} {fs : En → Rs (List D)} {pos p p2 q : Pos}
def rSortSet (K : PySem.W.Frag) (w : World) : List V → Hp → VK → Prop := fun vs H Q => rSetLi K w vs H fun v H1 => rSortedSet w [v] H1 Q
def rLenSetL (K : PySem.W.Frag) (w : World) : List V → Hp → VK → Prop := fun vs H Q => rSetLi K w vs H fun v H1 => rLenSet w [v] H1 Q
def dSortSet : List D → Rs (List D)
  | [.list l] => ofO (intsOf l) >>= fun ns => if ns.length < 64 then .val ((sset ns).map .int) else .stk
  | _ => .stk
def dLenSet : List D → Rs D
  | [.list l] => ofO (intsOf l) >>= fun ns => if ns.length < 1000 then .val (.int ((sset ns).length : Nat)) else .stk
  | _ => .stk
theorem sem_sortSet {w : World} : CallSemO (rSortSet K w) dSortSet := fun M H0 H ds vs Wx Q s0 hf r p => by
  unfold dSortSet at p
  split at p
  · obtain ⟨v, rfl, q⟩ := ab1 r
    rename_i l
    cases e : intsOf l with
    | none =>
      rw [e] at p
      exact p.elim
    | some ns =>
      rw [e] at p
      obtain ⟨a, e1, h⟩ := rb_ints q e
      have p : Pst H Wx (fun l v H' => RO M H0 l v H') Q (if ns.length < 64 then .val ((sset ns).map .int) else .stk) := p
      split at p
      · rename_i hn
        refine ⟨a, ns, by rw [e1], SqL.of h, by omega, fun b c hb hc => ⟨b, _, c, rfl, upd_same, by omega, fun ns' z h1 h2 h3 hz => ?_⟩⟩
        have e2 : ns' = sset ns := lt_uniq (fun k => (h2 k).trans (by rw [decide_eq_true_eq, sset_mem])) h1 (sset_srt ns)
        subst e2
        exact p _ _ ((same_new hb).trans (same_new hz)) (ro_new (s0.trans (same_new hb)) hz (repL_ints.mpr rfl))
      · exact p.elim
  · exact p.elim
theorem sem_lenSet {w : World} : CallSem (rLenSetL K w) dLenSet := fun M H ds vs Wx Q hf r p => by
  unfold dLenSet at p
  split at p
  · obtain ⟨v, rfl, q⟩ := ab1 r
    rename_i l
    cases e : intsOf l with
    | none =>
      rw [e] at p
      exact p.elim
    | some ns =>
      rw [e] at p
      obtain ⟨a, e1, h⟩ := rb_ints q e
      have p : Pst H Wx (fun d v H' => Rep (hid M H') d v) Q (if ns.length < 1000 then .val (.int ((sset ns).length : Nat)) else .stk) := p
      split at p
      · rename_i hn
        refine ⟨a, ns, by rw [e1], SqL.of h, by omega, fun b c hb hc => ⟨b, _, c, rfl, upd_same, by omega, fun out h1 h2 => ?_⟩⟩
        have pm : out.Perm (sset ns) := by
          rw [List.perm_iff_count]
          intro k
          have hn2 := lt_nodup (sset_srt ns)
          have hk : k ∈ out ↔ k ∈ sset ns := (h2 k).trans (by rw [decide_eq_true_eq, sset_mem])
          by_cases hm : k ∈ out
          · rw [List.nodup_iff_count.mp h1 |> fun z => Nat.le_antisymm (z k) (List.count_pos_iff.mpr hm), List.nodup_iff_count.mp hn2 |> fun z => Nat.le_antisymm (z k) (List.count_pos_iff.mpr (hk.mp hm))]
          · rw [List.count_eq_zero_of_not_mem hm, List.count_eq_zero_of_not_mem fun z => hm (hk.mpr z)]
        exact p _ _ (same_new hb) (rep_int.mpr (by rw [pm.length_eq]))
      · exact p.elim
  · exact p.elim
theorem o_sortSet {w : World} (hm : X.mg "sorted" = none) (hm2 : X.mg "set" = none) (ha : PAB K W X [a] tA fs) (hc : X.calm = true := by rfl) (hK : X.K = K := by rfl) (hw : X.w = w := by rfl) (hg : Gl X "sorted" := by rfl) (hg2 : Gl X "set" := by rfl)
    (he : starEach (a :: []) X.env = (false, eval a X.env) :: starEach [] X.env := by rfl) (hpl : (backTo q (starEach [] X.env)).any (·.1) = false := by rfl)
    (he2 : starEach [.Call (.Name "set" p2) [a] [] q] X.env = (false, eval (.Call (.Name "set" p2) [a] [] q) X.env) :: starEach [] X.env := by rfl) (hpl2 : (backTo pos (starEach [] X.env)).any (·.1) = false := by rfl) :
    PEO K W X (.Call (.Name "sorted" p) [.Call (.Name "set" p2) [a] [] q] [] pos) (tCB (rSortedSet w) (tCons (tCB (rSetLi K w) tA) tNil)) (eCO dSortSet fs) := by
  subst hK
  subst hw
  exact ⟨pe_callB (cr_sortedSet hc) hg hm boot_sorted' (pa_cons (pe_callTy (cr_setL hc) hg2 hm2 PyProof.Rows.boot_set ha.pa (by decide) (by decide) he hpl) pa_nil he2) (by decide) (by decide) he2 hpl2, show EvO W (tCB (rSortSet X.K X.w) tA) _ from ev_co sem_sortSet ha.ev⟩
theorem v_lenSet {w : World} (hm : X.mg "len" = none) (hm2 : X.mg "set" = none) (ha : PAB K W X [a] tA fs) (hc : X.calm = true := by rfl) (hK : X.K = K := by rfl) (hw : X.w = w := by rfl) (hg : Gl X "len" := by rfl) (hg2 : Gl X "set" := by rfl)
    (he : starEach (a :: []) X.env = (false, eval a X.env) :: starEach [] X.env := by rfl) (hpl : (backTo q (starEach [] X.env)).any (·.1) = false := by rfl)
    (he2 : starEach [.Call (.Name "set" p2) [a] [] q] X.env = (false, eval (.Call (.Name "set" p2) [a] [] q) X.env) :: starEach [] X.env := by rfl) (hpl2 : (backTo pos (starEach [] X.env)).any (·.1) = false := by rfl) :
    PEv K W X (.Call (.Name "len" p) [.Call (.Name "set" p2) [a] [] q] [] pos) (tCB (rLenSet w) (tCons (tCB (rSetLi K w) tA) tNil)) (eCB dLenSet fs) := by
  subst hK
  subst hw
  exact ⟨pe_callB cr_lenSet hg hm PySem.boot_len (pa_cons (pe_callTy (cr_setL hc) hg2 hm2 PyProof.Rows.boot_set ha.pa (by decide) (by decide) he hpl) pa_nil he2) (by decide) (by decide) he2 hpl2, show Ev W (tCB (rLenSetL X.K X.w) tA) _ from ev_cb sem_lenSet ha.ev⟩
end
end Ag
namespace Ag
open PySem PySem.Spec PyProof.Rows L2
section
variable {X : Cx}
def rGetLi : V → V → Hp → VK → Prop := fun o i H Q => ∃ p xs, ∃ (k : Nat) (v : V), o = .ref p ∧ i = .int (k : Int) ∧ H p = some (.lst xs) ∧ xs[k]? = some v ∧ Q v H
theorem get_lst : PGet X rGetLi := by
  intro pins s σ H o i ov iv Q I ro ri h
  obtain ⟨p, xs, k, v, e1, e2, hp, hk, q⟩ := h
  subst e1
  subst e2
  cases ro
  obtain ⟨t, rfl⟩ := ri
  obtain ⟨its, n, r, ho, hz⟩ := I.lst hp
  have hl := r.length
  have hlt : k < xs.length := (List.getElem?_eq_some_iff.mp hk).1
  have hu : its[k]? = some its[k] := List.getElem?_eq_getElem (by omega)
  obtain ⟨v', h1, h2⟩ := vals_get r hu
  rw [hk] at h1
  cases h1
  refine wpAny_getItem_list (x := its[k]) ⟨_, ho, rfl, n, rfl⟩ (Int.natCast_nonneg k) ?_ ?_ ⟨v, H, I, h2, q⟩
  · have := line63
    omega
  · rw [Int.toNat_natCast, List.getElem?_toArray]
    exact hu
end
section
variable {K : PySem.W.Frag} {W : WT} {X : Cx} {a b : Expr} {ta tb : TE} {f g : EF} {pos p p2 tpos : Pos} {x : Str}
/-- found[b] += a, found the owned list in slot i -/
def sAugIx (i : Nat) (fi fe : EF) : SF := fun env => match env[i]? with
  | some (.ow l) => (fi env).so fun d => match d with
    | .int k => if 0 ≤ k then (match l[k.toNat]? with
      | some (.int old) => (fe env).so fun e => match e with
        | .int m => .nx (env.set i (.ow (l.set k.toNat (.int (old + m)))))
        | _ => .stk
      | _ => .stk) else .stk
    | _ => .stk
  | _ => .stk
theorem s_augIx {i : Nat} (hN : X.N[i]? = some x) (hb : PEB K W X b tb g) (ha : PEB K W X a ta f) (hv : Vis X.env.scope x := by first | exact Or.inl rfl | exact Or.inr (Or.inl rfl) | exact Or.inr (Or.inr rfl)) (hd : (x == ("__debug__" : Str)) = false := by decide) (hcd : (x == ("__classdict__" : Str)) = false := by decide)
    (hst : ∀ ov iv new, augStore b ov iv new = (do holding [new, ov, iv] (setItem ov iv new); release [new, ov, iv] []; pure .next) := by intros; rfl) :
    PSv K W X (.AugAssign (.Subscript (.Name x p) b tpos) .Add a pos) (tAugS (tVar i) tb ta rGetLi (ipI fun i j => i + j) L2.rSetL) (sAugIx i g f) := by
  refine ⟨ps_augS (pe_var hN hv hd hcd) hb.pe get_lst ha.pe ip_add set_list hst, fun B N env σ H D s p => ?_⟩
  unfold sAugIx at p
  split at p
  · rename_i l hl
    obtain ⟨o, ho, z, vs, rfl, hz, rl⟩ := s.rd.sl i _ hl
    refine ⟨_, ho, hb.ev _ env σ H s.rd _ (Rs.so_p s p fun d _ y H1 e1 r1 s1 p1 => ?_)⟩
    split at p1
    · rename_i k _
      split at p1
      · rename_i h0
        split at p1
        · rename_i old hold
          obtain ⟨vo, hvo, ro⟩ := rl.get hold
          have hvi := rep_int.mp ro
          subst hvi
          have hk : k.toNat < l.length := (List.getElem?_eq_some_iff.mp hold).1
          have hlen := rl.len
          refine ⟨z, vs, k.toNat, _, rfl, by rw [rb_int r1, Int.toNat_of_nonneg h0], e1 _ _ hz, hvo, ha.ev _ env σ H1 s1.rd _ (Rs.so_p s1 p1 fun e _ w H2 e2 r2 s2 p2 => ?_)⟩
          split at p2
          · rename_i m _
            refine ⟨old, m, rfl, rb_int r2, z, vs, k, k.toNat, rfl, rb_int r1, e2 _ _ (e1 _ _ hz), ?_, ?_⟩
            · unfold ixN
              rw [if_pos h0, if_pos (by omega)]
            · obtain ⟨s3, kk⟩ := s2.upd hl ho ((rl.up (fr_up (e1.trans e2))).set k.toNat (d := .int (old + m)) (v := .int (old + m)) (rep_int.mpr rfl))
              exact p2 _ _ s3 kk
          · exact p2.elim
        · exact p1.elim
      · exact p1.elim
    · exact p1.elim
  · exact p.elim
end
end Ag


namespace Ag
open PySem PySem.Spec PyProof.Rows L2
/-- an object of that class lies at a -/
def ExO (a : Addr) (cls : Value) (d : Option Addr) : HO := .ext fun h => ∃ o, h.get? a = some o ∧ Zc cls d o ∧ ∃ vs, o.data = .fields vs
section
variable {X : Cx} {pins : List (Addr × Obj)} {σ : L2.St} {H : Hp} {s : Shared}
/-- an object that nobody held is held from here on -/
theorem track {a : Addr} {o : Obj} {cls : Value} {d : Option Addr} {vs : Array Value} (I : Inv X pins σ H s) (ho : s.heap.get? a = some o) (hc : Zc cls d o) (hd : o.data = .fields vs) (h0 : a ∉ X.ex → X.s_0.heap.get? a = none) (na : H a = none) (nL : a ≠ X.env.locals) (np : ∀ p ∈ X.pn ++ pins, p.1 ≠ a) : Inv X pins σ (upd H a (ExO a cls d)) s := by
  have cells : ∀ x c, X.env.cells.lookup x = some c → c ≠ a := fun x c e z => by
    obtain ⟨v, oc, e1, e2⟩ := I.cell x c e
    rw [z, ho] at e1
    cases e1
    rw [hd] at e2
    simp at e2
  refine ⟨I.ok, I.os, I.bare, ⟨I.base.keep, I.base.slot, fun b o' e n hx => ?_, I.base.there, fun b xs e => ?_, fun b o' u e => ?_, fun b ps e => ?_⟩, I.loc, I.cell, ?_, fun x c e => ?_, fun p hp => ?_, fun b ob e => ?_, I.len⟩
  · rw [upd_ne fun z => by rw [z, h0 (z ▸ hx)] at e; cases e]
    exact I.base.free b o' e n hx
  · have := I.base.tups b xs e
    rw [upd_ne (ne_of_none this na)]
    exact this
  · have := I.base.frzs b o' u e
    rw [upd_ne (ne_of_none this na)]
    exact this
  · obtain ⟨more, q⟩ := I.base.tbls b ps e
    exact ⟨more, by rw [upd_ne (ne_of_none q na)]; exact q⟩
  · rw [upd_ne (Ne.symm nL)]
    exact I.free
  · rw [upd_ne (cells x c e)]
    exact I.freeC x c e
  · obtain ⟨q1, q2, q3⟩ := I.pin p hp
    exact ⟨q1, by rw [upd_ne (np p hp)]; exact q2, q3⟩
  · by_cases z : b = a
    · subst z
      rw [upd_same] at e
      cases e
      exact ⟨⟨o, ho, hc, vs, hd⟩, ⟨o, ho⟩, fun h1 h2 ⟨o', e1, e2⟩ k => ⟨o', k _ e1, e2⟩⟩
    · rw [upd_ne z] at e
      exact (I.hok b ob e).stay (fun _ _ _ q => q) (fun c q => by rw [upd_ne (ne_of_none q na)]; exact q) fun c xs q => by rw [upd_ne (ne_of_none q na)]; exact q
end
/-- what the clause 'except x as n' wishes, the caught object being held behind the suite -/
def wKeep (K : PySem.W.Frag) (c : Value) (i : Nat) (ts : Addr → Value → Option Addr → TS) (D : Ends) : WX := fun cls d σ H => PySem.W.exmOne K cls c = some true ∧
  ∀ a, H a = none → ts a cls d { nx := fun σ' H' => D.nx (σ'.set i none) (upd H' a (ExO a cls d)), rt := fun _ _ => False } (σ.set i (some (.ref a))) H
section
variable {X : Cx} {x n : Str} {c : Value} {i : Nat} {body suite : List Stmt} {b₀ : Stmt} {np pos pos' : Pos} {tb : WX → TS} {ts : Addr → Value → Option Addr → TS}
theorem ps_try_keep (hs : X.stack = X.env :: X.outer) (hf : X.env.frame = some X.env.locals) (hN : X.N.Nodup) (hi : X.N[i]? = some n) (hln : X.env.kindOf n = some .local) (hc : Names X x c)
    (hb : ∀ (W : WX) (pn : List (Addr × Obj)) (xe : Value → Shared → Prop), Takes (X.tr pn xe) W → PassesOwn (model X.prog X.w) X.A X.env xe → PSs (X.tr pn xe) body (tb W))
    (hsu : ∀ (a : Addr) (oe : Obj) (cls : Value) (d : Option Addr) (pn : List (Addr × Obj)), Zc cls d oe → (∃ vs, oe.data = .fields vs) → PSs (X.suite a ((a, oe) :: pn)) (b₀ :: suite) (ts a cls d)) :
    PS X (.Try body [.ExceptHandler (some (.Name x np)) (some n) (b₀ :: suite) pos'] [] [] pos) (fun D σ H => tb (wKeep X.K c i ts D) D σ H) := by
  refine ⟨fun pins s σ H D I h => wpAny_Try_except ?_⟩
  have ok := I.ok
  have fr : X.A.frames = some (X.env :: X.outer) := ok.frames.trans (congrArg some hs)
  refine wpAny_mono ((hb (wKeep X.K c i ts D) (X.pn ++ pins) (fun e s₁ => wpAny (model X.prog X.w) X.A (noteFrame e X.env) (fun _ s₂ => wpAny (model X.prog X.w) X.A (setFlight e none) (fun _ s₃ =>
    wpAny (model X.prog X.w) X.A (handleBy e X.env [.ExceptHandler (some (.Name x np)) (some n) (b₀ :: suite) pos']) (SP X pins D) X.xe s₃) X.xe s₂) X.xe s₁) (fun u s' xx => ?_) PassesOwn.looking).run [] s σ H D (I.toTry _) h) (fun f s1 q => ?_) (fun _ _ he => he)
  · obtain ⟨a, B, sI, pins', σ', H', cls, d, rfl, J', nb, up, sky, na, os, ag, hb1, hyes⟩ := xx
    have J : Inv X pins σ' H' sI := J'.ofTry ok
    refine Sky.land Zc.steady fr hf (show Sky B (X.env :: X.outer) a (Zc cls d) X.env.locals s'.heap from hs ▸ sky) fun h3 fl3 up3 => ?_
    have J3 : Inv X pins σ' H' { s' with heap := h3 } := J.landed nb fl3.1 (up.trans up3) os ag
    obtain ⟨o3, v3, g3, z3, d3⟩ := fl3.there
    have nfr : a ∉ frs (X.env :: X.outer) := fun hm => by
      obtain ⟨_, o', e', hnf⟩ := fl3.2.2.1.mem hm
      rw [g3] at e'
      cases e'
      exact hnf _ d3
    have nL : a ≠ X.env.locals := fun z => nfr (List.mem_filterMap.mpr ⟨X.env, List.mem_cons_self, by rw [hf, z]⟩)
    have nF : a ∉ X.fs := fun hm => by
      obtain ⟨e, he, q⟩ := List.mem_filterMap.mp hm
      exact nfr (List.mem_filterMap.mpr ⟨e, List.mem_cons_of_mem _ he, q⟩)
    have nI : ∀ o, sI.heap.get? a ≠ some o := fun o e => by
      have := nb a o e (by
        show a ∉ frs X.stack
        rw [hs]
        exact nfr)
      rw [fl3.2.1] at this
      cases this
    have n0 : a ∉ X.ex → X.s_0.heap.get? a = none := fun hx => by
      cases e : X.s_0.heap.get? a with
      | none => rfl
      | some o =>
        obtain ⟨o', e'⟩ := J.base.there a o e hx
        exact absurd e' (nI o')
    have nP : ∀ p ∈ X.pn ++ pins, p.1 ≠ a := fun p hp z => nI p.2 (z ▸ (J.pin p hp).1)
    have S3 := J3.suite g3 d3 na nL nF
    refine wpAny_handleBy_cons (codeAny_handlers_test ?_) (by intro q; cases q)
    have LT : PySem.W.Looks (model X.prog X.w) h3 (typeOf (.ref a)) cls := fun A Q E s k q => wpAny_typeOf_ref (k _ _ g3) (by rw [z3.1]; exact q)
    have LM := PySem.W.exm_one (M := model X.prog X.w) (J3.kIn) LT hb1
    have test : ∀ {Q : Value → Shared → Prop} {E : Value → Shared → Prop}, Q c { s' with heap := h3 } → wpAny (model X.prog X.w) (X.A.mark (some (.ref a))) (eval (.Name x np) X.env) Q E { s' with heap := h3 } := fun {Q E} q => by
      obtain ⟨hg, hdb, hm | ⟨hm, hv, hnn⟩⟩ := hc
      · exact ld_glob (X := X.suite a ((a, o3) :: (X.pn ++ pins))) S3 hg hm q hdb
      · exact ld_blt (X := X.suite a ((a, o3) :: (X.pn ++ pins))) S3 hg hm hv q hnn hdb
    refine test (LM.here (codeAny_handlers_suite_as (HandSPX.lands_againZ fl3 fun h4 fl4 up4 => ?_)))
    obtain ⟨o4, v4, g4, z4, d4⟩ := fl4.there
    have S4 := (J.landed (s' := { s' with heap := h4 }) nb fl4.1 ((up.trans up3).trans up4) os ag).suite g4 d4 na nL nF
    refine store_ok (X := X.suite a ((a, o4) :: (X.pn ++ pins))) (v := .ref a) S4 hN hi (.inl hln) rfl (fun s5 S5 => ?_) (.inr hln)
    refine wpAny_mono ((hsu a o4 cls d (X.pn ++ pins) z4 ⟨_, d4⟩).run [] s5 _ H' _ S5 (hyes a na)) (fun f s6 q => ?_) (fun _ _ z => False.elim z)
    cases f with
    | next =>
      obtain ⟨σ6, H6, S6, q6⟩ := q
      obtain ⟨e6, n6, _⟩ := S6.pin (a, o4) (List.mem_append_left _ List.mem_cons_self)
      exact gone_ok (track (S6.unsuite ok) e6 z4 d4 n0 n6 nL nP) hN hi hln fun s7 J7 => ⟨_, _, J7, q6⟩
    | brk => obtain ⟨_, _, _, z⟩ := q; exact z.elim
    | cont => obtain ⟨_, _, _, z⟩ := q; exact z.elim
    | ret u => obtain ⟨_, _, _, _, _, z⟩ := q; exact z.elim
  · cases f with
    | next =>
      obtain ⟨σ1, H1, J1, w⟩ := q
      exact wpAny_execs_nil ⟨σ1, H1, J1.ofTry ok, w⟩
    | brk =>
      obtain ⟨σ1, H1, J1, w⟩ := q
      exact ⟨σ1, H1, J1.ofTry ok, w⟩
    | cont =>
      obtain ⟨σ1, H1, J1, w⟩ := q
      exact ⟨σ1, H1, J1.ofTry ok, w⟩
    | ret u =>
      obtain ⟨v1, σ1, H1, J1, r1, w⟩ := q
      exact ⟨v1, σ1, H1, J1.ofTry ok, r1, w⟩
end
/-! isinstance of a held exception -/
section
variable {X : Cx}
def rIsX (K : PySem.W.Frag) : List V → Hp → VK → Prop := fun xs H Q => ∃ (a D : Addr) (c : V) (cv : Value) (b : Bool), xs = [.ref a, c] ∧ H a = some (ExO a (.ref D) none) ∧ ExcC K D ∧ (∀ u, RelV c u → u = cv) ∧ PySem.W.kitOne K (.ref D) cv = some b ∧ Q (.bl b) H
theorem call_isX : CallR X (.builtin "isinstance") (rIsX X.K) := by
  intro pins s σ H xs us Q I r h
  obtain ⟨a, D, c, cv, b, e1, hH, C, hcv, e, q⟩ := h
  subst e1
  cases r with
  | cons rx rr =>
    cases rr with
    | cons rt rr =>
      cases rr
      cases rx
      have ec := hcv _ rt
      subst ec
      obtain ⟨⟨o, hget, hz, vs, hv⟩, _, _⟩ := I.hok a _ hH
      have J : PySem.W.InstAt s.heap a o D none := by
        obtain ⟨oc, od, oda, osl⟩ := o
        obtain ⟨h1, h2⟩ := hz
        dsimp only at h1 h2 hv
        subst h1 h2 hv
        exact ⟨hget, rfl, rfl, trivial⟩
      exact PySem.W.kia_one (PySem.W.handS_kitx_exc C.hg C.hk C.hs C.hd C.ha C.hn C.ht C.hm) I.kIn J e (fun z => nomatch z) fun tk => ⟨.bl b, H, I.kept (t' := tk) fun _ _ z => z, rfl, q⟩
end
/-! ### exceptions that leave a def -/
/-- the class of each kind -/
abbrev Kp := Ec → Value
def WXof (κ : Kp) (W : WT) : WX := fun cls d σ H => ∃ c, cls = κ c ∧ d = none ∧ W c σ H
section
variable {K : PySem.W.Frag} {W : WT} {X : Cx} {κ : Kp} {e : Expr} {es : List Expr} {tA : TA} {fs : En → Rs (List D)} {pos p p2 pos' : Pos} {x m : Str}
/-- raise C("..") -/
theorem s_raise {C : Addr} {bmB : List Value} {B newId initId : String} {j : Nat} (c : Ec) (hκ : κ c = .ref C) (tk : Takes X (WXof κ W)) (F : ExcBaseFacts B newId initId bmB) (q : PySem.W.excIn X.K C bmB newId = true) (gC : X.mg x = some (.ref C)) (kC : PySem.W.keepIn X.K (.ref C) = true) (r : Raises X (.ref C)) (hc : X.calm = true := by rfl) (hg : Gl X x := by rfl) (hdb : (x == ("__debug__" : Str)) = false := by decide) :
    PSv K W X (.Raise (some (.Call (.Name x p) [.Constant (.str m) j p2] [] pos)) none pos') (fun _ σ H => WXof κ W (.ref C) none σ H) (sExc c) :=
  ⟨ps_raise hc tk (pmk_own F q gC kC r hg hdb), fun B N env σ H D s q => ⟨c, hκ.symm, rfl, q env σ H s⟩⟩
/-- what a def does that may raise -/
def RetX (κ : Kp) (M : Addr → Prop) (H : Hp) (Q : VK) (E : XK) : Rs Rv → Prop
  | .val (.d d) => ∀ v H', Same H H' → Rep (hid M H') d v → Q v H'
  | .val (.o l) => ∀ v H', Same H H' → RO M H l v H' → Q v H'
  | .exc c => ∀ H', Same H H' → E (κ c) none H'
  | .stk => False
def spX (κ : Kp) (n : Nat) (q : List D → Rs Rv) : Sp := fun vs H Q E => ∃ (M : Addr → Prop) (ds : List D), (∀ a, M a → ∃ o, H a = some o) ∧ ds.length = n ∧ RepL (hid M H) ds vs ∧ RetX κ M H Q E (q ds)
/-- a calm def called where others may raise -/
def eCall0 (n : Nat) (q : List D → Rs Rv) (fs : En → Rs (List D)) : EF := fun env => fs env >>= fun ds => if ds.length = n then (match q ds with
  | .val r => .val (rvD r)
  | _ => .stk) else .stk
variable {k n : Nat} {fa : Addr} {fd : FuncData} {ps : List Str} {q : List D → Rs Rv}
theorem v_call0 (F : FnOk X.prog X.w X.K X.mg X.base CX0 k fa fd ps (spP n q)) (hr : Room k X.A) (hm : X.mg x = some (.ref fa)) (hk : PySem.W.keepIn X.K (.ref fa) = true) (hb : Binds X.K fd ps [])
    (ha : PAv K W X (e :: es) tA fs) (hg : Gl X x := by rfl) (hdb : (x == ("__debug__" : Str)) = false := by decide) (he : starEach (e :: es) X.env = (false, eval e X.env) :: starEach es X.env := by rfl) (hpl : (backTo pos (starEach es X.env)).any (·.1) = false := by rfl) :
    PEv K W X (.Call (.Name x p) (e :: es) [] pos) (tCall (spP n q) [] E0 tA) (eCall0 n q fs) := by
  refine ⟨pe_call F hr hg hm hk hb .nil pass0 ha.pa hdb he hpl, fun M env σ H rs Q p => ha.ev M env σ H rs _ (p.step fun ds _ vs H1 s1 r1 p1 => ?_)⟩
  rw [List.append_nil]
  split at p1
  · rename_i hn
    refine ⟨M, ds, (rs.up s1).al, hn, r1, ?_⟩
    cases hq : q ds with
    | val r =>
      rw [hq] at p1
      cases r with
      | d d => exact fun v H' s h => p1 v H' s h
      | o l => exact fun v H' s h => p1 v H' s (h.rep fun _ z => (rs.up s1).free z)
    | exc c =>
      rw [hq] at p1
      exact p1.elim
    | stk =>
      rw [hq] at p1
      exact p1.elim
  · exact p1.elim
/-- a def that may raise -/
theorem v_callX (tk : Takes X (WXof κ W)) (F : FnOk X.prog X.w X.K X.mg X.base (L2.CX X.prog X.w) k fa fd ps (spX κ n q)) (hr : Room k X.A) (hm : X.mg x = some (.ref fa)) (hk : PySem.W.keepIn X.K (.ref fa) = true) (hb : Binds X.K fd ps [])
    (ha : PAv K W X (e :: es) tA fs) (hg : Gl X x := by rfl) (hdb : (x == ("__debug__" : Str)) = false := by decide) (he : starEach (e :: es) X.env = (false, eval e X.env) :: starEach es X.env := by rfl) (hpl : (backTo pos (starEach es X.env)).any (·.1) = false := by rfl) :
    PEv K W X (.Call (.Name x p) (e :: es) [] pos) (tCallS (spX κ n q) (WE (WXof κ W)) tA) (eCall n q fs) := by
  refine ⟨pe_callS F hr hg hm hk hb (fun σ => passAt tk σ) ha.pa hdb he hpl, fun M env σ H rs Q p => ha.ev M env σ H rs _ (p.step fun ds _ vs H1 s1 r1 p1 => ?_)⟩
  split at p1
  · rename_i hn
    refine ⟨M, ds, (rs.up s1).al, hn, r1, ?_⟩
    cases hq : q ds with
    | val r =>
      rw [hq] at p1
      cases r with
      | d d => exact fun v H' s h => p1 v H' s h
      | o l => exact fun v H' s h => p1 v H' s (h.rep fun _ z => (rs.up s1).free z)
    | exc c =>
      rw [hq] at p1
      exact fun H' s => ⟨c, rfl, rfl, p1 H' s⟩
    | stk =>
      rw [hq] at p1
      exact p1
  · exact p1.elim
end
section
variable {P : Program} {w : World} {K : PySem.W.Frag} {mg : Str → Option Value} {base : Heap} {κ : Kp}
/-- what a def's own context takes -/
abbrev WE1 (κ : Kp) (E : XK) : WT := fun c _ H' => E (κ c) none H'
theorem takes_cx {N : List Str} {qual : Str} {scope : Scope} {f : Addr} {cd : Value} {A : Around} {outer : List Env} {s : Shared} {H : Hp} {E : XK} : Takes (cxOf (L2.CX P w) P w K mg base N qual scope f cd A outer s H E) (WXof κ (WE1 κ E)) :=
  Takes.imp (takes_of (E := E) rfl rfl rfl rfl) fun cls d σ H' h => by
    obtain ⟨c, e1, e2, h⟩ := h
    rw [e1, e2]
    exact h
theorem fn_okX {x qual : Str} {st : Stmt} {f : Addr} {fd : FuncData} {N ps : List Str} {k n : Nat} {g : SF} {q : List D → Rs Rv} (F : Fun K x qual st f fd) (S : FnScope N ps (defScope st)) (hn : ps.length = n) (hnN : n ≤ N.length) (hq : q = run N.length g)
    (hbody : ∀ (cdv : Value) (A : Around) (outer : List Env) (s : Shared) (H : Hp) (E : XK), Room k (A.deeper (PyProof.Rows.envOfC qual (defScope st) s.heap.objs.size f cdv)) →
      ∃ t, PSsv K (WE1 κ E) (cxOf (L2.CX P w) P w K mg base N qual (defScope st) f cdv A outer s H E) (defBody st) t g) : FnOk P w K mg base (L2.CX P w) (k + 1) f fd ps (spX κ n q) := by
  refine F.okX S (fun vs H Q E h => ?_) (fun cdv A outer s H vs Q E hr h => ?_)
  · obtain ⟨M, ds, al, hl, r, _⟩ := h
    rw [← r.len, hl, hn]
  · obtain ⟨M, ds, al, hl, r, hret⟩ := h
    obtain ⟨t, ht⟩ := hbody cdv A outer s H E hr
    refine ⟨t, ht.ps, ?_⟩
    have st := start_StS (N := N) al r (by omega)
    refine ht.ev H M _ _ H _ st ?_
    subst hq
    unfold run at hret
    have up : ∀ {env' : En} {σ' : L2.St} {H' : Hp}, StS H M env' σ' H' → Same (fr M env' σ' H') (hid M H') := fun {env' σ' H'} s' => same_hid (Same.refl _) fun a _ _ m => .inl m
    split at hret
    · rename_i e he
      rw [he]
      exact fun σ' H' s' _ => hret _ H' s'.ext (rep_none.mpr rfl)
    · rename_i d e he
      rw [he]
      exact fun v σ' H' s' _ rv => hret v H' s'.ext (rv.up (up s'))
    · rename_i l e he
      rw [he]
      exact fun v σ' H' s' _ ⟨p, vs', h1, h2, h3, h4, h5⟩ => hret v H' s'.ext ⟨p, vs', h1, h3, h4, h5.up (same_hid (Same.refl _) fun a _ _ m => by
        rcases m with m | m
        · exact .inl (.inl m)
        · exact .inr m)⟩
    · rename_i c he
      rw [he]
      exact fun env' σ' H' s' => hret H' s'.ext
    · exact hret.elim
end
end Ag


namespace Ag
open PySem L2
section
variable {W : WT} {B : Hp} {N : Addr → Prop} {env : En} {σ : L2.St} {H H' : Hp} {D : Ends}
/-- a slot that owns nothing is set -/
theorem StS.put0 (h : StS B N env σ H) {i : Nat} {s0 : Sl} {o0 : Option V} (ha : adr s0 o0 = []) (hd : ∀ p q ns c, s0 ≠ .dr p q ns c) (hr : ∀ M : Addr → Prop, (∀ a, M a → Mo N env σ a) → RSl M H s0 o0) :
    StS B N (env.set i s0) (σ.set i o0) H ∧ Same (fr N env σ H) (fr N (env.set i s0) (σ.set i o0) H) := by
  have get : ∀ (j : Nat) (s : Sl) (o : Option V), (env.set i s0)[j]? = some s → (σ.set i o0)[j]? = some o → (j = i ∧ s = s0 ∧ o = o0) ∨ (j ≠ i ∧ env[j]? = some s ∧ σ[j]? = some o) := fun j s o h1 h2 => by
    rcases get_set h1 with ⟨e1, f1⟩ | ⟨e1, f1⟩
    · rcases get_set h2 with ⟨e2, f2⟩ | ⟨e2, f2⟩
      · exact .inl ⟨e1, f1, f2⟩
      · exact absurd e1 e2
    · rcases get_set h2 with ⟨e2, f2⟩ | ⟨e2, f2⟩
      · exact absurd e2 e1
      · exact .inr ⟨e1, f1, f2⟩
  have own : ∀ a, Own (env.set i s0) (σ.set i o0) a → Own env σ a := fun a ⟨j, s, o, h1, h2, h3⟩ => by
    rcases get j s o h1 h2 with ⟨_, rfl, rfl⟩ | ⟨_, g1, g2⟩
    · rw [ha] at h3
      cases h3
    · exact ⟨j, s, o, g1, g2, h3⟩
  have hM : ∀ a, Mo N (env.set i s0) (σ.set i o0) a → Mo N env σ a := fun a m => m.imp id (own a)
  have hF : Same (fr N env σ H) (fr N (env.set i s0) (σ.set i o0) H) := same_hid (Same.refl H) fun a _ _ m => hM a m
  refine ⟨⟨⟨fun a m => h.rd.al a (hM a m), fun j s hs => ?_⟩, by rw [List.length_set, List.length_set]; exact h.len, h.ext, fun j k s t o u a h1 h2 h3 h4 h5 h6 => ?_, fun a m => h.new a (own a m), fun j p q ns c e => ?_⟩, hF⟩
  · have hj : j < env.length := by
      have := (List.getElem?_eq_some_iff.mp hs).1
      rwa [List.length_set] at this
    have hj' : j < (σ.set i o0).length := by
      rw [List.length_set, h.len]
      exact hj
    refine ⟨_, List.getElem?_eq_getElem hj', ?_⟩
    rcases get j s _ hs (List.getElem?_eq_getElem hj') with ⟨_, rfl, e⟩ | ⟨_, h1, h2⟩
    · rw [e]
      exact hr _ hM
    · obtain ⟨o, ho, q⟩ := h.rd.sl j s h1
      rw [h2] at ho
      cases ho
      revert q
      generalize (σ.set i o0)[j] = o
      intro q
      cases s with
      | no => trivial
      | fz d =>
        obtain ⟨x, e1, w⟩ := q
        exact ⟨x, e1, w.up hF⟩
      | ow l =>
        obtain ⟨p, vs, e1, e2, w⟩ := q
        exact ⟨p, vs, e1, e2, w.up hF⟩
      | dr p q' ns c => exact q
      | ob _ ko =>
        obtain ⟨yo, eo, wo⟩ := q
        exact ⟨yo, eo, hF _ _ wo⟩
      | gx as gd => exact RGd.mono q (fun _ _ _ e => e) hF
  · rcases get j s o h1 h2 with ⟨_, rfl, rfl⟩ | ⟨_, g1, g2⟩
    · rw [ha] at h5
      cases h5
    · rcases get k t u h3 h4 with ⟨_, rfl, rfl⟩ | ⟨_, g3, g4⟩
      · rw [ha] at h6
        cases h6
      · exact h.dis j k s t o u a g1 g2 g3 g4 h5 h6
  · rcases get_set e with ⟨_, f⟩ | ⟨_, f⟩
    · exact absurd f.symm (hd p q ns c)
    · exact h.drs j p q ns c f
theorem StS.forget (h : StS B N env σ H) (i : Nat) (o : Option V) : StS B N (env.set i .no) (σ.set i o) H ∧ Same (fr N env σ H) (fr N (env.set i .no) (σ.set i o) H) :=
  h.put0 (by cases o <;> rfl) (fun _ _ _ _ => nofun) fun _ _ => trivial
/-- slot i gets an object that was held by nobody -/
theorem StS.setob (h : StS B N env σ H) {i t : Nat} {k : Addr → HO} {a : Addr} (na : H a = none) :
    StS B N (env.set i (.ob t k)) (σ.set i (some (.ref a))) (L2.upd H a (k a)) ∧ Same (fr N env σ H) (fr N (env.set i (.ob t k)) (σ.set i (some (.ref a))) (L2.upd H a (k a))) := by
  have hs : Same H (L2.upd H a (k a)) := same_new na
  have nm : ∀ b, Mo N env σ b → b ≠ a := fun b m z => by
    obtain ⟨o, q⟩ := h.rd.al b m
    rw [z, na] at q
    cases q
  obtain ⟨g1, g2⟩ := (h.up hs).put0 (i := i) (s0 := .ob t k) (o0 := some (.ref a)) rfl (fun _ _ _ _ => nofun) fun M hM => ⟨a, rfl, hid_some.mpr ⟨fun m => nm a (hM a m) rfl, upd_same⟩⟩
  exact ⟨g1, (fr_up hs).trans g2⟩
end
/-! ### try: x1 = e / except C as n: x2 = n -/
def exK (κ : Kp) (c : Ec) : Addr → HO := fun a => ExO a (κ c) none
def ecN : Ec → Nat
  | .rank => 0
  | .scor => 1
  | .numb => 2
  | .text => 3
  | .noth => 4
def ecO : Nat → Ec
  | 0 => .rank
  | 1 => .scor
  | 2 => .numb
  | 3 => .text
  | _ => .noth
theorem ecO_N (c : Ec) : ecO (ecN c) = c := by cases c <;> rfl
def sTry (i1 i2 ie : Nat) (κ : Kp) (f : EF) : SF := fun env => match f env with
  | .val d => .nx (env.set i1 (.fz d))
  | .exc c => if ie < env.length then .nx ((env.set i2 (.ob (ecN c) (exK κ c))).set ie .no) else .stk
  | .stk => .stk
section
variable {K : PySem.W.Frag} {X : Cx} {κ : Kp} {cx n x1 x2 : Str} {c : Value} {i1 i2 ie : Nat} {b : Expr} {np pos pos' p1 p2 p3 pb ps : Pos} {te : WX → TE} {f : EF}
theorem s_try (hs : X.stack = X.env :: X.outer) (hf : X.env.frame = some X.env.locals) (hN : X.N.Nodup) (h1 : X.N[i1]? = some x1) (h2 : X.N[i2]? = some x2) (hie : X.N[ie]? = some n) (hne : ie ≠ i2) (hln : X.env.kindOf n = some .local) (hc : Names X cx c) (hm : ∀ k, PySem.W.exmOne X.K (κ k) c = some true)
    (he : ∀ (W : WX) (pn : List (Addr × PySem.Obj)) (xe : PySem.Value → PySem.Shared → Prop), Takes (X.tr pn xe) W → PEv K (fun k σ H => W (κ k) none σ H) (X.tr pn xe) b (te W) f)
    (hb : ∀ (pn : List (Addr × PySem.Obj)) (xe : PySem.Value → PySem.Shared → Prop) (t : TE), PE (X.tr pn xe) b t → PS (X.tr pn xe) (.Assign [.Name x1 p1] b pb) (tAsg t (gName i1)))
    (hsu : ∀ (a : Addr) (pn : List (Addr × PySem.Obj)), PS (X.suite a pn) (.Assign [.Name x2 p2] (.Name n p3) ps) (tAsg (tVar ie) (gName i2))) :
    PSv K W0 X (.Try [.Assign [.Name x1 p1] b pb] [.ExceptHandler (some (.Name cx np)) (some n) [.Assign [.Name x2 p2] (.Name n p3) ps] pos'] [] [] pos)
      (fun D σ H => tAsg (te (wKeep X.K c ie (fun _ _ _ => tAsg (tVar ie) (gName i2)) D)) (gName i1) D σ H) (sTry i1 i2 ie κ f) := by
  refine ⟨ps_try_keep (tb := fun W => tAsg (te W) (gName i1)) (ts := fun _ _ _ => tAsg (tVar ie) (gName i2)) hs hf hN hie hln hc (fun W pn xe tk _ => pss_one (hb pn xe _ (he W pn xe tk).pe)) (fun a oe cls d pn _ _ => pss_one (hsu a _)), fun B N env σ H D s p => ?_⟩
  have ev := (he (wKeep X.K c ie (fun _ _ _ => tAsg (tVar ie) (gName i2)) D) [] (fun _ _ => True) (fun _ _ _ => trivial)).ev
  refine ev (Mo N env σ) env σ H s.rd _ ?_
  unfold sTry at p
  cases hq : f env with
  | val d =>
    rw [hq] at p
    intro v H' e r
    obtain ⟨g1, g2⟩ := (s.up e).setf (i := i1) r
    exact p _ _ g1 ((fr_up e).trans g2)
  | exc k =>
    rw [hq] at p
    have hl : ie < env.length := Classical.byContradiction fun z => by
      dsimp only at p
      rw [if_neg z] at p
      exact p.elim
    dsimp only at p
    rw [if_pos hl] at p
    intro H' e
    refine ⟨hm k, fun a na => ⟨.ref a, ?_, ?_⟩⟩
    · exact List.getElem?_set_self (by rw [s.len]; exact hl)
    · obtain ⟨g1, g2⟩ := (s.up e).setob (i := i2) (t := ecN k) (k := exK κ k) na
      obtain ⟨g3, g4⟩ := g1.forget ie none
      have el : ((σ.set ie (some (V.ref a))).set i2 (some (V.ref a))).set ie none = (σ.set i2 (some (V.ref a))).set ie none := by
        rw [List.set_comm _ _ hne, List.set_set]
      show D.nx (((σ.set ie (some (V.ref a))).set i2 (some (V.ref a))).set ie none) (upd H' a (ExO a (κ k) none))
      rw [el]
      exact p _ _ g3 (((fr_up e).trans g2).trans g4)
  | stk =>
    rw [hq] at p
    exact p.elim
end
/-! ### what is done with a caught exception -/
section
variable {K : PySem.W.Frag} {W : WT} {X : Cx} {κ : Kp} {x y : Str} {i k : Nat} {b e : Expr} {p p2 py pos : Pos} {fa : Addr} {fd : PySem.FuncData} {ps : List Str}
def bIsN (i : Nat) : En → Rs Bool := fun env => match env[i]? with
  | some (.ob _ _) => .val false
  | some (.fz d) => .val (isNon d)
  | _ => .stk
/-- x is None -/
theorem t_isN (hN : X.N[i]? = some y) (hb : PEv K W X b (tC .non) (eC .none)) (hv : Vis X.env.scope y := by first | exact Or.inl rfl | exact Or.inr (Or.inl rfl) | exact Or.inr (Or.inr rfl)) (hd : (y == ("__debug__" : Str)) = false := by decide) (hcd : (y == ("__classdict__" : Str)) = false := by decide) :
    PTv K W X (.Compare (.Name y py) [.Is] [b] pos) (tTest (tOp (fun x y H Q => (y = .non ∧ Q (.bl (decide (x = .non))) H) ∨ rIsB x y H Q) (tVar i) (tC .non))) (bIsN i) :=
  ⟨pt_cmpR (op_isN.or op_isBl) (pe_var hN hv hd hcd) hb.pe (nobehind _ (by decide) (by decide)), fun M env σ H rs Q q => by
    unfold bIsN at q
    split at q
    · rename_i hs
      obtain ⟨o, ho, a, rfl, _⟩ := rs.sl i _ hs
      exact ⟨.ref a, ho, .inl ⟨rfl, ⟨false, by rw [decide_eq_false (by simp)], q _ H (Same.refl _) rfl⟩⟩⟩
    · rename_i d hs
      obtain ⟨o, ho, v, rfl, r⟩ := rs.sl i _ hs
      exact ⟨v, ho, .inl ⟨rfl, ⟨isNon d, by rw [isNon_of (.inl r)], q _ H (Same.refl _) rfl⟩⟩⟩
    · exact q.elim⟩
/-- what tells the kind of an exception -/
def spErr (κ : Kp) (kind : Ec → Str) : Sp := fun vs H Q E => ∃ (c : Ec) (a : Addr), vs = [.ref a] ∧ H a = some (exK κ c a) ∧ ∀ H', Same H H' → Q (.str (kind c)) H'
noncomputable def eErr (i : Nat) (κ : Kp) (kind : Ec → Str) : EF := fun env => match env[i]? with
  | some (.ob t k) => @ite _ (k = exK κ (ecO t)) (Classical.propDecidable _) (.val (.str (kind (ecO t)))) .stk
  | _ => .stk
theorem eErr_ob {i : Nat} {κ : Kp} {kind : Ec → Str} {env : En} {c : Ec} (h : env[i]? = some (.ob (ecN c) (exK κ c))) : eErr i κ kind env = .val (.str (kind c)) := by
  unfold eErr
  rw [h]
  dsimp only
  rw [ecO_N, if_pos rfl]
theorem v_err {kind : Ec → Str} (F : FnOk X.prog X.w X.K X.mg X.base CX0 k fa fd ps (spErr κ kind)) (hr : Room k X.A) (hm : X.mg x = some (.ref fa)) (hk : PySem.W.keepIn X.K (.ref fa) = true) (hb : Binds X.K fd ps []) (hN : X.N[i]? = some y)
    (hv : Vis X.env.scope y := by first | exact Or.inl rfl | exact Or.inr (Or.inl rfl) | exact Or.inr (Or.inr rfl)) (hdy : (y == ("__debug__" : Str)) = false := by decide) (hcd : (y == ("__classdict__" : Str)) = false := by decide)
    (hg : Gl X x := by rfl) (hdb : (x == ("__debug__" : Str)) = false := by decide) (he : starEach (.Name y py :: []) X.env = (false, eval (.Name y py) X.env) :: starEach [] X.env := by rfl) (hpl : (backTo pos (starEach [] X.env)).any (·.1) = false := by rfl) :
    PEv K W X (.Call (.Name x p) [.Name y py] [] pos) (tCall (spErr κ kind) [] E0 (tCons (tVar i) tNil)) (eErr i κ kind) := by
  refine ⟨pe_call F hr hg hm hk hb .nil pass0 (pa_cons (pe_var hN hv hdy hcd) pa_nil he) hdb he hpl, fun M env σ H rs Q q => ?_⟩
  unfold eErr at q
  split at q
  · rename_i t ko hs
    obtain ⟨o, ho, a, rfl, r⟩ := rs.sl i _ hs
    by_cases hc : ko = exK κ (ecO t)
    · rw [if_pos hc] at q
      refine ⟨.ref a, ho, ecO t, a, rfl, ?_, fun H' s => q _ H' s rfl⟩
      rw [← hc]
      exact hid_same _ _ r
    · rw [if_neg hc] at q
      exact q.elim
  · exact q.elim
/-- isinstance(x, C), x a caught exception -/
noncomputable def eIsX (i : Nat) (κ : Kp) (tab : Ec → Bool) : EF := fun env => match env[i]? with
  | some (.ob t k) => @ite _ (k = exK κ (ecO t)) (Classical.propDecidable _) (.val (.bool (tab (ecO t)))) .stk
  | _ => .stk
theorem eIsX_ob {i : Nat} {κ : Kp} {tab : Ec → Bool} {env : En} {c : Ec} (h : env[i]? = some (.ob (ecN c) (exK κ c))) : eIsX i κ tab env = .val (.bool (tab c)) := by
  unfold eIsX
  rw [h]
  dsimp only
  rw [ecO_N, if_pos rfl]
theorem v_isX {tab : Ec → Bool} {vC : V} {cv : PySem.Value} (hm : X.mg "isinstance" = none) (hN : X.N[i]? = some y) (hb : PE X b (tC vC)) (hcv : ∀ u, RelV vC u → u = cv) (hC : ∀ c, ∃ D, κ c = .ref D ∧ ExcC X.K D ∧ PySem.W.kitOne X.K (.ref D) cv = some (tab c))
    (hK : X.K = K := by rfl) (hv : Vis X.env.scope y := by first | exact Or.inl rfl | exact Or.inr (Or.inl rfl) | exact Or.inr (Or.inr rfl)) (hdy : (y == ("__debug__" : Str)) = false := by decide) (hcd : (y == ("__classdict__" : Str)) = false := by decide)
    (hg : Gl X "isinstance" := by rfl) (he : starEach (.Name y py :: [b]) X.env = (false, eval (.Name y py) X.env) :: starEach [b] X.env := by rfl) (he2 : starEach (b :: []) X.env = (false, eval b X.env) :: starEach [] X.env := by rfl) (hpl : (backTo pos (starEach [b] X.env)).any (·.1) = false := by rfl) :
    PEv K W X (.Call (.Name "isinstance" p) [.Name y py, b] [] pos) (tCB (rIsX K) (tCons (tVar i) (tCons (tC vC) tNil))) (eIsX i κ tab) := by
  subst hK
  refine ⟨pe_callB call_isX hg hm boot_isinstance' (pa_cons (pe_var hN hv hdy hcd) (pa_cons hb pa_nil he2) he) (by decide) (by decide) he hpl, fun M env σ H rs Q q => ?_⟩
  unfold eIsX at q
  split at q
  · rename_i t ko hs
    obtain ⟨o, ho, a, rfl, r⟩ := rs.sl i _ hs
    by_cases hc : ko = exK κ (ecO t)
    · rw [if_pos hc] at q
      obtain ⟨D, e1, e2, e3⟩ := hC (ecO t)
      refine ⟨.ref a, ho, a, D, vC, cv, tab (ecO t), rfl, ?_, e2, hcv, e3, q _ H (Same.refl _) (rep_bool.mpr rfl)⟩
      have := hid_same _ _ r
      rw [hc] at this
      unfold exK at this
      rw [e1] at this
      exact this
    · rw [if_neg hc] at q
      exact q.elim
  · exact q.elim
end
/-! ### the def that tells the kind of a caught exception -/
theorem err_StS {H : Hp} {a : Addr} {t n : Nat} {ko : Addr → HO} (h : H a = some (ko a)) : StS H (fun _ => False) (.ob t ko :: List.replicate n .no) (some (.ref a) :: List.replicate n none) H := by
  have at0 : ∀ (i : Nat) (s : Sl) (o : Option V), (Sl.ob t ko :: List.replicate n .no)[i]? = some s → (some (V.ref a) :: List.replicate n none)[i]? = some o → (i = 0 ∧ s = .ob t ko ∧ o = some (.ref a)) ∨ s = .no := fun i s o h1 h2 => by
    match i with
    | 0 =>
      cases h1
      cases h2
      exact .inl ⟨rfl, rfl, rfl⟩
    | i + 1 =>
      have h1 : (List.replicate n Sl.no)[i]? = some s := h1
      rw [List.getElem?_replicate] at h1
      split at h1
      · cases h1
        exact .inr rfl
      · cases h1
  have own : ∀ b, ¬ Own (Sl.ob t ko :: List.replicate n .no) (some (V.ref a) :: List.replicate n none) b := fun b ⟨i, s, o, h1, h2, h3⟩ => by
    rcases at0 i s o h1 h2 with ⟨_, rfl, rfl⟩ | rfl
    · cases h3
    · cases o <;> cases h3
  have mo : ∀ b, ¬ Mo (fun _ => False) (Sl.ob t ko :: List.replicate n .no) (some (V.ref a) :: List.replicate n none) b := fun b m => m.elim id (own b)
  refine ⟨⟨fun b m => (mo b m).elim, fun i s hs => ?_⟩, by simp, Same.refl _, fun i j s t' o u b h1 h2 h3 h4 h5 _ => (own b ⟨i, s, o, h1, h2, h5⟩).elim, fun b m => (own b m).elim, fun i p q ns c hd => ?_⟩
  · match i with
    | 0 =>
      cases hs
      exact ⟨_, rfl, a, rfl, hid_some.mpr ⟨mo a, h⟩⟩
    | i + 1 =>
      have h1 : (List.replicate n Sl.no)[i]? = some s := hs
      rw [List.getElem?_replicate] at h1
      split at h1
      · rename_i hi
        cases h1
        exact ⟨none, by
          show (List.replicate n (none : Option V))[i]? = some none
          rw [List.getElem?_replicate, if_pos hi], trivial⟩
      · cases h1
  · match i with
    | 0 => cases hd
    | i + 1 =>
      have h1 : (List.replicate n Sl.no)[i]? = some (.dr p q ns c) := hd
      rw [List.getElem?_replicate] at h1
      split at h1
      · cases h1
      · cases h1
section
variable {P : PySem.Program} {w : PySem.World} {K : PySem.W.Frag} {mg : Str → Option PySem.Value} {base : PySem.Heap} {κ : Kp}
theorem fn_err {x qual p1 : Str} {st : Stmt} {f : Addr} {fd : PySem.FuncData} {N : List Str} {k n : Nat} {g : SF} {kind : Ec → Str} (F : Fun K x qual st f fd) (S : FnScope N [p1] (defScope st)) (hN : N.length = n + 1)
    (hbody : ∀ (cdv : PySem.Value) (A : PySem.Around) (outer : List PySem.Env) (s : PySem.Shared) (H : Hp) (E : XK), Room k (A.deeper (PyProof.Rows.envOfC qual (defScope st) s.heap.objs.size f cdv)) →
      ∃ t, PSsv K W0 (cxOf CX0 P w K mg base N qual (defScope st) f cdv A outer s H E).nox (defBody st) t g)
    (hg : ∀ c, ∃ env', g (.ob (ecN c) (exK κ c) :: List.replicate n .no) = .ret (.str (kind c)) env') : FnOk P w K mg base CX0 (k + 1) f fd [p1] (spErr κ kind) := by
  refine F.ok S (fun vs H Q E h => ?_) (fun cdv A outer s H vs Q E hr h => ?_)
  · obtain ⟨c, a, rfl, _⟩ := h
    rfl
  · obtain ⟨c, a, rfl, hH, hQ⟩ := h
    obtain ⟨t, ht⟩ := hbody cdv A outer s H E hr
    have e0 : L2.start N [V.ref a] = some (.ref a) :: List.replicate n none := by
      unfold L2.start
      rw [hN]
      rfl
    refine ⟨t, ht.ps, ?_⟩
    rw [e0]
    obtain ⟨env', he⟩ := hg c
    refine ht.ev H (fun _ => False) _ _ H _ (err_StS (ko := exK κ c) (t := ecN c) hH) ?_
    rw [he]
    intro v σ' H' s' _ r
    rw [rep_str.mp r]
    exact hQ H' s'.ext
end
end Ag


/-! ### xs.count(b) of a list of bools -/
namespace Ag
open PySem PySem.Spec PyProof.Rows L2
def eqb (k : Bool) (v : Value) : Bool := match v with
  | .bool b => b == k
  | _ => false
theorem vals_bools : ∀ {bs : List Bool} {us : List Value}, Vals (bs.map V.bl) us → us = bs.map Value.bool
  | [], _, .nil => rfl
  | b :: bs, _, .cons r t => by
    rw [vals_bools t]
    cases r
    rfl
theorem eqb_count (k : Bool) : ∀ bs : List Bool, (bs.map Value.bool).countP (eqb k) = bs.count k
  | [] => rfl
  | b :: bs => by
    rw [List.map_cons, List.countP_cons, List.count_cons, eqb_count k bs]
    rfl
section
variable {X : Cx}
def rCntB (K : PySem.W.Frag) : V → List V → Hp → VK → Prop := fun x xs H Q => ∃ (p : Addr) (bs : List Bool) (k : Bool), x = .ref p ∧ xs = [.bl k] ∧ SqL K H p (bs.map V.bl) ∧ Q (.int (bs.count k : Nat)) H
theorem mt_lcountB : MtR X "list.count" (rCntB X.K) := by
  intro pins s σ H x xs v us Q I rx rxs h
  obtain ⟨p, bs, k, e1, e2, hs, q⟩ := h
  subst e1
  subst e2
  cases rx
  obtain ⟨u, rfl, ru⟩ := rxs.one
  cases ru
  obtain ⟨its, rv, ⟨⟨cls, dd, data, sl⟩, n, ho, hc, hdn, hd⟩, hlen⟩ := I.list hs
  simp only at hc hd
  subst hc hd
  have hb := vals_bools rv
  refine call_meets PySem.F.slot_list_count ⟨_, ho, rfl⟩ PySem.F.entry_list_count (PySem.F.args_list_count_2 _ _)
    (SeqAt.list_countAt p its.toArray n dd sl (.bool k) (eqb k)) ⟨ho, fun y hy => ?_, ?_⟩
  · have hy' : y ∈ its := by simpa using hy
    rw [hb] at hy'
    obtain ⟨b, _, rfl⟩ := List.mem_map.mp hy'
    exact SeqAt.EqAt.bool_bool b k
  · have ec : its.toArray.toList.countP (eqb k) = bs.count k := by
      rw [List.toList_toArray, hb, eqb_count]
    refine ⟨.int (bs.count k : Nat), H, I.tok _, ⟨s.toks, ?_⟩, q⟩
    show Value.int ((its.toArray.toList.countP (eqb k) : Nat) : Int) s.toks = Value.int ((bs.count k : Nat) : Int) s.toks
    rw [ec]
end
end Ag
namespace Ag
open PySem L2
def bolsOf : List D → Option (List Bool)
  | [] => some []
  | .bool b :: l => (bolsOf l).map (b :: ·)
  | _ => none
theorem bolsOf_some : ∀ {l : List D} {bs : List Bool}, bolsOf l = some bs → l = bs.map .bool
  | [], bs, h => by
    rw [bolsOf] at h
    cases h
    rfl
  | d :: l, bs, h => by
    cases d with
    | bool b =>
      rw [bolsOf] at h
      cases e : bolsOf l with
      | none =>
        rw [e] at h
        cases h
      | some r =>
        rw [e] at h
        cases h
        rw [bolsOf_some e]
        rfl
    | _ => simp [bolsOf] at h
theorem bolsOf_map : ∀ bs : List Bool, bolsOf (bs.map .bool) = some bs
  | [] => rfl
  | b :: r => by
    rw [List.map_cons, bolsOf, bolsOf_map r]
    rfl
def dCountB : List D → D → Rs D := fun l y => match y with
  | .bool k => ofO (bolsOf l) >>= fun bs => .val (.int (bs.count k))
  | _ => .stk
section
variable {K : PySem.W.Frag} {W : WT} {X : Cx} {a b : Expr} {ta tb : TE} {f g : EF} {apos cpos : Pos}
theorem v_countB (ha : PEB K W X a ta f) (hb : PEB K W X b tb g) (hK : X.K = K := by rfl) (hbase : attributeBase a "count" X.env (eval a X.env) = eval a X.env := by rfl) (hfew : ((backTo cpos (starEach [b] X.env)).all (fun x => !x.1) && (backToKw cpos (keywordEach [] X.env)).all (fun x => x.1.isSome) && decide ([b].length + ([] : List Keyword).length + (if ([] : List Keyword).isEmpty then 0 else 1) < 30)) = true := by rfl)
    (hline : (apos.endLine == cpos.line) = true := by rfl) (hs : starEach (b :: []) X.env = (false, eval b X.env) :: starEach [] X.env := by rfl) (hplain : (backTo cpos (starEach [] X.env)).any (·.1) = false := by rfl) :
    PEv K W X (.Call (.Attribute a "count" apos) [b] [] cpos) (tBM K "list" (rCntB K) ta (tCons tb tNil)) (eMt dCountB f g) := by
  subst hK
  refine ⟨pe_bm PySem.F.plainAttrs_list PySem.F.slot_list_count PySem.F.type_list_count mt_lcountB ha.pe (pa_cons hb.pe pa_nil hs) hbase hfew hline hs hplain, fun M env σ H rs Q p => ?_⟩
  refine ha.ev M env σ H rs _ (p.step fun d _ v H1 s1 r1 p1 => ?_)
  split at p1
  · rename_i l _
    obtain ⟨z0, vs0, e0, q0, _⟩ := r1.list
    refine ⟨by rw [e0]; exact tyV_list q0, hb.ev M env σ H1 (rs.up s1) _ (p1.step fun y _ w H2 s2 r2 p2 => ?_)⟩
    unfold dCountB at p2
    split at p2
    · cases e : bolsOf l with
      | none =>
        rw [e] at p2
        exact p2.elim
      | some bs =>
        rw [e] at p2
        obtain ⟨a, vs, e1, h, r⟩ := (r1.up s2).list
        rw [bolsOf_some e] at r
        rw [repL_bools.mp r] at h
        exact ⟨a, bs, _, e1, by rw [rb_bool r2], SqL.of h, p2 _ H2 (Same.refl _) (rep_int.mpr rfl)⟩
    · exact p2.elim
  · exact p1.elim
end
end Ag
namespace Ag
open PySem L2
/-! facts on classes out of what k_is answers -/
theorem kitOne_of {K : PySem.W.Frag} {t c : Value} {b : Bool} (h : PySem.W.kitCls K t c = some b) (hb : (t == c) = true → b = true) : PySem.W.kitOne K t c = some b := by
  unfold PySem.W.kitOne
  split
  · rename_i e
    rw [hb e]
  · exact h
theorem kitCls_ref {K : PySem.W.Frag} {t : Value} {C : Addr} {b : Bool} (hc : (PySem.W.clsIn K C).isSome = true) (ht : PySem.W.typeIn K (.ref C) = some (.type "type")) (hs : PySem.W.subIn K t (.ref C) = some b) : PySem.W.kitCls K t (.ref C) = some b := by
  unfold PySem.W.kitCls
  dsimp only
  rw [hc, ht, hs]
  rfl
theorem kitCls_ty {K : PySem.W.Frag} {t : Value} {T : String} {b : Bool} (hm : PySem.W.kitMeta T = true) (hs : PySem.W.subIn K t (.type T) = some b) : PySem.W.kitCls K t (.type T) = some b := by
  unfold PySem.W.kitCls
  dsimp only
  rw [if_pos hm, hs]
end Ag


/-! ### the classes of exceptions of the package -/
namespace Ag
open PySem L2
def exN : Ec → Str
  | .rank => "BadRanking"
  | .scor => "BadScores"
  | .numb => "BadNumber"
  | .text => "BadText"
  | .noth => "NotFound"
def exKind : Ec → Str
  | .rank => "ranking"
  | .scor => "scores"
  | .numb => "number"
  | .text => "text"
  | .noth => "none"
def sameEc (c c' : Ec) : Bool := ecN c == ecN c'
abbrev kpOf (C : Ec → Addr) : Kp := fun c => .ref (C c)
structure OwnX (K : PySem.W.Frag) (mg : Str → Option Value) (x : Str) (C : Addr) : Prop where
  g : mg x = some (.ref C)
  kp : PySem.W.keepIn K (.ref C) = true
  ex : PySem.W.excIn K C [.type "ValueError", .type "Exception", .type "BaseException", .type "object"] "ValueError.__new__" = true
  ty : PySem.W.typeIn K (.ref C) = some (.type "type")
  c : ExcC K C
structure Xcl (K : PySem.W.Frag) (mg : Str → Option Value) (C : Ec → Addr) (R : Addr) : Prop where
  own : ∀ c, OwnX K mg (exN c) (C c)
  gR : mg "RankError" = some (.ref R)
  vE : mg "ValueError" = none
  tab : ∀ c c', PySem.W.kitOne K (.ref (C c)) (.ref (C c')) = some (sameEc c c')
  isR : ∀ c, PySem.W.kitOne K (.ref (C c)) (.ref R) = some true
  isV : ∀ c, PySem.W.kitOne K (.ref (C c)) (.type "ValueError") = some true
  exm : ∀ c, PySem.W.exmOne K (.ref (C c)) (.ref R) = some true
theorem clsIn_of {K : PySem.W.Frag} {C : Addr} (h : PySem.W.hasDictIn K C = true) : (PySem.W.clsIn K C).isSome = true := by
  obtain ⟨cd, hc, _⟩ := PySem.W.any_some h
  rw [hc]
  rfl
theorem sub_self {K : PySem.W.Frag} {C D : Addr} {b : Bool} (h : PySem.W.subIn K (.ref C) (.ref C) = some true) (h2 : PySem.W.subIn K (.ref C) (.ref D) = some b) (e : (Value.ref C == Value.ref D) = true) : b = true := by
  have e' : Value.ref C = Value.ref D := beq_iff_eq.mp e
  rw [← e', h] at h2
  cases h2
  rfl
theorem xcl_mk {K : PySem.W.Frag} {mg : Str → Option Value} {C : Ec → Addr} {R : Addr} (own : ∀ c, OwnX K mg (exN c) (C c)) (gR : mg "RankError" = some (.ref R)) (vE : mg "ValueError" = none)
    (sub : ∀ c c', PySem.W.subIn K (.ref (C c)) (.ref (C c')) = some (sameEc c c')) (sR : ∀ c, PySem.W.subIn K (.ref (C c)) (.ref R) = some true) (sV : ∀ c, PySem.W.subIn K (.ref (C c)) (.type "ValueError") = some true)
    (bR : PySem.W.subIn K (.ref R) (.type "BaseException") = some true) (dR : PySem.W.hasDictIn K R = true) (tR : PySem.W.typeIn K (.ref R) = some (.type "type")) : Xcl K mg C R where
  own := own
  gR := gR
  vE := vE
  tab := fun c c' => kitOne_of (kitCls_ref (clsIn_of (own c').c.hd) (own c').ty (sub c c')) (sub_self (by have := sub c c; rw [this]; cases c <;> rfl) (sub c c'))
  isR := fun c => kitOne_of (kitCls_ref (clsIn_of dR) tR (sR c)) fun _ => rfl
  isV := fun c => kitOne_of (kitCls_ty (by decide +kernel) (sV c)) fun _ => rfl
  exm := fun c => PySem.W.exm_ref bR dR tR (sR c)
section
variable {K : PySem.W.Frag} {mg : Str → Option Value} {C : Ec → Addr} {R : Addr} {W : WT} {X : Cx} {pos pos' p p2 py pb : Pos} {y m : Str} {i j : Nat}
theorem s_raiseC (c : Ec) (T : Xcl K mg C R) (tk : Takes X (WXof (kpOf C) W)) (hmg : X.mg = mg := by rfl) (hK : X.K = K := by rfl) (hc : X.calm = true := by rfl) (hg : Gl X (exN c) := by rfl) :
    PSv K W X (.Raise (some (.Call (.Name (exN c) p) [.Constant (.str m) j p2] [] pos)) none pos') (fun _ σ H => WXof (kpOf C) W (.ref (C c)) none σ H) (sExc c) := by
  subst hmg
  subst hK
  have o := T.own c
  exact s_raise (κ := kpOf C) c rfl tk PySem.F.excBase_ValueError o.ex o.g o.kp (raises_own o.c.hs o.ty) hc hg (by cases c <;> decide)
theorem takes_tr {W' : WX} (tk : Takes X W') : Takes X (WXof (kpOf C) fun k σ H => W' (kpOf C k) none σ H) := Takes.imp tk fun cls d σ H h => by
  obtain ⟨c, e1, e2, h⟩ := h
  rw [e1, e2]
  exact h
theorem v_isC (c : Ec) (T : Xcl K mg C R) (hm : X.mg "isinstance" = none) (hN : X.N[i]? = some y) (hmg : X.mg = mg := by rfl) (hK : X.K = K := by rfl) (hgC : Gl X (exN c) := by rfl)
    (hv : Vis X.env.scope y := by first | exact Or.inl rfl | exact Or.inr (Or.inl rfl) | exact Or.inr (Or.inr rfl)) (hdy : (y == ("__debug__" : Str)) = false := by decide) (hcd : (y == ("__classdict__" : Str)) = false := by decide)
    (hg : Gl X "isinstance" := by rfl) (he : starEach (.Name y py :: [.Name (exN c) pb]) X.env = (false, eval (.Name y py) X.env) :: starEach [.Name (exN c) pb] X.env := by rfl) (he2 : starEach (.Name (exN c) pb :: []) X.env = (false, eval (.Name (exN c) pb) X.env) :: starEach [] X.env := by rfl) (hpl : (backTo pos (starEach [.Name (exN c) pb] X.env)).any (·.1) = false := by rfl) :
    PEv K W X (.Call (.Name "isinstance" p) [.Name y py, .Name (exN c) pb] [] pos) (tCB (rIsX K) (tCons (tVar i) (tCons (tC (.ref (C c))) tNil))) (eIsX i (kpOf C) (fun k => sameEc k c)) := by
  subst hmg
  subst hK
  exact v_isX hm hN (pe_glob hgC (T.own c).g rfl (by cases c <;> decide)) (fun u h => h) (fun k => ⟨C k, rfl, (T.own k).c, T.tab k c⟩) rfl hv hdy hcd hg he he2 hpl
theorem v_isR (T : Xcl K mg C R) (hm : X.mg "isinstance" = none) (hN : X.N[i]? = some y) (hmg : X.mg = mg := by rfl) (hK : X.K = K := by rfl) (hgC : Gl X "RankError" := by rfl)
    (hv : Vis X.env.scope y := by first | exact Or.inl rfl | exact Or.inr (Or.inl rfl) | exact Or.inr (Or.inr rfl)) (hdy : (y == ("__debug__" : Str)) = false := by decide) (hcd : (y == ("__classdict__" : Str)) = false := by decide)
    (hg : Gl X "isinstance" := by rfl) (he : starEach (.Name y py :: [.Name "RankError" pb]) X.env = (false, eval (.Name y py) X.env) :: starEach [.Name "RankError" pb] X.env := by rfl) (he2 : starEach (.Name "RankError" pb :: []) X.env = (false, eval (.Name "RankError" pb) X.env) :: starEach [] X.env := by rfl) (hpl : (backTo pos (starEach [.Name "RankError" pb] X.env)).any (·.1) = false := by rfl) :
    PEv K W X (.Call (.Name "isinstance" p) [.Name y py, .Name "RankError" pb] [] pos) (tCB (rIsX K) (tCons (tVar i) (tCons (tC (.ref R)) tNil))) (eIsX i (kpOf C) (fun k => true)) := by
  subst hmg
  subst hK
  exact v_isX hm hN (pe_glob hgC T.gR rfl (by decide)) (fun u h => h) (fun k => ⟨C k, rfl, (T.own k).c, T.isR k⟩) rfl hv hdy hcd hg he he2 hpl
theorem v_isV (T : Xcl K mg C R) (hm : X.mg "isinstance" = none) (hN : X.N[i]? = some y) (hmg : X.mg = mg := by rfl) (hK : X.K = K := by rfl) (hgC : Gl X "ValueError" := by rfl)
    (hv : Vis X.env.scope y := by first | exact Or.inl rfl | exact Or.inr (Or.inl rfl) | exact Or.inr (Or.inr rfl)) (hdy : (y == ("__debug__" : Str)) = false := by decide) (hcd : (y == ("__classdict__" : Str)) = false := by decide)
    (hg : Gl X "isinstance" := by rfl) (he : starEach (.Name y py :: [.Name "ValueError" pb]) X.env = (false, eval (.Name y py) X.env) :: starEach [.Name "ValueError" pb] X.env := by rfl) (he2 : starEach (.Name "ValueError" pb :: []) X.env = (false, eval (.Name "ValueError" pb) X.env) :: starEach [] X.env := by rfl) (hpl : (backTo pos (starEach [.Name "ValueError" pb] X.env)).any (·.1) = false := by rfl) :
    PEv K W X (.Call (.Name "isinstance" p) [.Name y py, .Name "ValueError" pb] [] pos) (tCB (rIsX K) (tCons (tVar i) (tCons (tC (.ty "ValueError")) tNil))) (eIsX i (kpOf C) (fun k => true)) := by
  subst hmg
  subst hK
  exact v_isX hm hN (pe_bltn hgC T.vE (by decide +kernel : bootBuiltins "ValueError" = some (.type "ValueError")) rfl (by decide) (by decide)) (fun u h => h) (fun k => ⟨C k, rfl, (T.own k).c, T.isV k⟩) rfl hv hdy hcd hg he he2 hpl
end
end Ag


/-! ### dicts whose keys are tuples of ints: the kit's side -/
namespace Ag
open PySem PySem.Spec PyProof.Rows L2
abbrev Dv := List (List Int × Addr × V)
abbrev Du := List (List Int × Addr × Value)
def KI (H : Hp) (kvs : Dv) : Prop := ∀ x ∈ kvs, H x.2.1 = some (.tup (x.1.map V.int))
abbrev PRv : Dv → Du → Prop := Paired fun (p : List Int × Addr × V) (q : List Int × Addr × Value) => p.1 = q.1 ∧ p.2.1 = q.2.1 ∧ RelV p.2.2 q.2.2
def atG {β : Type} (xs : List (List Int × Addr × β)) (k : List Int) : Option (Addr × β) := (xs.find? fun x => decide (x.1 = k)).map (·.2)
def stG {β : Type} (xs : List (List Int × Addr × β)) (k : List Int) (a : Addr) (v : β) : List (List Int × Addr × β) :=
  if (atG xs k).isSome = true then xs.map (fun x => if x.1 = k then (x.1, x.2.1, v) else x) else xs ++ [(k, a, v)]
theorem atG_key (xs : Du) (k : List Int) : atG xs k = atKey xs k := rfl
theorem stG_key (xs : Du) (k : List Int) (a : Addr) (v : Value) : stG xs k a v = storedH xs k a v := rfl
theorem atG_pos {β : Type} {p : List Int × Addr × β} {r : List (List Int × Addr × β)} {k : List Int} (e : p.1 = k) : atG (p :: r) k = some p.2 := by simp [atG, List.find?_cons, e]
theorem atG_neg {β : Type} {p : List Int × Addr × β} {r : List (List Int × Addr × β)} {k : List Int} (e : ¬ p.1 = k) : atG (p :: r) k = atG r k := by simp [atG, List.find?_cons, e]
theorem pr_at {kvs : Dv} {xs : Du} (r : PRv kvs xs) (k : List Int) : (∀ b v, atG kvs k = some (b, v) → ∃ u, atG xs k = some (b, u) ∧ RelV v u) ∧ (atG kvs k = none → atG xs k = none) := by
  induction r with
  | nil => exact ⟨fun _ _ h => (by cases h), fun _ => rfl⟩
  | @cons p q ps qs h t ih =>
    obtain ⟨h1, h2, h3⟩ := h
    by_cases e : p.1 = k
    · rw [atG_pos e, atG_pos (h1.symm.trans e)]
      refine ⟨fun b v z => ?_, fun z => by cases z⟩
      obtain ⟨q1, q2, q3⟩ := q
      obtain ⟨p1, p2, p3⟩ := p
      cases z
      dsimp only at h2 h3 ⊢
      exact ⟨q3, by rw [h2], h3⟩
    · rw [atG_neg e, atG_neg fun z => e (h1.trans z)]
      exact ih
theorem pr_some {kvs : Dv} {xs : Du} (r : PRv kvs xs) (k : List Int) : (atG kvs k).isSome = (atG xs k).isSome := by
  obtain ⟨h1, h2⟩ := pr_at r k
  cases e : atG kvs k with
  | none => rw [h2 e]; rfl
  | some z =>
    obtain ⟨u, h, _⟩ := h1 z.1 z.2 e
    rw [h]
    rfl
theorem pr_st {kvs : Dv} {xs : Du} (r : PRv kvs xs) (k : List Int) {b : Addr} {v : V} {u : Value} (rv : RelV v u) : PRv (stG kvs k b v) (stG xs k b u) := by
  unfold stG
  rw [pr_some r k]
  by_cases q : (atG xs k).isSome = true
  · rw [if_pos q, if_pos q]
    clear q
    induction r with
    | nil => exact .nil
    | @cons p q ps qs h t ih =>
      rw [List.map_cons, List.map_cons]
      refine .cons ?_ ih
      obtain ⟨h1, h2, h3⟩ := h
      by_cases e : p.1 = k
      · rw [if_pos e, if_pos (h1.symm.trans e)]
        exact ⟨h1, h2, rv⟩
      · rw [if_neg e, if_neg fun z => e (h1.trans z)]
        exact ⟨h1, h2, h3⟩
  · rw [if_neg q, if_neg q]
    exact Paired.snoc r ⟨rfl, rfl, rv⟩
theorem stG_len {β : Type} (xs : List (List Int × Addr × β)) (k : List Int) (a : Addr) (v : β) : (stG xs k a v).length ≤ xs.length + 1 := by
  unfold stG
  split
  · rw [List.length_map]
    omega
  · rw [List.length_append]
    exact Nat.le_refl _
theorem pr_mem {kvs : Dv} {xs : Du} (r : PRv kvs xs) : ∀ x ∈ xs, ∃ y ∈ kvs, y.1 = x.1 ∧ y.2.1 = x.2.1 := by
  induction r with
  | nil => intro x h; cases h
  | @cons p q ps qs h t ih =>
    intro x hx
    rcases List.mem_cons.mp hx with e | hx
    · subst e
      exact ⟨p, List.mem_cons_self, h.1, h.2.1⟩
    · obtain ⟨y, hy, e⟩ := ih x hx
      exact ⟨y, List.mem_cons_of_mem _ hy, e⟩
section
variable {P : Program} {w : World} {H H' : Hp} {h h' : Heap} {a b : Addr}
theorem keyI_of {ks : List Int} (ok : HOk P w H h) (e : H b = some (.tup (ks.map V.int))) : (tupleKind (intKind P w)).is h ks b := by
  obtain ⟨_, its, r, o, h1, h2, n, h3⟩ := (show ObjOk P w H h b (.tup (ks.map V.int)) from ok b _ e)
  exact ⟨o, its.toArray, n, h1, h2, h3, by simpa using items_of_vals r⟩
theorem di_get {kvs : Dv} (ok : HOk P w H h) (e : H a = some (DiO a kvs)) (ki : KI H kvs) : kvs.length ≤ sizeLine ∧ (a == sysModules) = false ∧ ∃ xs, PRv kvs xs ∧ h.DictOfH (tupleKind (intKind P w)) a xs := by
  obtain ⟨⟨z, hd, xs, r, o, es, ep, h1, h2, h3, h4, h5⟩, _⟩ := (show ObjOk P w H h a (DiO a kvs) from ok a _ e)
  refine ⟨z, hd, xs, r, o, es, ep, h1, h2, h3, h4 P w, fun x hx => ?_, h5⟩
  obtain ⟨y, hy, e1, e2⟩ := pr_mem r x hx
  have := keyI_of ok (ki y hy)
  rw [e1, e2] at this
  exact this
theorem di_new {kvs : Dv} {xs : Du} (z : kvs.length ≤ sizeLine) (hd : (a == sysModules) = false) (r : PRv kvs xs) (dd : h.DictOfH (tupleKind (intKind P w)) a xs) : ObjOk P w H h a (DiO a kvs) := by
  obtain ⟨o, es, ep, h1, h2, h3, h4, _, h5⟩ := dd
  refine ⟨⟨z, hd, xs, r, o, es, ep, h1, h2, h3, fun P' w' => h4, h5⟩, ⟨o, h1⟩, fun g1 g2 q k => ?_⟩
  obtain ⟨z, hd, xs, r, o, es, ep, h1, h2⟩ := q
  exact ⟨z, hd, xs, r, o, es, ep, k _ h1, h2⟩
end
/-! ### the operations -/
def rIxDi : R2 := fun x y H Q => ∃ (a b : Addr) (kvs : Dv) (k : List Int) (c : Addr) (v : V), x = .ref a ∧ y = .ref b ∧ H a = some (DiO a kvs) ∧ KI H kvs ∧ H b = some (.tup (k.map V.int)) ∧ atG kvs k = some (c, v) ∧ Q v H
def rSetDi : TSet := fun o i v H Q => ∃ (a b : Addr) (kvs : Dv) (k : List Int), o = .ref a ∧ i = .ref b ∧ H a = some (DiO a kvs) ∧ KI H kvs ∧ H b = some (.tup (k.map V.int)) ∧ kvs.length < sizeLine ∧ Q (upd H a (DiO a (stG kvs k b v)))
def tDiNew : TE := fun _ H Q => ∀ p, H p = none → Q (.ref p) (upd H p (DiO p []))
def tDiGet (td ty tx : TE) : TE := fun σ H Q => td σ H fun x H1 => ∃ (a : Addr) (kvs : Dv), x = .ref a ∧ H1 a = some (DiO a kvs) ∧ ty σ H1 fun y H2 => tx σ H2 fun z H3 => ∃ (b : Addr) (kvs : Dv) (k : List Int), y = .ref b ∧ H3 a = some (DiO a kvs) ∧ KI H3 kvs ∧ H3 b = some (.tup (k.map V.int)) ∧ Q (((atG kvs k).map (·.2)).getD z) H3
section
variable {X : Cx} {pins : List (Addr × Obj)} {σ : L2.St} {H : Hp} {s : Shared} {pos : Pos}
theorem ix_di (hu : X.A.units + 1 < cLine) : IxR X rIxDi := by
  intro value slice pins s σ H x y v u Q I rx ry h hs
  obtain ⟨a, b, kvs, k, c, v0, rfl, rfl, e, ki, eb, ek, q⟩ := h
  obtain rfl : v = Value.ref a := rx
  obtain rfl : u = Value.ref b := ry
  obtain ⟨z, hd, xs, rel, dd⟩ := di_get I.hok e ki
  obtain ⟨u0, h1, h2⟩ := (pr_at rel k).1 c v0 ek
  exact tail_any dd.typeIs slot_dict_getitem.lookup (wpAny_getItem_heap (tupleKind_room_in1 hu) (keyI_of I.hok eb) dd h1 ⟨v0, H, I.tok _, h2, q⟩) hs
theorem set_di (hu : X.A.units + 1 < cLine) : PSet X rSetDi := by
  intro pins s σ H o i v ov iv u Q I ro ri rv h
  obtain ⟨a, b, kvs, k, rfl, rfl, e, ki, eb, hl, q⟩ := h
  obtain rfl : ov = Value.ref a := ro
  obtain rfl : iv = Value.ref b := ri
  obtain ⟨z, hd, xs, rel, dd⟩ := di_get I.hok e ki
  have hz : xs.length ≤ sizeLine := by rw [← Paired.length rel]; exact z
  have hl2 : (stG kvs k b v).length ≤ sizeLine := by have := stG_len kvs k b v; omega
  refine wpAny_setItem_heap (hsz := hz) (tupleKind_room_in1 hu) (keyI_of I.hok eb) dd fun h' dd' hs => ⟨_, ?_, q⟩
  have he : ∃ q, h'.get? a = some q := let ⟨q, _, _, hq, _⟩ := dd'; ⟨q, hq⟩
  exact d_write I (by rw [e]; exact True.intro) hs he (di_new hl2 hd (pr_st rel k rv) dd')
theorem di_empty {P : Program} {w : World} {H : Hp} (h : Heap) (hb : sysModules < h.objs.size) : ObjOk P w H (h.push { cls := .type "dict", data := .dict #[] }) h.objs.size (DiO h.objs.size []) :=
  di_new (xs := []) (Nat.zero_le _) (beq_eq_false_iff_ne.mpr (Ne.symm (Nat.ne_of_lt hb))) .nil ⟨_, #[], 0, Heap.get?_push_size _ rfl, ⟨rfl, rfl, rfl⟩, rfl, rfl, fun _ h => (by cases h), List.nodup_nil⟩
theorem pe_dinew : PE X (.Dict [] [] pos) tDiNew := ⟨fun pins s σ H Q I h =>
  wpAny_Dict_empty ⟨.ref s.heap.objs.size, _, I.laid (a := s.heap.objs.size) (o := DiO s.heap.objs.size []) (t' := s.toks) (fun _ _ q => Heap.get?_push_of_some _ q) (Nat.le_refl _) (di_empty s.heap I.big), rfl, h _ (I.hok.fresh (Nat.le_refl _))⟩⟩
theorem di_at {a : Addr} {kvs : Dv} (I : Inv X pins σ H s) (e : H a = some (DiO a kvs)) : s.TypeIs (.ref a) "dict" ∧ (∀ b, Value.ref a = .ref b → ∃ ob, s.heap.get? b = some ob ∧ ob.dict = none) := by
  obtain ⟨⟨z, hd, xs, r, o, es, ep, h1, h2, h3, _⟩, _⟩ := (show ObjOk X.prog X.w H s.heap a (DiO a kvs) from I.hok a _ e)
  exact ⟨⟨o, h1, h2.1⟩, fun b q => by
    cases q
    exact ⟨o, h1, h2.2.1⟩⟩
theorem pe_diget {o e f : Expr} {apos cpos : Pos} {td ty tx : TE} (hu : X.A.units + 1 < cLine) (ho : PE X o td) (he : PE X e ty) (hf : PE X f tx) (m : M2 X o "get" apos e f cpos) : PE X (.Call (.Attribute o "get" apos) [e, f] [] cpos) (tDiGet td ty tx) := by
  refine ⟨fun pins s σ H Q I h => ?_⟩
  refine wpAny_Call_method m.base m.few m.line PySem.F.plainAttrs_dict PySem.F.slot_dict_get PySem.F.type_dict_get (thn (ho.run pins s σ H _ I h) fun u s1 ⟨x, H1, I1, rx, a, kvs, ex, d, q1⟩ => ?_)
  subst ex
  obtain rfl : u = Value.ref a := rx
  obtain ⟨t1, t2⟩ := di_at I1 d
  refine ⟨t1, t2, ?_⟩
  rw [m.trees]
  refine Calls.callWith_builtin rfl (Calls.evalArgs_plain (Calls.spliced_cons (thn (he.run pins s1 σ H1 _ I1 q1) fun iv s2 ⟨y, H2, I2, ry, q2⟩ =>
    Calls.spliced_cons (thn (hf.run pins s2 σ H2 _ I2 q2) fun fv s3 ⟨z, H3, I3, rz, b, kvs, k, ey, e3, ki, eb, q3⟩ => Calls.spliced_nil ?_))))
  subst ey
  obtain rfl : iv = Value.ref b := ry
  obtain ⟨zl, hd, xs, rel, dd⟩ := di_get I3.hok e3 ki
  refine call_meetsIn PySem.F.slot_dict_get dd.typeIs PySem.F.entry_dict_get (PySem.F.args_dict_get_3 _ _ _) (meetsH_dict_get_default (tupleKind (intKind X.prog X.w)) a b hd fv) ⟨tupleKind_room_in1 hu, k, xs, keyI_of I3.hok eb, dd, _, H3, I3.tok _, ?_, q3⟩
  obtain ⟨r1, r2⟩ := pr_at rel k
  cases ek : atG kvs k with
  | none =>
    have := r2 ek
    rw [atG_key] at this
    rw [this]
    exact rz
  | some c =>
    obtain ⟨u0, h1, h2⟩ := r1 c.1 c.2 ek
    rw [atG_key] at h1
    rw [h1]
    exact h2
end
end Ag


/-! ### sorted(d), d a dict whose keys are tuples of ints -/
namespace Ag
open PySem PySem.Spec PyProof.Rows L2
section
open PySem.W PySem.Calls PyProof.V
variable {prog : Program} {w : World} {A : Around} {E : Value → Shared → Prop} {s : Shared} {T : String} {r d : Addr} {n : Nat} {Pv : Nat → Value → Prop} {OK : Heap → Prop}
theorem collect_src {R : List Value → Shared → Prop} (K : KdlSrc prog w T r d n Pv OK) (hh : A.handled = none) (hok : OK s.heap) (hn : n ≤ sizeLine)
    (h : ∀ (h' : Heap) (tk : Nat) (acc : Array Value), (∀ b o, s.heap.get? b = some o → h'.get? b = some o) → s.heap.objs.size < h'.objs.size → ItemsOf Pv acc n → R acc.toList { s with heap := h', toks := tk }) :
    wpAny (model prog w) A (collect (.ref r)) R E s := by
  have hlt := K.there _ hok
  unfold collect
  refine wpAny_bind (wpAny_runValue (codeAny_builtin entry_proto_collect' ?_))
  rw [Around.under_plainId PySem.F.plain_proto_collect _]
  show wpAny _ A.in1 (newList [] >>= fun l => again (.builtin "list.__iadd__" ⟨[l, .ref r], []⟩)) _ _ s
  refine wpAny_bind (wpAny_newObj_type ?_)
  refine wpAny_pure ⟨plainId_quiet PySem.F.plain_list_iadd _, codeAny_builtin entry_list_iadd' ?_⟩
  rw [Around.under_plainId PySem.F.plain_list_iadd _]
  have hS₁ : (s.heap.push { cls := .type "list", data := .seq ([] : List Value).toArray }).get? s.heap.objs.size = some { cls := .type "list", data := .seq #[] } := Heap.get?_push_size _ rfl
  show wpAny _ A.in1 (Builtin.List.listExtendWith (.ref s.heap.objs.size) (.ref r) (.ref s.heap.objs.size)) _ _ _
  have key := kdl_extend (A := A) (s := { s with heap := s.heap.push { cls := .type "list", data := .seq ([] : List Value).toArray } })
    (R := fun (q : Result) (s' : Shared) => ∃ (h' : Heap) (tk : Nat) (acc' : Array Value) (c' : Nat), q = .ok (.ret (.ref s.heap.objs.size)) ∧ s' = { s with heap := h', toks := tk } ∧
      (∀ b o, s.heap.get? b = some o → h'.get? b = some o) ∧ h'.get? s.heap.objs.size = some { cls := .type "list", dict := none, data := .seq acc' c', slots := #[] } ∧ ItemsOf Pv acc' n)
    K hh (K.keep _ _ hok fun b _ o e => Heap.get?_push_of_some _ e) s.heap.objs.size (Nat.ne_of_gt hlt.1) (Nat.ne_of_gt hlt.2) (.ref s.heap.objs.size) 0 hS₁
    (fun h' tk acc' c' hk hS' hacc => ⟨h', tk, acc', c', rfl, rfl, fun b o e => hk b o (Nat.ne_of_lt (Heap.lt_size e)) (Heap.get?_push_of_some _ e), hS', hacc⟩) hn
  refine wpAny_mono key (fun fin s' x => ?_) fun e s' x => ?_
  · cases fin with
    | done f =>
      obtain ⟨h', tk, acc', c', e, rfl, hk, hS', hacc⟩ := x
      cases e
      show wpAny _ A (load s.heap.objs.size >>= _) _ _ _
      refine wpAny_bind (wpAny_load hS' ?_)
      exact wpAny_pure (h h' tk acc' hk (Heap.lt_size hS') hacc)
    | again c₁ =>
      refine ⟨x.1, codeAny_mono x.2 fun q s₂ y => ?_⟩
      obtain ⟨h', tk, acc', c', rfl, rfl, hk, hS', hacc⟩ := y
      show wpAny _ A (load s.heap.objs.size >>= _) _ _ _
      refine wpAny_bind (wpAny_load hS' ?_)
      exact wpAny_pure (h h' tk acc' hk (Heap.lt_size hS') hacc)
  · obtain ⟨_, _, _, _, e', _⟩ := x
    cases e'
end
section
variable {P : Program} {w : World} {A : Around} {E : Value → Shared → Prop} {s : Shared}
theorem sorted_di {a : Addr} {xs : Du} {Q : Value → Shared → Prop} (dd : s.heap.DictOfH (tupleKind (intKind P w)) a xs) (hsm : (a == sysModules) = false) (hh : A.handled = none) (h64 : xs.length < 64)
    {d : Nat} {B : Int} (hd1 : 1 ≤ d) (hB : ∀ x ∈ xs, x.1.length = d ∧ TS.Bd B x.1)
    (hQ : ∀ h' tk p (out : Array Value) (c : Nat) (L' : List (Addr × List Int)), (∀ b o, s.heap.get? b = some o → h'.get? b = some o) → s.heap.objs.size ≤ p →
      h'.get? p = some (seqObj "list" out c) → out.toList = L'.map (fun q => Value.ref q.1) → L'.Perm (xs.map fun x => (x.2.1, x.1)) → L'.Pairwise (fun q r => TS.code B q.2 ≤ TS.code B r.2) → Q (.ref p) { s with heap := h', toks := tk }) :
    wpAny (model P w) A (call (.builtin "sorted") [.ref a]) Q E s := by
  obtain ⟨o, es, ep, ho, hex, hdat, hrows, hkeys, hnd⟩ := dd
  have hsz : es.size = xs.length := by rw [← Array.length_toList, hrows, List.length_map]
  refine Calls.call_function_entry kind_sorted plain_sorted entry_sorted (args_sorted1 _) ?_
  unfold Builtin.«sorted»
  refine wpAny_bind (m := checkCount "sorted" 1 1 _) (wpAny_pure ?_)
  refine wpAny_bind (collect_src (A := A.in1) (PySem.KdlSrc.rawDict (es := es) (ep := ep) hsm) hh ⟨o, ho, hex, hdat⟩ (by rw [sizeLine_eq]; omega) fun h1 tk acc k1 hz0 hacc => ?_)
  -- the collected values are the addresses of the keys
  have hvs : acc.toList = xs.map fun x => Value.ref x.2.1 := by
    refine List.ext_getElem? fun i => ?_
    by_cases hi : i < xs.length
    · have hia : i < acc.size := by rw [hacc.1, hsz]; exact hi
      have e1 : acc[i]? = some acc[i] := Array.getElem?_eq_getElem hia
      obtain ⟨hi2, e2⟩ := hacc.2 i acc[i] e1
      have e3 : es.toList[i]? = some es[i] := by rw [Array.getElem?_toList]; exact Array.getElem?_eq_getElem hi2
      rw [hrows, List.getElem?_map, List.getElem?_eq_getElem hi] at e3
      have e4 : entryOfKey (tupleKind (intKind P w)) xs[i] = es[i] := Option.some.inj e3
      rw [Array.getElem?_toList, e1, List.getElem?_map, List.getElem?_eq_getElem hi, e2, ← e4]
      rfl
    · rw [List.getElem?_eq_none (by rw [Array.length_toList, hacc.1, hsz]; omega), List.getElem?_eq_none (by rw [List.length_map]; omega)]
  generalize hvv : acc.toList = vs at hvs
  have hL : (xs.map fun x => (x.2.1, x.1)).map (fun q : Addr × List Int => Value.ref q.1) = vs := by
    rw [hvs, List.map_map]
    rfl
  generalize hLL : (xs.map fun x => (x.2.1, x.1)) = L at hL hQ
  have tupL : ∀ q ∈ L, IsT P w s.heap q.2 q.1 := fun q hq => by
    rw [← hLL] at hq
    obtain ⟨x, hx, rfl⟩ := List.mem_map.mp hq
    exact hkeys x hx
  have BL : ∀ q ∈ L, q.2.length = d ∧ TS.Bd B q.2 := fun q hq => by
    rw [← hLL] at hq
    obtain ⟨x, hx, rfl⟩ := List.mem_map.mp hq
    exact hB x hx
  have ndL : (L.map (·.2)).Nodup := by
    rw [← hLL, List.map_map]
    exact hnd
  have lenL : L.length = xs.length := by rw [← hLL, List.length_map]
  have ord : ∀ vs : List Value, (∀ v ∈ vs, ∃ q ∈ L, v = Value.ref q.1) → ∃ L1 : List (Addr × List Int), vs = L1.map (fun q => Value.ref q.1) ∧ ∀ q ∈ L1, q ∈ L := by
    intro vs
    induction vs with
    | nil => intro _; exact ⟨[], rfl, fun q hq => (by cases hq)⟩
    | cons v vs ih =>
      intro hv
      obtain ⟨q, hq, e⟩ := hv v List.mem_cons_self
      obtain ⟨L1, e1, hs⟩ := ih fun u hu => hv u (List.mem_cons_of_mem _ hu)
      refine ⟨q :: L1, by rw [List.map_cons, e, e1], fun r hr => ?_⟩
      rcases List.mem_cons.mp hr with z | z
      · rw [z]; exact hq
      · exact hs r z
  have one : ∀ q ∈ L, ∀ r ∈ L, q.1 = r.1 → q = r := fun q hq r hr e => by
    have a1 := tupL q hq
    have a2 := tupL r hr
    rw [e] at a1
    have e2 : q.2 = r.2 := a1.inj a2
    exact Prod.ext e e2
  have perm_of : ∀ L1 : List (Addr × List Int), (∀ q ∈ L1, q ∈ L) → (L1.map (fun q => Value.ref q.1)).Perm (L.map fun q => Value.ref q.1) → L1.Perm L := by
    intro L1 hs pm1
    have nL : L.Nodup := nodup_of_map ndL
    have nref : (L.map fun q => Value.ref q.1).Nodup := by
      refine List.pairwise_map.mpr (List.Pairwise.imp_of_mem (fun {q r} hq hr hne e => ?_) nL)
      injection e with e
      exact hne (one q hq r hr e)
    have n1 : L1.Nodup := nodup_of_map (pm1.nodup_iff.mpr nref)
    refine (List.perm_ext_iff_of_nodup n1 nL).mpr fun q => ⟨hs q, fun hq => ?_⟩
    have hm : Value.ref q.1 ∈ L1.map (fun q => Value.ref q.1) := pm1.mem_iff.mpr (List.mem_map.mpr ⟨q, hq, rfl⟩)
    obtain ⟨r, hr, e⟩ := List.mem_map.mp hm
    injection e with e
    rw [← one r (hs r hr) q hq e]
    exact hr
  have hvl : vs.length < 64 := by rw [← hL, List.length_map, lenL]; exact h64
  refine wpAny_bind (wpAny_newList ?_ (by rw [sizeLine_eq]; omega))
  have hoL : (h1.push (seqObj "list" vs.toArray 0)).get? h1.objs.size = some (seqObj "list" vs.toArray 0) := Heap.get?_push_size _ rfl
  have tk' : ∀ q ∈ L, TS.TupInts (h1.push (seqObj "list" vs.toArray 0)) (.ref q.1) q.2 := fun q hq => tupInts_of (P := P) (w := w) (isT_keep (tupL q hq) fun b u e => Heap.get?_push_of_some _ (k1 b u e))
  have x : TS.TupsOk (h1.push (seqObj "list" vs.toArray 0)) d B vs := fun v hv => by
    rw [← hL] at hv
    obtain ⟨q, hq, e⟩ := List.mem_map.mp hv
    rw [← e]
    exact ⟨q.2, tk' q hq, (BL q hq).1, (BL q hq).2⟩
  refine wpAny_bind (wpAny_holding (TS.call_sort_tups (s := { s with heap := h1.push (seqObj "list" vs.toArray 0), toks := tk }) hoL hvl hd1 x fun out a1 a2 => ?_))
  obtain ⟨c, hc⟩ := sortedHeap_at (vs := vs) (out := out) hoL
  obtain ⟨L', e', hs'⟩ := ord out.toList fun v hv => by
    have := a1.mem_iff.mp hv
    rw [← hL] at this
    obtain ⟨q, hq, e⟩ := List.mem_map.mp this
    exact ⟨q, hq, e.symm⟩
  have pL : L'.Perm L := perm_of L' hs' (by rw [← e', hL]; exact a1)
  have pw : L'.Pairwise (fun q r => TS.code B q.2 ≤ TS.code B r.2) := by
    rw [e'] at a2
    refine List.Pairwise.imp_of_mem (fun {q r} hq hr hle => ?_) (List.pairwise_map.mp a2)
    have f1 : TS.intsOf (h1.push (seqObj "list" vs.toArray 0)) (.ref q.1) = q.2 := (tk' q (hs' q hq)).ints
    have f2 : TS.intsOf (h1.push (seqObj "list" vs.toArray 0)) (.ref r.1) = r.2 := (tk' r (hs' r hr)).ints
    rw [← f1, ← f2]
    exact hle
  have hz : s.heap.objs.size ≤ h1.objs.size := Nat.le_of_lt hz0
  refine wpAny_pure ⟨_, rfl, hQ _ _ h1.objs.size out c L' (fun b u e => ?_) hz hc e' pL pw⟩
  have q := k1 b u e
  have hlt := Heap.lt_size q
  show (sortedHeap (h1.push (seqObj "list" vs.toArray 0)) h1.objs.size vs out).get? b = some u
  rw [sortedHeap_old (Nat.ne_of_lt hlt) (by rw [size_push']; exact Nat.lt_succ_of_lt hlt)]
  exact Heap.get?_push_of_some _ q
end
section
variable {X : Cx}
def rSortDi (K : PySem.W.Frag) (d : Nat) (B : Int) : List V → Hp → VK → Prop := fun vs H Q => ∃ (a : Addr) (kvs : Dv), vs = [V.ref a] ∧ H a = some (DiO a kvs) ∧ KI H kvs ∧ kvs.length < 64 ∧ (∀ x ∈ kvs, x.1.length = d ∧ TS.Bd B x.1) ∧
  ∀ (L' : List (Addr × List Int)) (p : Addr), L'.Perm (kvs.map fun x => (x.2.1, x.1)) → L'.Pairwise (fun q r => TS.code B q.2 ≤ TS.code B r.2) → H p = none → Q (.ref p) (upd H p (.lst (L'.map fun q => V.ref q.1)))
theorem pr_keys {kvs : Dv} {xs : Du} (r : PRv kvs xs) : (xs.map fun x => (x.2.1, x.1)) = kvs.map fun x => (x.2.1, x.1) := by
  induction r with
  | nil => rfl
  | @cons p q ps qs h t ih =>
    rw [List.map_cons, List.map_cons, ih, h.1, h.2.1]
theorem cr_sortDi {d : Nat} {B : Int} (hd1 : 1 ≤ d) (hc : X.calm = true) : CallR X (.builtin "sorted") (rSortDi X.K d B) := by
  intro pins s σ H vs us Q I r h
  obtain ⟨a, kvs, rfl, e, ki, h64, hB, q⟩ := h
  rw [Vals.ref1 r]
  obtain ⟨z, hd, xs, rel, dd⟩ := di_get I.hok e ki
  have hlen : xs.length = kvs.length := (Paired.length rel).symm
  have ek := pr_keys rel
  refine sorted_di (d := d) (B := B) dd hd (I.ok.hd hc) (by omega) hd1 (fun x hx => ?_) fun h' tk p out c L' k hp hg hout pm pw => ?_
  · obtain ⟨y, hy, e1, _⟩ := pr_mem rel x hx
    rw [← e1]
    exact hB y hy
  · have pl := pm.length_eq
    rw [List.length_map] at pl
    have hl : (L'.map fun q => V.ref q.1).length ≤ sizeLine := by rw [List.length_map, sizeLine_eq]; omega
    have hn : H p = none := I.hok.fresh hp
    have hv : Vals (L'.map fun q => V.ref q.1) out.toList := by rw [hout]; exact vals_of_refs L'
    exact ⟨.ref p, upd H p (.lst (L'.map fun q => V.ref q.1)), I.laid (t' := tk) k hp ⟨hl, out.toList, c, hv, hg⟩, rfl, q L' p (by rw [← ek]; exact pm) pw hn⟩
end
end Ag


/-! ### slots that own a thing, in general -/
namespace Ag
open PySem L2
theorem RSl.mono {M M' : Addr → Prop} {H H' : Hp} {s : Sl} {o : Option V} (h : RSl M H s o) (k : ∀ a ∈ adr s o, ∀ u, H a = some u → H' a = some u) (f : Same (hid M H) (hid M' H')) : RSl M' H' s o := by
  cases s with
  | no => trivial
  | fz d =>
    obtain ⟨x, e1, w⟩ := h
    exact ⟨x, e1, w.up f⟩
  | ow l =>
    obtain ⟨p, vs, rfl, e2, w⟩ := h
    exact ⟨p, vs, rfl, k _ (by simp [adr]) _ e2, w.up f⟩
  | dr p q ns c => exact ⟨h.1, k _ (by simp [adr]) _ h.2.1, k _ (by simp [adr]) _ h.2.2⟩
  | ob _ ko =>
    obtain ⟨yo, eo, wo⟩ := h
    exact ⟨yo, eo, f _ _ wo⟩
  | gx as gd => exact RGd.mono h (fun a ha u e => k a (by simpa [adr] using ha) u e) f
section
variable {W : WT} {B : Hp} {N : Addr → Prop} {env : En} {σ : L2.St} {H H' : Hp}
/-- slot i gets a new thing of its own -/
theorem StS.setg {H0 : Hp} (h : StS B N env σ H0) (s : Same H0 H) {i : Nat} {s0 : Sl} {o0 : Option V} (hi : i < env.length) (nd : ∀ p q ns c, s0 ≠ .dr p q ns c) (fresh : ∀ a ∈ adr s0 o0, H0 a = none ∧ ∃ o, H a = some o)
    (r : ∀ M : Addr → Prop, (∀ a, M a → Mo N env σ a ∨ a ∈ adr s0 o0) → RSl M H s0 o0) : StS B N (env.set i s0) (σ.set i o0) H ∧ Same (fr N env σ H0) (fr N (env.set i s0) (σ.set i o0) H) := by
  have hiσ : i < σ.length := by
    rw [h.len]
    exact hi
  have get : ∀ (j : Nat) (t : Sl) (o : Option V), (env.set i s0)[j]? = some t → (σ.set i o0)[j]? = some o → (j = i ∧ t = s0 ∧ o = o0) ∨ (j ≠ i ∧ env[j]? = some t ∧ σ[j]? = some o) := fun j t o h1 h2 => by
    rcases get_set h1 with ⟨e1, f1⟩ | ⟨e1, f1⟩
    · rcases get_set h2 with ⟨e2, f2⟩ | ⟨e2, f2⟩
      · exact .inl ⟨e1, f1, f2⟩
      · exact absurd e1 e2
    · rcases get_set h2 with ⟨e2, f2⟩ | ⟨e2, f2⟩
      · exact absurd e2 e1
      · exact .inr ⟨e1, f1, f2⟩
  have hM : ∀ a, Mo N (env.set i s0) (σ.set i o0) a → Mo N env σ a ∨ a ∈ adr s0 o0 := fun a m => by
    rcases m with m | ⟨j, t, o, h1, h2, h3⟩
    · exact .inl (.inl m)
    · rcases get j t o h1 h2 with ⟨_, rfl, rfl⟩ | ⟨_, g1, g2⟩
      · exact .inr h3
      · exact .inl (.inr ⟨j, t, o, g1, g2, h3⟩)
  have nM : ∀ p ∈ adr s0 o0, ¬ Mo N env σ p := fun p hp => h.rd.free (fresh p hp).1
  have nF : ∀ a o, H0 a = some o → a ∉ adr s0 o0 := fun a o e z => by
    rw [(fresh a z).1] at e
    cases e
  have hF : Same (fr N env σ H0) (fr N (env.set i s0) (σ.set i o0) H) := same_hid s fun a o e m => by
    rcases hM a m with z | z
    · exact z
    · exact absurd z (nF a o e)
  refine ⟨⟨⟨fun a m => ?_, fun j t hs => ?_⟩, by rw [List.length_set, List.length_set]; exact h.len, h.ext.trans s, fun j k t u o w a h1 h2 h3 h4 h5 h6 => ?_, fun a m => ?_, fun j p q ns c e => ?_⟩, hF⟩
  · rcases hM a m with z | z
    · exact (h.rd.al a z).imp fun o q => s _ _ q
    · exact (fresh a z).2
  · have hj : j < env.length := by
      have := (List.getElem?_eq_some_iff.mp hs).1
      rwa [List.length_set] at this
    have hj' : j < (σ.set i o0).length := by
      rw [List.length_set, h.len]
      exact hj
    refine ⟨_, List.getElem?_eq_getElem hj', ?_⟩
    rcases get j t _ hs (List.getElem?_eq_getElem hj') with ⟨_, rfl, e⟩ | ⟨_, h1, h2⟩
    · rw [e]
      exact r _ hM
    · obtain ⟨o, ho, q⟩ := h.rd.sl j t h1
      rw [h2] at ho
      cases ho
      exact q.mono (fun a _ u e => s _ _ e) hF
  · have no : ∀ (k : Nat) (u : Sl) (w : Option V), env[k]? = some u → σ[k]? = some w → a ∈ adr s0 o0 → a ∈ adr u w → False := fun k u w g1 g2 hp g3 => nM a hp (.inr ⟨k, u, w, g1, g2, g3⟩)
    rcases get j t o h1 h2 with ⟨e1, rfl, rfl⟩ | ⟨_, g1, g2⟩
    · rcases get k u w h3 h4 with ⟨e2, rfl, rfl⟩ | ⟨_, g3, g4⟩
      · rw [e1, e2]
      · exact (no k u w g3 g4 h5 h6).elim
    · rcases get k u w h3 h4 with ⟨_, rfl, rfl⟩ | ⟨_, g3, g4⟩
      · exact (no j t o g1 g2 h6 h5).elim
      · exact h.dis j k t u o w a g1 g2 g3 g4 h5 h6
  · rcases m with ⟨j, t, o, h1, h2, h3⟩
    rcases get j t o h1 h2 with ⟨_, rfl, rfl⟩ | ⟨_, g1, g2⟩
    · exact ⟨fun z => nM a h3 (.inl z), h.ext.free (fresh a h3).1⟩
    · exact h.new a ⟨j, t, o, g1, g2, h3⟩
  · rcases get_set e with ⟨_, f⟩ | ⟨_, f⟩
    · exact absurd f.symm (nd p q ns c)
    · exact h.drs j p q ns c f
/-- the thing of slot i is written, where it lies -/
theorem StS.updg (h : StS B N env σ H) {i : Nat} {s s0 : Sl} {o1 : Option V} (hi : env[i]? = some s) (hs : σ[i]? = some o1) (ea : adr s0 o1 = adr s o1) (nd : ∀ p q ns c, s0 ≠ .dr p q ns c)
    (el : ∀ a u, a ∉ adr s o1 → H a = some u → H' a = some u) (al : ∀ a ∈ adr s o1, ∃ u, H' a = some u)
    (r : ∀ M : Addr → Prop, (∀ a, M a → Mo N env σ a) → (∀ a, Mo N env σ a → M a) → Same (fr N env σ H) (hid M H') → RSl M H' s0 o1) : StS B N (env.set i s0) σ H' ∧ Same (fr N env σ H) (fr N (env.set i s0) σ H') := by
  have hl := (List.getElem?_eq_some_iff.mp hi).1
  have own : ∀ a ∈ adr s o1, Own env σ a := fun a ha => ⟨i, _, _, hi, hs, ha⟩
  have get : ∀ (j : Nat) (t : Sl), (env.set i s0)[j]? = some t → (j = i ∧ t = s0) ∨ (j ≠ i ∧ env[j]? = some t) := fun j t h1 => get_set h1
  have ad : ∀ (j : Nat) (t : Sl) (o : Option V) (a : Addr), (env.set i s0)[j]? = some t → σ[j]? = some o → a ∈ adr t o → ∃ u, env[j]? = some u ∧ a ∈ adr u o := fun j t o a h1 h2 h3 => by
    rcases get j t h1 with ⟨rfl, rfl⟩ | ⟨_, g⟩
    · refine ⟨_, hi, ?_⟩
      rw [hs] at h2
      cases h2
      rw [← ea]
      exact h3
    · exact ⟨t, g, h3⟩
  have hM : ∀ a, Mo N (env.set i s0) σ a → Mo N env σ a := fun a m => by
    rcases m with m | ⟨j, t, o, h1, h2, h3⟩
    · exact .inl m
    · obtain ⟨u, g1, g2⟩ := ad j t o a h1 h2 h3
      exact .inr ⟨j, u, o, g1, h2, g2⟩
  have hM2 : ∀ a, Mo N env σ a → Mo N (env.set i s0) σ a := fun a m => by
    rcases m with m | ⟨j, t, o, h1, h2, h3⟩
    · exact .inl m
    · by_cases e : j = i
      · subst e
        rw [hi] at h1
        cases h1
        rw [hs] at h2
        cases h2
        exact .inr ⟨j, s0, _, List.getElem?_set_self hl, hs, by rw [ea]; exact h3⟩
      · exact .inr ⟨j, t, o, by rw [List.getElem?_set_ne (Ne.symm e)]; exact h1, h2, h3⟩
  have hF : Same (fr N env σ H) (fr N (env.set i s0) σ H') := fun a o e => by
    unfold fr at e ⊢
    rw [hid_some] at e ⊢
    exact ⟨fun m => e.1 (hM a m), el a o (fun z => e.1 (.inr (own a z))) e.2⟩
  have oth : ∀ (j : Nat) (t : Sl) (o : Option V) (a : Addr), j ≠ i → env[j]? = some t → σ[j]? = some o → a ∈ adr t o → a ∉ adr s o1 := fun j t o a hj g1 g2 g3 z =>
    hj (h.dis j i t _ o _ a g1 g2 hi hs g3 z)
  refine ⟨⟨⟨fun a m => ?_, fun j t ht => ?_⟩, by rw [List.length_set]; exact h.len, fun a o e => ?_, fun j k t u o w a h1 h2 h3 h4 h5 h6 => ?_, fun a m => ?_, fun j p q ns c e => ?_⟩, hF⟩
  · obtain ⟨o, q⟩ := h.rd.al a (hM a m)
    by_cases e : a ∈ adr s o1
    · exact al a e
    · exact ⟨o, el a o e q⟩
  · rcases get j t ht with ⟨rfl, rfl⟩ | ⟨hj, g⟩
    · exact ⟨_, hs, r _ hM hM2 hF⟩
    · obtain ⟨o, ho, q⟩ := h.rd.sl j t g
      exact ⟨o, ho, q.mono (fun a ha u e => el a u (oth j t o a hj g ho ha) e) hF⟩
  · refine el a o (fun z => ?_) (h.ext a o e)
    rw [(h.new a (own a z)).2] at e
    cases e
  · obtain ⟨s', g1, g2⟩ := ad j t o a h1 h2 h5
    obtain ⟨t', g3, g4⟩ := ad k u w a h3 h4 h6
    exact h.dis j k s' t' o w a g1 h2 g3 h4 g2 g4
  · obtain ⟨j, t, o, h1, h2, h3⟩ := m
    obtain ⟨u, g1, g2⟩ := ad j t o a h1 h2 h3
    exact h.new a ⟨j, u, o, g1, h2, g2⟩
  · rcases get_set e with ⟨_, f⟩ | ⟨_, f⟩
    · exact absurd f.symm (nd p q ns c)
    · exact h.drs j p q ns c f
end
end Ag


/-! ### dicts whose keys are tuples of ints: the value layer -/
namespace Ag
open PySem L2
def dAt {α : Type} (kvs : List (List Int × α)) (k : List Int) : Option α := (kvs.find? fun x => decide (x.1 = k)).map (·.2)
def dSt {α : Type} (kvs : List (List Int × α)) (k : List Int) (d : α) : List (List Int × α) :=
  if (dAt kvs k).isSome = true then kvs.map (fun x => if x.1 = k then (x.1, d) else x) else kvs ++ [(k, d)]
theorem dAt_pos {α : Type} {p : List Int × α} {r : List (List Int × α)} {k : List Int} (e : p.1 = k) : dAt (p :: r) k = some p.2 := by simp [dAt, List.find?_cons, e]
theorem dAt_neg {α : Type} {p : List Int × α} {r : List (List Int × α)} {k : List Int} (e : ¬ p.1 = k) : dAt (p :: r) k = dAt r k := by simp [dAt, List.find?_cons, e]
abbrev RDd (F : Hp) : List (List Int × D) → Dv → Prop := Paired fun (x : List Int × D) (y : List Int × Addr × V) => x.1 = y.1 ∧ F y.2.1 = some (.tup (x.1.map V.int)) ∧ Rep F x.2 y.2.2
section
variable {F H : Hp} {M : Addr → Prop} {kvs : List (List Int × D)} {kvv : Dv} {k : List Int} {d : D} {b : Addr} {v : V}
theorem rd_at (r : RDd F kvs kvv) (k : List Int) : (∀ d, dAt kvs k = some d → ∃ b v, atG kvv k = some (b, v) ∧ Rep F d v) ∧ (dAt kvs k = none → atG kvv k = none) := by
  induction r with
  | nil => exact ⟨fun _ h => (by cases h), fun _ => rfl⟩
  | @cons p q ps qs h t ih =>
    obtain ⟨h1, h2, h3⟩ := h
    by_cases e : p.1 = k
    · rw [dAt_pos e, atG_pos (h1.symm.trans e)]
      refine ⟨fun d z => ?_, fun z => by cases z⟩
      cases z
      exact ⟨q.2.1, q.2.2, rfl, h3⟩
    · rw [dAt_neg e, atG_neg fun z => e (h1.trans z)]
      exact ih
theorem rd_some (r : RDd F kvs kvv) (k : List Int) : (dAt kvs k).isSome = (atG kvv k).isSome := by
  obtain ⟨h1, h2⟩ := rd_at r k
  cases e : dAt kvs k with
  | none => rw [h2 e]; rfl
  | some z =>
    obtain ⟨b, v, h, _⟩ := h1 z e
    rw [h]
    rfl
theorem rd_st (r : RDd F kvs kvv) (hb : F b = some (.tup (k.map V.int))) (rv : Rep F d v) : RDd F (dSt kvs k d) (stG kvv k b v) := by
  unfold dSt stG
  rw [rd_some r k]
  by_cases q : (atG kvv k).isSome = true
  · rw [if_pos q, if_pos q]
    clear q
    induction r with
    | nil => exact .nil
    | @cons p q ps qs h t ih =>
      rw [List.map_cons, List.map_cons]
      refine .cons ?_ ih
      obtain ⟨h1, h2, h3⟩ := h
      by_cases e : p.1 = k
      · rw [if_pos e, if_pos (h1.symm.trans e)]
        exact ⟨h1, h2, rv⟩
      · rw [if_neg e, if_neg fun z => e (h1.trans z)]
        exact ⟨h1, h2, h3⟩
  · rw [if_neg q, if_neg q]
    exact Paired.snoc r ⟨rfl, hb, rv⟩
theorem rd_ki (r : RDd (hid M H) kvs kvv) : KI H kvv := by
  induction r with
  | nil => intro x h; cases h
  | @cons p q ps qs h t ih =>
    intro x hx
    rcases List.mem_cons.mp hx with e | hx
    · subst e
      rw [← h.1]
      exact hid_same _ _ h.2.1
    · exact ih x hx
theorem rd_keys (r : RDd F kvs kvv) : kvs.map (·.1) = kvv.map (·.1) := by
  induction r with
  | nil => rfl
  | @cons p q ps qs h t ih => rw [List.map_cons, List.map_cons, ih, h.1]
theorem rd_len (r : RDd F kvs kvv) : kvs.length = kvv.length := Paired.length r
def keyD : D → Option (List Int)
  | .tuple l => intsOf l
  | _ => none
theorem keyD_some {y : V} (h : keyD d = some k) (r : Rep F d y) : ∃ b, y = .ref b ∧ F b = some (.tup (k.map V.int)) := by
  cases d with
  | tuple l =>
    have hl := intsOf_some (show intsOf l = some k from h)
    obtain ⟨b, vs, rfl, e, rl⟩ := rep_tup.mp r
    rw [hl] at rl
    rw [repL_ints.mp rl] at e
    exact ⟨b, rfl, e⟩
  | _ => cases h
end
theorem keyD_ints (ks : List Int) : keyD (.tuple (ks.map .int)) = some ks := intsOf_map ks
/-! x = {} -/
def sDiNew (i : Nat) : SF := fun env => if i < env.length then .nx (env.set i (.gx [] (.di []))) else .stk
def eDiGet (i : Nat) (f g : EF) : EF := fun env => match env[i]? with
  | some (.gx _ (.di kvs)) => f env >>= fun e => g env >>= fun z => ofO (keyD e) >>= fun k => .val ((dAt kvs k).getD z)
  | _ => .stk
def eDiIx (i : Nat) (f : EF) : EF := fun env => match env[i]? with
  | some (.gx _ (.di kvs)) => f env >>= fun e => ofO (keyD e) >>= fun k => ofO (dAt kvs k)
  | _ => .stk
def sDiPut (i : Nat) (g f : EF) : SF := fun env => (f env).so fun d => match env[i]? with
  | some (.gx as (.di kvs)) => (g env).so fun e => (ofO (keyD e)).so fun k => if kvs.length < 100000 then .nx (env.set i (.gx as (.di (dSt kvs k d)))) else .stk
  | _ => .stk
def pairKs : List (List Int) → Option (List (Int × Int))
  | [] => some []
  | [x, y] :: l => (pairKs l).map ((x, y) :: ·)
  | _ => none
theorem pairKs_some : ∀ {ks : List (List Int)} {ps : List (Int × Int)}, pairKs ks = some ps → ks = ps.map fun p => [p.1, p.2]
  | [], ps, h => by
    cases h
    rfl
  | [x, y] :: l, ps, h => by
    rw [pairKs] at h
    cases e : pairKs l with
    | none =>
      rw [e] at h
      cases h
    | some r =>
      rw [e] at h
      cases h
      rw [pairKs_some e]
      rfl
  | [] :: _, _, h => by simp [pairKs] at h
  | [_] :: _, _, h => by simp [pairKs] at h
  | (_ :: _ :: _ :: _) :: _, _, h => by simp [pairKs] at h
theorem pairKs_map : ∀ ps : List (Int × Int), pairKs (ps.map fun p => [p.1, p.2]) = some ps
  | [] => rfl
  | p :: ps => by
    rw [List.map_cons, pairKs, pairKs_map ps]
    rfl
def eDiSort (i : Nat) : En → Rs (List D) := fun env => match env[i]? with
  | some (.gx _ (.di kvs)) => ofO (pairKs (kvs.map (·.1))) >>= fun ps => if ps.length < 64 ∧ okP ps = true then .val ((psort ps).map PI2) else .stk
  | _ => .stk
section
variable {K : PySem.W.Frag} {W : WT} {X : Cx} {i k : Nat} {x : Str} {a b e f : Expr} {ta tb te tf : TE} {fa fb : EF} {pos p spos apos cpos dp pos' : Pos}
theorem s_dinew (hN : X.N.Nodup) (hi : X.N[i]? = some x) (hx : Loc X.env.scope x := by first | exact Or.inl rfl | exact Or.inr rfl) (hs : swapsWith (.Dict [] [] dp) (some (.Name x pos')) pos.line X.env = pure false := by rfl)
    (hf : X.fn x = true ∨ X.env.scope.names.lookup x = some .local := by first | exact .inl rfl | exact .inr rfl | assumption) : PSv K W X (.Assign [.Name x pos'] (.Dict [] [] dp) pos) (tAsg tDiNew (gName i)) (sDiNew i) := by
  refine ⟨ps_set hN hi hx pe_dinew hs hf, fun B N env σ H D s q p hp => ?_⟩
  unfold sDiNew at q
  split at q
  · rename_i hl
    obtain ⟨g1, g2⟩ := s.setg (H := upd H p (DiO p [])) (same_new hp) (i := i) (s0 := .gx [] (.di [])) (o0 := some (.ref p)) hl (fun _ _ _ _ => nofun) (fun a ha => by
      have ea : a = p := by simpa [adr, gadr] using ha
      rw [ea]
      exact ⟨hp, _, upd_same⟩) fun M hM => ⟨p, [], rfl, rfl, upd_same, .nil⟩
    exact q _ _ g1 g2
  · exact q.elim
theorem v_diget (hr : Room k X.A) (hN : X.N[i]? = some x) (he : PEv K W X e te fa) (hf : PEv K W X f tf fb) (m : M2 X (.Name x p) "get" apos e f cpos := by exact ⟨rfl, rfl, rfl, rfl⟩)
    (hv : Vis X.env.scope x := by first | exact Or.inl rfl | exact Or.inr (Or.inl rfl) | exact Or.inr (Or.inr rfl)) (hd : (x == ("__debug__" : Str)) = false := by decide) (hcd : (x == ("__classdict__" : Str)) = false := by decide) :
    PEv K W X (.Call (.Attribute (.Name x p) "get" apos) [e, f] [] cpos) (tDiGet (tVar i) te tf) (eDiGet i fa fb) := by
  have hu : X.A.units + 1 < cLine := by have := room64 hr; omega
  refine ⟨pe_diget hu (pe_var hN hv hd hcd) he.pe hf.pe m, fun M env σ H rs Q q => ?_⟩
  unfold eDiGet at q
  split at q
  · rename_i as kvs hs
    obtain ⟨o, ho, p0, kvv, _, rfl, e1, _⟩ := rs.sl i _ hs
    refine ⟨_, ho, p0, kvv, rfl, e1, he.ev M env σ H rs _ (q.step fun d _ y H1 s1 r1 q1 => hf.ev M env σ H1 (rs.up s1) _ (q1.step fun z _ w H2 s2 r2 q2 => ?_))⟩
    have rs2 := (rs.up s1).up s2
    obtain ⟨o', ho', p1, kvv1, _, eo, e3, rd⟩ := rs2.sl i _ hs
    rw [ho] at ho'
    cases ho'
    cases eo
    cases hk : keyD d with
    | none =>
      rw [hk] at q2
      exact q2.elim
    | some ks =>
      rw [hk] at q2
      obtain ⟨b0, rfl, eb⟩ := keyD_some hk (r1.up (hid_grow s2))
      refine ⟨b0, kvv1, ks, rfl, e3, rd_ki rd, hid_same _ _ eb, ?_⟩
      obtain ⟨a1, a2⟩ := rd_at rd ks
      refine q2 _ H2 (Same.refl _) ?_
      cases hd : dAt kvs ks with
      | none =>
        rw [a2 hd]
        exact r2
      | some d0 =>
        obtain ⟨b1, v1, ea, rv⟩ := a1 d0 hd
        rw [ea]
        exact rv
  · exact q.elim
theorem v_diix (hr : Room k X.A) (hN : X.N[i]? = some x) (hb : PEv K W X b tb fb) (hs : PlainIx b := by exact fun _ _ => rfl)
    (hv : Vis X.env.scope x := by first | exact Or.inl rfl | exact Or.inr (Or.inl rfl) | exact Or.inr (Or.inr rfl)) (hd : (x == ("__debug__" : Str)) = false := by decide) (hcd : (x == ("__classdict__" : Str)) = false := by decide) :
    PEv K W X (.Subscript (.Name x p) b pos) (tOp rIxDi (tVar i) tb) (eDiIx i fb) := by
  have hu : X.A.units + 1 < cLine := by have := room64 hr; omega
  refine ⟨pe_ix (ix_di hu) (pe_var hN hv hd hcd) hb.pe hs, fun M env σ H rs Q q => ?_⟩
  unfold eDiIx at q
  split at q
  · rename_i as kvs hs
    obtain ⟨o, ho, p0, kvv, _, rfl, e1, _⟩ := rs.sl i _ hs
    refine ⟨_, ho, hb.ev M env σ H rs _ (q.step fun d _ y H1 s1 r1 q1 => ?_)⟩
    obtain ⟨o', ho', p1, kvv1, _, eo, e3, rd⟩ := (rs.up s1).sl i _ hs
    rw [ho] at ho'
    cases ho'
    cases eo
    cases hk : keyD d with
    | none =>
      rw [hk] at q1
      exact q1.elim
    | some ks =>
      rw [hk] at q1
      obtain ⟨b0, rfl, eb⟩ := keyD_some hk r1
      obtain ⟨a1, a2⟩ := rd_at rd ks
      cases hd : dAt kvs ks with
      | none =>
        have q1 : Pst H1 (fun c H' => W c σ H') (fun d v H' => Rep (hid M H') d v) Q (ofO (dAt kvs ks)) := q1
        rw [hd] at q1
        exact q1.elim
      | some d0 =>
        have q1 : Pst H1 (fun c H' => W c σ H') (fun d v H' => Rep (hid M H') d v) Q (ofO (dAt kvs ks)) := q1
        rw [hd] at q1
        obtain ⟨b1, v1, ea, rv⟩ := a1 d0 hd
        exact ⟨p0, b0, kvv1, ks, b1, v1, rfl, rfl, e3, rd_ki rd, hid_same _ _ eb, ea, q1 _ H1 (Same.refl _) rv⟩
  · exact q.elim
theorem s_diput (hr : Room k X.A) (hN : X.N[i]? = some x) (hb : PEv K W X b tb fb) (ha : PEv K W X a ta fa) (hv : Vis X.env.scope x := by first | exact Or.inl rfl | exact Or.inr (Or.inl rfl) | exact Or.inr (Or.inr rfl)) (hd : (x == ("__debug__" : Str)) = false := by decide) (hcd : (x == ("__classdict__" : Str)) = false := by decide)
    (hsub : ∀ v, assign (.Subscript (.Name x p) b spos) X.env v = (do
      let ov ← holding [v] (eval (.Name x p) X.env)
      let iv ← holding [v, ov] (eval b X.env)
      standAt spos
      holding [v, ov, iv] (setItem ov iv v)
      release [v, ov, iv] []) := by intro _; rfl)
    (hs : swapsWithSole [.Subscript (.Name x p) b spos] a pos.line X.env = pure false := by rfl) (hw : swappedStores [.Subscript (.Name x p) b spos] a X.env = pure none := by rfl)
    (h1 : (assignEach [.Subscript (.Name x p) b spos] X.env).map (·.2) = [assign (.Subscript (.Name x p) b spos) X.env] := by rfl) :
    PSv K W X (.Assign [.Subscript (.Name x p) b spos] a pos) (tAsg ta (gSub (tVar i) tb rSetDi)) (sDiPut i fb fa) := by
  have hu : X.A.units + 1 < cLine := by have := room64 hr; omega
  refine ⟨ps_asg ha.pe (pg_sub (pe_var hN hv hd hcd) hb.pe (set_di hu) hsub) hs hw h1, fun B N env σ H D s q => ?_⟩
  refine ha.ev _ env σ H s.rd _ (Rs.so_p s q fun d _ v H1 e1 r1 s1 q1 => ?_)
  split at q1
  · rename_i as kvs hl
    obtain ⟨o, ho, p0, kvv0, _, rfl, _⟩ := s1.rd.sl i _ hl
    refine ⟨_, ho, hb.ev _ env σ H1 s1.rd _ (Rs.so_p s1 q1 fun e _ y H2 e2 r2 s2 q2 => ?_)⟩
    obtain ⟨o', ho', p1, kvv, ea, eo, e3, rd⟩ := s2.rd.sl i _ hl
    rw [ho] at ho'
    cases ho'
    cases eo
    subst ea
    cases hk : keyD e with
    | none =>
      rw [hk] at q2
      exact q2.elim
    | some ks =>
      rw [hk] at q2
      obtain ⟨b0, rfl, eb⟩ := keyD_some hk r2
      have q2 : SPst W B N (fr N env σ H2) D (if kvs.length < 100000 then .nx (env.set i (.gx [] (.di (dSt kvs ks d)))) else .stk) := q2
      split at q2
      · rename_i hlen
        have rv : Rep (fr N env σ H2) d v := r1.up (fr_up e2)
        have el := rd_len rd
        refine ⟨p0, b0, kvv, ks, rfl, rfl, e3, rd_ki rd, hid_same _ _ eb, by rw [sizeLine_eq]; omega, ?_⟩
        obtain ⟨g1, g2⟩ := s2.updg (H' := L2.upd H2 p0 (DiO p0 (stG kvv ks b0 v))) (s0 := .gx [] (.di (dSt kvs ks d))) hl ho rfl (fun _ _ _ _ => nofun) (fun a u na ea => by
          rw [upd_ne (fun z => na (by rw [z]; simp [adr, gadr]))]
          exact ea) (fun a ha => by
          have ea : a = p0 := by simpa [adr, gadr] using ha
          rw [ea]
          exact ⟨_, upd_same⟩) fun M _ _ sm => ⟨p0, _, rfl, rfl, upd_same, rd_st (Paired.mapP rd fun x y z => ⟨z.1, sm _ _ z.2.1, z.2.2.up sm⟩) (sm _ _ eb) (rv.up sm)⟩
        exact q2 _ _ g1 g2
      · exact q2.elim
  · exact q1.elim
theorem repL_keys {F : Hp} : ∀ L : List (Addr × List Int), (∀ q ∈ L, F q.1 = some (.tup (q.2.map V.int))) → RepL F (L.map fun q => PyData.tuple (q.2.map .int)) (L.map fun q => V.ref q.1)
  | [], _ => repL_nil
  | q :: L, h => by
    rw [List.map_cons, List.map_cons]
    exact repL_cons (rep_tup.mpr ⟨q.1, _, rfl, h q List.mem_cons_self, repL_ints.mpr rfl⟩) (repL_keys L fun r hr => h r (List.mem_cons_of_mem _ hr))
theorem map_perm_k : ∀ {m : List (List Int)} {ps : List (Int × Int)}, m.Perm (ps.map fun p => [p.1, p.2]) → ∃ qs : List (Int × Int), m = qs.map (fun p => [p.1, p.2]) ∧ qs.Perm ps := by
  intro m ps h
  have hm : ∀ d ∈ m, ∃ p : Int × Int, d = [p.1, p.2] := fun d hd => by
    obtain ⟨p, _, e⟩ := List.mem_map.mp (h.mem_iff.mp hd)
    exact ⟨p, e.symm⟩
  have ex : ∀ m : List (List Int), (∀ d ∈ m, ∃ p : Int × Int, d = [p.1, p.2]) → ∃ qs : List (Int × Int), m = qs.map fun p => [p.1, p.2] := by
    intro m
    induction m with
    | nil => intro _; exact ⟨[], rfl⟩
    | cons d m ih =>
      intro h
      obtain ⟨p, hp⟩ := h d List.mem_cons_self
      obtain ⟨qs, e⟩ := ih fun x hx => h x (List.mem_cons_of_mem _ hx)
      exact ⟨p :: qs, by rw [List.map_cons, hp, e]⟩
  obtain ⟨qs, rfl⟩ := ex m hm
  refine ⟨qs, rfl, ?_⟩
  have := h.map fun l : List Int => (l.getD 0 0, l.getD 1 0)
  rw [List.map_map, List.map_map] at this
  have e : ∀ l : List (Int × Int), l.map ((fun l : List Int => (l.getD 0 0, l.getD 1 0)) ∘ fun p => [p.1, p.2]) = l := fun l => by
    conv => rhs; rw [← List.map_id l]
    exact List.map_congr_left fun p _ => rfl
  rw [e, e] at this
  exact this
theorem o_disort (hN : X.N[i]? = some x) (hm : X.mg "sorted" = none) (hc : X.calm = true := by rfl) (hK : X.K = K := by rfl) (hv : Vis X.env.scope x := by first | exact Or.inl rfl | exact Or.inr (Or.inl rfl) | exact Or.inr (Or.inr rfl)) (hd : (x == ("__debug__" : Str)) = false := by decide) (hcd : (x == ("__classdict__" : Str)) = false := by decide)
    (hg : Gl X "sorted" := by rfl) (he : starEach (Expr.Name x p :: []) X.env = (false, eval (.Name x p) X.env) :: starEach [] X.env := by rfl) (hpl : (backTo pos (starEach [] X.env)).any (·.1) = false := by rfl) :
    PEO K W X (.Call (.Name "sorted" spos) [.Name x p] [] pos) (tCB (rSortDi K 2 1000) (tCons (tVar i) tNil)) (eDiSort i) := by
  subst hK
  refine ⟨pe_callB (cr_sortDi (by decide) hc) hg hm boot_sorted' (pa_cons (pe_var hN hv hd hcd) pa_nil he) (by decide) (by decide) he hpl, fun M env σ H rs Q q => ?_⟩
  unfold eDiSort at q
  split at q
  · rename_i as kvs hs
    obtain ⟨o, ho, p0, kvv, _, rfl, e1, rd⟩ := rs.sl i _ hs
    cases hps : pairKs (kvs.map (·.1)) with
    | none =>
      rw [hps] at q
      exact q.elim
    | some ps =>
      rw [hps] at q
      have q : Pst H (fun c H' => W c σ H') (fun l v H' => RO M H l v H') Q (if ps.length < 64 ∧ okP ps = true then .val ((psort ps).map PI2) else .stk) := q
      split at q
      · rename_i hn
        have hk := pairKs_some hps
        have ekv : kvs.map (·.1) = kvv.map (·.1) := rd_keys rd
        have hb : ∀ p ∈ ps, (0 ≤ p.1 ∧ p.1 < 1000) ∧ (0 ≤ p.2 ∧ p.2 < 1000) := fun p hp => by
          have := List.all_eq_true.mp hn.2 p hp
          simp only [Bool.and_eq_true, decide_eq_true_eq] at this
          omega
        have hlen : kvv.length = ps.length := by
          have := congrArg List.length (ekv.symm.trans hk)
          simpa using this
        refine ⟨_, ho, p0, kvv, rfl, e1, rd_ki rd, by omega, fun x hx => ?_, fun L' z pm pw hz => ?_⟩
        · have : x.1 ∈ ps.map fun p => [p.1, p.2] := by
            rw [← hk, ekv]
            exact List.mem_map.mpr ⟨x, hx, rfl⟩
          obtain ⟨p, hp, e⟩ := List.mem_map.mp this
          rw [← e]
          refine ⟨rfl, fun m hm => ?_⟩
          have := hb p hp
          rcases List.mem_cons.mp hm with rfl | hm
          · exact this.1
          · rw [List.mem_singleton.mp hm]
            exact this.2
        · have pm2 : (L'.map (·.2)).Perm (ps.map fun p => [p.1, p.2]) := by
            have := pm.map (·.2)
            rw [List.map_map] at this
            rw [← hk, ekv]
            exact this
          obtain ⟨qs, eq, pq⟩ := map_perm_k pm2
          have hs2 : qs.Pairwise leP2 := by
            have pw2 : (L'.map (·.2)).Pairwise (fun a b => TS.code 1000 a ≤ TS.code 1000 b) := List.pairwise_map.mpr pw
            rw [eq, List.pairwise_map] at pw2
            refine List.Pairwise.imp_of_mem (fun {a b} ha hb2 hle => ?_) pw2
            have ba := hb _ (pq.mem_iff.mp ha)
            have bb := hb _ (pq.mem_iff.mp hb2)
            rw [leP2_iff]
            exact pair_le hle ba.1 ba.2 bb.1 bb.2
          have e2 : qs = psort ps := psorted_uniq (pq.trans (psort_perm ps).symm) hs2 (psort_sorted ps)
          have hF : ∀ q ∈ L', hid M H q.1 = some (.tup (q.2.map V.int)) := fun q hq => by
            obtain ⟨x, hx, rfl⟩ := List.mem_map.mp (pm.mem_iff.mp hq)
            have : ∀ {kvs : List (List Int × D)} {kvv : Dv}, RDd (hid M H) kvs kvv → ∀ x ∈ kvv, hid M H x.2.1 = some (.tup (x.1.map V.int)) := by
              intro kvs kvv r
              induction r with
              | nil => intro x h; cases h
              | @cons p q ps qs h t ih =>
                intro x hx
                rcases List.mem_cons.mp hx with e | hx
                · subst e
                  rw [← h.1]
                  exact h.2.1
                · exact ih x hx
            exact this rd x hx
          have rl := repL_keys L' hF
          have el : (L'.map fun q => PyData.tuple (q.2.map .int)) = (psort ps).map PI2 := by
            rw [← e2]
            have : (L'.map fun q => PyData.tuple (q.2.map .int)) = (L'.map (·.2)).map fun k => PyData.tuple (k.map .int) := by
              rw [List.map_map]
              rfl
            rw [this, eq, List.map_map]
            rfl
          rw [el] at rl
          exact q _ _ (same_new hz) (ro_new (Same.refl _) hz rl)
      · exact q.elim
  · exact q.elim
end
end Ag


/-! ### an instance with three lists: its fields, its methods -/
namespace Ag
open PySem L2
structure SoC (K : PySem.W.Frag) (C : Addr) : Prop where
  cls : Cls K C
  n1 : NoAttr K C "now"
  n2 : NoAttr K C "goal"
  n3 : NoAttr K C "made"
/-- a method of a class -/
structure MDfn (K : PySem.W.Frag) (C : Addr) (m qual : Str) (st : Stmt) (ps : List Str) (f : Addr) : Prop where
  F : Fun K m qual st f (fdOf K f)
  at_ : Meth K C m f
  bb : ∀ us : List Value, us.length = ps.length → bindArgs (fdOf K f) ⟨us, []⟩ = pure (ps.zip us)
theorem MDfn.b {K : PySem.W.Frag} {C f : Addr} {m qual : Str} {st : Stmt} {ps : List Str} (d : MDfn K C m qual st ps f) : Binds K (fdOf K f) ps [] := .all d.bb
def soG (CS : Addr) : Option Sl → Option (List D × List D × List D)
  | some (.gx _ (.so C n g m)) => if C = CS then some (n, g, m) else none
  | some (.gx _ (.fo C n g m)) => if C = CS then some (n, g, m) else none
  | _ => none
section
variable {M : Addr → Prop} {H : Hp} {as : List Addr} {C : Addr} {now goal made : List D} {v : Option V}
/-- what is read of either kind -/
structure SoV (M : Addr → Prop) (H : Hp) (C : Addr) (now goal made : List D) (p dx : Addr) (v1 v2 v3 : V) : Prop where
  ins : H p = some (.ins C dx (sofs v1 v2 v3))
  r1 : Rep (hid M H) (.list now) v1
  r2 : Rep (hid M H) (.list goal) v2
  r3 : RB M H (.list made) v3
theorem soV_of {s : Sl} (hg : RSl M H s v) (h : soG C (some s) = some (now, goal, made)) : ∃ p dx v1 v2 v3, v = some (.ref p) ∧ SoV M H C now goal made p dx v1 v2 v3 := by
  cases s with
  | gx as g =>
    cases g with
    | di _ => cases h
    | so C' n' g' m' =>
      unfold soG at h
      dsimp only at h
      split at h
      · rename_i e
        subst e
        cases h
        obtain ⟨p, p3, dx, v1, v2, v3, e1, n, e2, a1, a2, a3, r1, r2, r3⟩ := hg
        exact ⟨p, dx, v1, v2, .ref p3, e2, a1, r1, r2, .inr ⟨_, p3, v3, rfl, rfl, a3, r3⟩⟩
      · cases h
    | fo C' n' g' m' =>
      unfold soG at h
      dsimp only at h
      split at h
      · rename_i e
        subst e
        cases h
        obtain ⟨p, dx, v1, v2, v3, e1, e2, a1, r1, r2, r3⟩ := hg
        exact ⟨p, dx, v1, v2, v3, e2, hid_same _ _ a1, r1, r2, .inl r3⟩
      · cases h
  | _ => cases h
end
theorem soG_some {C : Addr} {s : Option Sl} {x : List D × List D × List D} (h : soG C s = some x) : ∃ s', s = some s' := by
  cases s with
  | none => cases h
  | some s' => exact ⟨s', rfl⟩
/-! fields -/
def eNow (CS : Addr) (i : Nat) : EF := fun env => ofO (soG CS env[i]?) >>= fun x => .val (.list x.1)
def eGoal (CS : Addr) (i : Nat) : EF := fun env => ofO (soG CS env[i]?) >>= fun x => .val (.list x.2.1)
def eMade (CS : Addr) (i : Nat) : EF := fun env => ofO (soG CS env[i]?) >>= fun x => .val (.list x.2.2)
section
variable {K : PySem.W.Frag} {W : WT} {X : Cx} {i k : Nat} {x y : Str} {a b e f : Expr} {ta tb te tf : TE} {fa fb : EF} {pos p spos apos cpos dp pos' pb : Pos} {CS : Addr}
theorem ev_fld {M : Addr → Prop} {env : En} {σ : L2.St} {H : Hp} (S : SoC K CS) (rs : RSt M env σ H) {n g m : List D} (h : soG CS env[i]? = some (n, g, m)) {fl : Str} {Q : VK} (hn : NoAttr K CS fl)
    (hQ : ∀ p dx v1 v2 v3, SoV M H CS n g m p dx v1 v2 v3 → ∃ v, (sofs v1 v2 v3).lookup fl = some v ∧ Q v H) : tFld K (tVar i) fl σ H Q := by
  obtain ⟨s, hs⟩ := soG_some h
  rw [hs] at h
  obtain ⟨o, ho, r⟩ := rs.sl i s hs
  obtain ⟨p, dx, v1, v2, v3, rfl, sv⟩ := soV_of r h
  obtain ⟨v, hl, q⟩ := hQ p dx v1 v2 v3 sv
  exact ⟨.ref p, ho, p, CS, dx, sofs v1 v2 v3, v, rfl, sv.ins, S.cls, hn, hl, q⟩
theorem lk1 {v1 v2 v3 : V} : (sofs v1 v2 v3).lookup ("now" : Str) = some v1 := rfl
theorem lk2 {v1 v2 v3 : V} : (sofs v1 v2 v3).lookup ("goal" : Str) = some v2 := by
  have h1 : (("goal" : Str) == ("now" : Str)) = false := by decide
  show (match (("goal" : Str) == ("now" : Str)) with | true => some v1 | false => List.lookup ("goal" : Str) [(("goal" : Str), v2), (("made" : Str), v3)]) = _
  rw [h1]
  rfl
theorem lk3 {v1 v2 v3 : V} : (sofs v1 v2 v3).lookup ("made" : Str) = some v3 := by
  have h1 : (("made" : Str) == ("now" : Str)) = false := by decide
  have h2 : (("made" : Str) == ("goal" : Str)) = false := by decide
  show (match (("made" : Str) == ("now" : Str)) with | true => some v1 | false => (match (("made" : Str) == ("goal" : Str)) with | true => some v2 | false => List.lookup ("made" : Str) [(("made" : Str), v3)])) = _
  rw [h1, h2]
  rfl
theorem lkN {v1 v2 v3 : V} {m : Str} (h1 : (m == ("now" : Str)) = false) (h2 : (m == ("goal" : Str)) = false) (h3 : (m == ("made" : Str)) = false) : (sofs v1 v2 v3).lookup m = none := by
  show (match (m == ("now" : Str)) with | true => some v1 | false => (match (m == ("goal" : Str)) with | true => some v2 | false => (match (m == ("made" : Str)) with | true => some v3 | false => none))) = none
  rw [h1, h2, h3]
theorem ofO_cases {α β : Type} {o : Option α} {f : α → Rs β} {P : Rs β → Prop} (h : P (ofO o >>= f)) (hs : ¬ P .stk) : ∃ x, o = some x ∧ P (f x) := by
  cases o with
  | none => exact absurd h hs
  | some x => exact ⟨x, rfl, h⟩
theorem v_now (S : SoC K CS) (hN : X.N[i]? = some x) (hK : X.K = K := by rfl) (hbase : attributeBase (.Name x p) "now" X.env (eval (.Name x p) X.env) = eval (.Name x p) X.env := by rfl)
    (hv : Vis X.env.scope x := by first | exact Or.inl rfl | exact Or.inr (Or.inl rfl) | exact Or.inr (Or.inr rfl)) (hd : (x == ("__debug__" : Str)) = false := by decide) (hcd : (x == ("__classdict__" : Str)) = false := by decide) :
    PEv K W X (.Attribute (.Name x p) "now" pos) (tFld K (tVar i) "now") (eNow CS i) := by
  subst hK
  refine ⟨pe_fld (pe_var hN hv hd hcd) hbase, fun M env σ H rs Q q => ?_⟩
  unfold eNow at q
  obtain ⟨⟨n, g, m⟩, h, q⟩ := ofO_cases q (fun z => z)
  exact ev_fld S rs h S.n1 fun p dx v1 v2 v3 sv => ⟨v1, lk1, q _ H (Same.refl _) sv.r1⟩
theorem v_goal (S : SoC K CS) (hN : X.N[i]? = some x) (hK : X.K = K := by rfl) (hbase : attributeBase (.Name x p) "goal" X.env (eval (.Name x p) X.env) = eval (.Name x p) X.env := by rfl)
    (hv : Vis X.env.scope x := by first | exact Or.inl rfl | exact Or.inr (Or.inl rfl) | exact Or.inr (Or.inr rfl)) (hd : (x == ("__debug__" : Str)) = false := by decide) (hcd : (x == ("__classdict__" : Str)) = false := by decide) :
    PEv K W X (.Attribute (.Name x p) "goal" pos) (tFld K (tVar i) "goal") (eGoal CS i) := by
  subst hK
  refine ⟨pe_fld (pe_var hN hv hd hcd) hbase, fun M env σ H rs Q q => ?_⟩
  unfold eGoal at q
  obtain ⟨⟨n, g, m⟩, h, q⟩ := ofO_cases q (fun z => z)
  exact ev_fld S rs h S.n2 fun p dx v1 v2 v3 sv => ⟨v2, lk2, q _ H (Same.refl _) sv.r2⟩
theorem b_made (S : SoC K CS) (hN : X.N[i]? = some x) (hK : X.K = K := by rfl) (hbase : attributeBase (.Name x p) "made" X.env (eval (.Name x p) X.env) = eval (.Name x p) X.env := by rfl)
    (hv : Vis X.env.scope x := by first | exact Or.inl rfl | exact Or.inr (Or.inl rfl) | exact Or.inr (Or.inr rfl)) (hd : (x == ("__debug__" : Str)) = false := by decide) (hcd : (x == ("__classdict__" : Str)) = false := by decide) :
    PEB K W X (.Attribute (.Name x p) "made" pos) (tFld K (tVar i) "made") (eMade CS i) := by
  subst hK
  refine ⟨pe_fld (pe_var hN hv hd hcd) hbase, fun M env σ H rs Q q => ?_⟩
  unfold eMade at q
  obtain ⟨⟨n, g, m⟩, h, q⟩ := ofO_cases q (fun z => z)
  exact ev_fld S rs h S.n3 fun p dx v1 v2 v3 sv => ⟨v3, lk3, q _ H (Same.refl _) sv.r3⟩
end
/-! ### the frame of a method -/
theorem gx_StS {H : Hp} {M : Addr → Prop} {p : Addr} {as : List Addr} {gd : Gd} {ds : List D} {vs : List V} {N : List Str} (al : ∀ a, M a → ∃ o, H a = some o) (hL : ∀ a ∈ gadr gd as (some (.ref p)), M a) (r : RepL (hid M H) ds vs) (hl : ds.length + 1 ≤ N.length)
    (hg : ∀ M' : Addr → Prop, (∀ a, M' a → M a) → RGd M' H as gd (some (.ref p))) :
    StS (fun a => @ite _ (a ∈ gadr gd as (some (.ref p))) (Classical.propDecidable _) none (H a)) (fun a => M a ∧ a ∉ gadr gd as (some (.ref p))) (.gx as gd :: (ds.map Sl.fz ++ List.replicate (N.length - (ds.length + 1)) .no)) (L2.start N (.ref p :: vs)) H := by
  have H0s : ∀ a o, (@ite _ (a ∈ gadr gd as (some (.ref p))) (Classical.propDecidable _) none (H a)) = some o ↔ a ∉ gadr gd as (some (.ref p)) ∧ H a = some o := fun a o => by
    by_cases z : a ∈ gadr gd as (some (.ref p))
    · rw [if_pos z]
      exact ⟨fun e => (by cases e), fun e => absurd z e.1⟩
    · rw [if_neg z]
      exact ⟨fun e => ⟨z, e⟩, fun e => e.2⟩
  have s0 : Same (fun a => @ite _ (a ∈ gadr gd as (some (.ref p))) (Classical.propDecidable _) none (H a)) H := fun a o e => ((H0s a o).mp e).2
  have al0 : ∀ a, (M a ∧ a ∉ gadr gd as (some (.ref p))) → ∃ o, (@ite _ (a ∈ gadr gd as (some (.ref p))) (Classical.propDecidable _) none (H a)) = some o := fun a m => by
    obtain ⟨o, e⟩ := al a m.1
    exact ⟨o, (H0s a o).mpr ⟨m.2, e⟩⟩
  have r0 : RepL (hid (fun a => M a ∧ a ∉ gadr gd as (some (.ref p))) (fun a => @ite _ (a ∈ gadr gd as (some (.ref p))) (Classical.propDecidable _) none (H a))) ds vs := r.up fun a o e => by
    obtain ⟨e1, e2⟩ := hid_some.mp e
    exact hid_some.mpr ⟨fun m => e1 m.1, (H0s a o).mpr ⟨fun z => e1 (hL a z), e2⟩⟩
  have st := start_StS (N := N) (ds := .none :: ds) (vs := .non :: vs) al0 (repL_cons (rep_none.mpr rfl) r0) (by rw [List.length_cons]; exact hl)
  obtain ⟨g1, _⟩ := st.setg (H := H) s0 (i := 0) (s0 := .gx as gd) (o0 := some (.ref p)) (by simp) (fun _ _ _ _ => nofun) (fun a ha => by
    have ha : a ∈ gadr gd as (some (.ref p)) := ha
    refine ⟨?_, al a (hL a ha)⟩
    show (@ite _ (a ∈ gadr gd as (some (.ref p))) (Classical.propDecidable _) none (H a)) = none
    rw [if_pos ha]) fun M' hM' => hg M' fun a ha => by
      rcases hM' a ha with (m | m) | m
      · exact m.1
      · obtain ⟨j, s, o, h1, h2, h3⟩ := m
        rcases List.mem_append.mp (List.mem_of_getElem? h1) with z | z
        · obtain ⟨d, _, rfl⟩ := List.mem_map.mp z
          cases o <;> cases h3
        · rw [(List.mem_replicate.mp z).2] at h3
          cases o <;> cases h3
      · exact hL a m
  exact g1
end Ag


namespace Ag
open PySem L2
/-! ### methods that only look -/
def RetF (M : Addr → Prop) (H : Hp) (Q : VK) : Rs Rv → Prop
  | .val (.d (.int i)) => ∀ H', Same H H' → Q (.int i) H'
  | .val (.o l) => ∃ ns : List Int, l = ns.map .int ∧ ∀ v H', Same H H' → RO M H l v H' → Q v H'
  | _ => False
abbrev QF := Addr → List D → List D → List D → List D → Rs Rv
def spF (n : Nat) (q : QF) : Sp := fun vs H Q _ => ∃ (M : Addr → Prop) (C : Addr) (now goal made : List D) (p : Addr) (vs' : List V) (ds : List D), vs = .ref p :: vs' ∧ (∀ a, M a → ∃ o, H a = some o) ∧
  (∀ M' : Addr → Prop, (∀ a, M' a → M a) → RGd M' H [] (.fo C now goal made) (some (.ref p))) ∧ ds.length = n ∧ RepL (hid M H) ds vs' ∧ RetF M H Q (q C now goal made ds)
def runF (N : Nat) (g : SF) : QF := fun C now goal made ds => match g (.gx [] (.fo C now goal made) :: (ds.map .fz ++ List.replicate (N - (ds.length + 1)) .no)) with
  | .nx _ => .val (.d .none)
  | .ret d _ => .val (.d d)
  | .reto l _ => .val (.o l)
  | .exc c => .exc c
  | _ => .stk
section
variable {P : PySem.Program} {w : PySem.World} {K : PySem.W.Frag} {mg : Str → Option PySem.Value} {base : PySem.Heap} {κ : Kp}
theorem fn_soF {x qual : Str} {st : Stmt} {f : Addr} {fd : PySem.FuncData} {N ps : List Str} {k n : Nat} {g : SF} {q : QF} (F : Fun K x qual st f fd) (S : FnScope N ps (defScope st)) (hn : ps.length = n + 1) (hnN : n + 1 ≤ N.length) (hq : q = runF N.length g)
    (hbody : ∀ (cdv : PySem.Value) (A : PySem.Around) (outer : List PySem.Env) (s : PySem.Shared) (H : Hp) (E : XK), Room k (A.deeper (PyProof.Rows.envOfC qual (defScope st) s.heap.objs.size f cdv)) →
      ∃ t, PSsv K W0 (cxOf CX0 P w K mg base N qual (defScope st) f cdv A outer s H E).nox (defBody st) t g) : FnOk P w K mg base CX0 (k + 1) f fd ps (spF n q) := by
  refine F.ok S (fun vs H Q E h => ?_) (fun cdv A outer s H vs Q E hr h => ?_)
  · obtain ⟨M, C, now, goal, made, p, vs', ds, rfl, al, hg, hl, r, _⟩ := h
    rw [List.length_cons, ← r.len, hl, hn]
  · obtain ⟨M, C, now, goal, made, p, vs', ds, rfl, al, hg, hl, r, hret⟩ := h
    obtain ⟨t, ht⟩ := hbody cdv A outer s H E hr
    refine ⟨t, ht.ps, ?_⟩
    have st0 := gx_StS (N := N) (as := []) (gd := .fo C now goal made) (p := p) al (fun a ha => by cases ha) r (by omega) hg
    have eB : (fun a => @ite _ (a ∈ gadr (.fo C now goal made) [] (some (.ref p))) (Classical.propDecidable _) none (H a)) = H := by
      funext a
      rw [if_neg (fun z => by cases z)]
    have eN : (fun a => M a ∧ a ∉ gadr (.fo C now goal made) [] (some (V.ref p))) = M := by
      funext a
      exact propext ⟨fun z => z.1, fun z => ⟨z, fun y => by cases y⟩⟩
    rw [eB, eN] at st0
    refine ht.ev H M _ _ H _ st0 ?_
    subst hq
    unfold runF at hret
    have up : ∀ {env' : En} {σ' : L2.St} {H' : Hp}, StS H M env' σ' H' → Same (fr M env' σ' H') (hid M H') := fun {env' σ' H'} s' => same_hid (Same.refl _) fun a _ _ m => .inl m
    split at hret
    · exact hret.elim
    · rename_i d e he
      rw [he]
      intro v σ' H' s' _ rv
      cases d with
      | int i =>
        rw [rep_int.mp rv]
        exact (show ∀ H', Same H H' → Q (.int i) H' from hret) H' s'.ext
      | _ => exact (show False from hret).elim
    · rename_i l e he
      rw [he]
      have hret : ∃ ns : List Int, l = ns.map .int ∧ ∀ v H', Same H H' → RO M H l v H' → Q v H' := hret
      obtain ⟨ns, _, hret⟩ := hret
      exact fun v σ' H' s' _ ⟨p, vs', h1, h2, h3, h4, h5⟩ => hret v H' s'.ext ⟨p, vs', h1, h3, h4, h5.up (same_hid (Same.refl _) fun a _ _ m => by
        rcases m with m | m
        · exact .inl (.inl m)
        · exact .inr m)⟩
    · exact hret.elim
    · exact hret.elim
end
/-! calls of them -/
def inG (r : Rs Rv) : Rs D := match r with
  | .val (.d (.int k)) => .val (.int k)
  | .val (.o l) => ofO (intsOf l) >>= fun _ => .val (.list l)
  | _ => .stk
def eMF (CS : Addr) (n : Nat) (q : QF) (i : Nat) (fs : En → Rs (List D)) : EF := fun env => ofO (soG CS env[i]?) >>= fun x => fs env >>= fun ds => if ds.length = n then inG (q CS x.1 x.2.1 x.2.2 ds) else .stk
section
variable {M : Addr → Prop} {env : En} {σ : L2.St} {H : Hp}
/-- the thing in slot i, looked at: what a method that only looks wants -/
theorem fo_view (rs : RSt M env σ H) {i : Nat} {CS : Addr} {n g m : List D} (h : soG CS env[i]? = some (n, g, m)) : ∃ (p dx : Addr) (v1 v2 v3 : V) (M1 : Addr → Prop), σ[i]? = some (some (.ref p)) ∧ H p = some (.ins CS dx (sofs v1 v2 v3)) ∧ (∀ a, M1 a → M a) ∧
    ∀ M' : Addr → Prop, (∀ a, M' a → M1 a) → RGd M' H [] (.fo CS n g m) (some (.ref p)) := by
  obtain ⟨s, hs⟩ := soG_some h
  rw [hs] at h
  obtain ⟨o, ho, r⟩ := rs.sl i s hs
  cases s with
  | gx as gd =>
    cases gd with
    | di _ => cases h
    | so C' n' g' m' =>
      unfold soG at h
      dsimp only at h
      split at h
      · rename_i e
        subst e
        cases h
        obtain ⟨p, p3, dx, v1, v2, v3, e1, nn, rfl, a1, a2, a3, r1, r2, r3⟩ := r
        refine ⟨p, dx, v1, v2, .ref p3, fun a => M a ∧ a ≠ p ∧ a ≠ p3, ho, a1, fun a m => m.1, fun M' hM => ?_⟩
        have up : Same (hid M H) (hid M' H) := same_hid (Same.refl _) fun a _ _ m => (hM a m).1
        exact ⟨p, dx, v1, v2, .ref p3, rfl, rfl, hid_some.mpr ⟨fun z => (hM p z).2.1 rfl, a1⟩, r1.up up, r2.up up, rep_list.mpr ⟨p3, v3, rfl, hid_some.mpr ⟨fun z => (hM p3 z).2.2 rfl, a3⟩, r3.up up⟩⟩
      · cases h
    | fo C' n' g' m' =>
      unfold soG at h
      dsimp only at h
      split at h
      · rename_i e
        subst e
        cases h
        obtain ⟨p, dx, v1, v2, v3, e1, rfl, a1, r1, r2, r3⟩ := r
        refine ⟨p, dx, v1, v2, v3, M, ho, hid_same _ _ a1, fun a m => m, fun M' hM => ?_⟩
        have up : Same (hid M H) (hid M' H) := same_hid (Same.refl _) fun a _ _ m => hM a m
        exact ⟨p, dx, v1, v2, v3, rfl, rfl, up _ _ a1, r1.up up, r2.up up, r3.up up⟩
      · cases h
  | _ => cases h
end
section
variable {K : PySem.W.Frag} {W : WT} {X : Cx} {i k n : Nat} {x y m qual : Str} {a b e f : Expr} {es : List Expr} {tA : TA} {fs : En → Rs (List D)} {pos p spos apos cpos : Pos} {CS fm : Addr} {st : Stmt} {ps : List Str} {q : QF} {pl : PySem.Sem Bool}
theorem mf_go {M : Addr → Prop} {env : En} {σ : L2.St} {H : Hp} (rs : RSt M env σ H) {n0 g0 m0 : List D} (h : soG CS env[i]? = some (n0, g0, m0)) (hm1 : (m == ("now" : Str)) = false) (hm2 : (m == ("goal" : Str)) = false) (hm3 : (m == ("made" : Str)) = false) {Q : VK}
    (hA : ∀ Q' : List V → Hp → Prop, (∀ vs H', Same H H' → (∃ ds, ds.length = n ∧ RepL (hid M H') ds vs ∧ RetF M H' Q (q CS n0 g0 m0 ds)) → Q' vs H') → tA σ H Q') : tMeth CS m (spF n q) [] E0 (tVar i) tA σ H Q := by
  obtain ⟨p0, dx, v1, v2, v3, M1, hσ, hins, hM1, hfo⟩ := fo_view rs h
  refine ⟨.ref p0, hσ, p0, dx, sofs v1 v2 v3, rfl, hins, lkN hm1 hm2 hm3, hA _ fun vs H' e ⟨ds, hl, r, ret⟩ => ?_⟩
  rw [List.append_nil]
  have rs' := rs.up e
  obtain ⟨p0', dx', v1', v2', v3', M1', hσ', hins', hM1', hfo'⟩ := fo_view rs' h
  rw [hσ] at hσ'
  cases hσ'
  refine ⟨M1', CS, n0, g0, m0, p0, vs, ds, rfl, fun a ma => rs'.al a (hM1' a ma), hfo', hl, r.up (same_hid (Same.refl _) fun a _ _ ma => hM1' a ma), ?_⟩
  revert ret
  cases q CS n0 g0 m0 ds with
  | val rv =>
    cases rv with
    | d d =>
      cases d with
      | int k => exact id
      | _ => exact id
    | o l =>
      rintro ⟨ns, el, ret⟩
      refine ⟨ns, el, fun v H2 s2 ro => ret v H2 s2 ?_⟩
      obtain ⟨z, ws, e1, e2, e3, e4⟩ := ro
      rw [el] at e4
      exact ⟨z, ws, e1, e2, e3, by rw [el]; rw [repL_ints.mp e4]; exact repL_ints.mpr rfl⟩
  | exc c => exact id
  | stk => exact id
theorem ev_mf {env : En} {M : Addr → Prop} {σ : L2.St} {H : Hp} (ha : EvA W tA fs) (rs : RSt M env σ H) (hm1 : (m == ("now" : Str)) = false) (hm2 : (m == ("goal" : Str)) = false) (hm3 : (m == ("made" : Str)) = false) {Q : VK} (q' : Pst H (fun c H' => W c σ H') (fun d v H' => Rep (hid M H') d v) Q (eMF CS n q i fs env)) : tMeth CS m (spF n q) [] E0 (tVar i) tA σ H Q := by
  unfold eMF at q'
  obtain ⟨⟨n0, g0, m0⟩, h, q'⟩ := ofO_cases q' (fun z => z)
  refine mf_go rs h hm1 hm2 hm3 fun Q' hQ' => ha M env σ H rs Q' (q'.step fun ds _ vs H1 e1 r1 p1 => hQ' vs H1 e1 ?_)
  split at p1
  · rename_i hl
    refine ⟨ds, hl, r1, ?_⟩
    dsimp only at p1
    revert p1
    cases q CS n0 g0 m0 ds with
    | val rv =>
      cases rv with
      | d d =>
        cases d with
        | int k => exact fun p1 H' s => p1 _ H' s (rep_int.mpr rfl)
        | _ => exact fun p1 => p1.elim
      | o l =>
        intro p1
        cases hi : intsOf l with
        | none =>
          unfold inG at p1
          dsimp only at p1
          rw [hi] at p1
          exact p1.elim
        | some ns =>
          unfold inG at p1
          dsimp only at p1
          rw [hi] at p1
          refine ⟨ns, intsOf_some hi, fun v H' s ro => p1 v H' s ?_⟩
          exact ro.rep fun _ z => (rs.up e1).free z
    | exc c => exact fun p1 => p1.elim
    | stk => exact fun p1 => p1.elim
  · exact p1.elim
theorem v_mf (hS : SoC K CS) (hD : MDfn K CS m qual st ps fm) (F : FnOk X.prog X.w X.K X.mg X.base CX0 k fm (fdOf K fm) ps (spF n q)) (hr : Room k X.A) (hN : X.N[i]? = some x) (ha : PAv K W X (e :: es) tA fs) (hK : X.K = K := by rfl) (hm1 : (m == ("now" : Str)) = false := by decide) (hm2 : (m == ("goal" : Str)) = false := by decide) (hm3 : (m == ("made" : Str)) = false := by decide)
    (hv : Vis X.env.scope x := by first | exact Or.inl rfl | exact Or.inr (Or.inl rfl) | exact Or.inr (Or.inr rfl)) (hd : (x == ("__debug__" : Str)) = false := by decide) (hcd : (x == ("__classdict__" : Str)) = false := by decide)
    (hst : starEach (e :: es) X.env = (false, eval e X.env) :: starEach es X.env := by rfl) (hpl : (backTo pos (starEach es X.env)).any (·.1) = false := by rfl)
    (ht : eval (.Call (.Attribute (.Name x p) m apos) (e :: es) [] pos) X.env = (do
      let ov ← eval (.Name x p) X.env
      standAt apos.atName
      let (f, first) ← holding [ov] (getMethod ov m pl)
      callWith pos f first (backTo pos (starEach (e :: es) X.env)) (backToKw pos (keywordEach [] X.env))) := by rfl) :
    PEv K W X (.Call (.Attribute (.Name x p) m apos) (e :: es) [] pos) (tMeth CS m (spF n q) [] E0 (tVar i) tA) (eMF CS n q i fs) := by
  subst hK
  exact ⟨pe_meth (pe_var hN hv hd hcd) hS.cls hD.at_ F hr hD.b .nil pass0 ha.pa hst hpl ht, fun M env σ H rs Q q' => ev_mf ha.ev rs hm1 hm2 hm3 q'⟩
theorem ea_nil : EvA W tNil aNil := fun M env σ H rs Q p => p _ H (Same.refl _) repL_nil
theorem v_mf0 (hS : SoC K CS) (hD : MDfn K CS m qual st ps fm) (F : FnOk X.prog X.w X.K X.mg X.base CX0 k fm (fdOf K fm) ps (spF n q)) (hr : Room k X.A) (hN : X.N[i]? = some x) (hK : X.K = K := by rfl) (hm1 : (m == ("now" : Str)) = false := by decide) (hm2 : (m == ("goal" : Str)) = false := by decide) (hm3 : (m == ("made" : Str)) = false := by decide)
    (hv : Vis X.env.scope x := by first | exact Or.inl rfl | exact Or.inr (Or.inl rfl) | exact Or.inr (Or.inr rfl)) (hd : (x == ("__debug__" : Str)) = false := by decide) (hcd : (x == ("__classdict__" : Str)) = false := by decide)
    (ht : eval (.Call (.Attribute (.Name x p) m apos) [] [] pos) X.env = (do
      let ov ← eval (.Name x p) X.env
      standAt apos.atName
      let (f, first) ← holding [ov] (getMethod ov m pl)
      callWith pos f first (backTo pos (starEach [] X.env)) (backToKw pos (keywordEach [] X.env))) := by rfl) :
    PEv K W X (.Call (.Attribute (.Name x p) m apos) [] [] pos) (tMeth CS m (spF n q) [] E0 (tVar i) tNil) (eMF CS n q i aNil) := by
  subst hK
  exact ⟨pe_meth0 (pe_var hN hv hd hcd) hS.cls hD.at_ F hr hD.b .nil pass0 ht, fun M env σ H rs Q q' => ev_mf ea_nil rs hm1 hm2 hm3 q'⟩
end
end Ag


namespace Ag
open PySem L2
/-! ### a thing of the frame's own: what is written in it -/
def soW (CS : Addr) : Option Sl → Option (Addr × Addr × List D × List D × List D)
  | some (.gx [p, p3] (.so C n g m)) => if C = CS then some (p, p3, n, g, m) else none
  | _ => none
theorem soW_some {CS : Addr} {s : Option Sl} {x : Addr × Addr × List D × List D × List D} (h : soW CS s = some x) : s = some (.gx [x.1, x.2.1] (.so CS x.2.2.1 x.2.2.2.1 x.2.2.2.2)) := by
  unfold soW at h
  split at h
  · split at h
    · rename_i e
      cases h
      rw [e]
    · cases h
  · cases h
structure SoD (M : Addr → Prop) (H : Hp) (C : Addr) (now goal made : List D) (p p3 dx : Addr) (v1 v2 : V) (v3 : List V) : Prop where
  ne : p ≠ p3
  ins : H p = some (.ins C dx (sofs v1 v2 (.ref p3)))
  own : hid M H dx = some (.own p)
  l3 : H p3 = some (.lst v3)
  r1 : Rep (hid M H) (.list now) v1
  r2 : Rep (hid M H) (.list goal) v2
  r3 : RepL (hid M H) made v3
theorem SoD.gd {M : Addr → Prop} {H : Hp} {C : Addr} {now goal made : List D} {p p3 dx : Addr} {v1 v2 : V} {v3 : List V} (d : SoD M H C now goal made p p3 dx v1 v2 v3) : RGd M H [p, p3] (.so C now goal made) (some (.ref p)) :=
  ⟨p, p3, dx, v1, v2, v3, rfl, d.ne, rfl, d.ins, d.own, d.l3, d.r1, d.r2, d.r3⟩
theorem soD_of {M : Addr → Prop} {H : Hp} {C : Addr} {now goal made : List D} {p p3 : Addr} {v : Option V} (h : RGd M H [p, p3] (.so C now goal made) v) : v = some (.ref p) ∧ ∃ dx v1 v2 v3, SoD M H C now goal made p p3 dx v1 v2 v3 := by
  obtain ⟨q, q3, dx, v1, v2, v3, e1, n, e2, a1, a2, a3, r1, r2, r3⟩ := h
  cases e1
  exact ⟨e2, dx, v1, v2, v3, n, a1, a2, a3, r1, r2, r3⟩
section
variable {B : Hp} {N : Addr → Prop} {env : En} {σ : L2.St} {H H' : Hp} {i : Nat} {C p p3 : Addr} {n g m n' g' m' : List D}
theorem so_view (rs : RSt N env σ H) (h : env[i]? = some (.gx [p, p3] (.so C n g m))) : σ[i]? = some (some (.ref p)) ∧ ∃ dx v1 v2 v3, SoD N H C n g m p p3 dx v1 v2 v3 := by
  obtain ⟨o, ho, r⟩ := rs.sl i _ h
  obtain ⟨rfl, d⟩ := soD_of r
  exact ⟨ho, d⟩
/-- the thing in slot i was written -/
theorem StS.so_upd (h : StS B N env σ H) (hi : env[i]? = some (.gx [p, p3] (.so C n g m))) (el : ∀ a o, a ≠ p → a ≠ p3 → H a = some o → H' a = some o)
    (r : RGd (Mo N env σ) H' [p, p3] (.so C n' g' m') (some (.ref p))) : StS B N (env.set i (.gx [p, p3] (.so C n' g' m'))) σ H' ∧ Same (fr N env σ H) (fr N (env.set i (.gx [p, p3] (.so C n' g' m'))) σ H') ∧ Same (hid (Mo N env σ) H') (fr N (env.set i (.gx [p, p3] (.so C n' g' m'))) σ H') := by
  obtain ⟨hs, _⟩ := so_view h.rd hi
  obtain ⟨_, dx, v1, v2, v3, d⟩ := soD_of r
  obtain ⟨g1, g2⟩ := h.updg (H' := H') (s0 := .gx [p, p3] (.so C n' g' m')) hi hs rfl (fun _ _ _ _ => nofun) (fun a u na e => el a u (fun z => na (by rw [z]; simp [adr, gadr])) (fun z => na (by rw [z]; simp [adr, gadr])) e)
    (fun a ha => by
      have ha : a ∈ [p, p3] := ha
      rcases List.mem_cons.mp ha with rfl | ha
      · exact ⟨_, d.ins⟩
      · rw [List.mem_singleton.mp ha]
        exact ⟨_, d.l3⟩)
    (fun M' h1 _ _ => RGd.mono r (fun _ _ _ e => e) (same_hid (Same.refl _) fun a _ _ z => h1 a z))
  refine ⟨g1, g2, same_hid (Same.refl _) fun a _ _ z => ?_⟩
  rcases z with z | ⟨j, s, o, h1, h2, h3⟩
  · exact .inl z
  · rcases get_set h1 with ⟨rfl, rfl⟩ | ⟨_, h4⟩
    · exact .inr ⟨_, _, _, hi, h2, h3⟩
    · exact .inr ⟨j, s, o, h4, h2, h3⟩
end
theorem putNow {v1 v2 v3 y : V} : putF "now" y (sofs v1 v2 v3) = sofs y v2 v3 := rfl
theorem sofs_len {v1 v2 v3 : V} : (sofs v1 v2 v3).length < 1000 := by show 3 < 1000; decide
section
variable {K : PySem.W.Frag} {W : WT} {X : Cx} {i k n : Nat} {x y : Str} {a b e : Expr} {ta te : TE} {fa f : EF} {fm : MF} {pos p spos apos cpos dp pos' pb : Pos} {CS : Addr}
/-! self.now = e -/
def nowK (CS : Addr) (i : Nat) (env : En) (d : D) : Option (Addr × Addr × List D × List D × List D) → So
  | some x => (match d with
    | .list l => .nx (env.set i (.gx [x.1, x.2.1] (.so CS l x.2.2.2.1 x.2.2.2.2)))
    | _ => .stk)
  | none => .stk
def sNowW (CS : Addr) (i : Nat) (f : EF) : SF := fun env => (f env).so fun d => nowK CS i env d (soW CS env[i]?)
theorem s_now (hS : SoC K CS) (hN : X.N[i]? = some x) (ha : PEv K W X e te f) (hK : X.K = K := by rfl) (hs : swapsWith e (some (.Attribute (.Name x p) "now" pos')) pos.line X.env = pure false := by rfl)
    (hv : Vis X.env.scope x := by first | exact Or.inl rfl | exact Or.inr (Or.inl rfl) | exact Or.inr (Or.inr rfl)) (hd : (x == ("__debug__" : Str)) = false := by decide) (hcd : (x == ("__classdict__" : Str)) = false := by decide) :
    PSv K W X (.Assign [.Attribute (.Name x p) "now" pos'] e pos) (sFld K (tVar i) te "now") (sNowW CS i f) := by
  subst hK
  refine ⟨ps_fld (pe_var hN hv hd hcd) ha.pe hs, fun B N env σ H D s p => ha.ev _ env σ H s.rd _ (Rs.so_p s p fun d _ v H1 e1 r1 s1 p1 => ?_)⟩
  unfold nowK at p1
  split at p1
  · rename_i z hz
    obtain ⟨p0, p3, n, g, m⟩ := z
    have hi := soW_some hz
    split at p1
    · rename_i l _
      obtain ⟨hσ, dx, v1, v2, v3, d⟩ := so_view s1.rd hi
      refine ⟨.ref p0, hσ, p0, CS, dx, sofs v1 v2 (.ref p3), rfl, d.ins, hS.cls, hS.n1, sofs_len, ?_⟩
      rw [putNow]
      have el : ∀ a o, a ≠ p0 → a ≠ p3 → H1 a = some o → upd H1 p0 (.ins CS dx (sofs v v2 (.ref p3))) a = some o := fun a o n1 _ h => by rw [upd_ne n1]; exact h
      have own0 : Mo N env σ p0 := .inr ⟨i, _, _, hi, hσ, by simp [adr, gadr]⟩
      have up : Same (hid (Mo N env σ) H1) (hid (Mo N env σ) (upd H1 p0 (.ins CS dx (sofs v v2 (.ref p3))))) := fun a o h => by
        obtain ⟨h1, h2⟩ := hid_some.mp h
        exact hid_some.mpr ⟨h1, by rw [upd_ne (fun z => h1 (by rw [z]; exact own0))]; exact h2⟩
      obtain ⟨g1, g2, _⟩ := s1.so_upd (n' := l) (g' := g) (m' := m) (H' := upd H1 p0 (.ins CS dx (sofs v v2 (.ref p3)))) hi el
        (SoD.gd (dx := dx) (v1 := v) (v2 := v2) (v3 := v3) ⟨d.ne, upd_same, up _ _ d.own, by rw [upd_ne (Ne.symm d.ne)]; exact d.l3, r1.up up, d.r2.up up, d.r3.up up⟩)
      exact p1 σ _ g1 g2
    · exact p1.elim
  · exact p1.elim
/-! self.made.append(x), self.made.pop() -/
theorem ofO_go {α β : Type} {W : WT} {B : Hp} {N : Addr → Prop} {F0 : Hp} {σ : L2.St} {R : Hp → α → β → Prop} {Q : β → Hp → Prop} {γ : Type} {o : Option γ} {k : γ → Rs (α × En)} (h : MPst W B N F0 σ R Q (ofO o >>= k)) : ∃ z, o = some z ∧ MPst W B N F0 σ R Q (k z) := by
  cases o with
  | none => exact h.elim
  | some z => exact ⟨z, rfl, h⟩
def mMadeA (CS : Addr) (i : Nat) (f : EF) : MF := fun env => ofO (soW CS env[i]?) >>= fun x => f env >>= fun d => if x.2.2.2.2.length < 100000 then .val (.none, env.set i (.gx [x.1, x.2.1] (.so CS x.2.2.1 x.2.2.2.1 (x.2.2.2.2 ++ [d])))) else .stk
theorem m_madeA (hS : SoC K CS) (hN : X.N[i]? = some x) (ha : PEv K W X e te f) (hK : X.K = K := by rfl) (hbase : attributeBase (.Name x p) "made" X.env (eval (.Name x p) X.env) = eval (.Name x p) X.env := by rfl)
    (hv : Vis X.env.scope x := by first | exact Or.inl rfl | exact Or.inr (Or.inl rfl) | exact Or.inr (Or.inr rfl)) (hd : (x == ("__debug__" : Str)) = false := by decide) (hcd : (x == ("__classdict__" : Str)) = false := by decide)
    (hbase2 : attributeBase (.Attribute (.Name x p) "made" pos') "append" X.env (eval (.Attribute (.Name x p) "made" pos') X.env) = eval (.Attribute (.Name x p) "made" pos') X.env := by rfl)
    (hfew : ((backTo cpos (starEach [e] X.env)).all (fun x => !x.1) && (backToKw cpos (keywordEach [] X.env)).all (fun x => x.1.isSome) && decide ([e].length + ([] : List Keyword).length + (if ([] : List Keyword).isEmpty then 0 else 1) < 30)) = true := by rfl)
    (hline : (apos.endLine == cpos.line) = true := by rfl) (hs : starEach (e :: []) X.env = (false, eval e X.env) :: starEach [] X.env := by rfl) (hplain : (backTo cpos (starEach [] X.env)).any (·.1) = false := by rfl) :
    PEM K W X (.Call (.Attribute (.Attribute (.Name x p) "made" pos') "append" apos) [e] [] cpos) (tBM K "list" rAppend (tFld K (tVar i) "made") (tCons te tNil)) (mMadeA CS i f) := by
  subst hK
  refine ⟨pe_bm PySem.F.plainAttrs_list PySem.F.slot_list_append PySem.F.type_list_append mt_append (pe_fld (pe_var hN hv hd hcd) hbase) (pa_cons ha.pe pa_nil hs) hbase2 hfew hline hs hplain, fun B N env σ H s Q p => ?_⟩
  unfold mMadeA at p
  obtain ⟨⟨p0, p3, n, g, m⟩, hz, p⟩ := ofO_go p
  have hi := soW_some hz
  obtain ⟨hσ, dx, v1, v2, v3, d⟩ := so_view s.rd hi
  refine ⟨.ref p0, hσ, p0, CS, dx, sofs v1 v2 (.ref p3), .ref p3, rfl, d.ins, hS.cls, hS.n3, lk3, tyV_list d.l3, ha.ev _ env σ H s.rd _ ?_⟩
  cases hf : f env with
  | exc c =>
    rw [hf] at p
    exact fun H' e => p env H' (s.up e)
  | stk =>
    rw [hf] at p
    exact p.elim
  | val w =>
    rw [hf] at p
    intro v H1 e1 r1
    have s1 := s.up e1
    obtain ⟨_, dx, v1, v2, v3, d⟩ := so_view s1.rd hi
    have p : MPst W B N (fr N env σ H) σ RpD Q (if m.length < 100000 then .val (.none, env.set i (.gx [p0, p3] (.so CS n g (m ++ [w])))) else .stk) := p
    split at p
    · rename_i hl
      have own3 : Mo N env σ p3 := .inr ⟨i, _, _, hi, hσ, by simp [adr, gadr]⟩
      have up : Same (hid (Mo N env σ) H1) (hid (Mo N env σ) (upd H1 p3 (.lst (v3 ++ [v])))) := fun a o h => by
        obtain ⟨h1, h2⟩ := hid_some.mp h
        exact hid_some.mpr ⟨h1, by rw [upd_ne (fun z => h1 (by rw [z]; exact own3))]; exact h2⟩
      obtain ⟨g1, g2, _⟩ := s1.so_upd (n' := n) (g' := g) (m' := m ++ [w]) (H' := upd H1 p3 (.lst (v3 ++ [v]))) hi (fun a o _ n2 h => by rw [upd_ne n2]; exact h)
        (SoD.gd (dx := dx) (v1 := v1) (v2 := v2) (v3 := v3 ++ [v]) ⟨d.ne, by rw [upd_ne d.ne]; exact d.ins, up _ _ d.own, upd_same, d.r1.up up, d.r2.up up, (d.r3.up up).app (repL_cons (Rep.up r1 up) repL_nil)⟩)
      refine ⟨p3, v3, v, rfl, rfl, d.l3, ?_, p .non _ g1 ((fr_up e1).trans g2) (rep_none.mpr rfl)⟩
      rw [← d.r3.len]
      exact Nat.lt_of_lt_of_le hl (by decide)
    · exact p.elim
def mMadeP (CS : Addr) (i : Nat) : MF := fun env => ofO (soW CS env[i]?) >>= fun x => ofO (x.2.2.2.2[x.2.2.2.2.length - 1]?) >>= fun d => .val (d, env.set i (.gx [x.1, x.2.1] (.so CS x.2.2.1 x.2.2.2.1 x.2.2.2.2.dropLast)))
theorem repL_dropLast {F : Hp} {l : List D} {vs : List V} (h : RepL F l vs) : RepL F l.dropLast vs.dropLast := by
  rw [List.dropLast_eq_take, List.dropLast_eq_take, ← h.len]
  exact h.take _
theorem m_madeP (hS : SoC K CS) (hN : X.N[i]? = some x) (hK : X.K = K := by rfl) (hbase : attributeBase (.Name x p) "made" X.env (eval (.Name x p) X.env) = eval (.Name x p) X.env := by rfl)
    (hv : Vis X.env.scope x := by first | exact Or.inl rfl | exact Or.inr (Or.inl rfl) | exact Or.inr (Or.inr rfl)) (hd : (x == ("__debug__" : Str)) = false := by decide) (hcd : (x == ("__classdict__" : Str)) = false := by decide)
    (hbase2 : attributeBase (.Attribute (.Name x p) "made" pos') "pop" X.env (eval (.Attribute (.Name x p) "made" pos') X.env) = eval (.Attribute (.Name x p) "made" pos') X.env := by rfl)
    (hline : (apos.endLine == cpos.line) = true := by rfl) :
    PEM K W X (.Call (.Attribute (.Attribute (.Name x p) "made" pos') "pop" apos) [] [] cpos) (tBM0 K "list" rPop (tFld K (tVar i) "made")) (mMadeP CS i) := by
  subst hK
  refine ⟨pe_bm0 PySem.F.plainAttrs_list PySem.F.slot_list_pop PySem.F.type_list_pop mt_pop (pe_fld (pe_var hN hv hd hcd) hbase) hbase2 hline, fun B N env σ H s Q p => ?_⟩
  unfold mMadeP at p
  obtain ⟨⟨p0, p3, n, g, m⟩, hz, p⟩ := ofO_go p
  obtain ⟨w, hw, p⟩ := ofO_go p
  have hw : m[m.length - 1]? = some w := hw
  have hi := soW_some hz
  obtain ⟨hσ, dx, v1, v2, v3, d⟩ := so_view s.rd hi
  obtain ⟨v, hv', rv⟩ := d.r3.get hw
  rw [d.r3.len] at hv'
  have own3 : Mo N env σ p3 := .inr ⟨i, _, _, hi, hσ, by simp [adr, gadr]⟩
  have up : Same (hid (Mo N env σ) H) (hid (Mo N env σ) (upd H p3 (.lst v3.dropLast))) := fun a o h => by
    obtain ⟨h1, h2⟩ := hid_some.mp h
    exact hid_some.mpr ⟨h1, by rw [upd_ne (fun z => h1 (by rw [z]; exact own3))]; exact h2⟩
  obtain ⟨g1, g2, g3⟩ := s.so_upd (n' := n) (g' := g) (m' := m.dropLast) (H' := upd H p3 (.lst v3.dropLast)) hi (fun a o _ n2 h => by rw [upd_ne n2]; exact h)
    (SoD.gd (dx := dx) (v1 := v1) (v2 := v2) (v3 := v3.dropLast) ⟨d.ne, by rw [upd_ne d.ne]; exact d.ins, up _ _ d.own, upd_same, d.r1.up up, d.r2.up up, repL_dropLast (d.r3.up up)⟩)
  exact ⟨.ref p0, hσ, p0, CS, dx, sofs v1 v2 (.ref p3), .ref p3, rfl, d.ins, hS.cls, hS.n3, lk3, tyV_list d.l3, p3, v3, v, rfl, rfl, d.l3, hv', p v _ g1 g2 ((rv.up up).up g3)⟩
def sDropM (f : MF) : SF := fun env => (f env).so fun r => .nx r.2
theorem s_dropM (ha : PEM K W X a ta fm) (hs : swapsWith a none pos.line X.env = pure false := by rfl) : PSv K W X (.Expr a pos) (tDrop ta) (sDropM fm) := ⟨ps_expr ha.pe hs, fun B N env σ H D s p =>
  ha.ev B N env σ H s _ (mpst_so p (fun c e => so_exc p c e) fun d e _ v H' s' q r p' => p' σ H' s' (Same.refl _))⟩
end
end Ag


namespace Ag
open PySem PySem.Spec PyProof.Rows L2
/-! ### methods that write -/
abbrev SoT := D × List D × List D × List D
abbrev QS := Addr → Addr → List D → List D → List D → List D → Rs SoT
def RetS (κ : Kp) (CS : Addr) (M : Addr → Prop) (H : Hp) (p p3 : Addr) (Q : VK) (E : XK) : Rs SoT → Prop
  | .val r => ∀ v H', (∀ a o, a ≠ p → a ≠ p3 → H a = some o → H' a = some o) → RGd M H' [p, p3] (.so CS r.2.1 r.2.2.1 r.2.2.2) (some (.ref p)) → Rep (hid M H') r.1 v → Q v H'
  | .exc c => ∀ H', Same H H' → E (κ c) none H'
  | .stk => False
def spS (κ : Kp) (CS : Addr) (n : Nat) (q : QS) : Sp := fun vs H Q E => ∃ (M : Addr → Prop) (now goal made : List D) (p p3 : Addr) (vs' : List V) (ds : List D), vs = .ref p :: vs' ∧ (∀ a, M a → ∃ o, H a = some o) ∧ M p ∧ M p3 ∧
  RGd M H [p, p3] (.so CS now goal made) (some (.ref p)) ∧ ds.length = n ∧ RepL (hid M H) ds vs' ∧ RetS κ CS M H p p3 Q E (q p p3 now goal made ds)
def retS (CS p p3 : Addr) (d : D) (s : Option Sl) : Rs SoT := match soW CS s with
  | some x => if x.1 = p ∧ x.2.1 = p3 then .val (d, x.2.2) else .stk
  | none => .stk
def soRt (CS p p3 : Addr) : So → Rs SoT
  | .nx env' => retS CS p p3 .none env'[0]?
  | .ret d env' => retS CS p p3 d env'[0]?
  | _ => .stk
abbrev soE (N : Nat) (CS p p3 : Addr) (now goal made ds : List D) : En := .gx [p, p3] (.so CS now goal made) :: (ds.map .fz ++ List.replicate (N - (ds.length + 1)) .no)
def runS (N : Nat) (CS : Addr) (g : SF) : QS := fun p p3 now goal made ds => soRt CS p p3 (g (soE N CS p p3 now goal made ds))
/-- the guard first: if it holds, that exception -/
def runX (N : Nat) (CS : Addr) (t : En → Rs Bool) (c : Ec) (g : SF) : QS := fun p p3 now goal made ds => noEx (t (soE N CS p p3 now goal made ds)) >>= fun b => if b = true then .exc c else soRt CS p p3 (g (soE N CS p p3 now goal made ds))
section
variable {P : Program} {w : World} {K : PySem.W.Frag} {mg : Str → Option Value} {base : Heap} {κ : Kp} {CS : Addr}
theorem retS_val {p p3 : Addr} {d : D} {s : Option Sl} {Q : SoT → Prop} (h : match retS CS p p3 d s with | .val r => Q r | _ => False) : ∃ n g m, s = some (.gx [p, p3] (.so CS n g m)) ∧ Q (d, n, g, m) := by
  unfold retS at h
  cases hs : soW CS s with
  | none =>
    rw [hs] at h
    exact h.elim
  | some x =>
    rw [hs] at h
    obtain ⟨q, q3, n, g, m⟩ := x
    have e := soW_some hs
    dsimp only at h
    by_cases e1 : q = p ∧ q3 = p3
    · rw [if_pos e1] at h
      obtain ⟨rfl, rfl⟩ := e1
      exact ⟨n, g, m, e, h⟩
    · rw [if_neg e1] at h
      exact h.elim
/-- the frame of a method that writes -/
theorem soE_StS {H : Hp} {M : Addr → Prop} {p p3 : Addr} {now goal made ds : List D} {vs' : List V} {N : List Str} (al : ∀ a, M a → ∃ o, H a = some o) (mp : M p) (mp3 : M p3) (r : RepL (hid M H) ds vs') (hl : ds.length + 1 ≤ N.length)
    (hg : RGd M H [p, p3] (.so CS now goal made) (some (.ref p))) :
    StS (fun a => @ite _ (a ∈ [p, p3]) (Classical.propDecidable _) none (H a)) (fun a => M a ∧ a ∉ [p, p3]) (soE N.length CS p p3 now goal made ds) (L2.start N (.ref p :: vs')) H :=
  gx_StS (gd := .so CS now goal made) (as := [p, p3]) al (fun a ha => by
    have ha : a ∈ [p, p3] := ha
    rcases List.mem_cons.mp ha with rfl | ha
    · exact mp
    · rw [List.mem_singleton.mp ha]
      exact mp3) r hl fun M' hM => RGd.mono hg (fun _ _ _ e => e) (same_hid (Same.refl _) fun a _ _ m => hM a m)
theorem so_body {H H1 : Hp} {M : Addr → Prop} {p p3 : Addr} {W : WT} {r : So} {Q : VK} {E : XK} {F0 : Hp} (e1 : Same H H1)
    (h : RetS κ CS M H p p3 Q E (soRt CS p p3 r)) : SPst W (fun a => @ite _ (a ∈ [p, p3]) (Classical.propDecidable _) none (H a)) (fun a => M a ∧ a ∉ [p, p3]) F0 { nx := fun _ H' => Q .non H', rt := Q } r := by
  have key : ∀ (d : D) (env' : En) (v : V) (σ' : L2.St) (H' : Hp), StS (fun a => @ite _ (a ∈ [p, p3]) (Classical.propDecidable _) none (H a)) (fun a => M a ∧ a ∉ [p, p3]) env' σ' H' → RetS κ CS M H p p3 Q E (retS CS p p3 d env'[0]?) →
      Rep (fr (fun a => M a ∧ a ∉ [p, p3]) env' σ' H') d v → Q v H' := fun d env' v σ' H' s' hret rv => by
    obtain ⟨n, g, m, hs, k⟩ := retS_val (Q := fun r => RetS κ CS M H p p3 Q E (.val r)) (s := env'[0]?) (CS := CS) (p := p) (p3 := p3) (d := d) (by
      revert hret
      unfold retS
      cases soW CS env'[0]? with
      | none => exact id
      | some x =>
        dsimp only
        split
        · exact id
        · exact id)
    obtain ⟨hσ, dx, v1, v2, v3, sd⟩ := so_view s'.rd hs
    have sub : ∀ a, M a → Mo (fun a => M a ∧ a ∉ [p, p3]) env' σ' a := fun a ma => by
      by_cases z : a ∈ [p, p3]
      · exact .inr ⟨0, _, _, hs, hσ, z⟩
      · exact .inl ⟨ma, z⟩
    have up : Same (fr (fun a => M a ∧ a ∉ [p, p3]) env' σ' H') (hid M H') := same_hid (Same.refl _) fun a _ _ ma => sub a ma
    refine k v H' (fun a o n1 n2 e => s'.ext a o ?_) (RGd.mono sd.gd (fun _ _ _ e => e) up) (rv.up up)
    show @ite _ (a ∈ [p, p3]) (Classical.propDecidable _) none (H a) = some o
    rw [if_neg (by
      intro z
      rcases List.mem_cons.mp z with z | z
      · exact n1 z
      · exact n2 (List.mem_singleton.mp z))]
    exact e
  cases r with
  | nx env' => exact fun σ' H' s' _ => key .none env' .non σ' H' s' h (rep_none.mpr rfl)
  | ret d env' => exact fun v σ' H' s' _ rv => key d env' v σ' H' s' h rv
  | _ => exact h.elim
/-- a def or a method that writes and raises nothing -/
theorem fn_soC {x qual : Str} {st : Stmt} {f : Addr} {fd : FuncData} {N ps : List Str} {k n : Nat} {g : SF} {q : QS} (F : Fun K x qual st f fd) (S : FnScope N ps (defScope st)) (hn : ps.length = n + 1) (hnN : n + 1 ≤ N.length) (hq : q = runS N.length CS g)
    (hbody : ∀ (cdv : Value) (A : Around) (outer : List Env) (s : Shared) (H : Hp) (E : XK), Room k (A.deeper (PyProof.Rows.envOfC qual (defScope st) s.heap.objs.size f cdv)) →
      ∃ t, PSsv K W0 (cxOf CX0 P w K mg base N qual (defScope st) f cdv A outer s H E).nox (defBody st) t g) : FnOk P w K mg base CX0 (k + 1) f fd ps (spS κ CS n q) := by
  refine F.ok S (fun vs H Q E h => ?_) (fun cdv A outer s H vs Q E hr h => ?_)
  · obtain ⟨M, now, goal, made, p, p3, vs', ds, rfl, al, mp, mp3, hg, hl, r, _⟩ := h
    rw [List.length_cons, ← r.len, hl, hn]
  · obtain ⟨M, now, goal, made, p, p3, vs', ds, rfl, al, mp, mp3, hg, hl, r, hret⟩ := h
    obtain ⟨t, ht⟩ := hbody cdv A outer s H E hr
    refine ⟨t, ht.ps, ?_⟩
    subst hq
    exact ht.ev _ _ _ _ H _ (soE_StS (N := N) al mp mp3 r (by omega) hg) (so_body (Same.refl H) hret)
/-- a method that writes; its first statement raises, if a test holds -/
theorem fn_soX {x qual : Str} {st : Stmt} {f : Addr} {fd : FuncData} {N ps : List Str} {k n : Nat} {g : SF} {q : QS} {c : Ec} {test : Expr} {rs : Stmt} {pos : Pos} {rest : List Stmt} {tb : En → Rs Bool} (F : Fun K x qual st f fd) (S : FnScope N ps (defScope st)) (hn : ps.length = n + 1) (hnN : n + 1 ≤ N.length)
    (hq : q = runX N.length CS tb c g) (hd : defBody st = .If test [rs] [] pos :: rest)
    (hbody : ∀ (cdv : Value) (A : Around) (outer : List Env) (s : Shared) (H : Hp) (E : XK), Room k (A.deeper (PyProof.Rows.envOfC qual (defScope st) s.heap.objs.size f cdv)) →
      ∃ tt t, PTv K (WE1 κ E) (cxOf (L2.CX P w) P w K mg base N qual (defScope st) f cdv A outer s H E) test tt tb ∧ PS (cxOf (L2.CX P w) P w K mg base N qual (defScope st) f cdv A outer s H E) rs (fun _ σ H => WXof κ (WE1 κ E) (κ c) none σ H) ∧
        PSsv K (WE1 κ E) (cxOf (L2.CX P w) P w K mg base N qual (defScope st) f cdv A outer s H E) rest t g) : FnOk P w K mg base (L2.CX P w) (k + 1) f fd ps (spS κ CS n q) := by
  refine F.okX S (fun vs H Q E h => ?_) (fun cdv A outer s H vs Q E hr h => ?_)
  · obtain ⟨M, now, goal, made, p, p3, vs', ds, rfl, al, mp, mp3, hg, hl, r, _⟩ := h
    rw [List.length_cons, ← r.len, hl, hn]
  · obtain ⟨M, now, goal, made, p, p3, vs', ds, rfl, al, mp, mp3, hg, hl, r, hret⟩ := h
    obtain ⟨tt, t, h1, h2, h3⟩ := hbody cdv A outer s H E hr
    rw [hd]
    refine ⟨_, pss_cons (ps_if h1.pt (pss_one h2) pss_nil) h3.ps, ?_⟩
    subst hq
    have st0 := soE_StS (CS := CS) (N := N) al mp mp3 r (by omega) hg
    refine h1.ev _ _ _ H st0.rd _ ?_
    unfold runX at hret
    cases htb : tb (soE N.length CS p p3 now goal made ds) with
    | exc _ =>
      rw [htb] at hret
      exact hret.elim
    | stk =>
      rw [htb] at hret
      exact hret.elim
    | val b =>
      rw [htb] at hret
      intro b' H1 e1 hb
      subst hb
      cases b' with
      | true => exact ⟨c, rfl, rfl, (show ∀ H', Same H H' → E (κ c) none H' from hret) H1 e1⟩
      | false => exact h3.ev _ _ _ _ H1 _ (st0.up e1) (so_body e1 hret)
end
/-! calls of them -/
def tMethX (C : Addr) (m : Str) (sp : Sp) (E : L2.St → XK) (ta : TE) (t : TA) : TE := fun σ H Q => ta σ H fun x H1 => ∃ a dx fs, x = .ref a ∧ H1 a = some (.ins C dx fs) ∧ fs.lookup m = none ∧ t σ H1 fun vs H2 => sp (x :: vs) H2 Q (E σ)
section
variable {X : Cx} {CX : CXT} {k : Nat} {f C : Addr} {fd : FuncData} {ps : List Str} {sp : Sp} {E : L2.St → XK} {x m : Str} {p pos apos : Pos} {e o : Expr} {es : List Expr} {ta : TE} {t : TA}
theorem pe_methX {pl : Sem Bool} (he : PE X o ta) (c : Cls X.K C) (hm : Meth X.K C m f) (F : FnOk X.prog X.w X.K X.mg X.base CX k f fd ps sp) (hr : Room k X.A) (hb : Binds X.K fd ps []) (hx : ∀ σ, PassesAt CX X σ (E σ)) (ha : PA X (e :: es) t)
    (hst : starEach (e :: es) X.env = (false, eval e X.env) :: starEach es X.env := by rfl) (hpl : (backTo pos (starEach es X.env)).any (·.1) = false := by rfl)
    (ht : eval (.Call (.Attribute o m apos) (e :: es) [] pos) X.env = (do
      let ov ← eval o X.env
      standAt apos.atName
      let (f, first) ← holding [ov] (getMethod ov m pl)
      callWith pos f first (backTo pos (starEach (e :: es) X.env)) (backToKw pos (keywordEach [] X.env))) := by rfl) :
    PE X (.Call (.Attribute o m apos) (e :: es) [] pos) (tMethX C m sp E ta t) := by
  refine ⟨fun pins s σ H Q I h => ?_⟩
  refine PySem.W.methodCall_KW (pl := pl) (thn (he.run pins s σ H _ I h) fun u s1 ⟨x, H1, I1, rx, a, dx, fs, ex, ea, l, q⟩ => ?_) ht
  subst ex
  obtain rfl : u = Value.ref a := rx
  refine getmeth_ok I1 ea c hm l ?_
  refine PySem.W.callWith_K (first := [.ref a]) (h₀ := X.base) I.ok.mod.kin hm.kp (thn (ha.run pos pins s1 σ H1 _ I1 q) fun us s2 ⟨vs, H2, I2, r, q2⟩ => ⟨I2.kIn, ?_⟩) hst hpl
  exact run_fnS (us := .ref a :: us) (vs := .ref a :: vs) F hr hb (hx σ) I2 (.cons rfl r) q2
theorem pe_methX0 {pl : Sem Bool} (he : PE X o ta) (c : Cls X.K C) (hm : Meth X.K C m f) (F : FnOk X.prog X.w X.K X.mg X.base CX k f fd ps sp) (hr : Room k X.A) (hb : Binds X.K fd ps []) (hx : ∀ σ, PassesAt CX X σ (E σ))
    (ht : eval (.Call (.Attribute o m apos) [] [] pos) X.env = (do
      let ov ← eval o X.env
      standAt apos.atName
      let (f, first) ← holding [ov] (getMethod ov m pl)
      callWith pos f first (backTo pos (starEach [] X.env)) (backToKw pos (keywordEach [] X.env))) := by rfl) :
    PE X (.Call (.Attribute o m apos) [] [] pos) (tMethX C m sp E ta tNil) := by
  refine ⟨fun pins s σ H Q I h => ?_⟩
  refine PySem.W.methodCall_KW (pl := pl) (thn (he.run pins s σ H _ I h) fun u s1 ⟨x, H1, I1, rx, a, dx, fs, ex, ea, l, q⟩ => ?_) ht
  subst ex
  obtain rfl : u = Value.ref a := rx
  refine getmeth_ok I1 ea c hm l ?_
  exact PySem.W.callWith_K0 (first := [.ref a]) I1.kIn hm.kp (run_fnS (us := [.ref a]) (vs := [.ref a]) F hr hb (hx σ) I1 (.cons rfl .nil) q)
end
theorem takes0 {X : Cx} : Takes X (fun _ _ _ _ => False) := fun u s' ⟨a, B, sI, pins, σ, H, cls, d, e, I, nb, up, sky, na, os, ag, w⟩ => w.elim
section
variable {κ : Kp} {CS : Addr} {n : Nat} {q : QS}
theorem so_go {B : Hp} {N : Addr → Prop} {env : En} {σ : L2.St} {H : Hp} {i : Nat} {p p3 : Addr} {n0 g0 m0 ds : List D} {vs : List V} {Q : VK} {E : XK} (s : StS B N env σ H) (hi : env[i]? = some (.gx [p, p3] (.so CS n0 g0 m0))) (r : RepL (fr N env σ H) ds vs) (hl : ds.length = n)
    (h : match q p p3 n0 g0 m0 ds with
      | .val r => ∀ v H', StS B N (env.set i (.gx [p, p3] (.so CS r.2.1 r.2.2.1 r.2.2.2))) σ H' → Same (fr N env σ H) (fr N (env.set i (.gx [p, p3] (.so CS r.2.1 r.2.2.1 r.2.2.2))) σ H') → Rep (fr N (env.set i (.gx [p, p3] (.so CS r.2.1 r.2.2.1 r.2.2.2))) σ H') r.1 v → Q v H'
      | .exc c => ∀ H', Same H H' → E (κ c) none H'
      | .stk => False) : spS κ CS n q (.ref p :: vs) H Q E := by
  obtain ⟨hσ, dx, v1, v2, v3, d⟩ := so_view s.rd hi
  refine ⟨Mo N env σ, n0, g0, m0, p, p3, vs, ds, rfl, s.rd.al, .inr ⟨i, _, _, hi, hσ, by simp [adr, gadr]⟩, .inr ⟨i, _, _, hi, hσ, by simp [adr, gadr]⟩, d.gd, hl, r, ?_⟩
  revert h
  cases q p p3 n0 g0 m0 ds with
  | val z =>
    intro h v H' el rg rv
    obtain ⟨g1, g2, g3⟩ := s.so_upd hi el rg
    exact h v H' g1 g2 (rv.up g3)
  | exc c => exact id
  | stk => exact id
def soOut (CS : Addr) (i : Nat) (p p3 : Addr) (env : En) (r : SoT) : Rs (D × En) := .val (r.1, env.set i (.gx [p, p3] (.so CS r.2.1 r.2.2.1 r.2.2.2)))
def mSo (CS : Addr) (n : Nat) (q : QS) (i : Nat) (fs : En → Rs (List D × En)) : MF := fun env => ofO (soW CS env[i]?) >>= fun _ => fs env >>= fun l => ofO (soW CS l.2[i]?) >>= fun x => if l.1.length = n then q x.1 x.2.1 x.2.2.1 x.2.2.2.1 x.2.2.2.2 l.1 >>= soOut CS i x.1 x.2.1 l.2 else .stk
theorem evm_so {B : Hp} {N : Addr → Prop} {env : En} {σ : L2.St} {H : Hp} {i : Nat} {fs : En → Rs (List D × En)} {tA : TA} {E : XK} (ha : EvMA W0 tA fs) (s : StS B N env σ H) {Q : VK} (hp : MPst W0 B N (fr N env σ H) σ RpD Q (mSo CS n q i fs env)) :
    ∃ p p3 n0 g0 m0, env[i]? = some (.gx [p, p3] (.so CS n0 g0 m0)) ∧ tA σ H fun vs H1 => spS κ CS n q (.ref p :: vs) H1 Q E := by
  unfold mSo at hp
  obtain ⟨⟨p, p3, n0, g0, m0⟩, hz, hp⟩ := ofO_go hp
  have hi := soW_some hz
  refine ⟨p, p3, n0, g0, m0, hi, ha B N env σ H s _ (MPst.step (R := RpD) (Q := Q) hp fun l e1 _ vs H1 s1 q1 r1 p1 => ?_)⟩
  obtain ⟨⟨p', p3', n1, g1, m1⟩, hz1, p1⟩ := ofO_go p1
  have hi1 := soW_some hz1
  have hσ := (so_view s.rd hi).1
  have hσ1 := (so_view s1.rd hi1).1
  rw [hσ] at hσ1
  cases hσ1
  dsimp only at p1
  split at p1
  · rename_i hl
    refine so_go s1 hi1 r1 hl ?_
    revert p1
    cases q p p3' n1 g1 m1 l with
    | val z => exact fun p1 v H' a b c => p1 v H' a b c
    | exc c => exact fun p1 => (p1 e1 H1 s1).elim
    | stk => exact fun p1 => p1.elim
  · exact p1.elim
end
section
variable {K : PySem.W.Frag} {W : WT} {X : Cx} {CX : CXT} {κ : Kp} {i k n : Nat} {x y m : Str} {a b e f : Expr} {es : List Expr} {tA : TA} {fs : En → Rs (List D × En)} {pos p spos apos cpos py : Pos} {CS fa : Addr} {fd : FuncData} {ps : List Str} {q : QS} {pl : Sem Bool}
theorem m_so {qual : Str} {st : Stmt} (hS : SoC K CS) (hD : MDfn K CS m qual st ps fa) (F : FnOk X.prog X.w X.K X.mg X.base (L2.CX X.prog X.w) k fa (fdOf K fa) ps (spS κ CS n q)) (hr : Room k X.A) (hN : X.N[i]? = some x) (ha : PAM K W0 X (e :: es) tA fs) (hK : X.K = K := by rfl) (hm1 : (m == ("now" : Str)) = false := by decide) (hm2 : (m == ("goal" : Str)) = false := by decide) (hm3 : (m == ("made" : Str)) = false := by decide)
    (hv : Vis X.env.scope x := by first | exact Or.inl rfl | exact Or.inr (Or.inl rfl) | exact Or.inr (Or.inr rfl)) (hd : (x == ("__debug__" : Str)) = false := by decide) (hcd : (x == ("__classdict__" : Str)) = false := by decide)
    (hst : starEach (e :: es) X.env = (false, eval e X.env) :: starEach es X.env := by rfl) (hpl : (backTo pos (starEach es X.env)).any (·.1) = false := by rfl)
    (ht : eval (.Call (.Attribute (.Name x p) m apos) (e :: es) [] pos) X.env = (do
      let ov ← eval (.Name x p) X.env
      standAt apos.atName
      let (f, first) ← holding [ov] (getMethod ov m pl)
      callWith pos f first (backTo pos (starEach (e :: es) X.env)) (backToKw pos (keywordEach [] X.env))) := by rfl) :
    PEM K W0 X (.Call (.Attribute (.Name x p) m apos) (e :: es) [] pos) (tMethX CS m (spS κ CS n q) (WE fun _ _ _ _ => False) (tVar i) tA) (mSo CS n q i fs) := by
  subst hK
  refine ⟨pe_methX (pe_var hN hv hd hcd) hS.cls hD.at_ F hr hD.b (fun σ => passAt takes0 σ) ha.pa hst hpl ht, fun B N env σ H s Q p => ?_⟩
  obtain ⟨p0, p3, n0, g0, m0, hi, t⟩ := evm_so (κ := κ) (E := fun _ _ _ => False) ha.ev s p
  obtain ⟨hσ, dx, v1, v2, v3, d⟩ := so_view s.rd hi
  exact ⟨.ref p0, hσ, p0, dx, sofs v1 v2 (.ref p3), rfl, d.ins, lkN hm1 hm2 hm3, t⟩
/-- a calm def whose first argument is the thing in slot i -/
theorem m_soC (F : FnOk X.prog X.w X.K X.mg X.base CX0 k fa fd ps (spS κ CS n q)) (hr : Room k X.A) (hm : X.mg x = some (.ref fa)) (hk : PySem.W.keepIn X.K (.ref fa) = true) (hb : Binds X.K fd ps []) (hN : X.N[i]? = some y) (ha : PAM K W0 X es tA fs)
    (hv : Vis X.env.scope y := by first | exact Or.inl rfl | exact Or.inr (Or.inl rfl) | exact Or.inr (Or.inr rfl)) (hdy : (y == ("__debug__" : Str)) = false := by decide) (hcd : (y == ("__classdict__" : Str)) = false := by decide)
    (hg : Gl X x := by rfl) (hdb : (x == ("__debug__" : Str)) = false := by decide) (he : starEach (.Name y py :: es) X.env = (false, eval (.Name y py) X.env) :: starEach es X.env := by rfl) (hpl : (backTo pos (starEach es X.env)).any (·.1) = false := by rfl) :
    PEM K W0 X (.Call (.Name x p) (.Name y py :: es) [] pos) (tCall (spS κ CS n q) [] E0 (tCons (tVar i) tA)) (mSo CS n q i fs) := by
  refine ⟨pe_call F hr hg hm hk hb .nil pass0 (pa_cons (pe_var hN hv hdy hcd) ha.pa he) hdb he hpl, fun B N env σ H s Q p => ?_⟩
  obtain ⟨p0, p3, n0, g0, m0, hi, t⟩ := evm_so (κ := κ) (E := E0) ha.ev s p
  obtain ⟨hσ, dx, v1, v2, v3, d⟩ := so_view s.rd hi
  refine ⟨.ref p0, hσ, ?_⟩
  show tA σ H fun vs H1 => spS κ CS n q (V.ref p0 :: vs ++ []) H1 Q E0
  have e : (fun vs H1 => spS κ CS n q (V.ref p0 :: vs ++ []) H1 Q E0) = fun vs H1 => spS κ CS n q (V.ref p0 :: vs) H1 Q E0 := by
    funext vs H1
    rw [List.append_nil]
  rw [e]
  exact t
end
end Ag


namespace Ag
open PySem PySem.Spec PyProof.Rows L2
/-! ### expressions that write or raise -/
def XPst (W : WT) (B : Hp) (N : Addr → Prop) (env : En) (σ : L2.St) (H : Hp) (Q : VK) : Rs (D × En) → Prop
  | .val r => ∀ v H', StS B N r.2 σ H' → Same (fr N env σ H) (fr N r.2 σ H') → Rep (fr N r.2 σ H') r.1 v → Q v H'
  | .exc c => ∀ H', Same H H' → W c σ H'
  | .stk => False
def EvX (W : WT) (te : TE) (f : MF) : Prop := ∀ B N env σ H, StS B N env σ H → ∀ Q : VK, XPst W B N env σ H Q (f env) → te σ H Q
structure PEX (K : PySem.W.Frag) (W : WT) (X : Cx) (e : Expr) (te : TE) (f : MF) : Prop where
  pe : PE X e te
  ev : EvX W te f
def mIfX (t : En → Rs Bool) (f g : MF) : MF := fun env => t env >>= fun b => if b = true then f env else g env
def mSoV (CS : Addr) (n : Nat) (q : QS) (i : Nat) (fs : En → Rs (List D)) : MF := fun env => ofO (soW CS env[i]?) >>= fun x => fs env >>= fun l => if l.length = n then q x.1 x.2.1 x.2.2.1 x.2.2.2.1 x.2.2.2.2 l >>= soOut CS i x.1 x.2.1 env else .stk
section
variable {K : PySem.W.Frag} {W : WT} {X : Cx} {κ : Kp} {i k n : Nat} {x y m : Str} {a b c e : Expr} {es : List Expr} {ta tb te : TE} {tt : TT} {tA : TA} {fb : En → Rs Bool} {fm gm : MF} {fs : En → Rs (List D)} {pos p spos apos cpos py : Pos} {CS fa : Addr} {fd : FuncData} {ps : List Str} {q : QS} {pl : Sem Bool} {qual : Str} {st : Stmt}
theorem x_if (hc : PTv K W X c tt fb) (ha : PEX K W X a ta fm) (hb : PEX K W X b tb gm) : PEX K W X (.IfExp c a b pos) (tIf tt ta tb) (mIfX fb fm gm) := ⟨pe_ifExp hc.pt ha.pe hb.pe, fun B N env σ H s Q p => hc.ev _ env σ H s.rd _ (by
  unfold mIfX at p
  cases hq : fb env with
  | exc c =>
    rw [hq] at p
    exact p
  | stk =>
    rw [hq] at p
    exact p.elim
  | val d =>
    rw [hq] at p
    intro v H1 e1 r
    have r : v = d := r
    subst r
    cases v with
    | true =>
      refine ha.ev B N env σ H1 (s.up e1) Q ?_
      have p : XPst W B N env σ H Q (fm env) := p
      show XPst W B N env σ H1 Q (fm env)
      revert p
      cases fm env with
      | val r => exact fun p v H' a b c => p v H' a ((fr_up e1).trans b) c
      | exc c => exact fun p H' a => p H' (e1.trans a)
      | stk => exact id
    | false =>
      refine hb.ev B N env σ H1 (s.up e1) Q ?_
      have p : XPst W B N env σ H Q (gm env) := p
      show XPst W B N env σ H1 Q (gm env)
      revert p
      cases gm env with
      | val r => exact fun p v H' a b c => p v H' a ((fr_up e1).trans b) c
      | exc c => exact fun p H' a => p H' (e1.trans a)
      | stk => exact id)⟩
theorem ev_soV {B : Hp} {N : Addr → Prop} {env : En} {σ : L2.St} {H : Hp} (ha : EvA W tA fs) (s : StS B N env σ H) {Q : VK} (hp : XPst W B N env σ H Q (mSoV CS n q i fs env)) :
    ∃ p p3 n0 g0 m0, env[i]? = some (.gx [p, p3] (.so CS n0 g0 m0)) ∧ tA σ H fun vs H1 => spS κ CS n q (.ref p :: vs) H1 Q (WE (WXof κ W) σ) := by
  unfold mSoV at hp
  cases hz : soW CS env[i]? with
  | none =>
    rw [hz] at hp
    exact hp.elim
  | some x =>
    rw [hz] at hp
    obtain ⟨p, p3, n0, g0, m0⟩ := x
    have hi := soW_some hz
    refine ⟨p, p3, n0, g0, m0, hi, ha _ env σ H s.rd _ ?_⟩
    have hp : XPst W B N env σ H Q (fs env >>= fun l => if l.length = n then q p p3 n0 g0 m0 l >>= soOut CS i p p3 env else .stk) := hp
    cases hq : fs env with
    | exc c =>
      rw [hq] at hp
      exact hp
    | stk =>
      rw [hq] at hp
      exact hp.elim
    | val l =>
      rw [hq] at hp
      intro vs H1 e1 r1
      have hp : XPst W B N env σ H Q (if l.length = n then q p p3 n0 g0 m0 l >>= soOut CS i p p3 env else .stk) := hp
      split at hp
      · rename_i hl
        refine so_go (s.up e1) hi r1 hl ?_
        revert hp
        cases q p p3 n0 g0 m0 l with
        | val z => exact fun p1 v H' a b c => p1 v H' a ((fr_up e1).trans b) c
        | exc c => exact fun p1 H' a => ⟨c, rfl, rfl, p1 H' (e1.trans a)⟩
        | stk => exact fun p1 => p1.elim
      · exact hp.elim
theorem x_so (tk : Takes X (WXof κ W)) (hS : SoC K CS) (hD : MDfn K CS m qual st ps fa) (F : FnOk X.prog X.w X.K X.mg X.base (L2.CX X.prog X.w) k fa (fdOf K fa) ps (spS κ CS n q)) (hr : Room k X.A) (hN : X.N[i]? = some x) (ha : PAv K W X (e :: es) tA fs) (hK : X.K = K := by rfl) (hm1 : (m == ("now" : Str)) = false := by decide) (hm2 : (m == ("goal" : Str)) = false := by decide) (hm3 : (m == ("made" : Str)) = false := by decide)
    (hv : Vis X.env.scope x := by first | exact Or.inl rfl | exact Or.inr (Or.inl rfl) | exact Or.inr (Or.inr rfl)) (hd : (x == ("__debug__" : Str)) = false := by decide) (hcd : (x == ("__classdict__" : Str)) = false := by decide)
    (hst : starEach (e :: es) X.env = (false, eval e X.env) :: starEach es X.env := by rfl) (hpl : (backTo pos (starEach es X.env)).any (·.1) = false := by rfl)
    (ht : eval (.Call (.Attribute (.Name x p) m apos) (e :: es) [] pos) X.env = (do
      let ov ← eval (.Name x p) X.env
      standAt apos.atName
      let (f, first) ← holding [ov] (getMethod ov m pl)
      callWith pos f first (backTo pos (starEach (e :: es) X.env)) (backToKw pos (keywordEach [] X.env))) := by rfl) :
    PEX K W X (.Call (.Attribute (.Name x p) m apos) (e :: es) [] pos) (tMethX CS m (spS κ CS n q) (WE (WXof κ W)) (tVar i) tA) (mSoV CS n q i fs) := by
  subst hK
  refine ⟨pe_methX (pe_var hN hv hd hcd) hS.cls hD.at_ F hr hD.b (fun σ => passAt tk σ) ha.pa hst hpl ht, fun B N env σ H s Q p => ?_⟩
  obtain ⟨p0, p3, n0, g0, m0, hi, t⟩ := ev_soV (κ := κ) ha.ev s p
  obtain ⟨hσ, dx, v1, v2, v3, d⟩ := so_view s.rd hi
  exact ⟨.ref p0, hσ, p0, dx, sofs v1 v2 (.ref p3), rfl, d.ins, lkN hm1 hm2 hm3, t⟩
theorem x_so0 (tk : Takes X (WXof κ W)) (hS : SoC K CS) (hD : MDfn K CS m qual st ps fa) (F : FnOk X.prog X.w X.K X.mg X.base (L2.CX X.prog X.w) k fa (fdOf K fa) ps (spS κ CS n q)) (hr : Room k X.A) (hN : X.N[i]? = some x) (hK : X.K = K := by rfl) (hm1 : (m == ("now" : Str)) = false := by decide) (hm2 : (m == ("goal" : Str)) = false := by decide) (hm3 : (m == ("made" : Str)) = false := by decide)
    (hv : Vis X.env.scope x := by first | exact Or.inl rfl | exact Or.inr (Or.inl rfl) | exact Or.inr (Or.inr rfl)) (hd : (x == ("__debug__" : Str)) = false := by decide) (hcd : (x == ("__classdict__" : Str)) = false := by decide)
    (ht : eval (.Call (.Attribute (.Name x p) m apos) [] [] pos) X.env = (do
      let ov ← eval (.Name x p) X.env
      standAt apos.atName
      let (f, first) ← holding [ov] (getMethod ov m pl)
      callWith pos f first (backTo pos (starEach [] X.env)) (backToKw pos (keywordEach [] X.env))) := by rfl) :
    PEX K W X (.Call (.Attribute (.Name x p) m apos) [] [] pos) (tMethX CS m (spS κ CS n q) (WE (WXof κ W)) (tVar i) tNil) (mSoV CS n q i aNil) := by
  subst hK
  refine ⟨pe_methX0 (pe_var hN hv hd hcd) hS.cls hD.at_ F hr hD.b (fun σ => passAt tk σ) ht, fun B N env σ H s Q p => ?_⟩
  obtain ⟨p0, p3, n0, g0, m0, hi, t⟩ := ev_soV (κ := κ) ea_nil s p
  obtain ⟨hσ, dx, v1, v2, v3, d⟩ := so_view s.rd hi
  exact ⟨.ref p0, hσ, p0, dx, sofs v1 v2 (.ref p3), rfl, d.ins, lkN hm1 hm2 hm3, t⟩
end
def sTryX (i1 i2 ie : Nat) (κ : Kp) (f : MF) : SF := fun env => match f env with
  | .val r => .nx (r.2.set i1 (.fz r.1))
  | .exc c => if ie < env.length then .nx ((env.set i2 (.ob (ecN c) (exK κ c))).set ie .no) else .stk
  | .stk => .stk
section
variable {K : PySem.W.Frag} {X : Cx} {κ : Kp} {cx n x1 x2 : Str} {c : Value} {i1 i2 ie : Nat} {b : Expr} {np pos pos' p1 p2 p3 pb ps : Pos} {te : WX → TE} {f : MF}
theorem s_tryX (hs : X.stack = X.env :: X.outer) (hf : X.env.frame = some X.env.locals) (hN : X.N.Nodup) (h1 : X.N[i1]? = some x1) (h2 : X.N[i2]? = some x2) (hie : X.N[ie]? = some n) (hne : ie ≠ i2) (hln : X.env.kindOf n = some .local) (hc : Names X cx c) (hm : ∀ k, PySem.W.exmOne X.K (κ k) c = some true)
    (he : ∀ (W : WX) (pn : List (Addr × PySem.Obj)) (xe : PySem.Value → PySem.Shared → Prop), Takes (X.tr pn xe) W → PEX K (fun k σ H => W (κ k) none σ H) (X.tr pn xe) b (te W) f)
    (hb : ∀ (pn : List (Addr × PySem.Obj)) (xe : PySem.Value → PySem.Shared → Prop) (t : TE), PE (X.tr pn xe) b t → PS (X.tr pn xe) (.Assign [.Name x1 p1] b pb) (tAsg t (gName i1)))
    (hsu : ∀ (a : Addr) (pn : List (Addr × PySem.Obj)), PS (X.suite a pn) (.Assign [.Name x2 p2] (.Name n p3) ps) (tAsg (tVar ie) (gName i2))) :
    PSv K W0 X (.Try [.Assign [.Name x1 p1] b pb] [.ExceptHandler (some (.Name cx np)) (some n) [.Assign [.Name x2 p2] (.Name n p3) ps] pos'] [] [] pos)
      (fun D σ H => tAsg (te (wKeep X.K c ie (fun _ _ _ => tAsg (tVar ie) (gName i2)) D)) (gName i1) D σ H) (sTryX i1 i2 ie κ f) := by
  refine ⟨ps_try_keep (tb := fun W => tAsg (te W) (gName i1)) (ts := fun _ _ _ => tAsg (tVar ie) (gName i2)) hs hf hN hie hln hc (fun W pn xe tk _ => pss_one (hb pn xe _ (he W pn xe tk).pe)) (fun a oe cls d pn _ _ => pss_one (hsu a _)), fun B N env σ H D s p => ?_⟩
  have ev := (he (wKeep X.K c ie (fun _ _ _ => tAsg (tVar ie) (gName i2)) D) [] (fun _ _ => True) (fun _ _ _ => trivial)).ev
  refine ev B N env σ H s _ ?_
  unfold sTryX at p
  cases hq : f env with
  | val d =>
    rw [hq] at p
    intro v H' s' e r
    obtain ⟨g1, g2⟩ := s'.setf (i := i1) r
    exact p _ _ g1 (e.trans g2)
  | exc k =>
    rw [hq] at p
    have hl : ie < env.length := Classical.byContradiction fun z => by
      dsimp only at p
      rw [if_neg z] at p
      exact p.elim
    dsimp only at p
    rw [if_pos hl] at p
    intro H' e
    refine ⟨hm k, fun a na => ⟨.ref a, ?_, ?_⟩⟩
    · exact List.getElem?_set_self (by rw [s.len]; exact hl)
    · obtain ⟨g1, g2⟩ := (s.up e).setob (i := i2) (t := ecN k) (k := exK κ k) na
      obtain ⟨g3, g4⟩ := g1.forget ie none
      have el : ((σ.set ie (some (V.ref a))).set i2 (some (V.ref a))).set ie none = (σ.set i2 (some (V.ref a))).set ie none := by
        rw [List.set_comm _ _ hne, List.set_set]
      show D.nx (((σ.set ie (some (V.ref a))).set i2 (some (V.ref a))).set ie none) (upd H' a (ExO a (κ k) none))
      rw [el]
      exact p _ _ g3 (((fr_up e).trans g2).trans g4)
  | stk =>
    rw [hq] at p
    exact p.elim
end
/-! ### len of a thing with its own __len__ -/
structure LenC (K : PySem.W.Frag) (CS f : Addr) : Prop where
  at_ : PySem.W.findIn K (.ref CS) "__len__" = some (some (.ref f))
  fn : PySem.W.isFn K (.ref f) = true
def rLenS (CS : Addr) (sp : Sp) : List V → Hp → VK → Prop := fun xs H Q => ∃ (p dx : Addr) (fs : List (Str × V)), xs = [.ref p] ∧ H p = some (.ins CS dx fs) ∧ sp [.ref p] H (fun v H' => ∃ n : Int, v = .int n ∧ 0 ≤ n ∧ n < 2 ^ 63 ∧ Q (.int n) H') E0
theorem cr_lenS {X : Cx} {k : Nat} {CS f : Addr} {ps : List Str} {sp : Sp} {m qual : Str} {st : Stmt} (hL : LenC X.K CS f) (hD : MDfn X.K CS m qual st ps f) (F : FnOk X.prog X.w X.K X.mg X.base CX0 k f (fdOf X.K f) ps sp) (hr : Room (k + 1) X.A) : CallR X (.builtin "len") (rLenS CS sp) := by
  intro pins s σ H xs us Q I r h
  obtain ⟨p, dx, fs, rfl, hH, q⟩ := h
  cases r with
  | cons r1 r2 =>
    cases r2
    obtain rfl := (show _ = Value.ref p from r1)
    obtain ⟨mA, O, _, _, _, _⟩ := ins_get I.hok hH
    obtain ⟨od, IA, _⟩ := O.look
    obtain ⟨mm, Fr0⟩ := I.fr
    refine PySem.W.len_K Fr0 I.ok.mod.kin IA hL.at_ hL.fn ?_
    have hl : ([Value.ref p] : List Value).length = ps.length := F.len _ _ _ _ q
    have b := hD.b s [Value.ref p] I.kIn (by rw [List.append_nil]; exact hl)
    rw [List.append_nil] at b
    refine wpAny_call (codeAny_mono (F.run X.A.in1 X.stack s H ⟨[Value.ref p], []⟩ [Value.ref p] [V.ref p] _ E0 hr.in1 I.env0.in1 b (.cons rfl .nil) q) fun r s' hq => ?_)
    cases r with
    | error e => exact hq.elim
    | ok fl =>
      cases fl with
      | ret u =>
        obtain ⟨v, H', I3, rv, n, rfl, h0, h1, hq3⟩ := I.after hq
        obtain ⟨t, rfl⟩ := rv
        exact ⟨⟨h0, h1⟩, .int n, H', I3.tok _, ⟨_, rfl⟩, hq3⟩
      | next => exact False.elim hq
      | brk => exact False.elim hq
      | cont => exact False.elim hq
def lenG (r : Rs D) : Rs D := r >>= fun d => match d with
  | .int n => if 0 ≤ n ∧ n ≤ 100000 then .val (.int n) else .stk
  | _ => .stk
def eLenS (CS : Addr) (q : QF) (i : Nat) : EF := fun env => lenG (eMF CS 0 q i aNil env)
section
variable {K : PySem.W.Frag} {W : WT} {X : Cx} {i k : Nat} {x qual : Str} {pos p py : Pos} {CS f : Addr} {ps : List Str} {q : QF} {st : Stmt}
theorem v_lenS (hm : X.mg "len" = none) (hL : LenC K CS f) (hD : MDfn K CS "__len__" qual st ps f) (F : FnOk X.prog X.w X.K X.mg X.base CX0 k f (fdOf K f) ps (spF 0 q)) (hr : Room (k + 1) X.A) (hN : X.N[i]? = some x) (hK : X.K = K := by rfl)
    (hv : Vis X.env.scope x := by first | exact Or.inl rfl | exact Or.inr (Or.inl rfl) | exact Or.inr (Or.inr rfl)) (hd : (x == ("__debug__" : Str)) = false := by decide) (hcd : (x == ("__classdict__" : Str)) = false := by decide)
    (hg : Gl X "len" := by rfl) (he : starEach (.Name x py :: []) X.env = (false, eval (.Name x py) X.env) :: starEach [] X.env := by rfl) (hpl : (backTo pos (starEach [] X.env)).any (·.1) = false := by rfl) :
    PEv K W X (.Call (.Name "len" p) [.Name x py] [] pos) (tCB (rLenS CS (spF 0 q)) (tCons (tVar i) tNil)) (eLenS CS q i) := by
  subst hK
  refine ⟨pe_callB (cr_lenS hL hD F hr) hg hm PySem.boot_len (pa_cons (pe_var hN hv hd hcd) pa_nil he) (by decide) (by decide) he hpl, fun M env σ H rs Q q' => ?_⟩
  unfold eLenS lenG eMF at q'
  cases hz : soG CS env[i]? with
  | none =>
    rw [hz] at q'
    exact q'.elim
  | some z =>
    rw [hz] at q'
    obtain ⟨n0, g0, m0⟩ := z
    obtain ⟨p0, dx, v1, v2, v3, M1, hσ, hins, hM1, hfo⟩ := fo_view rs hz
    refine ⟨.ref p0, hσ, p0, dx, sofs v1 v2 v3, rfl, hins, M1, CS, n0, g0, m0, p0, [], [], rfl, fun a ma => rs.al a (hM1 a ma), hfo, rfl, repL_nil, ?_⟩
    have q' : Pst H (fun c H' => W c σ H') (fun d v H' => Rep (hid M H') d v) Q (inG (q CS n0 g0 m0 []) >>= fun d => match d with
      | .int n => if 0 ≤ n ∧ n ≤ 100000 then .val (.int n) else .stk
      | _ => .stk) := q'
    revert q'
    cases q CS n0 g0 m0 [] with
    | val rv =>
      cases rv with
      | d d =>
        cases d with
        | int n =>
          intro q' H' s
          have q' : Pst H (fun c H' => W c σ H') (fun d v H' => Rep (hid M H') d v) Q (if 0 ≤ n ∧ n ≤ 100000 then .val (.int n) else .stk) := q'
          split at q'
          · rename_i hn
            exact ⟨n, rfl, hn.1, by omega, q' _ H' s (rep_int.mpr rfl)⟩
          · exact q'.elim
        | _ => exact fun q' => q'.elim
      | o l =>
        intro q'
        unfold inG at q'
        dsimp only at q'
        cases hi : intsOf l with
        | none =>
          rw [hi] at q'
          exact q'.elim
        | some ns =>
          rw [hi] at q'
          exact q'.elim
    | exc c => exact fun q' => q'.elim
    | stk => exact fun q' => q'.elim
end
end Ag


namespace Ag
open PySem L2
/-! ### the making of a thing -/
abbrev ini (l1 l2 : List D) : En := [.no, .fz (.list l1), .fz (.list l2)]
def okI (f1 : EF) (f2 f3 f4 : En → Rs (List D)) (l1 l2 : List D) : Prop := f1 (ini l1 l2) = .val .none ∧ f2 (ini l1 l2) = .val l1 ∧ f3 (ini l1 l2) = .val l2 ∧ f4 (ini l1 l2) = .val []
def spInit (CS : Addr) (ok : List D → List D → Prop) : Sp := fun vs H Q E => ∃ (M : Addr → Prop) (p dx : Addr) (l1 l2 : List D) (v1 v2 : V), vs = [.ref p, v1, v2] ∧ (∀ a, M a → ∃ o, H a = some o) ∧ M p ∧ H p = some (.ins CS dx []) ∧ hid M H dx = some (.own p) ∧
  Rep (hid M H) (.list l1) v1 ∧ Rep (hid M H) (.list l2) v2 ∧ ok l1 l2 ∧
  ∀ H' p3 w1 w2, (∀ a o, a ≠ p → H a = some o → H' a = some o) → H p3 = none → SoD (fun a => M a ∨ a = p3) H' CS l1 l2 [] p p3 dx w1 w2 [] → Q .non H'
section
variable {P : Program} {w : World} {K : PySem.W.Frag} {mg : Str → Option Value} {base : Heap} {CS : Addr}
theorem ini_up {M : Addr → Prop} {l1 l2 : List D} {σ : L2.St} {H H' : Hp} {p : Addr} (h : RSt M (ini l1 l2) σ H) (mp : M p) (el : ∀ a o, a ≠ p → H a = some o → H' a = some o) (hp : ∃ o, H' p = some o) : RSt M (ini l1 l2) σ H' := by
  have up : Same (hid M H) (hid M H') := fun a o e => by
    obtain ⟨e1, e2⟩ := hid_some.mp e
    exact hid_some.mpr ⟨e1, el a o (fun z => e1 (by rw [z]; exact mp)) e2⟩
  refine ⟨fun a m => ?_, fun i s hs => ?_⟩
  · by_cases z : a = p
    · rw [z]
      exact hp
    · exact (h.al a m).imp fun o e => el a o z e
  · obtain ⟨o, ho, r⟩ := h.sl i s hs
    refine ⟨o, ho, ?_⟩
    match i with
    | 0 =>
      cases hs
      trivial
    | 1 =>
      cases hs
      obtain ⟨x, e, r⟩ := r
      exact ⟨x, e, r.up up⟩
    | 2 =>
      cases hs
      obtain ⟨x, e, r⟩ := r
      exact ⟨x, e, r.up up⟩
    | i + 3 => cases hs
theorem ini_wr {M : Addr → Prop} {l1 l2 : List D} {σ : L2.St} {H : Hp} {p : Addr} {o : HO} (h : RSt M (ini l1 l2) σ H) (mp : M p) : RSt M (ini l1 l2) σ (upd H p o) :=
  ini_up h mp (fun a o' n e => by rw [upd_ne n]; exact e) ⟨o, upd_same⟩
theorem putGoal {z y : V} : putF ("goal" : Str) y [(("now" : Str), z)] = [(("now" : Str), z), (("goal" : Str), y)] := by
  rw [putF, if_neg (by decide), putF]
theorem putMade {z u y : V} : putF ("made" : Str) y [(("now" : Str), z), (("goal" : Str), u)] = sofs z u y := by
  rw [putF, if_neg (by decide), putF, if_neg (by decide), putF]
theorem fn_init {qual : Str} {st : Stmt} {f : Addr} {fd : FuncData} {N ps : List Str} {k : Nat} {f1 : EF} {f2 f3 f4 : En → Rs (List D)} {e1 e2 e3 e4 : Expr} {q1 q2 q3 q4 p2 p3 p4 a2 a3 a4 : Pos} {x : Str} (hC : SoC K CS) (F : Fun K x qual st f fd) (S : FnScope N ps (defScope st)) (hps : ps.length = 3) (hN : N.length = 3)
    (hd : defBody st = [.Expr e1 q1, .Assign [.Attribute (.Name "self" p2) "now" a2] e2 q2, .Assign [.Attribute (.Name "self" p3) "goal" a3] e3 q3, .Assign [.Attribute (.Name "self" p4) "made" a4] e4 q4])
    (hbody : ∀ (cdv : Value) (A : Around) (outer : List Env) (s : Shared) (H : Hp) (E : XK), Room k (A.deeper (PyProof.Rows.envOfC qual (defScope st) s.heap.objs.size f cdv)) →
      ∃ t1 t2 t3 t4, PEv K W0 (cxOf CX0 P w K mg base N qual (defScope st) f cdv A outer s H E).nox e1 t1 f1 ∧ PEO K W0 (cxOf CX0 P w K mg base N qual (defScope st) f cdv A outer s H E).nox e2 t2 f2 ∧ PEO K W0 (cxOf CX0 P w K mg base N qual (defScope st) f cdv A outer s H E).nox e3 t3 f3 ∧ PEO K W0 (cxOf CX0 P w K mg base N qual (defScope st) f cdv A outer s H E).nox e4 t4 f4 ∧
        PS (cxOf CX0 P w K mg base N qual (defScope st) f cdv A outer s H E).nox (.Expr e1 q1) (tDrop t1) ∧
        PS (cxOf CX0 P w K mg base N qual (defScope st) f cdv A outer s H E).nox (.Assign [.Attribute (.Name "self" p2) "now" a2] e2 q2) (sFld K (tVar 0) t2 "now") ∧
        PS (cxOf CX0 P w K mg base N qual (defScope st) f cdv A outer s H E).nox (.Assign [.Attribute (.Name "self" p3) "goal" a3] e3 q3) (sFld K (tVar 0) t3 "goal") ∧
        PS (cxOf CX0 P w K mg base N qual (defScope st) f cdv A outer s H E).nox (.Assign [.Attribute (.Name "self" p4) "made" a4] e4 q4) (sFld K (tVar 0) t4 "made")) : FnOk P w K mg base CX0 (k + 1) f fd ps (spInit CS (okI f1 f2 f3 f4)) := by
  refine F.ok S (fun vs H Q E h => ?_) (fun cdv A outer s H vs Q E hr h => ?_)
  · obtain ⟨M, p, dx, l1, l2, v1, v2, rfl, _⟩ := h
    rw [hps]
    rfl
  · obtain ⟨M, p, dx, l1, l2, v1, v2, rfl, al, mp, hp, hdx, r1, r2, ok, hq⟩ := h
    obtain ⟨t1, t2, t3, t4, h1, h2, h3, h4, s1, s2, s3, s4⟩ := hbody cdv A outer s H E hr
    rw [hd]
    refine ⟨_, pss_cons s1 (pss_cons s2 (pss_cons s3 (pss_one s4))), ?_⟩
    have e0 : L2.start N [V.ref p, v1, v2] = [some (.ref p), some v1, some v2] := by
      unfold L2.start
      rw [hN]
      rfl
    rw [e0]
    obtain ⟨ok1, ok2, ok3, ok4⟩ := ok
    have rs : RSt M (ini l1 l2) [some (.ref p), some v1, some v2] H := ⟨al, fun i s hs => by
      match i with
      | 0 =>
        cases hs
        exact ⟨_, rfl, trivial⟩
      | 1 =>
        cases hs
        exact ⟨_, rfl, v1, rfl, r1⟩
      | 2 =>
        cases hs
        exact ⟨_, rfl, v2, rfl, r2⟩
      | i + 3 => cases hs⟩
    refine h1.ev M (ini l1 l2) _ H rs _ ?_
    rw [ok1]
    intro _ Ha ea _
    have rsa := rs.up ea
    refine h2.ev M (ini l1 l2) _ Ha rsa _ ?_
    rw [ok2]
    intro z2 Hb eb ⟨b2, w2, hz2, n2, y2, rl2⟩
    have rsb := rsa.up eb
    refine ⟨.ref p, rfl, p, CS, dx, [], rfl, eb _ _ (ea _ _ hp), hC.cls, hC.n1, by decide, ?_⟩
    show tSeq (sFld K (tVar 0) t3 "goal") (sFld K (tVar 0) t4 "made") _ _ (upd Hb p (.ins CS dx [(("now" : Str), z2)]))
    have rsc := ini_wr (o := .ins CS dx [(("now" : Str), z2)]) rsb mp
    refine h3.ev M (ini l1 l2) _ _ rsc _ ?_
    rw [ok3]
    intro z3 Hd ed ⟨b3, w3, hz3, n3, y3, rl3⟩
    have rsd := rsc.up ed
    refine ⟨.ref p, rfl, p, CS, dx, _, rfl, ed _ _ upd_same, hC.cls, hC.n2, by show 1 < 1000; decide, ?_⟩
    rw [putGoal]
    have rse := ini_wr (o := .ins CS dx [(("now" : Str), z2), (("goal" : Str), z3)]) rsd mp
    refine h4.ev M (ini l1 l2) _ _ rse _ ?_
    rw [ok4]
    intro z4 Hf ef ⟨b4, w4, hz4, n4, y4, rl4⟩
    refine ⟨.ref p, rfl, p, CS, dx, _, rfl, ef _ _ upd_same, hC.cls, hC.n3, by show 2 < 1000; decide, ?_⟩
    rw [putMade]
    subst hz2 hz3 hz4
    rw [rl4.of_nil] at y4
    have np4 : p ≠ b4 := fun z => by
      rw [← z, upd_same] at n4
      cases n4
    have el1 : ∀ a o, a ≠ p → Hb a = some o → Hd a = some o := fun a o n e => ed a o (by rw [upd_ne n]; exact e)
    have el2 : ∀ a o, a ≠ p → Hd a = some o → upd Hf p (.ins CS dx (sofs (.ref b2) (.ref b3) (.ref b4))) a = some o := fun a o n e => by
      rw [upd_ne n]
      exact ef a o (by rw [upd_ne n]; exact e)
    have el : ∀ a o, a ≠ p → H a = some o → upd Hf p (.ins CS dx (sofs (.ref b2) (.ref b3) (.ref b4))) a = some o := fun a o n e => el2 a o n (el1 a o n (eb _ _ (ea _ _ e)))
    have hb4 : Hd b4 = none := by
      have := n4
      rwa [upd_ne (Ne.symm np4)] at this
    have back : ∀ a o, a ≠ p → Hb a = some o → a ≠ b4 := fun a o n e z => by
      rw [z] at e n
      have := el1 _ _ n e
      rw [hb4] at this
      cases this
    refine hq _ b4 (.ref b2) (.ref b3) el ?_ ⟨np4, upd_same, ?_, by rw [upd_ne (Ne.symm np4)]; rw [y4], ?_, ?_, repL_nil⟩
    · cases hh : H b4 with
      | none => rfl
      | some o =>
        have := el1 _ _ (Ne.symm np4) (eb _ _ (ea _ _ hh))
        rw [hb4] at this
        cases this
    · obtain ⟨g1, g2⟩ := hid_some.mp hdx
      have nd : dx ≠ p := fun z => g1 (by rw [z]; exact mp)
      refine hid_some.mpr ⟨fun z => z.elim g1 (back dx _ nd (eb _ _ (ea _ _ g2))), el _ _ nd g2⟩
    · have rr : Rep (hid M Hb) (.list l1) (.ref b2) := RO.rep (fun a z => rsa.free z) ⟨b2, w2, rfl, n2, y2, rl2⟩
      refine rr.up fun a o e => ?_
      obtain ⟨g1, g2⟩ := hid_some.mp e
      have na : a ≠ p := fun z => g1 (by rw [z]; exact mp)
      exact hid_some.mpr ⟨fun z => z.elim g1 (back a o na g2), el2 a o na (el1 a o na g2)⟩
    · have rr : Rep (hid M Hd) (.list l2) (.ref b3) := RO.rep (fun a z => rsc.free z) ⟨b3, w3, rfl, n3, y3, rl3⟩
      refine rr.up fun a o e => ?_
      obtain ⟨g1, g2⟩ := hid_some.mp e
      have na : a ≠ p := fun z => g1 (by rw [z]; exact mp)
      refine hid_some.mpr ⟨fun z => z.elim g1 (fun z => ?_), el2 a o na g2⟩
      rw [z, hb4] at g2
      cases g2
end
/-! ### statements behind which the places are not known: families -/
abbrev SFF := Addr → Addr → SF
structure PSvF (K : PySem.W.Frag) (W : WT) (X : Cx) (st : Stmt) (ts : TS) (g : SFF) : Prop where
  ps : PS X st ts
  ev : ∀ (B : Hp) (N : Addr → Prop) (env : En) (σ : L2.St) (H : Hp) (D : Ends), StS B N env σ H → (∀ a b, SPst W B N (fr N env σ H) D (g a b env)) → ts D σ H
structure PSsvF (K : PySem.W.Frag) (W : WT) (X : Cx) (sts : List Stmt) (ts : TS) (g : SFF) : Prop where
  ps : PSs X sts ts
  ev : ∀ (B : Hp) (N : Addr → Prop) (env : En) (σ : L2.St) (H : Hp) (D : Ends), StS B N env σ H → (∀ a b, SPst W B N (fr N env σ H) D (g a b env)) → ts D σ H
section
variable {K : PySem.W.Frag} {W : WT} {X : Cx} {st : Stmt} {rest : List Stmt} {t u : TS} {k1 k2 : SF} {g : SFF}
theorem ss_consF (h1 : PSv K W X st t k1) (h2 : PSsvF K W X rest u g) : PSsvF K W X (st :: rest) (tSeq t u) (fun a b => sSeq k1 (g a b)) := ⟨pss_cons h1.ps h2.ps, fun B N env σ H D s p => by
  refine h1.ev B N env σ H _ s ?_
  unfold sSeq at p
  cases hq : k1 env with
  | nx e =>
    rw [hq] at p
    exact fun σ' H' s' q => h2.ev B N e σ' H' D s' fun a b => SPst.up (p a b) q
  | bk e =>
    rw [hq] at p
    exact p 0 0
  | ct e =>
    rw [hq] at p
    exact p 0 0
  | ret d e =>
    rw [hq] at p
    exact p 0 0
  | reto l e =>
    rw [hq] at p
    exact p 0 0
  | exc c =>
    rw [hq] at p
    exact p 0 0
  | stk =>
    rw [hq] at p
    exact p 0 0⟩
theorem ss_newF (h1 : PSvF K W X st t g) (h2 : PSsv K W X rest u k2) : PSsvF K W X (st :: rest) (tSeq t u) (fun a b => sSeq (g a b) k2) := ⟨pss_cons h1.ps h2.ps, fun B N env σ H D s p => by
  refine h1.ev B N env σ H _ s fun a b => ?_
  have p := p a b
  unfold sSeq at p
  cases hq : g a b env with
  | nx e =>
    rw [hq] at p
    exact fun σ' H' s' q => h2.ev B N e σ' H' D s' (SPst.up p q)
  | bk e =>
    rw [hq] at p
    exact p
  | ct e =>
    rw [hq] at p
    exact p
  | ret d e =>
    rw [hq] at p
    exact p
  | reto l e =>
    rw [hq] at p
    exact p
  | exc c =>
    rw [hq] at p
    exact p
  | stk =>
    rw [hq] at p
    exact p⟩
end
end Ag


namespace Ag
open PySem L2
section
variable {K : PySem.W.Frag} {W : WT} {X : Cx} {i j k n : Nat} {x y cn : Str} {a b c e e2 : Expr} {es : List Expr} {ta tb te : TE} {tA : TA} {f g : EF} {fm gm : MF} {fs f2 : En → Rs (List D)} {pos p p2 pos' cpos px py pt pt2 : Pos} {CS fi : Addr} {fd : FuncData} {ps : List Str} {ok : List D → List D → Prop}
variable {B : Hp} {N : Addr → Prop} {env : En} {σ : L2.St} {H H1 : Hp}
/-- what is known behind the making of a thing -/
structure Made (CS : Addr) (N : Addr → Prop) (env : En) (σ : L2.St) (H1 H' : Hp) (l1 l2 : List D) (z p3 : Addr) : Prop where
  nz : H1 z = none
  n3 : H1 p3 = none
  sm : Same H1 H'
  sd : ∃ dx w1 w2, SoD (fun a => (Mo N env σ a ∨ a = z) ∨ a = p3) H' CS l1 l2 [] z p3 dx w1 w2 []
theorem new_go {l1 l2 : List D} {vs : List V} {Q : VK} {E : XK} (s : StS B N env σ H1) (r : RepL (fr N env σ H1) [.list l1, .list l2] vs) (hok : ok l1 l2) (hQ : ∀ z p3 H', Made CS N env σ H1 H' l1 l2 z p3 → Q (.ref z) H') :
    ∀ z dx, H1 z = none → H1 dx = none → dx ≠ z → spInit CS ok (.ref z :: (vs ++ [])) (upd (upd H1 dx (.own z)) z (.ins CS dx [])) (fun v H2 => v = .non ∧ Q (.ref z) H2) E := by
  intro z dx nz nd hne
  rw [List.append_nil]
  obtain ⟨v1, w, rfl, r1, r2⟩ := r.of_cons
  obtain ⟨v2, w, rfl, r3, r4⟩ := r2.of_cons
  rw [r4.of_nil]
  have s1 : Same H1 (upd (upd H1 dx (.own z)) z (.ins CS dx [])) := fun a o e => by
    rw [upd_ne (fun q => by rw [q, nz] at e; cases e), upd_ne (fun q => by rw [q, nd] at e; cases e)]
    exact e
  have hM : ∀ a o, H1 a = some o → (Mo N env σ a ∨ a = z) → Mo N env σ a := fun a o e m => m.elim id fun q => by
    rw [q, nz] at e
    cases e
  have up : Same (fr N env σ H1) (hid (fun a => Mo N env σ a ∨ a = z) (upd (upd H1 dx (.own z)) z (.ins CS dx []))) := same_hid s1 hM
  refine ⟨fun a => Mo N env σ a ∨ a = z, z, dx, l1, l2, v1, v2, rfl, fun a m => ?_, .inr rfl, upd_same, hid_some.mpr ⟨fun m => ?_, by rw [upd_ne hne, upd_same]⟩, r1.up up, r3.up up, hok, fun H' p3 w1 w2 el n3 sd => ⟨rfl, hQ z p3 H' ⟨nz, ?_, fun a o e => el a o (fun q => by rw [q, nz] at e; cases e) (s1 a o e), dx, w1, w2, sd⟩⟩⟩
  · rcases m with m | m
    · exact (s.rd.al a m).imp fun o e => s1 a o e
    · exact ⟨_, by rw [m]; exact upd_same⟩
  · rcases m with m | m
    · exact s.rd.free nd m
    · exact hne m
  · cases h : H1 p3 with
    | none => rfl
    | some o =>
      rw [s1 _ _ h] at n3
      cases n3
theorem Made.set {H' H'' : Hp} {l1 l2 : List D} {z p3 : Addr} (m : Made CS N env σ H1 H' l1 l2 z p3) (s : StS B N env σ H1) (hi : i < env.length) (e : Same H' H'') :
    StS B N (env.set i (.gx [z, p3] (.so CS l1 l2 []))) (σ.set i (some (.ref z))) H'' ∧ Same (fr N env σ H1) (fr N (env.set i (.gx [z, p3] (.so CS l1 l2 []))) (σ.set i (some (.ref z))) H'') := by
  obtain ⟨dx, w1, w2, sd⟩ := m.sd
  refine s.setg (H := H'') (m.sm.trans e) hi (fun _ _ _ _ => nofun) (fun a ha => ?_) fun M' hM => ?_
  · have ha : a ∈ [z, p3] := ha
    rcases List.mem_cons.mp ha with rfl | ha
    · exact ⟨m.nz, _, e _ _ sd.ins⟩
    · rw [List.mem_singleton.mp ha]
      exact ⟨m.n3, _, e _ _ sd.l3⟩
  · refine RGd.mono sd.gd (fun a _ o h => e a o h) (same_hid e fun a o _ ma => ?_)
    rcases hM a ma with q | q
    · exact .inl (.inl q)
    · have q : a ∈ [z, p3] := q
      rcases List.mem_cons.mp q with q | q
      · exact .inl (.inr q)
      · exact .inr (List.mem_singleton.mp q)
theorem Made.rs {H' : Hp} {l1 l2 : List D} {z p3 : Addr} (m : Made CS N env σ H1 H' l1 l2 z p3) (s : StS B N env σ H1) : RSt (fun a => (Mo N env σ a ∨ a = z) ∨ a = p3) env σ H' := by
  obtain ⟨dx, w1, w2, sd⟩ := m.sd
  refine ⟨fun a h => ?_, fun j t hs => ?_⟩
  · rcases h with (h | h) | h
    · exact (s.rd.al a h).imp fun o e => m.sm a o e
    · exact ⟨_, by rw [h]; exact sd.ins⟩
    · exact ⟨_, by rw [h]; exact sd.l3⟩
  · obtain ⟨o, ho, r⟩ := s.rd.sl j t hs
    refine ⟨o, ho, r.mono (fun a _ u e => m.sm a u e) (same_hid m.sm fun a u e h => ?_)⟩
    rcases h with (h | h) | h
    · exact h
    · rw [h, m.nz] at e
      cases e
    · rw [h, m.n3] at e
      cases e
noncomputable def newK (CS : Addr) (ok : List D → List D → Prop) (i : Nat) (z p3 : Addr) (env : En) : List D → So
  | [.list l1, .list l2] => @ite _ (ok l1 l2 ∧ i < env.length) (Classical.propDecidable _) (.nx (env.set i (.gx [z, p3] (.so CS l1 l2 [])))) .stk
  | _ => .stk
noncomputable def sNewS (CS : Addr) (ok : List D → List D → Prop) (i : Nat) (fs : En → Rs (List D)) : SFF := fun z p3 env => (fs env).so (newK CS ok i z p3 env)
theorem newK_go {D : Ends} {F0 : Hp} {ds : List Ag.D} (h : ∀ z p3, SPst W B N F0 D (newK CS ok i z p3 env ds)) : ∃ l1 l2, ds = [.list l1, .list l2] ∧ ok l1 l2 ∧ i < env.length ∧ ∀ z p3, SPst W B N F0 D (.nx (env.set i (.gx [z, p3] (.so CS l1 l2 [])))) := by
  unfold newK at h
  split at h
  · rename_i l1 l2
    by_cases c : ok l1 l2 ∧ i < env.length
    · refine ⟨l1, l2, rfl, c.1, c.2, fun z p3 => ?_⟩
      have h := h z p3
      rw [if_pos c] at h
      exact h
    · have h := h 0 0
      rw [if_neg c] at h
      exact h.elim
  · exact (h 0 0).elim
theorem s_new (hN : X.N.Nodup) (hi : X.N[i]? = some x) (M : Mk X.K CS fi) (F : FnOk X.prog X.w X.K X.mg X.base CX0 k fi fd ps (spInit CS ok)) (hr : Room (k + 1) X.A) (hm : X.mg cn = some (.ref CS)) (hb : Binds X.K fd ps []) (ha : PAv K W X (e :: es) tA fs)
    (hg : Gl X cn := by rfl) (hdb : (cn == ("__debug__" : Str)) = false := by decide) (he : starEach (e :: es) X.env = (false, eval e X.env) :: starEach es X.env := by rfl) (hpl : (backTo cpos (starEach es X.env)).any (·.1) = false := by rfl)
    (hx : Loc X.env.scope x := by first | exact Or.inl rfl | exact Or.inr rfl) (hs : swapsWith (.Call (.Name cn p) (e :: es) [] cpos) (some (.Name x pos')) pos.line X.env = pure false := by rfl)
    (hf : X.fn x = true ∨ X.env.scope.names.lookup x = some .local := by first | exact .inl rfl | exact .inr rfl | assumption) :
    PSvF K W X (.Assign [.Name x pos'] (.Call (.Name cn p) (e :: es) [] cpos) pos) (tAsg (tMake CS (spInit CS ok) [] E0 tA) (gName i)) (sNewS CS ok i fs) := by
  refine ⟨ps_set hN hi hx (pe_make M F hr hg hm hb .nil pass0 ha.pa hdb he hpl) hs hf, fun B N env σ H D s p => ha.ev _ env σ H s.rd _ ?_⟩
  unfold sNewS at p
  cases hq : fs env with
  | exc c =>
    rw [hq] at p
    exact fun H' e => (p 0 0) env σ H' (s.up e)
  | stk =>
    rw [hq] at p
    exact (p 0 0).elim
  | val ds =>
    rw [hq] at p
    intro vs H1 e1 r1
    obtain ⟨l1, l2, rfl, hok, hl, p⟩ := newK_go p
    refine new_go (CS := CS) (Q := fun v H' => gName i v σ H' D.nx) (s.up e1) r1 hok fun z p3 H' md => ?_
    obtain ⟨g1, g2⟩ := md.set (s.up e1) hl (Same.refl _)
    exact p z p3 _ H' g1 ((fr_up e1).trans g2)
/-- x, y = C(..), [] -/
noncomputable def sNewP (CS : Addr) (ok : List D → List D → Prop) (i j : Nat) (fs : En → Rs (List D)) (f2 : En → Rs (List D)) : SFF := fun z p3 env => match f2 env with
  | .val [] => sSeq (sNewS CS ok i fs z p3) (fun e => .nx (e.set j (.fz (.list [])))) env
  | _ => .stk
theorem s_newP {kt k2 : Nat} (hN : X.N.Nodup) (hi : X.N[i]? = some x) (hj : X.N[j]? = some y) (hij : i ≠ j) (hx : X.env.scope.names.lookup x = some .local) (hy : X.env.scope.names.lookup y = some .local) (M : Mk X.K CS fi) (F : FnOk X.prog X.w X.K X.mg X.base CX0 k fi fd ps (spInit CS ok)) (hr : Room (k + 1) X.A) (hm : X.mg cn = some (.ref CS)) (hb : Binds X.K fd ps []) (ha : PAv K W0 X (e :: es) tA fs) (h2 : PEO K W0 X e2 tb f2)
    (hg : Gl X cn := by rfl) (hdb : (cn == ("__debug__" : Str)) = false := by decide) (he : starEach (e :: es) X.env = (false, eval e X.env) :: starEach es X.env := by rfl) (hpl : (backTo cpos (starEach es X.env)).any (·.1) = false := by rfl)
    (he2 : starEach (.Call (.Name cn p) (e :: es) [] cpos :: [e2]) X.env = (false, eval (.Call (.Name cn p) (e :: es) [] cpos) X.env) :: starEach [e2] X.env := by rfl) (he3 : starEach (e2 :: []) X.env = (false, eval e2 X.env) :: starEach [] X.env := by rfl)
    (hw : swappedStores [.Tuple [.Name x px, .Name y py] kt pt] (.Tuple [.Call (.Name cn p) (e :: es) [] cpos, e2] k2 pt2) X.env = pure (some [x, y]) := by rfl)
    (hs : swapsWithSole [.Tuple [.Name x px, .Name y py] kt pt] (.Tuple [.Call (.Name cn p) (e :: es) [] cpos, e2] k2 pt2) pos.line X.env = pure false := by rfl) (hc : X.calm = true := by rfl) :
    PSvF K W0 X (.Assign [.Tuple [.Name x px, .Name y py] kt pt] (.Tuple [.Call (.Name cn p) (e :: es) [] cpos, e2] k2 pt2) pos) (tPar i j (tCons (tMake CS (spInit CS ok) [] E0 tA) (tCons tb tNil))) (sNewP CS ok i j fs f2) := by
  refine ⟨ps_par hc hN hi hj hij hx hy (pa_cons (pe_make M F hr hg hm hb .nil pass0 ha.pa hdb he hpl) (pa_cons h2.pe pa_nil he3) he2) hw hs, fun B N env σ H D s p => ha.ev _ env σ H s.rd _ ?_⟩
  have hf2 : f2 env = .val [] := by
    have p := p 0 0
    unfold sNewP at p
    split at p
    · assumption
    · exact p.elim
  have p : ∀ z p3, SPst W0 B N (fr N env σ H) D (sSeq (sNewS CS ok i fs z p3) (fun e => .nx (e.set j (.fz (.list [])))) env) := fun z p3 => by
    have p := p z p3
    unfold sNewP at p
    rw [hf2] at p
    exact p
  unfold sSeq sNewS at p
  cases hq : fs env with
  | exc c =>
    rw [hq] at p
    exact fun H' e => ((p 0 0) env σ H' (s.up e)).elim
  | stk =>
    rw [hq] at p
    exact (p 0 0).elim
  | val ds =>
    rw [hq] at p
    intro vs H1 e1 r1
    have key : ∃ l1 l2, ds = [.list l1, .list l2] ∧ ok l1 l2 ∧ i < env.length ∧ ∀ z p3, SPst W0 B N (fr N env σ H) D (.nx ((env.set i (.gx [z, p3] (.so CS l1 l2 []))).set j (.fz (.list [])))) := by
      have p : ∀ z p3, SPst W0 B N (fr N env σ H) D (match newK CS ok i z p3 env ds with
        | .nx e => .nx (e.set j (.fz (.list [])))
        | r => r) := p
      unfold newK at p
      split at p
      · rename_i l1 l2 _
        by_cases c : ok l1 l2 ∧ i < env.length
        · refine ⟨l1, l2, rfl, c.1, c.2, fun z p3 => ?_⟩
          have h := p z p3
          rw [if_pos c] at h
          exact h
        · have h := p 0 0
          rw [if_neg c] at h
          exact h.elim
      · exact (p 0 0).elim
    obtain ⟨l1, l2, rfl, hok, hl, p⟩ := key
    refine new_go (CS := CS) (Q := fun x H1 => tCons tb tNil σ H1 fun xs H2 => ∃ v w, x :: xs = [v, w] ∧ D.nx ((List.set σ i (some v)).set j (some w)) H2) (s.up e1) r1 hok fun z p3 H' md => ?_
    refine h2.ev _ env σ H' (md.rs (s.up e1)) _ ?_
    rw [hf2]
    intro v H2 s2 ro
    have rv : Rep (hid (fun a => (Mo N env σ a ∨ a = z) ∨ a = p3) H2) (.list []) v := RO.rep (fun a q => (md.rs (s.up e1)).free q) ro
    obtain ⟨g1, g2⟩ := md.set (s.up e1) hl s2
    obtain ⟨g3, g4⟩ := g1.setf (i := j) (d := .list []) (v := v) (rv.up (same_hid (Same.refl _) fun a o _ m => by
      rcases m with m | ⟨t, u, w, q1, q2, q3⟩
      · exact .inl (.inl (.inl m))
      · rcases get_set q1 with ⟨rfl, rfl⟩ | ⟨nt, q4⟩
        · rcases get_set q2 with ⟨_, rfl⟩ | ⟨q, _⟩
          · have q3 : a ∈ [z, p3] := q3
            rcases List.mem_cons.mp q3 with q | q
            · exact .inl (.inr q)
            · exact .inr (List.mem_singleton.mp q)
          · exact absurd rfl q
        · rcases get_set q2 with ⟨q, _⟩ | ⟨_, q5⟩
          · exact absurd q nt
          · exact .inl (.inl (.inr ⟨t, u, w, q4, q5, q3⟩))))
    exact ⟨.ref z, v, rfl, p z p3 _ H2 g3 (((fr_up e1).trans g2).trans g4)⟩
/-! tests that write -/
theorem mt_ne {k : Nat} (hr : Room k X.A) (ha : PEM K W X a ta fm) (hb : PEM K W X b tb gm) (hK : X.K = K := by rfl) : PTM K W X (.Compare a [.NotEq] [b] pos) (tTest (tOp (rNeD K) ta tb)) (mAsB (mBin dNe fm gm)) := by
  subst hK
  exact ⟨pt_cmpR (op_neD (room64 hr)) ha.pe hb.pe (nobehind _ (by decide) (by decide)), evm_tst (evm_bin sem_ne ha.ev hb.ev)⟩
structure PWM (K : PySem.W.Frag) (W : WT) (X : Cx) (e : Expr) (tt : TT) (f : En → Rs (Bool × En)) : Prop where
  pw : PW X e tt
  ev : EvMT W tt f
def mOrT (f g : En → Rs (Bool × En)) : En → Rs (Bool × En) := fun env => f env >>= fun b => if b.1 = true then .val (true, b.2) else g b.2
variable {rest : List Expr} {tt tu : TT} {fb gb : En → Rs (Bool × En)}
theorem wm_or1 (ha : PTM K W X a tt fb) : PWM K W X (.BoolOp .Or [a] pos) tt fb := ⟨pw_or1 ha.pt, ha.ev⟩
theorem wm_or (ha : PTM K W X a tt fb) (hb : PWM K W X (.BoolOp .Or (b :: rest) pos) tu gb) : PWM K W X (.BoolOp .Or (a :: b :: rest) pos) (tOr tt tu) (mOrT fb gb) :=
  ⟨pw_or ha.pt hb.pw, fun B N env σ H s Q p => ha.ev B N env σ H s _ (p.step fun d e1 _ v H1 s1 q1 r1 p1 => by
    have r1 : v = d := r1
    subst r1
    cases v with
    | true => exact p1 true H1 s1 (Same.refl _) rfl
    | false => exact hb.ev B N e1 σ H1 s1 Q p1)⟩
theorem mt_w (h : PWM K W X a tt fb) : PTM K W X a tt fb := ⟨h.pw.pt, h.ev⟩
end
/-! ### a law in whose body a thing is made -/
section
variable {P : Program} {w : World} {K : PySem.W.Frag} {mg : Str → Option Value} {base : Heap}
theorem fn_lawF {x qual : Str} {st : Stmt} {st0 : Stmt} {rest : List Stmt} {f : Addr} {fd : FuncData} {N ps : List Str} {k n : Nat} {g : SFF} (F : Fun K x qual st f fd) (S : FnScope N ps (defScope st)) (hps : ps.length = 1) (hN : N.length = n + 2) (hb : defBody st = st0 :: rest)
    (hbody : ∀ (cdv : Value) (A : Around) (outer : List Env) (s : Shared) (H : Hp) (E : XK), Room k (A.deeper (PyProof.Rows.envOfC qual (defScope st) s.heap.objs.size f cdv)) →
      PS (cxOf CX0 P w K mg base N qual (defScope st) f cdv A outer s H E).nox st0 (tAsg (tCall (spStart K) [] E0 (tCons (tVar 0) tNil)) (gName 1)) ∧ ∃ t, PSsvF K W0 (cxOf CX0 P w K mg base N qual (defScope st) f cdv A outer s H E).nox rest t g)
    (law : ∀ a b, LawTrue (g a b) n) : FnOk P w K mg base CX0 (k + 1) f fd ps (spLaw K) := by
  refine F.ok S (fun vs H Q E h => ?_) (fun cdv A outer s H vs Q E hr h => ?_)
  · obtain ⟨a, ns, rfl, _⟩ := h
    rw [hps]
    rfl
  · obtain ⟨a, ns, rfl, hs, hlen, kk⟩ := h
    obtain ⟨h0, t, ht⟩ := hbody cdv A outer s H E hr
    rw [hb]
    refine ⟨_, pss_cons h0 ht.ps, ?_⟩
    have e0 : L2.start N [V.ref a] = some (.ref a) :: none :: List.replicate n none := by
      unfold L2.start
      rw [hN]
      rfl
    rw [e0]
    refine ⟨_, rfl, a, ns, rfl, hs, hlen, fun p q H' npq hp hq sm dr => ?_⟩
    refine ht.ev _ _ _ _ H' _ (law_StS npq hp hq sm dr) fun a b => ?_
    obtain ⟨env', hg⟩ := law a b p q (startN ns) (startN_ne ns) (startN_len hlen)
    rw [hg]
    intro v σ' H2 s' _ r
    rw [rep_bool.mp r]
    exact kk H2
end
end Ag


namespace Ag
open PySem L2
theorem iniB {K : PySem.W.Frag} {X : Cx} {e1 e2 e3 e4 : Expr} {t1 t2 t3 t4 : TE} {f1 : EF} {f2 f3 f4 : En → Rs (List D)} {P1 P2 P3 P4 : Prop} (h1 : PEv K W0 X e1 t1 f1) (h2 : PEO K W0 X e2 t2 f2) (h3 : PEO K W0 X e3 t3 f3) (h4 : PEO K W0 X e4 t4 f4)
    (s1 : PE X e1 t1 → P1) (s2 : PE X e2 t2 → P2) (s3 : PE X e3 t3 → P3) (s4 : PE X e4 t4 → P4) : PEv K W0 X e1 t1 f1 ∧ PEO K W0 X e2 t2 f2 ∧ PEO K W0 X e3 t3 f3 ∧ PEO K W0 X e4 t4 f4 ∧ P1 ∧ P2 ∧ P3 ∧ P4 :=
  ⟨h1, h2, h3, h4, s1 h1.pe, s2 h2.pe, s3 h3.pe, s4 h4.pe⟩
theorem mdfn_mk {K : PySem.W.Frag} {CS f : Addr} {m qual : Str} {st : Stmt} {ps : List Str} {oc : Value} {od an : Option Addr} {sl : Array (Option Value)} {kV dc pm cd ct : Value} (at_ : Meth K CS m f)
    (l1 : K.lookup f = some ⟨oc, od, .func (PySem.W.fnOf m qual (defArgs st) (defBody st) (defScope st) .none kV dc pm an cd ct), sl⟩) (c1 : PySem.W.codeIn K cd qual = true)
    (hb : ∀ (kV doc pm : Value) (an : Option Addr) (cdv ct : Value) (us : List Value), us.length = ps.length → bindArgs (PySem.W.fnOf m qual (defArgs st) (defBody st) (defScope st) .none kV doc pm an cdv ct) ⟨us, []⟩ = pure (ps.zip us)) : MDfn K CS m qual st ps f := by
  have ef : fdOf K f = PySem.W.fnOf m qual (defArgs st) (defBody st) (defScope st) .none kV dc pm an cd ct := by
    unfold fdOf
    rw [l1]
  refine ⟨?_, at_, ?_⟩
  · rw [ef]
    exact fun_mk (st := st) l1 c1 at_.kp
  · rw [ef]
    exact hb _ _ _ _ _ _
end Ag


namespace Ag
open PySem L2
/-! ### plain facts: running a denotation on what is known -/
abbrev LI (a : List Int) : D := .list (a.map PyData.int)
theorem so_val {α : Type} (a : α) (k : α → So) : Rs.so (.val a) k = k a := rfl
theorem noEx_val {α : Type} (a : α) : noEx (.val a : Rs α) = .val a := rfl
theorem ofO_some {α : Type} (a : α) : ofO (some a) = .val a := rfl
theorem eqv_ints : ∀ a b : List Int, PyData.eqvAll (a.map .int) (b.map .int) = decide (a = b)
  | [], [] => rfl
  | [], _ :: _ => rfl
  | _ :: _, [] => rfl
  | x :: a, y :: b => by
    show (x == y && PyData.eqvAll (a.map .int) (b.map .int)) = _
    rw [eqv_ints a b]
    by_cases h : x = y <;> by_cases g : a = b <;> simp [h, g]
theorem eqv_LI (a b : List Int) : PyData.eqv (LI a) (LI b) = decide (a = b) := eqv_ints a b
theorem eqv_int (a b : Int) : PyData.eqv (.int a) (.int b) = decide (a = b) := by
  show (a == b) = _
  by_cases h : a = b <;> simp [h]
theorem shaped_int (a : Int) : SeqAt.shaped (.int a) = true := rfl
theorem shaped_bool (a : Bool) : SeqAt.shaped (.bool a) = true := rfl
theorem dEq_LI (a b : List Int) : dEq (LI a) (LI b) = .val (.bool (decide (a = b))) := by
  unfold dEq
  rw [shaped_ints, shaped_ints, eqv_LI]
  rfl
theorem dNe_LI (a b : List Int) : dNe (LI a) (LI b) = .val (.bool (!decide (a = b))) := by
  unfold dNe
  rw [shaped_ints, shaped_ints, eqv_LI]
  rfl
theorem dEq_int (a b : Int) : dEq (.int a) (.int b) = .val (.bool (decide (a = b))) := by
  unfold dEq
  rw [shaped_int, shaped_int, eqv_int]
  rfl
theorem dNe_int (a b : Int) : dNe (.int a) (.int b) = .val (.bool (!decide (a = b))) := by
  unfold dNe
  rw [shaped_int, shaped_int, eqv_int]
  rfl
theorem eqv_bool (a b : Bool) : PyData.eqv (.bool a) (.bool b) = (a == b) := rfl
theorem dEq_bool (a b : Bool) : dEq (.bool a) (.bool b) = .val (.bool (a == b)) := rfl
theorem dNe_bool (a b : Bool) : dNe (.bool a) (.bool b) = .val (.bool (!(a == b))) := rfl
theorem dLt_int (a b : Int) : dLt (.int a) (.int b) = .val (.bool (decide (a < b))) := rfl
theorem dLe_int (a b : Int) : dLe (.int a) (.int b) = .val (.bool (decide (a ≤ b))) := rfl
theorem dGt_int (a b : Int) : dGt (.int a) (.int b) = .val (.bool (decide (b < a))) := rfl
theorem dGe_int (a b : Int) : dGe (.int a) (.int b) = .val (.bool (decide (b ≤ a))) := rfl
theorem dAdd_int (a b : Int) : dAdd (.int a) (.int b) = .val (.int (a + b)) := rfl
theorem dSub_int (a b : Int) : dSub (.int a) (.int b) = .val (.int (a - b)) := rfl
theorem dMul_int {a b : Int} (h : -1000000 ≤ a ∧ a ≤ 1000000 ∧ -1000000 ≤ b ∧ b ≤ 1000000) : dMul (.int a) (.int b) = .val (.int (a * b)) := by
  unfold dMul
  exact if_pos (.inl (by omega))
theorem dMod_int {a b : Int} (h : b ≠ 0) : dMod (.int a) (.int b) = .val (.int (a.fmod b)) := if_pos h
theorem dLen_list (l : List D) : dLen [.list l] = .val (.int l.length) := rfl
theorem dLen_tup (l : List D) : dLen [.tuple l] = .val (.int l.length) := rfl
theorem dIx_list {l : List D} {i : Int} {d : D} (h : atI l i = some d) : dIx (.list l) (.int i) = .val d := by
  show ofO (atI l i) = _
  rw [h]
  rfl
theorem dIx_tup {l : List D} {i : Int} {d : D} (h : atI l i = some d) : dIx (.tuple l) (.int i) = .val d := by
  show ofO (atI l i) = _
  rw [h]
  rfl
/-- the item at i of a list of ints -/
def gt (a : List Int) (i : Nat) : Int := a.getD i 0
theorem atI_LI {a : List Int} {i : Nat} (h : i < a.length) : atI (a.map PyData.int) (i : Int) = some (.int (gt a i)) := by
  have : (a.map PyData.int)[i]? = some (.int (gt a i)) := by
    rw [List.getElem?_map, List.getElem?_eq_getElem h]
    unfold gt
    rw [List.getD_eq_getElem?_getD, List.getElem?_eq_getElem h]
    rfl
  exact atI_nat this
theorem dIx_LI {a : List Int} {i : Nat} (h : i < a.length) : dIx (LI a) (.int (i : Int)) = .val (.int (gt a i)) := dIx_list (atI_LI h)
theorem dIx_LI' {a : List Int} {i : Int} (h0 : 0 ≤ i) (h : i < a.length) : dIx (LI a) (.int i) = .val (.int (gt a i.toNat)) := by
  have e : i = ((i.toNat : Nat) : Int) := by omega
  have := dIx_LI (a := a) (i := i.toNat) (by omega)
  rw [← e] at this
  exact this
theorem dSum_LI (a : List Int) : dSum [LI a] = .val (.int a.sum) := by
  show (ofO (intsOf (a.map .int)) >>= fun ns => Rs.val (PyData.int ns.sum)) = _
  rw [intsOf_map]
  rfl
theorem dMax_LI {a : List Int} (h : a ≠ []) : dMax [LI a] = .val (.int (maxI a)) := by
  show (ofO (intsOf (a.map .int)) >>= fun ns => if ns ≠ [] then Rs.val (PyData.int (maxI ns)) else .stk) = _
  rw [intsOf_map]
  exact if_pos h
theorem dMin_LI {a : List Int} (h : a ≠ []) : dMin [LI a] = .val (.int (minI a)) := by
  show (ofO (intsOf (a.map .int)) >>= fun ns => if ns ≠ [] then Rs.val (PyData.int (minI ns)) else .stk) = _
  rw [intsOf_map]
  exact if_pos h
theorem dAll_B (a : List Bool) : dAll [.list (a.map .bool)] = .val (.bool (a.all id)) := by
  show (ofO (boolsOf (a.map .bool)) >>= fun ns => Rs.val (PyData.bool (ns.all id))) = _
  rw [boolsOf_map]
  rfl
theorem dSorted_LI {a : List Int} (h : a.length < 64) : dSorted [LI a] = .val ((isort a).map .int) := by
  show (ofO (intsOf (a.map .int)) >>= fun ns => if ns.length < 64 then Rs.val ((isort ns).map PyData.int) else .stk) = _
  rw [intsOf_map]
  exact if_pos h
theorem dAbs_int (a : Int) : ∃ z, dAbs [.int a] = .val z := ⟨_, rfl⟩
theorem zipD_LI : ∀ a b : List Int, zipD (a.map .int) (b.map .int) = (a.zip b).map fun p => .tuple [.int p.1, .int p.2]
  | [], _ => rfl
  | _ :: _, [] => rfl
  | x :: a, y :: b => by
    rw [List.map_cons, List.map_cons, zipD, zipD_LI a b]
    rfl
theorem cutD_map {α β : Type} (f : α → β) (l : List α) (lo hi : Option Int) : cutD (l.map f) lo hi = (cutD l lo hi).map f := by
  unfold cutD
  rw [List.length_map, List.map_take, List.map_drop]
theorem enumD_map {α : Type} (f : α → D) : ∀ (l : List α) (n : Nat), enumD n (l.map f) = (l.zipIdx n).map fun p => .tuple [.int (p.2 : Nat), f p.1]
  | [], _ => rfl
  | x :: l, n => by
    rw [List.map_cons, enumD, enumD_map f l (n + 1)]
    rfl
theorem rgI_nat (n : Nat) : rgI 0 n = (List.range n).map fun i => ((i : Nat) : Int) := by
  unfold rgI
  rw [Int.sub_zero, Int.toNat_natCast]
  exact List.map_congr_left fun i _ => Int.zero_add _
/-! loops -/
theorem forL_map {α : Type} {t : D → Rs (List (Nat × D))} {body : SF} (g : α → D) {I : List α → En → Prop} (xs : List α) {env : En}
    (h : ∀ pre x post env, xs = pre ++ x :: post → I pre env → ∃ l env', t (g x) = .val l ∧ (body (setE env l) = .nx env' ∨ body (setE env l) = .ct env') ∧ I (pre ++ [x]) env') (h0 : I [] env) : ∃ env', forL t body (xs.map g) env = .nx env' ∧ I xs env' := by
  suffices H : ∀ (ys pre : List α) env, xs = pre ++ ys → I pre env → ∃ env', forL t body (ys.map g) env = .nx env' ∧ I xs env' from H xs [] env rfl h0
  intro ys
  induction ys with
  | nil =>
    intro pre env e i
    rw [List.append_nil] at e
    exact ⟨env, rfl, e ▸ i⟩
  | cons y r ih =>
    intro pre env e i
    obtain ⟨l, env', h1, h2, h3⟩ := h pre y r env e i
    obtain ⟨env2, g1, g2⟩ := ih (pre ++ [y]) env' (by rw [e, List.append_assoc]; rfl) h3
    refine ⟨env2, ?_, g2⟩
    rw [List.map_cons, forL, h1, noEx_val, so_val]
    rcases h2 with h2 | h2 <;> rw [h2] <;> exact g1
theorem lcRun_map {α : Type} {t : D → Rs (List (Nat × D))} {fb : En → Rs Bool} {fe : EF} {env : En} (g : α → D) (p : α → Bool) (q : α → D) (xs : List α)
    (h : ∀ x ∈ xs, ∃ l, t (g x) = .val l ∧ fb (setE env l) = .val (p x) ∧ (p x = true → fe (setE env l) = .val (q x))) : lcRun t fb fe env (xs.map g) = .val ((xs.filter p).map q) := by
  induction xs with
  | nil => rfl
  | cons x r ih =>
    obtain ⟨l, h1, h2, h3⟩ := h x (List.mem_cons_self ..)
    have ih := ih fun y hy => h y (List.mem_cons_of_mem _ hy)
    rw [List.map_cons, lcRun, h1]
    show (fb (setE env l) >>= _) = _
    rw [h2]
    show (if p x = true then _ else _) = _
    cases hp : p x with
    | true =>
      rw [if_pos rfl, h3 hp, List.filter_cons, hp, ih]
      rfl
    | false =>
      rw [if_neg Bool.false_ne_true, List.filter_cons, hp, ih]
      rfl
theorem lcRun_all {α : Type} {t : D → Rs (List (Nat × D))} {fe : EF} {env : En} (g : α → D) (q : α → D) (xs : List α)
    (h : ∀ x ∈ xs, ∃ l, t (g x) = .val l ∧ fe (setE env l) = .val (q x)) : lcRun t bYes fe env (xs.map g) = .val (xs.map q) := by
  have := lcRun_map (t := t) (fb := bYes) (fe := fe) (env := env) g (fun _ => true) q xs fun x hx => by
    obtain ⟨l, h1, h2⟩ := h x hx
    exact ⟨l, h1, rfl, fun _ => h2⟩
  rw [this, List.filter_eq_self.mpr fun _ _ => rfl]
theorem sWhile_rel {c : En → Rs Bool} {body : SF} {I : Nat → En → Prop} (h : ∀ m env, I m env → (c env = .val false) ∨ (c env = .val true ∧ ∃ env', (body env = .nx env' ∨ body env = .ct env') ∧ ∃ m', m' < m ∧ I m' env')) :
    ∀ (n m : Nat) (env : En), m < n → I m env → ∃ env' m', sWhile c body n env = .nx env' ∧ c env' = .val false ∧ I m' env'
  | 0, m, _, h0, _ => absurd h0 (Nat.not_lt_zero _)
  | n + 1, m, env, hm, hi => by
    rcases h m env hi with h1 | ⟨h1, env', h2, m', h3, h4⟩
    · refine ⟨env, m, ?_, h1, hi⟩
      rw [sWhile, h1, so_val, if_neg Bool.false_ne_true]
    · obtain ⟨e, m2, g1, g2, g3⟩ := sWhile_rel h n m' env' (by omega) h4
      refine ⟨e, m2, ?_, g2, g3⟩
      rw [sWhile, h1, so_val, if_pos rfl]
      rcases h2 with h2 | h2 <;> rw [h2] <;> exact g1
theorem if_val {α β : Type} {c : Bool} {a b : Rs α} {k : α → Rs β} : ((if c = true then a else b) >>= k) = if c = true then a >>= k else b >>= k := by cases c <;> rfl
section
variable (f g h : EF) (fs gs : En → Rs (List D)) (t u : En → Rs Bool) (k1 k2 : SF) (env : En) (fm gm hm : MF) (tm : En → Rs (Bool × En)) (fms gms : En → Rs (List D × En))
def chainK (b : D) (m : Rs D) : Rs D := match b with
  | .bool true => m
  | .bool false => .val (.bool false)
  | _ => .stk
theorem chainK_bool (b : Bool) (m : Rs D) : chainK (.bool b) m = if b = true then m else .val (.bool false) := by cases b <;> rfl
theorem eChain_eq (q q' : D → D → Rs D) : eChain q q' f g h env = f env >>= fun d => g env >>= fun e => q d e >>= fun b => chainK b (h env >>= fun z => q' e z) := rfl
def seqK (r : So) (k : SF) : So := match r with
  | .nx e => k e
  | r => r
theorem sSeq_eq : sSeq k1 k2 env = seqK (k1 env) k2 := rfl
theorem seqK_nx (e : En) : seqK (.nx e) k1 = k1 e := rfl
theorem seqK_ret (d : D) (e : En) : seqK (.ret d e) k1 = .ret d e := rfl
theorem seqK_reto (d : List D) (e : En) : seqK (.reto d e) k1 = .reto d e := rfl
theorem seqK_exc (c : Ec) : seqK (.exc c) k1 = .exc c := rfl
theorem seqK_if (b : Prop) [Decidable b] (x y : So) : seqK (if b then x else y) k1 = if b then seqK x k1 else seqK y k1 := by split <;> rfl
def runK (r : So) : Rs Rv := match r with
  | .nx _ => .val (.d .none)
  | .ret d _ => .val (.d d)
  | .reto l _ => .val (.o l)
  | .exc c => .exc c
  | _ => .stk
theorem run_eq (n : Nat) (ds : List D) : run n k1 ds = runK (k1 (ds.map .fz ++ List.replicate (n - ds.length) .no)) := rfl
theorem runK_nx (e : En) : runK (.nx e) = .val (.d .none) := rfl
theorem runK_ret (d : D) (e : En) : runK (.ret d e) = .val (.d d) := rfl
theorem runK_reto (d : List D) (e : En) : runK (.reto d e) = .val (.o d) := rfl
theorem runK_exc (c : Ec) : runK (.exc c) = .exc c := rfl
theorem runK_if (b : Prop) [Decidable b] (x y : So) : runK (if b then x else y) = if b then runK x else runK y := by split <;> rfl
def varK (s : Option Sl) : Rs D := match s with
  | some (.fz d) => .val d
  | _ => .stk
theorem eVar_eq (i : Nat) : eVar i env = varK env[i]? := rfl
theorem varK_fz (d : D) : varK (some (.fz d)) = .val d := rfl
def varBK (s : Option Sl) : Rs D := match s with
  | some (.fz d) => .val d
  | some (.ow l) => .val (.list l)
  | _ => .stk
theorem eVarB_eq (i : Nat) : eVarB i env = varBK env[i]? := rfl
theorem varBK_fz (d : D) : varBK (some (.fz d)) = .val d := rfl
theorem varBK_ow (d : List D) : varBK (some (.ow d)) = .val (.list d) := rfl
theorem eC_eq (d : D) : eC d env = .val d := rfl
theorem eBin_eq (q : D → D → Rs D) : eBin q f g env = f env >>= fun d => g env >>= fun e => q d e := rfl
def asBK (d : D) : Rs Bool := match d with
  | .bool b => .val b
  | _ => .stk
theorem asB_eq : asB f env = f env >>= asBK := rfl
theorem asBK_bool (b : Bool) : asBK (.bool b) = .val b := rfl
theorem bNot_eq : bNot t env = t env >>= fun b => .val (!b) := rfl
theorem bAnd_eq : bAnd t u env = t env >>= fun b => if b = true then u env else .val false := rfl
theorem bOr_eq : bOr t u env = t env >>= fun b => if b = true then .val true else u env := rfl
theorem eNot_eq : eNot f env = f env >>= asBK >>= fun b => .val (.bool (!b)) := rfl
theorem eAnd_eq : eAnd f g env = f env >>= asBK >>= fun b => if b = true then g env else .val (.bool false) := rfl
theorem eOr_eq : eOr f g env = f env >>= asBK >>= fun b => if b = true then .val (.bool true) else g env := rfl
theorem eIf_eq : eIf t f g env = t env >>= fun b => if b = true then f env else g env := rfl
theorem bYes_eq : bYes env = .val true := rfl
theorem eCB_eq (q : List D → Rs D) : eCB q fs env = fs env >>= q := rfl
theorem eCO_eq (q : List D → Rs (List D)) : eCO q fs env = fs env >>= q := rfl
def rg1K (d : D) : Rs (List D) := match d with
  | .int j => rgL 0 j
  | _ => .stk
theorem eRg1_eq : eRg1 f env = f env >>= rg1K := rfl
theorem rg1K_int (j : Int) : rg1K (.int j) = rgL 0 j := rfl
def rg2K (d e : D) : Rs (List D) := match d, e with
  | .int i, .int j => rgL i j
  | _, _ => .stk
theorem eRg2_eq : eRg2 f g env = f env >>= fun d => g env >>= fun e => rg2K d e := rfl
theorem rg2K_int (i j : Int) : rg2K (.int i) (.int j) = rgL i j := rfl
theorem eIsi_eq (T : String) : eIsi T f env = f env >>= fun d => .val (.bool (isD T d)) := rfl
theorem isD_int (T : String) (i : Int) : isD T (.int i) = (T == "int") := rfl
theorem isD_bool (T : String) (i : Bool) : isD T (.bool i) = (T == "bool" || T == "int") := rfl
theorem isD_list (T : String) (i : List D) : isD T (.list i) = (T == "list") := rfl
theorem isD_tup (T : String) (i : List D) : isD T (.tuple i) = (T == "tuple") := rfl
theorem isD_str (T : String) (i : Str) : isD T (.str i) = (T == "str") := rfl
def cutK (d : D) (lo hi : Option Int) : Rs (List D) := match d with
  | .list xs => .val (cutD xs lo hi)
  | _ => .stk
theorem eCut_eq (l h : En → Rs (Option Int)) : eCut f l h env = f env >>= fun d => l env >>= fun lo => h env >>= fun hi => cutK d lo hi := rfl
theorem cutK_list (xs : List D) (lo hi : Option Int) : cutK (.list xs) lo hi = .val (cutD xs lo hi) := rfl
def revK (d : D) : Rs (List D) := match d with
  | .list xs => .val xs.reverse
  | _ => .stk
theorem eRev_eq : eRev f env = f env >>= revK := rfl
theorem revK_list (xs : List D) : revK (.list xs) = .val xs.reverse := rfl
def negK (d : D) : Rs D := match d with
  | .int i => .val (.int (-i))
  | _ => .stk
theorem eNeg_eq : eNeg f env = f env >>= negK := rfl
theorem negK_int (i : Int) : negK (.int i) = .val (.int (-i)) := rfl
theorem eFz_eq : eFz fs env = fs env >>= fun l => .val (.list l) := rfl
def mtK (q : List D → D → Rs D) (d : D) (m : Rs D) : Rs D := match d with
  | .list l => m >>= fun e => q l e
  | _ => .stk
theorem eMt_eq (q : List D → D → Rs D) : eMt q f g env = f env >>= fun d => mtK q d (g env) := rfl
theorem mtK_list (q : List D → D → Rs D) (l : List D) (m : Rs D) : mtK q (.list l) m = m >>= fun e => q l e := rfl
def zipK (d e : D) : Rs (List D) := match d, e with
  | .list l, .list m => .val (zipD l m)
  | _, _ => .stk
theorem eZip_eq : eZip f g env = f env >>= fun d => g env >>= fun e => zipK d e := rfl
theorem zipK_list (l m : List D) : zipK (.list l) (.list m) = .val (zipD l m) := rfl
def enumK (d : D) : Rs (List D) := match d with
  | .list l => .val (enumD 0 l)
  | _ => .stk
theorem eEnum_eq : eEnum f env = f env >>= enumK := rfl
theorem enumK_list (l : List D) : enumK (.list l) = .val (enumD 0 l) := rfl
def asLK (d : D) : Rs (List D) := match d with
  | .list l => .val l
  | _ => .stk
theorem asL_eq : asL f env = f env >>= asLK := rfl
theorem asLK_list (l : List D) : asLK (.list l) = .val l := rfl
def asTK (d : D) : Rs (List D) := match d with
  | .tuple l => .val l
  | _ => .stk
theorem asT_eq : asT f env = f env >>= asTK := rfl
theorem asTK_tup (l : List D) : asTK (.tuple l) = .val l := rfl
theorem tgN_eq (i : Nat) (d : D) : tgN i d = .val [(i, d)] := rfl
theorem tgT_2 (i j : Nat) (a b : D) : tgT [i, j] (.tuple [a, b]) = .val [(i, a), (j, b)] := rfl
theorem tgT_3 (i j k : Nat) (a b c : D) : tgT [i, j, k] (.tuple [a, b, c]) = .val [(i, a), (j, b), (k, c)] := rfl
theorem setE_nil : setE env [] = env := rfl
theorem setE_cons (p : Nat × D) (l : List (Nat × D)) : setE env (p :: l) = setE (env.set p.1 (.fz p.2)) l := rfl
theorem wipeE_nil : wipeE env [] = env := rfl
theorem wipeE_cons (v : Nat) (vs : List Nat) : wipeE env (v :: vs) = (wipeE env vs).set v .no := rfl
def callK (n : Nat) (q : List D → Rs Rv) (ds : List D) : Rs D := if ds.length = n then q ds >>= fun r => .val (rvD r) else .stk
theorem eCall_eq (n : Nat) (q : List D → Rs Rv) : eCall n q fs env = fs env >>= callK n q := rfl
theorem callK_1 (q : List D → Rs Rv) (a : D) : callK 1 q [a] = q [a] >>= fun r => .val (rvD r) := rfl
theorem callK_2 (q : List D → Rs Rv) (a b : D) : callK 2 q [a, b] = q [a, b] >>= fun r => .val (rvD r) := rfl
theorem callK_3 (q : List D → Rs Rv) (a b c : D) : callK 3 q [a, b, c] = q [a, b, c] >>= fun r => .val (rvD r) := rfl
theorem callK_4 (q : List D → Rs Rv) (a b c d : D) : callK 4 q [a, b, c, d] = q [a, b, c, d] >>= fun r => .val (rvD r) := rfl
theorem rvD_d (d : D) : rvD (.d d) = d := rfl
theorem rvD_o (d : List D) : rvD (.o d) = .list d := rfl
def rvO (r : Rv) : Rs (List D) := match r with
  | .o l => .val l
  | .d _ => .stk
def callOK (n : Nat) (q : List D → Rs Rv) (ds : List D) : Rs (List D) := if ds.length = n then q ds >>= rvO else .stk
theorem eCallO_eq (n : Nat) (q : List D → Rs Rv) : eCallO n q fs env = fs env >>= callOK n q := rfl
theorem callOK_1 (q : List D → Rs Rv) (a : D) : callOK 1 q [a] = q [a] >>= rvO := rfl
theorem callOK_2 (q : List D → Rs Rv) (a b : D) : callOK 2 q [a, b] = q [a, b] >>= rvO := rfl
theorem callOK_3 (q : List D → Rs Rv) (a b c : D) : callOK 3 q [a, b, c] = q [a, b, c] >>= rvO := rfl
theorem rvO_o (d : List D) : rvO (.o d) = .val d := rfl
theorem aNil_eq : aNil env = .val [] := rfl
theorem aCons_eq : aCons f fs env = f env >>= fun d => fs env >>= fun l => .val (d :: l) := rfl
theorem oNo_eq : oNo env = .val none := rfl
def oYK (d : D) : Rs (Option Int) := match d with
  | .int i => .val (some i)
  | _ => .stk
theorem oYes_eq : oYes f env = f env >>= oYK := rfl
theorem oYK_int (i : Int) : oYK (.int i) = .val (some i) := rfl
theorem sIf_eq : sIf t k1 k2 env = (t env).so fun b => if b = true then k1 env else k2 env := rfl
theorem sSet_eq (i : Nat) : sSet i f env = (f env).so fun d => .nx (env.set i (.fz d)) := rfl
def setOK (i : Nat) (env : En) (l : List D) : So := if i < env.length then .nx (env.set i (.ow l)) else .stk
theorem sSetO_eq (i : Nat) : sSetO i fs env = (fs env).so (setOK i env) := rfl
theorem setOK_ok {i : Nat} {env : En} (l : List D) (h : i < env.length) : setOK i env l = .nx (env.set i (.ow l)) := if_pos h
theorem sFor_eq (it : En → Rs (List D)) (tq : D → Rs (List (Nat × D))) : sFor it tq k1 env = (it env).so fun ds => forL tq k1 ds env := rfl
theorem sRet_eq : sRet f env = (f env).so fun d => .ret d env := rfl
theorem sRetO_eq : sRetO fs env = (fs env).so fun d => .reto d env := rfl
def retVK (i : Nat) (env : En) (s : Option Sl) : So := match s with
  | some (.ow l) => .reto l (env.set i (.fz (.list l)))
  | some (.fz d) => .ret d env
  | _ => .stk
theorem sRetV_eq (i : Nat) : sRetV i env = retVK i env env[i]? := rfl
theorem retVK_ow (i : Nat) (l : List D) : retVK i env (some (.ow l)) = .reto l (env.set i (.fz (.list l))) := rfl
theorem retVK_fz (i : Nat) (d : D) : retVK i env (some (.fz d)) = .ret d env := rfl
theorem sDrop_eq : sDrop f env = (f env).so fun _ => .nx env := rfl
theorem sExc_eq (c : Ec) : sExc c env = .exc c := rfl
theorem sNil_eq : sNil env = .nx env := rfl
theorem sRetN_eq : sRetN env = .ret .none env := rfl
def putK (i : Nat) (env : En) (d : D) (s : Option Sl) (fi : Rs D) : So := match s with
  | some (.ow l) => fi.so fun e => match e with
    | .int k => (ofO (ixN l.length k)).so fun j => .nx (env.set i (.ow (l.set j d)))
    | _ => .stk
  | _ => .stk
theorem sPut_eq (i : Nat) : sPut i f g env = (g env).so fun d => putK i env d env[i]? (f env) := rfl
theorem putK_ow (i : Nat) (d : D) (l : List D) (k : Int) : putK i env d (some (.ow l)) (.val (.int k)) = (ofO (ixN l.length k)).so fun j => .nx (env.set i (.ow (l.set j d))) := rfl
def parK (i j : Nat) (env : En) (l : List D) : So := match l with
  | [d, e] => .nx ((env.set i (.fz d)).set j (.fz e))
  | _ => .stk
theorem sPar_eq (i j : Nat) : sPar i j fs env = (fs env).so (parK i j env) := rfl
theorem parK_2 (i j : Nat) (d e : D) : parK i j env [d, e] = .nx ((env.set i (.fz d)).set j (.fz e)) := rfl
theorem sSetT_eq (tq : D → Rs (List (Nat × D))) : sSetT tq f env = (f env).so fun d => (noEx (tq d)).so fun l => .nx (setE env l) := rfl
def augK (i : Nat) (q : D → D → Rs D) (env : En) (s : Option Sl) (m : Rs D) : So := match s with
  | some (.fz d) => (m >>= fun e => q d e).so fun z => .nx (env.set i (.fz z))
  | _ => .stk
theorem sAug_eq (i : Nat) (q : D → D → Rs D) : sAug i q f env = augK i q env env[i]? (f env) := rfl
theorem augK_fz (i : Nat) (q : D → D → Rs D) (d : D) (m : Rs D) : augK i q env (some (.fz d)) m = (m >>= fun e => q d e).so fun z => .nx (env.set i (.fz z)) := rfl
def augLJ (i : Nat) (env : En) (l : List D) (d : D) : So := match d with
  | .list m => if l.length + m.length ≤ 100000 then .nx (env.set i (.ow (l ++ m))) else .stk
  | _ => .stk
def augLK (i : Nat) (env : En) (s : Option Sl) (m : Rs D) : So := match s with
  | some (.ow l) => m.so (augLJ i env l)
  | _ => .stk
theorem sAugL_eq (i : Nat) : sAugL i f env = augLK i env env[i]? (f env) := rfl
theorem augLK_ow (i : Nat) (l : List D) (m : Rs D) : augLK i env (some (.ow l)) m = m.so (augLJ i env l) := rfl
theorem augLJ_ok {i : Nat} {env : En} {l m : List D} (h : l.length + m.length ≤ 100000) : augLJ i env l (.list m) = .nx (env.set i (.ow (l ++ m))) := if_pos h
def remK (i : Nat) (env : En) (s : Option Sl) (m : Rs D) : So := match s with
  | some (.ow l) => m.so fun d => match d with
    | .int k => (ofO (intsOf l)).so fun ns => (ofO (ns.findIdx? fun z => z == k)).so fun j => .nx (env.set i (.ow (l.eraseIdx j)))
    | _ => .stk
  | _ => .stk
theorem sRem_eq (i : Nat) : sRem i f env = remK i env env[i]? (f env) := rfl
theorem remK_ow (i : Nat) (ns : List Int) (k : Int) (j : Nat) (h : ns.findIdx? (fun z => z == k) = some j) : remK i env (some (.ow (ns.map .int))) (.val (.int k)) = .nx (env.set i (.ow ((ns.map .int).eraseIdx j))) := by
  show (ofO (intsOf (ns.map .int))).so _ = _
  rw [intsOf_map]
  show (ofO (ns.findIdx? fun z => z == k)).so _ = _
  rw [h]
  rfl
theorem mP_eq : mP f env = f env >>= fun d => .val (d, env) := rfl
theorem mPT_eq : mPT t env = t env >>= fun d => .val (d, env) := rfl
theorem mPL_eq : mPL fs env = fs env >>= fun d => .val (d, env) := rfl
theorem mBin_eq (q : D → D → Rs D) : mBin q fm gm env = fm env >>= fun r1 => gm r1.2 >>= fun r2 => q r1.1 r2.1 >>= fun z => .val (z, r2.2) := rfl
def mAsBK (r : D × En) : Rs (Bool × En) := match r.1 with
  | .bool b => .val (b, r.2)
  | _ => .stk
theorem mAsB_eq : mAsB fm env = fm env >>= mAsBK := rfl
theorem mAsBK_bool (b : Bool) : mAsBK (.bool b, env) = .val (b, env) := rfl
theorem mIf_eq : mIf tm fm gm env = tm env >>= fun b => if b.1 = true then fm b.2 else gm b.2 := rfl
theorem maNil_eq : maNil env = .val ([], env) := rfl
theorem maCons_eq : maCons fm fms env = fm env >>= fun d => fms d.2 >>= fun l => .val (d.1 :: l.1, l.2) := rfl
theorem sSetM_eq (i : Nat) : sSetM i fm env = (fm env).so fun r => .nx (r.2.set i (.fz r.1)) := rfl
theorem sSetTM_eq (tq : D → Rs (List (Nat × D))) : sSetTM tq fm env = (fm env).so fun r => (noEx (tq r.1)).so fun l => .nx (setE r.2 l) := rfl
theorem sIfM_eq : sIfM tm k1 k2 env = (tm env).so fun b => if b.1 = true then k1 b.2 else k2 b.2 := rfl
def parMK (i j : Nat) (r : List D × En) : So := match r.1 with
  | [d, e] => .nx ((r.2.set i (.fz d)).set j (.fz e))
  | _ => .stk
theorem sParM_eq (i j : Nat) : sParM i j fms env = (fms env).so (parMK i j) := rfl
theorem parMK_2 (i j : Nat) (d e : D) : parMK i j ([d, e], env) = .nx ((env.set i (.fz d)).set j (.fz e)) := rfl
def par3MK (i j l : Nat) (r : List D × En) : So := match r.1 with
  | [d, e, f] => .nx (((r.2.set i (.fz d)).set j (.fz e)).set l (.fz f))
  | _ => .stk
theorem sPar3M_eq (i j l : Nat) : sPar3M i j l fms env = (fms env).so (par3MK i j l) := rfl
theorem par3MK_3 (i j l : Nat) (d e f : D) : par3MK i j l ([d, e, f], env) = .nx (((env.set i (.fz d)).set j (.fz e)).set l (.fz f)) := rfl
end
def lcK (t : D → Rs (List (Nat × D))) (fb : En → Rs Bool) (fe : EF) (env : En) (ds : List D) : Rs (List D) := if ds.length ≤ 100000 then noEx (lcRun t fb fe env ds) else .stk
theorem eLc_eq (it : En → Rs (List D)) (t : D → Rs (List (Nat × D))) (fb : En → Rs Bool) (fe : EF) (vs : List Nat) (env : En) : eLc it t fb fe vs env = it env >>= fun ds => lcK t fb fe (wipeE env vs) ds := rfl
theorem lcK_ok {t : D → Rs (List (Nat × D))} {fb : En → Rs Bool} {fe : EF} {env : En} {ds r : List D} (h : ds.length ≤ 100000) (e : lcRun t fb fe env ds = .val r) : lcK t fb fe env ds = .val r := by
  unfold lcK
  rw [if_pos h, e]
  rfl
def tupK (l : List D) : Rs D := if l.length ≤ 100000 then .val (.tuple l) else .stk
theorem eTup_eq (fs : En → Rs (List D)) (env : En) : eTup fs env = fs env >>= tupK := rfl
theorem tupK_ok {l : List D} (h : l.length ≤ 100000) : tupK l = .val (.tuple l) := if_pos h
def mtupK (l : List D × En) : Rs (D × En) := if l.1.length ≤ 100000 then .val (.tuple l.1, l.2) else .stk
theorem mTup_eq (fs : En → Rs (List D × En)) (env : En) : mTup fs env = fs env >>= mtupK := rfl
theorem mtupK_ok {l : List D} {e : En} (h : l.length ≤ 100000) : mtupK (l, e) = .val (.tuple l, e) := if_pos h
def lstK (l : List D) : Rs (List D) := if l.length ≤ 100000 then .val l else .stk
theorem eLst_eq (fs : En → Rs (List D)) (env : En) : eLst fs env = fs env >>= lstK := rfl
theorem lstK_ok {l : List D} (h : l.length ≤ 100000) : lstK l = .val l := if_pos h
def repK (d e : D) : Rs (List D) := match d, e with
  | .list l, .int k => if k ≤ 100000 ∧ -100000 ≤ k ∧ l.length * k.toNat ≤ 100000 then .val (List.replicate k.toNat l).flatten else .stk
  | _, _ => .stk
theorem eRepO_eq (f g : EF) (env : En) : eRepO f g env = f env >>= fun d => g env >>= fun e => repK d e := rfl
theorem flat1 {α : Type} (x : α) : ∀ n : Nat, (List.replicate n [x]).flatten = List.replicate n x
  | 0 => rfl
  | n + 1 => by
    rw [List.replicate_succ, List.flatten_cons, flat1 x n]
    rfl
theorem repK_ok {x : D} {n : Nat} (h : n ≤ 1000) : repK (.list [x]) (.int (n : Int)) = .val (List.replicate n x) := by
  have e : repK (.list [x]) (.int (n : Int)) = .val (List.replicate n [x]).flatten := if_pos ⟨by omega, by omega, by show 1 * n ≤ 100000; omega⟩
  rw [e, flat1]
def appK (i : Nat) (env : En) (l : List D) (d : D) : So := if l.length < 100000 then .nx (env.set i (.ow (l ++ [d]))) else .stk
def appJ (i : Nat) (env : En) (s : Option Sl) (f : Rs D) : So := match s with
  | some (.ow l) => f.so fun d => appK i env l d
  | _ => .stk
theorem sApp_eq (i : Nat) (f : EF) (env : En) : sApp i f env = appJ i env env[i]? (f env) := rfl
theorem appJ_ow (i : Nat) (env : En) (l : List D) (f : Rs D) : appJ i env (some (.ow l)) f = f.so fun d => appK i env l d := rfl
theorem appK_ok {i : Nat} {env : En} {l : List D} {d : D} (h : l.length < 100000) : appK i env l d = .nx (env.set i (.ow (l ++ [d]))) := if_pos h
def catK (d e : D) : Rs (List D) := match d, e with
  | .list l, .list m => if l.length + m.length ≤ 100000 then .val (l ++ m) else .stk
  | _, _ => .stk
theorem eCatO_eq (f g : EF) (env : En) : eCatO f g env = f env >>= fun d => g env >>= fun e => catK d e := rfl
theorem catK_ok {l m : List D} (h : l.length + m.length ≤ 100000) : catK (.list l) (.list m) = .val (l ++ m) := if_pos h
theorem dAdd_list {l m : List D} (h : l.length + m.length ≤ 100000) : dAdd (.list l) (.list m) = .val (.list (l ++ m)) := if_pos h
theorem dAdd_tup {l m : List D} (h : l.length + m.length ≤ 100000) : dAdd (.tuple l) (.tuple m) = .val (.tuple (l ++ m)) := if_pos h
theorem dDiv_q {a b : Int} (h : 0 < b ∧ b < 1073741824) : qFdiv (.int a) (.int b) = .val (.int (a / b)) := if_pos h
theorem dMul_q {a b : Int} (h : -1000000 ≤ a ∧ a ≤ 1000000 ∧ -1000000 ≤ b ∧ b ≤ 1000000) : qMul (.int a) (.int b) = .val (.int (a * b)) := if_pos (.inl (by omega))
theorem dMod_q {a b : Int} (h : b ≠ 0) : qMod (.int a) (.int b) = .val (.int (a.fmod b)) := if_pos h
theorem dAdd_q (a b : Int) : qAdd (.int a) (.int b) = .val (.int (a + b)) := rfl
theorem dFdiv_int {a b : Int} (h : 0 < b ∧ b < 1073741824) : dFdiv (.int a) (.int b) = .val (.int (a.fdiv b)) := if_pos ⟨by omega, by omega⟩
def rgDK (d e z : D) : Rs (List D) := match d, e, z with
  | .int i, .int j, .int k => if k = -1 ∧ -1000000 ≤ i ∧ i ≤ 1000000 ∧ -1000000 ≤ j ∧ j ≤ 1000000 then .val ((dnI i j).map .int) else .stk
  | _, _, _ => .stk
theorem eRgD_eq (f g h : EF) (env : En) : eRgD f g h env = f env >>= fun d => g env >>= fun e => h env >>= fun z => rgDK d e z := rfl
theorem rgDK_ok {i j : Int} (h : -1000000 ≤ i ∧ i ≤ 1000000 ∧ -1000000 ≤ j ∧ j ≤ 1000000) : rgDK (.int i) (.int j) (.int (-1)) = .val ((dnI i j).map .int) := if_pos ⟨rfl, h⟩
theorem forL_nil (t : D → Rs (List (Nat × D))) (body : SF) (env : En) : forL t body [] env = .nx env := rfl
def forK (r : So) (k : SF) : So := match r with
  | .nx e => k e
  | .ct e => k e
  | .bk e => .nx e
  | r => r
theorem forL_cons (t : D → Rs (List (Nat × D))) (body : SF) (d : D) (ds : List D) (env : En) : forL t body (d :: ds) env = (noEx (t d)).so fun l => forK (body (setE env l)) (forL t body ds) := rfl
theorem forK_nx (e : En) (k : SF) : forK (.nx e) k = k e := rfl
theorem forK_ret (d : D) (e : En) (k : SF) : forK (.ret d e) k = .ret d e := rfl
def sFrzK (i : Nat) (g : SF) (env : En) (s : Option Sl) : So := match s with
  | some (.ow l) => g (env.set i (.fz (.list l)))
  | _ => g env
theorem sFrz_eq' (i : Nat) (g : SF) (env : En) : sFrz i g env = sFrzK i g env env[i]? := rfl
theorem sFrzK_ow (i : Nat) (g : SF) (env : En) (l : List D) : sFrzK i g env (some (.ow l)) = g (env.set i (.fz (.list l))) := rfl
theorem sFrzK_fz (i : Nat) (g : SF) (env : En) (d : D) : sFrzK i g env (some (.fz d)) = g env := rfl
theorem sFrzK_no (i : Nat) (g : SF) (env : En) : sFrzK i g env (some .no) = g env := rfl
theorem dIs_true (b : Bool) : dIs true (.bool b) (.bool true) = .val (.bool (!b)) := by cases b <;> rfl
theorem dIs_false (b : Bool) : dIs true (.bool b) (.bool false) = .val (.bool b) := by cases b <;> rfl
theorem asQ_eq (f : EF) (env : En) : asQ f env = f env >>= asQK := rfl
theorem asQK_list (l : List D) : asQK (.list l) = .val l := rfl
theorem asQK_tup (l : List D) : asQK (.tuple l) = .val l := rfl
theorem seq_go {k1 k2 : SF} {env : En} {d : D} (h : ∃ e, k1 env = .nx e ∧ ∃ env', k2 e = .ret d env') : ∃ env', sSeq k1 k2 env = .ret d env' := by
  obtain ⟨e, h1, h2⟩ := h
  exact ⟨h2.choose, by rw [sSeq_eq, h1, seqK_nx]; exact h2.choose_spec⟩
end Ag


namespace Ag
open PySem L2
/-! ### try, caught exceptions: running them -/
section
variable (f : EF) (fs : En → Rs (List D)) (env : En) (κ : Kp) (kind : Ec → Str) (tab : Ec → Bool)
noncomputable def isXK (κ : Kp) (tab : Ec → Bool) (s : Option Sl) : Rs D := match s with
  | some (.ob t k) => @ite _ (k = exK κ (ecO t)) (Classical.propDecidable _) (.val (.bool (tab (ecO t)))) .stk
  | _ => .stk
theorem eIsX_eq (i : Nat) : eIsX i κ tab env = isXK κ tab env[i]? := rfl
theorem isXK_ob (c : Ec) : isXK κ tab (some (.ob (ecN c) (exK κ c))) = .val (.bool (tab c)) := by
  unfold isXK
  dsimp only
  rw [ecO_N, if_pos rfl]
noncomputable def errK (κ : Kp) (kind : Ec → Str) (s : Option Sl) : Rs D := match s with
  | some (.ob t k) => @ite _ (k = exK κ (ecO t)) (Classical.propDecidable _) (.val (.str (kind (ecO t)))) .stk
  | _ => .stk
theorem eErr_eq (i : Nat) : eErr i κ kind env = errK κ kind env[i]? := rfl
theorem errK_ob (c : Ec) : errK κ kind (some (.ob (ecN c) (exK κ c))) = .val (.str (kind c)) := by
  unfold errK
  dsimp only
  rw [ecO_N, if_pos rfl]
def isNK (s : Option Sl) : Rs Bool := match s with
  | some (.ob _ _) => .val false
  | some (.fz d) => .val (isNon d)
  | _ => .stk
theorem bIsN_eq (i : Nat) : bIsN i env = isNK env[i]? := rfl
theorem isNK_ob (t : Nat) (k : Addr → HO) : isNK (some (.ob t k)) = .val false := rfl
theorem isNK_fz (d : D) : isNK (some (.fz d)) = .val (isNon d) := rfl
def tryK (i1 i2 ie : Nat) (κ : Kp) (env : En) (r : Rs D) : So := match r with
  | .val d => .nx (env.set i1 (.fz d))
  | .exc c => if ie < env.length then .nx ((env.set i2 (.ob (ecN c) (exK κ c))).set ie .no) else .stk
  | .stk => .stk
theorem sTry_eq (i1 i2 ie : Nat) : sTry i1 i2 ie κ f env = tryK i1 i2 ie κ env (f env) := rfl
theorem tryK_val (i1 i2 ie : Nat) (d : D) : tryK i1 i2 ie κ env (.val d) = .nx (env.set i1 (.fz d)) := rfl
theorem tryK_exc {i1 i2 ie : Nat} {κ : Kp} {env : En} {c : Ec} (h : ie < env.length) : tryK i1 i2 ie κ env (.exc c) = .nx ((env.set i2 (.ob (ecN c) (exK κ c))).set ie .no) := if_pos h
def call0R (r : Rs Rv) : Rs D := match r with
  | .val r => .val (rvD r)
  | _ => .stk
theorem call0R_val (r : Rv) : call0R (.val r) = .val (rvD r) := rfl
def call0K (n : Nat) (q : List D → Rs Rv) (ds : List D) : Rs D := if ds.length = n then call0R (q ds) else .stk
theorem eCall0_eq (n : Nat) (q : List D → Rs Rv) : eCall0 n q fs env = fs env >>= call0K n q := rfl
theorem call0K_1 (q : List D → Rs Rv) (a : D) : call0K 1 q [a] = call0R (q [a]) := rfl
theorem call0K_2 (q : List D → Rs Rv) (a b : D) : call0K 2 q [a, b] = call0R (q [a, b]) := rfl
theorem call0K_3 (q : List D → Rs Rv) (a b c : D) : call0K 3 q [a, b, c] = call0R (q [a, b, c]) := rfl
end
def pickQ (i : Nat) (env : En) (z : Addr × Addr × List Int × Int) (r : D) : Rs (D × En) := match r with
  | .list l => pickK i env z l
  | _ => .stk
theorem mPick_eq (i : Nat) (f : EF) (env : En) : mPick i f env = drOf env i >>= fun z => f env >>= pickQ i env z := rfl
theorem pickQ_list (i : Nat) (env : En) (z : Addr × Addr × List Int × Int) (l : List D) : pickQ i env z (.list l) = pickK i env z l := rfl
theorem shaped_str {s : Str} (h : PyData.canLay0 (.str s) = true) : SeqAt.shaped (.str s) = true := by
  unfold SeqAt.shaped
  rw [h]
  rfl
theorem dNe_str {s t : Str} (h : PyData.canLay0 (.str s) = true) (g : PyData.canLay0 (.str t) = true) : dNe (.str s) (.str t) = .val (.bool (!(s == t))) := by
  unfold dNe
  rw [shaped_str h, shaped_str g]
  rfl
theorem dEq_str {s t : Str} (h : PyData.canLay0 (.str s) = true) (g : PyData.canLay0 (.str t) = true) : dEq (.str s) (.str t) = .val (.bool (s == t)) := by
  unfold dEq
  rw [shaped_str h, shaped_str g]
  rfl
theorem dNe_strS {s : Str} (h : PyData.canLay0 (.str s) = true) : dNe (.str s) (.str s) = .val (.bool false) := by
  rw [dNe_str h h, beq_self_eq_true]
  rfl
theorem dEq_strS {s : Str} (h : PyData.canLay0 (.str s) = true) : dEq (.str s) (.str s) = .val (.bool true) := by
  rw [dEq_str h h, beq_self_eq_true]
theorem kind_ok (c : Ec) : PyData.canLay0 (.str (exKind c)) = true := by cases c <;> decide +kernel
theorem isNon_non : isNon .none = true := rfl
theorem isNon_int (i : Int) : isNon (.int i) = false := rfl
theorem isNon_tup (i : List D) : isNon (.tuple i) = false := rfl
theorem isNon_list (i : List D) : isNon (.list i) = false := rfl
theorem isNon_str (i : Str) : isNon (.str i) = false := rfl
theorem errL_count (c : Ec) : dCountB [.bool (sameEc c .rank), .bool (sameEc c .scor), .bool (sameEc c .numb), .bool (sameEc c .text), .bool (sameEc c .noth)] (.bool true) = .val (.int 1) := by cases c <;> rfl
theorem errL_index (c : Ec) : dIndex [.bool (sameEc c .rank), .bool (sameEc c .scor), .bool (sameEc c .numb), .bool (sameEc c .text), .bool (sameEc c .noth)] (.bool true) = .val (.int (ecN c)) := by cases c <;> rfl
theorem errL_ix (c : Ec) : dIx (.list [.str "ranking", .str "scores", .str "number", .str "text", .str "none"]) (.int (ecN c)) = .val (.str (exKind c)) := by cases c <;> rfl
theorem ite_bool_eq {α : Type} (b : Bool) (x y : α) : (if (b = true) then x else y) = cond b x y := by cases b <;> rfl
end Ag


namespace Ag
open PySem L2
/-! ### a thing with three lists: running its methods -/
section
variable (CS : Addr) (n i j N : Nat) (q : QF) (qs : QS) (env : En) (f : EF) (fm : MF) (fs : En → Rs (List D)) (fsm : En → Rs (List D × En)) (t : En → Rs Bool) (g : SF) (κ : Kp) (p p3 : Addr) (a b c : List D) (x y d : D) (as : List Addr)
theorem soG_so : soG CS (some (.gx as (.so CS a b c))) = some (a, b, c) := by unfold soG; dsimp only; rw [if_pos rfl]
theorem soG_fo : soG CS (some (.gx as (.fo CS a b c))) = some (a, b, c) := by unfold soG; dsimp only; rw [if_pos rfl]
theorem soW_so : soW CS (some (.gx [p, p3] (.so CS a b c))) = some (p, p3, a, b, c) := by unfold soW; dsimp only; rw [if_pos rfl]
theorem eNow_eq : eNow CS i env = ofO (soG CS env[i]?) >>= fun x => .val (.list x.1) := rfl
theorem eGoal_eq : eGoal CS i env = ofO (soG CS env[i]?) >>= fun x => .val (.list x.2.1) := rfl
theorem eMade_eq : eMade CS i env = ofO (soG CS env[i]?) >>= fun x => .val (.list x.2.2) := rfl
def mfK (CS : Addr) (n : Nat) (q : QF) (x : List D × List D × List D) (ds : List D) : Rs D := if ds.length = n then inG (q CS x.1 x.2.1 x.2.2 ds) else .stk
theorem eMF_eq : eMF CS n q i fs env = ofO (soG CS env[i]?) >>= fun x => fs env >>= mfK CS n q x := rfl
theorem mfK_0 (z : List D × List D × List D) : mfK CS 0 q z [] = inG (q CS z.1 z.2.1 z.2.2 []) := rfl
theorem inG_int (k : Int) : inG (.val (.d (.int k))) = .val (.int k) := rfl
theorem inG_o (ns : List Int) : inG (.val (.o (ns.map .int))) = .val (.list (ns.map .int)) := by
  show (ofO (intsOf (ns.map PyData.int)) >>= fun _ => Rs.val (PyData.list (ns.map .int))) = _
  rw [intsOf_map]
  rfl
theorem eLenS_eq : eLenS CS q i env = lenG (eMF CS 0 q i aNil env) := rfl
theorem lenG_int {k : Int} (h : 0 ≤ k ∧ k ≤ 100000) : lenG (.val (.int k)) = .val (.int k) := by
  show (if 0 ≤ k ∧ k ≤ 100000 then Rs.val (PyData.int k) else .stk) = _
  rw [if_pos h]
def soK (CS : Addr) (n : Nat) (q : QS) (i : Nat) (env : En) (ds : List D) (x : Addr × Addr × List D × List D × List D) : Rs (D × En) := if ds.length = n then q x.1 x.2.1 x.2.2.1 x.2.2.2.1 x.2.2.2.2 ds >>= soOut CS i x.1 x.2.1 env else .stk
theorem mSo_eq : mSo CS n qs i fsm env = ofO (soW CS env[i]?) >>= fun _ => fsm env >>= fun l => ofO (soW CS l.2[i]?) >>= soK CS n qs i l.2 l.1 := rfl
theorem mSoV_eq : mSoV CS n qs i fs env = ofO (soW CS env[i]?) >>= fun z => fs env >>= fun l => soK CS n qs i env l z := rfl
theorem soK_0 (z : Addr × Addr × List D × List D × List D) : soK CS 0 qs i env [] z = qs z.1 z.2.1 z.2.2.1 z.2.2.2.1 z.2.2.2.2 [] >>= soOut CS i z.1 z.2.1 env := rfl
theorem soK_1 (z : Addr × Addr × List D × List D × List D) : soK CS 1 qs i env [x] z = qs z.1 z.2.1 z.2.2.1 z.2.2.2.1 z.2.2.2.2 [x] >>= soOut CS i z.1 z.2.1 env := rfl
theorem soK_2 (z : Addr × Addr × List D × List D × List D) : soK CS 2 qs i env [x, y] z = qs z.1 z.2.1 z.2.2.1 z.2.2.2.1 z.2.2.2.2 [x, y] >>= soOut CS i z.1 z.2.1 env := rfl
theorem soOut_eq (r : SoT) : soOut CS i p p3 env r = .val (r.1, env.set i (.gx [p, p3] (.so CS r.2.1 r.2.2.1 r.2.2.2))) := rfl
def tryXK (i1 i2 ie : Nat) (κ : Kp) (env : En) (r : Rs (D × En)) : So := match r with
  | .val r => .nx (r.2.set i1 (.fz r.1))
  | .exc c => if ie < env.length then .nx ((env.set i2 (.ob (ecN c) (exK κ c))).set ie .no) else .stk
  | .stk => .stk
theorem sTryX_eq (i1 i2 ie : Nat) : sTryX i1 i2 ie κ fm env = tryXK i1 i2 ie κ env (fm env) := rfl
theorem tryXK_val (i1 i2 ie : Nat) (r : D × En) : tryXK i1 i2 ie κ env (.val r) = .nx (r.2.set i1 (.fz r.1)) := rfl
theorem tryXK_exc {i1 i2 ie : Nat} {κ : Kp} {env : En} {c : Ec} (h : ie < env.length) : tryXK i1 i2 ie κ env (.exc c) = .nx ((env.set i2 (.ob (ecN c) (exK κ c))).set ie .no) := if_pos h
theorem mIfX_eq (gm : MF) : mIfX t fm gm env = t env >>= fun b => if b = true then fm env else gm env := rfl
theorem sNowW_eq : sNowW CS i f env = (f env).so fun d => nowK CS i env d (soW CS env[i]?) := rfl
theorem nowK_ok (l : List D) (z : Addr × Addr × List D × List D × List D) : nowK CS i env (.list l) (some z) = .nx (env.set i (.gx [z.1, z.2.1] (.so CS l z.2.2.2.1 z.2.2.2.2))) := rfl
def madeAK (CS : Addr) (i : Nat) (env : En) (x : Addr × Addr × List D × List D × List D) (d : D) : Rs (D × En) := if x.2.2.2.2.length < 100000 then .val (.none, env.set i (.gx [x.1, x.2.1] (.so CS x.2.2.1 x.2.2.2.1 (x.2.2.2.2 ++ [d])))) else .stk
theorem mMadeA_eq : mMadeA CS i f env = ofO (soW CS env[i]?) >>= fun z => f env >>= madeAK CS i env z := rfl
theorem madeAK_ok {z : Addr × Addr × List D × List D × List D} (h : z.2.2.2.2.length < 100000) : madeAK CS i env z d = .val (.none, env.set i (.gx [z.1, z.2.1] (.so CS z.2.2.1 z.2.2.2.1 (z.2.2.2.2 ++ [d])))) := if_pos h
theorem mMadeP_eq : mMadeP CS i env = ofO (soW CS env[i]?) >>= fun z => ofO (z.2.2.2.2[z.2.2.2.2.length - 1]?) >>= fun d => .val (d, env.set i (.gx [z.1, z.2.1] (.so CS z.2.2.1 z.2.2.2.1 z.2.2.2.2.dropLast))) := rfl
theorem sDropM_eq : sDropM fm env = (fm env).so fun r => .nx r.2 := rfl
def runFK (r : So) : Rs Rv := match r with
  | .nx _ => .val (.d .none)
  | .ret d _ => .val (.d d)
  | .reto l _ => .val (.o l)
  | .exc c => .exc c
  | _ => .stk
theorem runF_eq (ds : List D) : runF N g CS a b c ds = runFK (g (.gx [] (.fo CS a b c) :: (ds.map .fz ++ List.replicate (N - (ds.length + 1)) .no))) := rfl
theorem runFK_ret (e : En) : runFK (.ret d e) = .val (.d d) := rfl
theorem runFK_reto (l : List D) (e : En) : runFK (.reto l e) = .val (.o l) := rfl
theorem runS_eq (ds : List D) : runS N CS g p p3 a b c ds = soRt CS p p3 (g (.gx [p, p3] (.so CS a b c) :: (ds.map .fz ++ List.replicate (N - (ds.length + 1)) .no))) := rfl
theorem runX_eq (ds : List D) (k : Ec) : runX N CS t k g p p3 a b c ds = noEx (t (.gx [p, p3] (.so CS a b c) :: (ds.map .fz ++ List.replicate (N - (ds.length + 1)) .no))) >>= fun h => if h = true then .exc k else soRt CS p p3 (g (.gx [p, p3] (.so CS a b c) :: (ds.map .fz ++ List.replicate (N - (ds.length + 1)) .no))) := rfl
theorem soRt_ret (e : En) : soRt CS p p3 (.ret d e) = retS CS p p3 d e[0]? := rfl
theorem retS_so : retS CS p p3 d (some (.gx [p, p3] (.so CS a b c))) = .val (d, a, b, c) := by
  unfold retS
  rw [soW_so]
  dsimp only
  rw [if_pos ⟨rfl, rfl⟩]
theorem mOrT_eq (fb gb : En → Rs (Bool × En)) : mOrT fb gb env = fb env >>= fun b => if b.1 = true then .val (true, b.2) else gb b.2 := rfl
end
end Ag


namespace Ag
open PySem L2

def ups (n : Nat) : List Int := (List.range n).map fun i => ((i + 1 : Nat) : Int)
structure Rk (n : Nat) (a : List Int) : Prop where
  p : a.Perm (ups n)
  lo : 1 ≤ n
  hi : n ≤ 7
theorem ups_len (n : Nat) : (ups n).length = n := by simp [ups]
theorem Rk.len {n : Nat} {a : List Int} (h : Rk n a) : a.length = n := by rw [h.p.length_eq, ups_len]
theorem mem_ups {n : Nat} {x : Int} : x ∈ ups n ↔ 1 ≤ x ∧ x ≤ n := by
  unfold ups
  rw [List.mem_map]
  constructor
  · rintro ⟨i, hi, rfl⟩
    rw [List.mem_range] at hi
    omega
  · rintro ⟨h1, h2⟩
    exact ⟨(x - 1).toNat, by rw [List.mem_range]; omega, by omega⟩
theorem Rk.mem {n : Nat} {a : List Int} (h : Rk n a) {x : Int} : x ∈ a ↔ 1 ≤ x ∧ x ≤ n := by rw [h.p.mem_iff, mem_ups]
theorem ups_nodup (n : Nat) : (ups n).Nodup := by
  unfold ups
  exact (List.nodup_range (n := n)).map (f := fun i => ((i + 1 : Nat) : Int)) (fun a b h => by simp at h; omega)
theorem Rk.nodup {n : Nat} {a : List Int} (h : Rk n a) : a.Nodup := h.p.nodup_iff.mpr (ups_nodup n)
theorem ups_sorted (n : Nat) : (ups n).Pairwise (· ≤ ·) := by
  unfold ups
  rw [List.pairwise_map]
  exact (List.pairwise_lt_range (n := n)).imp fun h => by omega
theorem isort_rk {n : Nat} {a : List Int} (h : Rk n a) : isort a = ups n := sorted_uniq ((isort_perm a).trans h.p) (isort_sorted a) (ups_sorted n)
def seenF (z : List Int) (ps : List (Int × Int)) : List Int := ps.foldl (fun acc p => acc.set (p.1 - 1).toNat p.2) z
theorem seenF_len : ∀ (ps : List (Int × Int)) (z : List Int), (seenF z ps).length = z.length
  | [], _ => rfl
  | p :: r, z => by
    show (seenF _ r).length = _
    rw [seenF_len r, List.length_set]
theorem seenF_app (z : List Int) (ps : List (Int × Int)) (p : Int × Int) : seenF z (ps ++ [p]) = (seenF z ps).set (p.1 - 1).toNat p.2 := by
  unfold seenF
  rw [List.foldl_append]
  rfl
/-- what is seen: the rank that other gives to the thing that one gives rank i + 1 -/
def seenL (a b : List Int) : List Int := (ups a.length).map fun x => gt b (a.idxOf x)
theorem seenL_len (a b : List Int) : (seenL a b).length = a.length := by simp [seenL, ups_len]
theorem gt_set (l : List Int) (i j : Nat) (x : Int) (h : i < l.length) : gt (l.set i x) j = if j = i then x else gt l j := by
  unfold gt
  rw [List.getD_eq_getElem?_getD, List.getElem?_set, List.getD_eq_getElem?_getD]
  by_cases e : i = j
  · subst e
    rw [if_pos rfl, if_pos h, if_pos rfl]
    rfl
  · rw [if_neg e, if_neg (Ne.symm e)]
theorem gt_ext {a b : List Int} (h : a.length = b.length) (k : ∀ i, i < a.length → gt a i = gt b i) : a = b := by
  apply List.ext_getElem h
  intro i h1 h2
  have := k i h1
  unfold gt at this
  rw [List.getD_eq_getElem?_getD, List.getD_eq_getElem?_getD, List.getElem?_eq_getElem h1, List.getElem?_eq_getElem h2] at this
  exact this
theorem gt_map_range (f : Nat → Int) {n i : Nat} (h : i < n) : gt ((List.range n).map f) i = f i := by
  unfold gt
  rw [List.getD_eq_getElem?_getD, List.getElem?_map, List.getElem?_range h]
  rfl
theorem gt_mem' {a : List Int} {i : Nat} (h : i < a.length) : gt a i ∈ a := by
  unfold gt
  rw [List.getD_eq_getElem?_getD, List.getElem?_eq_getElem h]
  exact List.getElem_mem h
theorem gt_mem {a : List Int} {i : Nat} (h : i < a.length) : gt a i ∈ a := by
  unfold gt
  rw [List.getD_eq_getElem?_getD, List.getElem?_eq_getElem h]
  exact List.getElem_mem h
theorem gt_eq {a : List Int} {i : Nat} (h : i < a.length) : gt a i = a[i] := by
  unfold gt
  rw [List.getD_eq_getElem?_getD, List.getElem?_eq_getElem h]
  rfl
theorem idx_gt {a : List Int} (hn : a.Nodup) {i : Nat} (h : i < a.length) : a.idxOf (gt a i) = i := by
  induction a generalizing i with
  | nil => simp at h
  | cons x r ih =>
    rw [List.nodup_cons] at hn
    cases i with
    | zero => simp [gt]
    | succ i =>
      have hi : i < r.length := by simpa using h
      have e : gt (x :: r) (i + 1) = gt r i := rfl
      have m : gt r i ∈ r := gt_mem' hi
      have ne : (x == gt r i) = false := by
        have : x ≠ gt r i := fun z => hn.1 (z ▸ m)
        simpa using this
      rw [e, List.idxOf_cons, ne, ih hn.2 hi]
      rfl
theorem gt_idx {a : List Int} {x : Int} (h : x ∈ a) : gt a (a.idxOf x) = x := by
  have hl := List.idxOf_lt_length_iff.mpr h
  rw [gt_eq hl]
  exact List.getElem_idxOf hl
/-- zip walked from the front, written where one says -/
theorem seenF_gt : ∀ (a b z : List Int), a.Nodup → a.length = b.length → (∀ x ∈ a, 1 ≤ x ∧ x ≤ z.length) → ∀ j, j < z.length → gt (seenF z (a.zip b)) j = if ((j : Int) + 1) ∈ a then gt b (a.idxOf ((j : Int) + 1)) else gt z j
  | [], _, z, _, _, _, j, _ => by simp [seenF]
  | x :: a, [], z, _, h, _, _, _ => by simp at h
  | x :: a, y :: b, z, hn, hl, hm, j, hj => by
    have hx := hm x (List.mem_cons_self ..)
    have hn' := List.nodup_cons.mp hn
    have ih := seenF_gt a b (z.set (x - 1).toNat y) hn'.2 (by simpa using hl) (fun w hw => by rw [List.length_set]; exact hm w (List.mem_cons_of_mem _ hw)) j (by rw [List.length_set]; exact hj)
    have e : seenF z ((x :: a).zip (y :: b)) = seenF (z.set (x - 1).toNat y) (a.zip b) := rfl
    rw [e, ih]
    by_cases hxj : x = (j : Int) + 1
    · have n1 : ((j : Int) + 1) ∉ a := by rw [← hxj]; exact hn'.1
      rw [if_neg n1, if_pos (by rw [← hxj]; exact List.mem_cons_self ..), gt_set _ _ _ _ (by omega), if_pos (by omega), ← hxj]
      simp [gt]
    · have n2 : ((j : Int) + 1 ∈ x :: a) ↔ ((j : Int) + 1 ∈ a) := by
        rw [List.mem_cons]
        constructor
        · rintro (h | h)
          · exact absurd h.symm hxj
          · exact h
        · exact .inr
      by_cases h : ((j : Int) + 1) ∈ a
      · rw [if_pos h, if_pos (n2.mpr h), List.idxOf_cons]
        have : (x == (j : Int) + 1) = false := by simpa using hxj
        rw [this]
        simp [gt]
      · rw [if_neg h, if_neg (fun q => h (n2.mp q)), gt_set _ _ _ _ (by omega), if_neg (by omega)]
theorem seenF_eq {n : Nat} {a b : List Int} (h : Rk n a) (hb : b.length = n) : seenF (List.replicate n 0) (a.zip b) = seenL a b := by
  have hl := h.len
  refine gt_ext (by rw [seenF_len, seenL_len, List.length_replicate, hl]) fun j hj => ?_
  rw [seenF_len, List.length_replicate] at hj
  rw [seenF_gt a b _ h.nodup (by omega) (fun x hx => by rw [List.length_replicate]; have := h.mem.mp hx; omega) j (by rw [List.length_replicate]; exact hj), if_pos (h.mem.mpr (by omega))]
  unfold seenL ups
  rw [List.map_map, gt_map_range _ (by omega)]
  rfl
theorem seen_of {n : Nat} {a b : List Int} (h : Rk n a) (hb : b.length = n) : (a.map fun x => gt b (a.idxOf x)) = b := by
  have hl := h.len
  refine gt_ext (by rw [List.length_map]; omega) fun i hi => ?_
  rw [List.length_map] at hi
  have : gt (a.map fun x => gt b (a.idxOf x)) i = gt b (a.idxOf (gt a i)) := by
    rw [gt_eq (by rw [List.length_map]; exact hi), List.getElem_map, ← gt_eq hi]
  rw [this, idx_gt h.nodup hi]
theorem seenL_perm {n : Nat} {a b : List Int} (h : Rk n a) (hb : b.length = n) : (seenL a b).Perm b := by
  have := (h.p.symm).map fun x => gt b (a.idxOf x)
  rw [seen_of h hb] at this
  unfold seenL
  rw [h.len]
  exact this
theorem seenL_rk {n : Nat} {a b : List Int} (h : Rk n a) (g : Rk n b) : Rk n (seenL a b) := ⟨(seenL_perm h g.len).trans g.p, h.lo, h.hi⟩
def prs (n : Nat) (f : Nat → Nat → Bool) : List (Nat × Nat) := (List.range n).flatMap fun k => ((List.range' (k + 1) (n - (k + 1))).filter (f k)).map fun j => (k, j)
theorem prs_len (n : Nat) (f : Nat → Nat → Bool) (h : n ≤ 100) : (prs n f).length ≤ n * n := by
  unfold prs
  rw [List.length_flatMap]
  have : ∀ l : List Nat, (l.map fun k => (((List.range' (k + 1) (n - (k + 1))).filter (f k)).map fun j => (k, j)).length).sum ≤ l.length * n := by
    intro l
    induction l with
    | nil => simp
    | cons k r ih =>
      rw [List.map_cons, List.sum_cons, List.length_cons, Nat.add_mul, List.length_map]
      have := List.length_filter_le (f k) (List.range' (k + 1) (n - (k + 1)))
      rw [List.length_range'] at this
      omega
  have := this (List.range n)
  rw [List.length_range] at this
  exact this
theorem findIdx_erase : ∀ (l : List Int) (x : Int), x ∈ l → ∃ j, l.findIdx? (fun z => z == x) = some j ∧ l.eraseIdx j = l.erase x
  | [], _, h => by cases h
  | y :: l, x, h => by
    by_cases e : y = x
    · subst e
      exact ⟨0, by rw [List.findIdx?_cons, beq_self_eq_true]; rfl, by rw [List.erase_cons_head]; rfl⟩
    · have h' : x ∈ l := by
        rcases List.mem_cons.mp h with z | z
        · exact absurd z.symm e
        · exact z
      obtain ⟨j, h1, h2⟩ := findIdx_erase l x h'
      have e2 : (y == x) = false := by simpa using e
      refine ⟨j + 1, ?_, ?_⟩
      · rw [List.findIdx?_cons, e2, h1]
        rfl
      · rw [List.eraseIdx_cons_succ, List.erase_cons, e2, h2]
        rfl
theorem eraseIdx_map' {α β : Type} (f : α → β) : ∀ (l : List α) (j : Nat), (l.map f).eraseIdx j = (l.eraseIdx j).map f
  | [], _ => rfl
  | _ :: _, 0 => rfl
  | x :: l, j + 1 => by
    rw [List.map_cons, List.eraseIdx_cons_succ, List.eraseIdx_cons_succ, List.map_cons, eraseIdx_map' f l j]
theorem Rk.gt {n : Nat} {a : List Int} (h : Rk n a) {i : Nat} (hi : i < n) : 1 ≤ gt a i ∧ gt a i ≤ 7 := by
  have := h.mem.mp (gt_mem (a := a) (i := i) (by rw [h.len]; exact hi))
  have := h.hi
  omega
theorem Rk.ne {n : Nat} {a : List Int} (h : Rk n a) {i j : Nat} (hi : i < n) (hj : j < n) (hij : i ≠ j) : Ag.gt a i ≠ Ag.gt a j := fun e => by
  have l := h.len
  have h1 := idx_gt h.nodup (i := i) (by omega)
  have h2 := idx_gt h.nodup (i := j) (by omega)
  rw [e, h2] at h1
  exact hij h1.symm
theorem flatMap_congr' {α β : Type} {f g : α → List β} : ∀ {l : List α}, (∀ x ∈ l, f x = g x) → l.flatMap f = l.flatMap g
  | [], _ => rfl
  | x :: l, h => by
    rw [List.flatMap_cons, List.flatMap_cons, h x (List.mem_cons_self ..), flatMap_congr' fun y hy => h y (List.mem_cons_of_mem _ hy)]
theorem prs_congr {n : Nat} {f g : Nat → Nat → Bool} (h : ∀ k j, k < j → j < n → f k j = g k j) : prs n f = prs n g := by
  unfold prs
  refine flatMap_congr' fun k hk => ?_
  have : (List.range' (k + 1) (n - (k + 1))).filter (f k) = (List.range' (k + 1) (n - (k + 1))).filter (g k) := List.filter_congr fun j hj => by
    rw [List.mem_range'_1] at hj
    exact h k j (by omega) (by omega)
  rw [this]
/-- the pairs against -/
def ag (a b : List Int) (k j : Nat) : Bool := decide (gt a k < gt a j) != decide (gt b k < gt b j)
def agst (n : Nat) (a b : List Int) : List (Nat × Nat) := prs n (ag a b)
theorem ag_symm (n : Nat) (a b : List Int) : agst n a b = agst n b a := by
  unfold agst
  congr 1
  funext k j
  unfold ag
  cases decide (gt a k < gt a j) <;> cases decide (gt b k < gt b j) <;> rfl
theorem mul_sign {x y u v : Int} (h : x ≠ y) (g : u ≠ v) : decide ((x - y) * (u - v) < 0) = (decide (x < y) != decide (u < v)) := by
  by_cases h1 : x < y <;> by_cases h2 : u < v
  · have := Int.mul_pos_of_neg_of_neg (a := x - y) (b := u - v) (by omega) (by omega)
    simp [h1, h2]
    omega
  · have := Int.mul_neg_of_neg_of_pos (a := x - y) (b := u - v) (by omega) (by omega)
    simp [h1, h2]
    omega
  · have := Int.mul_neg_of_pos_of_neg (a := x - y) (b := u - v) (by omega) (by omega)
    simp [h1, h2]
    omega
  · have := Int.mul_pos (a := x - y) (b := u - v) (by omega) (by omega)
    simp [h1, h2]
    omega
def enc : List Int → List Int
  | [] => []
  | x :: r => (((r.filter fun y => decide (y < x)).length : Nat) : Int) :: enc r
theorem enc_len : ∀ s : List Int, (enc s).length = s.length
  | [] => rfl
  | x :: r => by rw [enc, List.length_cons, List.length_cons, enc_len r]
theorem enc_range : ∀ s : List Int, enc s = (List.range s.length).map fun k => ((((s.drop (k + 1)).filter fun y => decide (y < gt s k)).length : Nat) : Int)
  | [] => rfl
  | x :: r => by
    rw [enc, enc_range r, List.length_cons, List.range_succ_eq_map, List.map_cons, List.map_map]
    rfl
def dec : List Int → List Int → List Int
  | [], _ => []
  | m :: t, left => gt left m.toNat :: dec t (left.eraseIdx m.toNat)
/-- a table for k things -/
def Tab : Nat → List Int → Prop
  | _, [] => True
  | n, m :: t => 0 ≤ m ∧ m < n ∧ Tab (n - 1) t
def Srt (l : List Int) : Prop := l.Pairwise (· < ·)
theorem ups_srt (n : Nat) : Srt (ups n) := by
  unfold ups Srt
  rw [List.pairwise_map]
  exact (List.pairwise_lt_range (n := n)).imp fun h => by omega
theorem Srt.erase {l : List Int} (h : Srt l) (k : Nat) : Srt (l.eraseIdx k) := List.Pairwise.sublist (List.eraseIdx_sublist l k) h
theorem less_at : ∀ (l : List Int) (m : Nat), Srt l → m < l.length → ((l.eraseIdx m).filter fun y => decide (y < gt l m)).length = m
  | [], _, _, h => by simp at h
  | x :: l, 0, hs, _ => by
    have hs := List.pairwise_cons.mp hs
    rw [List.length_eq_zero_iff, List.filter_eq_nil_iff]
    intro y hy
    have := hs.1 y hy
    simp [gt]
    omega
  | x :: l, m + 1, hs, h => by
    have hs := List.pairwise_cons.mp hs
    have hm : m < l.length := by simpa using h
    have hx := hs.1 _ (gt_mem hm)
    have e : gt (x :: l) (m + 1) = gt l m := rfl
    rw [List.eraseIdx_cons_succ, e, List.filter_cons, decide_eq_true hx, if_pos rfl, List.length_cons, less_at l m hs.2 hm]
theorem erase_perm : ∀ (l : List Int) (m : Nat), m < l.length → (gt l m :: l.eraseIdx m).Perm l
  | [], _, h => by simp at h
  | x :: l, 0, _ => List.Perm.refl _
  | x :: l, m + 1, h => by
    have hm : m < l.length := by simpa using h
    have e : gt (x :: l) (m + 1) = gt l m := rfl
    rw [List.eraseIdx_cons_succ, e]
    exact (List.Perm.swap x (gt l m) _).trans ((erase_perm l m hm).cons x)
theorem dec_perm : ∀ (t left : List Int), Tab left.length t → t.length = left.length → (dec t left).Perm left
  | [], left, _, h => by
    rw [List.eq_nil_of_length_eq_zero h.symm]
    exact List.Perm.refl _
  | m :: t, left, ⟨h0, h1, h2⟩, h => by
    rw [List.length_cons] at h
    have hm : m.toNat < left.length := by omega
    have hl : (left.eraseIdx m.toNat).length = left.length - 1 := List.length_eraseIdx_of_lt hm
    rw [dec]
    exact ((dec_perm t (left.eraseIdx m.toNat) (by rw [hl]; exact h2) (by omega)).cons _).trans (erase_perm left m.toNat hm)
theorem enc_dec : ∀ (t left : List Int), Srt left → Tab left.length t → t.length = left.length → enc (dec t left) = t
  | [], left, _, _, h => rfl
  | m :: t, left, hs, ⟨h0, h1, h2⟩, h => by
    rw [List.length_cons] at h
    have hm : m.toNat < left.length := by omega
    have hl : (left.eraseIdx m.toNat).length = left.length - 1 := List.length_eraseIdx_of_lt hm
    have ht : Tab (left.eraseIdx m.toNat).length t := by rw [hl]; exact h2
    rw [dec, enc, enc_dec t _ (hs.erase _) ht (by omega), ((dec_perm t _ ht (by omega)).filter _).length_eq, less_at left _ hs hm]
    congr 1
    omega
theorem dec_enc : ∀ (s left : List Int), Srt left → s.Perm left → dec (enc s) left = s ∧ Tab left.length (enc s)
  | [], left, _, h => ⟨rfl, trivial⟩
  | x :: r, left, hs, h => by
    have hx : x ∈ left := h.mem_iff.mp (List.mem_cons_self ..)
    have hi := List.idxOf_lt_length_iff.mpr hx
    have eg := gt_idx hx
    have ep := erase_perm left _ hi
    rw [eg] at ep
    have hr : r.Perm (left.eraseIdx (left.idxOf x)) := (h.trans ep.symm).cons_inv
    have hc : (r.filter fun y => decide (y < x)).length = left.idxOf x := by
      have := less_at left _ hs hi
      rw [eg] at this
      rw [(hr.filter _).length_eq, this]
    obtain ⟨i1, i2⟩ := dec_enc r _ (hs.erase _) hr
    rw [enc, hc, dec, Int.toNat_natCast, eg, i1]
    refine ⟨rfl, by omega, by omega, ?_⟩
    rw [List.length_eraseIdx_of_lt hi] at i2
    exact i2
def dsc (p q : Int × Int) : Bool := decide ((p.1 - q.1) * (p.2 - q.2) < 0)
theorem dsc_symm (p q : Int × Int) : dsc p q = dsc q p := by
  unfold dsc
  have : (p.1 - q.1) * (p.2 - q.2) = (q.1 - p.1) * (q.2 - p.2) := by
    rw [← Int.neg_sub q.1 p.1, ← Int.neg_sub q.2 p.2, Int.neg_mul_neg]
  rw [this]
def cnt : List (Int × Int) → Nat
  | [] => 0
  | p :: r => (r.filter (dsc p)).length + cnt r
theorem cnt_perm {l m : List (Int × Int)} (h : l.Perm m) : cnt l = cnt m := by
  induction h with
  | nil => rfl
  | cons x h ih => rw [cnt, cnt, ih, (h.filter _).length_eq]
  | swap x y l =>
    rw [cnt, cnt, cnt, cnt, List.filter_cons, List.filter_cons, dsc_symm y x]
    cases dsc x y <;> simp <;> omega
  | trans _ _ h1 h2 => rw [h1, h2]
theorem filt_map {α β : Type} (f : α → β) (p : β → Bool) : ∀ l : List α, ((l.map f).filter p).length = (l.filter fun x => p (f x)).length
  | [] => rfl
  | x :: l => by
    rw [List.map_cons, List.filter_cons, List.filter_cons]
    cases p (f x) <;> simp [filt_map f p l]
theorem prs_sum (n : Nat) (f : Nat → Nat → Bool) : (prs n f).length = ((List.range n).map fun k => ((List.range' (k + 1) (n - (k + 1))).filter (f k)).length).sum := by
  unfold prs
  rw [List.length_flatMap]
  congr 1
  exact List.map_congr_left fun k _ => List.length_map ..
theorem prs_succ (n : Nat) (f : Nat → Nat → Bool) : (prs (n + 1) f).length = ((List.range n).filter fun j => f 0 (j + 1)).length + (prs n fun k j => f (k + 1) (j + 1)).length := by
  rw [prs_sum, prs_sum, List.range_succ_eq_map, List.map_cons, List.sum_cons, List.map_map]
  congr 1
  · show ((List.range' 1 n).filter (f 0)).length = _
    rw [List.range'_eq_map_range, filt_map]
    congr 1
    exact List.filter_congr fun j _ => by rw [Nat.add_comm]
  · congr 1
    refine List.map_congr_left fun k _ => ?_
    show ((List.range' (k + 1 + 1) (n + 1 - (k + 1 + 1))).filter (f (k + 1))).length = _
    rw [List.range'_eq_map_range, filt_map, List.range'_eq_map_range, filt_map, Nat.add_sub_add_right]
    congr 1
    exact List.filter_congr fun j _ => by rw [Nat.add_right_comm (k + 1) 1 j]
def at2 (l : List (Int × Int)) (i : Nat) : Int × Int := l.getD i (0, 0)
theorem range_at2 : ∀ l : List (Int × Int), (List.range l.length).map (at2 l) = l
  | [] => rfl
  | p :: r => by
    rw [List.length_cons, List.range_succ_eq_map, List.map_cons, List.map_map]
    have := range_at2 r
    show p :: (List.range r.length).map (fun i => at2 r i) = _
    rw [show (List.range r.length).map (fun i => at2 r i) = r from this]
theorem prs_cnt : ∀ l : List (Int × Int), (prs l.length fun k j => dsc (at2 l k) (at2 l j)).length = cnt l
  | [] => rfl
  | p :: r => by
    rw [List.length_cons, prs_succ, cnt, ← prs_cnt r]
    congr 1
    have e : ((List.range r.length).filter fun j => dsc (at2 (p :: r) 0) (at2 (p :: r) (j + 1))).length = (((List.range r.length).map (at2 r)).filter (dsc p)).length := by
      rw [filt_map]
      rfl
    rw [e, range_at2]
theorem zip_seen {n : Nat} {a b : List Int} (h : Rk n a) (hb : b.length = n) : (a.zip b).Perm ((ups n).zip (seenL a b)) := by
  have e1 : a.zip b = a.map fun x => (x, gt b (a.idxOf x)) := by
    have := seen_of h hb
    conv => lhs; rw [← this]
    rw [List.zip_map_right]
    have : ∀ l : List Int, l.zip l = l.map fun x => (x, x) := by
      intro l
      induction l with
      | nil => rfl
      | cons x r ih => rw [List.zip_cons_cons, ih]; rfl
    rw [this, List.map_map]
    rfl
  have e2 : (ups n).zip (seenL a b) = (ups n).map fun x => (x, gt b (a.idxOf x)) := by
    unfold seenL
    rw [h.len, List.zip_map_right]
    have : ∀ l : List Int, l.zip l = l.map fun x => (x, x) := by
      intro l
      induction l with
      | nil => rfl
      | cons x r ih => rw [List.zip_cons_cons, ih]; rfl
    rw [this, List.map_map]
    rfl
  rw [e1, e2]
  exact h.p.map _
theorem cnt_zip : ∀ (u s : List Int), Srt u → u.length = s.length → s.Nodup → ((cnt (u.zip s) : Nat) : Int) = (enc s).sum
  | [], s, _, h, _ => by
    have : s = [] := List.eq_nil_of_length_eq_zero h.symm
    subst this
    rfl
  | x :: u, [], _, h, _ => by simp at h
  | x :: u, y :: s, hu, h, hn => by
    have hu := List.pairwise_cons.mp hu
    have hn := List.nodup_cons.mp hn
    have hl : u.length = s.length := by simpa using h
    rw [List.zip_cons_cons, cnt, enc, List.sum_cons, ← cnt_zip u s hu.2 hl hn.2]
    have : ((u.zip s).filter (dsc (x, y))).length = (s.filter fun z => decide (z < y)).length := by
      have e : s = (u.zip s).map Prod.snd := by
        rw [List.map_snd_zip (by omega)]
      conv => rhs; rw [e]
      rw [filt_map]
      congr 1
      refine List.filter_congr fun p hp => ?_
      have hm := List.of_mem_zip (a := p.1) (b := p.2) hp
      have h1 := hu.1 p.1 hm.1
      have h2 : y ≠ p.2 := fun e => hn.1 (e ▸ hm.2)
      show decide ((x - p.1) * (y - p.2) < 0) = _
      rw [mul_sign (by omega) h2]
      by_cases h3 : y < p.2
      · simp [h1, h3]
        omega
      · simp [h1, h3]
        omega
    rw [this]
    omega
theorem agst_cnt {n : Nat} {a b : List Int} (h : Rk n a) (g : Rk n b) : (agst n a b).length = cnt (a.zip b) := by
  have hl : (a.zip b).length = n := by
    rw [List.length_zip, h.len, g.len]
    omega
  rw [← prs_cnt, hl]
  unfold agst
  congr 1
  refine prs_congr fun k j h1 h2 => ?_
  have z : ∀ i, i < n → at2 (a.zip b) i = (gt a i, gt b i) := fun i hi => by
    unfold at2
    have ha := h.len
    have hb := g.len
    rw [List.getD_eq_getElem?_getD, List.getElem?_eq_getElem (by omega), gt_eq (by omega), gt_eq (by omega)]
    simp
  rw [z k (by omega), z j h2]
  unfold dsc
  rw [mul_sign (h.ne (i := k) (j := j) (by omega) h2 (by omega)) (g.ne (i := k) (j := j) (by omega) h2 (by omega))]
  rfl
theorem agst_enc {n : Nat} {a b : List Int} (h : Rk n a) (g : Rk n b) : (((agst n a b).length : Nat) : Int) = (enc (seenL a b)).sum := by
  rw [agst_cnt h g, cnt_perm (zip_seen h g.len), cnt_zip _ _ (ups_srt n) (by rw [ups_len, seenL_len, h.len]) (seenL_rk h g).nodup]
theorem ups_rk {n : Nat} (h1 : 1 ≤ n) (h2 : n ≤ 7) : Rk n (ups n) := ⟨List.Perm.refl _, h1, h2⟩
theorem seenL_ups {n : Nat} {b : List Int} (h1 : 1 ≤ n) (h2 : n ≤ 7) (hb : b.length = n) : seenL (ups n) b = b := by
  have := seen_of (ups_rk h1 h2) hb
  unfold seenL
  rw [ups_len]
  exact this

theorem Tab.get : ∀ {n : Nat} {t : List Int}, Tab n t → ∀ {i : Nat}, i < t.length → 0 ≤ gt t i ∧ gt t i + i < n
  | n, [], _, i, h => by simp at h
  | n, m :: t, ⟨h0, h1, h2⟩, 0, _ => ⟨h0, by show m + 0 < _; omega⟩
  | n, m :: t, ⟨h0, h1, h2⟩, i + 1, h => by
    have := h2.get (i := i) (by simpa using h)
    have e : gt (m :: t) (i + 1) = gt t i := rfl
    rw [e]
    omega
theorem Tab.of : ∀ {n : Nat} {t : List Int}, (∀ i, i < t.length → 0 ≤ gt t i ∧ gt t i + i < n) → Tab n t
  | n, [], _ => trivial
  | n, m :: t, h => by
    have h0 := h 0 (by simp)
    have e0 : gt (m :: t) 0 = m := rfl
    rw [e0] at h0
    refine ⟨h0.1, by omega, Tab.of fun i hi => ?_⟩
    have := h (i + 1) (by simpa using hi)
    have e : gt (m :: t) (i + 1) = gt t i := rfl
    rw [e] at this
    omega
def iabs (x : Int) : Int := if x < 0 then -x else x
def sqs (ps : List (Int × Int)) : Int := (ps.map fun p => (p.1 - p.2) * (p.1 - p.2)).sum
def gaps (ps : List (Int × Int)) : List Int := ps.map fun p => iabs (p.1 - p.2)
def unl (ps : List (Int × Int)) : Nat := (ps.filter fun p => !decide (p.1 = p.2)).length
theorem zip_mem {n : Nat} {a b : List Int} (h : Rk n a) (g : Rk n b) {p : Int × Int} (hp : p ∈ a.zip b) : 1 ≤ p.1 ∧ p.1 ≤ 7 ∧ 1 ≤ p.2 ∧ p.2 ≤ 7 := by
  have hm := List.of_mem_zip (a := p.1) (b := p.2) hp
  have h1 := h.mem.mp hm.1
  have h2 := g.mem.mp hm.2
  have := h.hi
  omega
theorem zip_len {n : Nat} {a b : List Int} (h : Rk n a) (g : Rk n b) : (a.zip b).length = n := by
  rw [List.length_zip, h.len, g.len, Nat.min_self]
theorem gaps_ne {n : Nat} {a b : List Int} (h : Rk n a) (g : Rk n b) : gaps (a.zip b) ≠ [] := fun e => by
  have h1 := zip_len h g
  have h2 := h.lo
  have : (gaps (a.zip b)).length = n := by
    unfold gaps
    rw [List.length_map, h1]
  rw [e] at this
  rw [List.length_nil] at this
  omega
def mz (n : Nat) (a b : List Int) (c : Nat) (k : Int) : List Int := [((agst n a b).length : Nat), sqs (a.zip b), (gaps (a.zip b)).sum, maxI (gaps (a.zip b)), (unl (a.zip b) : Nat), (n : Int) - c, (n : Int) - k]
def permsN : Nat → List Int → List (List Int)
  | 0, _ => [[]]
  | n + 1, xs => xs.flatMap fun x => (permsN n (xs.erase x)).map (x :: ·)
theorem permsN_mem : ∀ (n : Nat) (xs l : List Int), xs.length = n → l.Perm xs → l ∈ permsN n xs
  | 0, xs, l, h, p => by
    have : l = [] := List.eq_nil_of_length_eq_zero (by rw [p.length_eq, h])
    rw [this]
    exact List.mem_singleton.mpr rfl
  | n + 1, xs, [], h, p => by
    have := p.length_eq
    rw [h] at this
    cases this
  | n + 1, xs, x :: l, h, p => by
    have hx : x ∈ xs := p.mem_iff.mp (List.mem_cons_self ..)
    have hl : l.Perm (xs.erase x) := (List.perm_cons_erase hx |>.symm.trans p.symm).symm.cons_inv
    rw [permsN, List.mem_flatMap]
    refine ⟨x, hx, List.mem_map.mpr ⟨l, permsN_mem n (xs.erase x) l ?_ hl, rfl⟩⟩
    rw [List.length_erase_of_mem hx, h]
    rfl
theorem Rk.of_all {n : Nat} {s : List Int} {f : List Int → Bool} (h : Rk n s) (k : (permsN n (ups n)).all f = true) : f s = true := List.all_eq_true.mp k s (permsN_mem n _ s (ups_len n) h.p)
/-- the order seen the other way -/
def inv (s : List Int) : List Int := (ups s.length).map fun y => ((s.idxOf y : Nat) : Int) + 1
theorem seen_inv {n : Nat} {a b : List Int} (h : Rk n a) (g : Rk n b) : seenL b a = inv (seenL a b) := by
  have hs := seenL_rk h g
  have ha := h.len
  have hb := g.len
  have hl := hs.len
  unfold inv
  conv => lhs; unfold seenL
  rw [hl, hb]
  refine List.map_congr_left fun y hy => ?_
  have hyb : y ∈ b := g.p.mem_iff.mpr hy
  have hi := List.idxOf_lt_length_iff.mpr hyb
  have hx : gt a (b.idxOf y) ∈ a := gt_mem (by omega)
  have hxr := h.mem.mp hx
  have e1 : gt (seenL a b) ((gt a (b.idxOf y)).toNat - 1) = y := by
    unfold seenL ups
    rw [List.map_map, gt_map_range _ (by omega)]
    have e2 : ((((gt a (b.idxOf y)).toNat - 1 : Nat) + 1 : Nat) : Int) = gt a (b.idxOf y) := by omega
    show gt b (a.idxOf ((((gt a (b.idxOf y)).toNat - 1 : Nat) + 1 : Nat) : Int)) = y
    rw [e2, idx_gt h.nodup (by omega), gt_idx hyb]
  have e3 := idx_gt hs.nodup (i := (gt a (b.idxOf y)).toNat - 1) (by omega)
  rw [e1] at e3
  rw [e3]
  omega

def nxt (s : List Int) (x : Int) : Int := gt s (x - 1).toNat
def lst (l : List Int) : Int := gt l (l.length - 1)
theorem lst_snoc (l : List Int) (x : Int) : lst (l ++ [x]) = x := by
  unfold lst gt
  rw [List.length_append, List.length_singleton, List.getD_eq_getElem?_getD, List.getElem?_append_right (by omega)]
  simp
def folC (s : List Int) (first : Int) : Nat → List Int → Int → Option (List Int)
  | 0, _, _ => none
  | n + 1, cyc, x => if nxt s x = first then some cyc else folC s first n (cyc ++ [nxt s x]) (nxt s x)
def cycG (s : List Int) : List Int → List (List Int) → List Int → Option (List (List Int))
  | [], found, _ => some found
  | f :: r, found, known => if f ∈ known then cycG s r found known else match folC s f 1000 [f] f with
    | none => none
    | some c => cycG s r (found ++ [c]) (known ++ c)
def cycL (s : List Int) : Option (List (List Int)) := cycG s (ups s.length) [] []
theorem nxt_rg {n : Nat} {s : List Int} (h : Rk n s) {x : Int} (h1 : 1 ≤ x) (h2 : x ≤ n) : 1 ≤ nxt s x ∧ nxt s x ≤ n := h.mem.mp (gt_mem (by rw [h.len]; omega))
def lisG (s : List Int) : Nat → List Int → List Int → List Int
  | _, best, [] => best
  | k, best, v :: r => lisG s (k + 1) (best ++ [1 + maxI (0 :: ((List.range k).filter fun j => decide (gt s j < v)).map fun j => gt best j)]) r
def lisL (s : List Int) : Int := maxI (lisG s 0 [] s)
theorem lisG_len (s : List Int) : ∀ (r : List Int) (k : Nat) (best : List Int), (lisG s k best r).length = best.length + r.length
  | [], _, _ => rfl
  | v :: r, k, best => by
    rw [lisG, lisG_len s r]
    simp
    omega
def lawI (s : List Int) : Nat → List Int → List Int → Int → Option (List Int × List Int)
  | 0, _, _, _ => none
  | n + 1, left, cyc, x => if nxt s x ∈ left then lawI s n (left.erase (nxt s x)) (cyc ++ [nxt s x]) (nxt s x) else some (cyc, left)
def lawO (s : List Int) : Nat → List Int → List (List Int) → Option (List (List Int))
  | 0, _, _ => none
  | _ + 1, [], found => some found
  | n + 1, y :: left, found => match lawI s 1000 left [y] y with
    | none => none
    | some (c, left') => lawO s n left' (found ++ [c])
def lawL (s : List Int) : Option (List (List Int)) := lawO s 1000 (ups s.length) []
theorem lawI_mem {n : Nat} {s : List Int} : ∀ (m : Nat) (left cyc : List Int) (x : Int) (c left' : List Int), lawI s m left cyc x = some (c, left') → ∀ z ∈ left', z ∈ left
  | 0, _, _, _, _, _, e, _, _ => by cases e
  | m + 1, left, cyc, x, c, left', e, z, hz => by
    rw [lawI] at e
    split at e
    · exact List.mem_of_mem_erase (lawI_mem (n := n) m _ _ _ c left' e z hz)
    · cases e
      exact hz
def rstep (parts : List (List Int)) (v : Int) : List (List Int) := parts ++ (parts.filter fun p => decide (p = []) || decide (lst p < v)).map (· ++ [v])
def risL (s : List Int) : Int := maxI ((s.foldl rstep [[]]).map fun p => (p.length : Int))
theorem rstep_len (parts : List (List Int)) (v : Int) : (rstep parts v).length ≤ 2 * parts.length := by
  unfold rstep
  rw [List.length_append, List.length_map]
  have := List.length_filter_le (fun p => decide (p = []) || decide (lst p < v)) parts
  omega
theorem rstep_el {parts : List (List Int)} {v : Int} {m : Nat} (h : ∀ p ∈ parts, p.length ≤ m) : ∀ p ∈ rstep parts v, p.length ≤ m + 1 := fun p hp => by
  unfold rstep at hp
  rcases List.mem_append.mp hp with hp | hp
  · have := h p hp
    omega
  · obtain ⟨q, hq, rfl⟩ := List.mem_map.mp hp
    have := h q (List.mem_filter.mp hq).1
    rw [List.length_append, List.length_singleton]
    omega
theorem foldl_rstep_ne : ∀ (r : List Int) (parts : List (List Int)), parts ≠ [] → r.foldl rstep parts ≠ []
  | [], _, h => h
  | v :: r, parts, h => foldl_rstep_ne r _ fun e => h (by
    unfold rstep at e
    exact (List.append_eq_nil_iff.mp e).1)
theorem foldl_rstep_len : ∀ (r : List Int) (parts : List (List Int)), (r.foldl rstep parts).length ≤ parts.length * 2 ^ r.length
  | [], parts => by
    show parts.length ≤ parts.length * 1
    omega
  | v :: r, parts => by
    have h1 := foldl_rstep_len r (rstep parts v)
    have h2 := Nat.mul_le_mul_right (2 ^ r.length) (rstep_len parts v)
    have e : 2 * parts.length * 2 ^ r.length = parts.length * (2 ^ r.length * 2) := by
      rw [Nat.mul_comm 2, Nat.mul_assoc, Nat.mul_comm 2]
    rw [List.foldl_cons, List.length_cons, Nat.pow_succ]
    omega
theorem zip_swap : ∀ (a b : List Int), b.zip a = (a.zip b).map fun p => (p.2, p.1)
  | [], b => by cases b <;> rfl
  | x :: a, [] => rfl
  | x :: a, y :: b => by
    rw [List.zip_cons_cons, List.zip_cons_cons, List.map_cons, zip_swap a b]
theorem iabs_sub (x y : Int) : iabs (x - y) = iabs (y - x) := by
  unfold iabs
  split <;> split <;> omega
theorem sqs_swap (a b : List Int) : sqs (b.zip a) = sqs (a.zip b) := by
  unfold sqs
  rw [zip_swap, List.map_map]
  congr 1
  refine List.map_congr_left fun p _ => ?_
  show (p.2 - p.1) * (p.2 - p.1) = (p.1 - p.2) * (p.1 - p.2)
  rw [← Int.neg_sub p.1 p.2, Int.neg_mul_neg]
theorem gaps_swap (a b : List Int) : gaps (b.zip a) = gaps (a.zip b) := by
  unfold gaps
  rw [zip_swap, List.map_map]
  refine List.map_congr_left fun p _ => ?_
  exact iabs_sub p.2 p.1
theorem unl_swap (a b : List Int) : unl (b.zip a) = unl (a.zip b) := by
  unfold unl
  rw [zip_swap, filt_map]
  congr 1
  refine List.filter_congr fun p _ => ?_
  show (!decide (p.2 = p.1)) = !decide (p.1 = p.2)
  rw [decide_eq_decide.mpr eq_comm]
theorem mz_swap (n : Nat) (a b : List Int) (c : Nat) (k : Int) : mz n b a c k = mz n a b c k := by
  unfold mz
  rw [ag_symm n b a, sqs_swap, gaps_swap, unl_swap]
theorem prs_false (n : Nat) : (prs n fun _ _ => false) = [] := by
  unfold prs
  rw [List.flatMap_eq_nil_iff]
  intro k hk
  rw [List.filter_eq_nil_iff.mpr (fun _ _ => by simp)]
  rfl
theorem agst_self (n : Nat) (a : List Int) : agst n a a = [] := by
  unfold agst
  have : ag a a = fun _ _ => false := by
    funext k j
    unfold ag
    cases decide (gt a k < gt a j) <;> rfl
  rw [this, prs_false]
theorem zip_self : ∀ a : List Int, a.zip a = a.map fun x => (x, x)
  | [] => rfl
  | x :: a => by rw [List.zip_cons_cons, zip_self a]; rfl
theorem sum_zero : ∀ (l : List Int), (∀ x ∈ l, x = 0) → l.sum = 0
  | [], _ => rfl
  | x :: l, h => by
    rw [List.sum_cons, h x (List.mem_cons_self ..), sum_zero l fun y hy => h y (List.mem_cons_of_mem _ hy)]
    rfl
theorem mz_self {n : Nat} {a : List Int} (h : Rk n a) : mz n a a n n = [0, 0, 0, 0, 0, 0, 0] := by
  have hz : gaps (a.zip a) = a.map fun _ => 0 := by
    unfold gaps
    rw [zip_self, List.map_map]
    refine List.map_congr_left fun x _ => ?_
    show iabs (x - x) = 0
    rw [Int.sub_self]
    rfl
  have hm : maxI (gaps (a.zip a)) = 0 := by
    have h1 := (maxI_mem (gaps_ne h h)).1
    rw [hz] at h1 ⊢
    obtain ⟨_, _, e⟩ := List.mem_map.mp h1
    exact e.symm
  have hs : sqs (a.zip a) = 0 := by
    unfold sqs
    refine sum_zero _ fun x hx => ?_
    rw [zip_self, List.map_map] at hx
    obtain ⟨y, _, rfl⟩ := List.mem_map.mp hx
    show (y - y) * (y - y) = 0
    rw [Int.sub_self]
    rfl
  have hu : unl (a.zip a) = 0 := by
    unfold unl
    rw [List.length_eq_zero_iff, List.filter_eq_nil_iff]
    intro p hp
    rw [zip_self] at hp
    obtain ⟨y, _, rfl⟩ := List.mem_map.mp hp
    simp
  have hg : (gaps (a.zip a)).sum = 0 := sum_zero _ fun x hx => by
    rw [hz] at hx
    obtain ⟨_, _, e⟩ := List.mem_map.mp hx
    exact e.symm
  unfold mz
  rw [agst_self, hs, hm, hu, hg, Int.sub_self]
  rfl
theorem sum_bd : ∀ (l : List Int), (∀ x ∈ l, 0 ≤ x ∧ x ≤ 36) → 0 ≤ l.sum ∧ l.sum ≤ 36 * (l.length : Int)
  | [], _ => by simp
  | x :: l, h => by
    have h1 := h x (List.mem_cons_self ..)
    have h2 := sum_bd l fun y hy => h y (List.mem_cons_of_mem _ hy)
    rw [List.sum_cons, List.length_cons]
    omega
theorem sq_bd {x : Int} (h1 : -6 ≤ x) (h2 : x ≤ 6) : 0 ≤ x * x ∧ x * x ≤ 36 := by
  have : x = -6 ∨ x = -5 ∨ x = -4 ∨ x = -3 ∨ x = -2 ∨ x = -1 ∨ x = 0 ∨ x = 1 ∨ x = 2 ∨ x = 3 ∨ x = 4 ∨ x = 5 ∨ x = 6 := by omega
  rcases this with rfl | rfl | rfl | rfl | rfl | rfl | rfl | rfl | rfl | rfl | rfl | rfl | rfl <;> decide
theorem sqs_bd {n : Nat} {a b : List Int} (h : Rk n a) (g : Rk n b) : 0 ≤ sqs (a.zip b) ∧ sqs (a.zip b) ≤ 252 := by
  have := sum_bd ((a.zip b).map fun p => (p.1 - p.2) * (p.1 - p.2)) fun x hx => by
    obtain ⟨p, hp, rfl⟩ := List.mem_map.mp hx
    have := zip_mem h g hp
    exact sq_bd (by omega) (by omega)
  rw [List.length_map, zip_len h g] at this
  have := h.hi
  unfold sqs
  omega
theorem iabs_sq (x : Int) : iabs x * iabs x = x * x := by
  unfold iabs
  split
  · rw [Int.neg_mul_neg]
  · rfl
theorem unl_count (ps : List (Int × Int)) : ((ps.length : Nat) : Int) - (((gaps ps).count 0 : Nat) : Int) = ((unl ps : Nat) : Int) := by
  unfold unl
  induction ps with
  | nil => rfl
  | cons p r ih =>
    have e : gaps (p :: r) = iabs (p.1 - p.2) :: gaps r := rfl
    rw [e, List.count_cons, List.length_cons, List.filter_cons]
    by_cases h : p.1 = p.2
    · have h0 : iabs (p.1 - p.2) = 0 := by rw [h, Int.sub_self]; rfl
      rw [h0, decide_eq_true h]
      simp
      omega
    · have h0 : (iabs (p.1 - p.2) == 0) = false := by
        have : iabs (p.1 - p.2) ≠ 0 := by
          unfold iabs
          split <;> omega
        simpa using this
      rw [h0, decide_eq_false h]
      simp
      omega
theorem all7 {f : List Int → Bool} (h : ∀ x ∈ ups 7, ((permsN 6 ((ups 7).erase x)).map (x :: ·)).all f = true) : (permsN 7 (ups 7)).all f = true := by
  refine List.all_eq_true.mpr fun l hl => ?_
  have hl : l ∈ (ups 7).flatMap fun x => (permsN 6 ((ups 7).erase x)).map (x :: ·) := hl
  obtain ⟨x, hx, hl⟩ := List.mem_flatMap.mp hl
  exact List.all_eq_true.mp (h x hx) l hl

def bad3 (a m b : List Int) (k j : Nat) : Bool := (decide (gt a k < gt a j) == decide (gt b k < gt b j)) && (decide (gt a k < gt a j) != decide (gt m k < gt m j))
def anyP (n : Nat) (f : Nat → Nat → Bool) : Bool := (List.range n).any fun k => (List.range' (k + 1) (n - (k + 1))).any (f k)
def btw (n : Nat) (a m b : List Int) : Bool := !anyP n (bad3 a m b)
theorem prs3 (n : Nat) (f g h b : Nat → Nat → Bool) (H : ∀ k j, (f k j).toNat + (g k j).toNat = (h k j).toNat + 2 * (b k j).toNat) : (prs n f).length + (prs n g).length = (prs n h).length + 2 * (prs n b).length := by
  rw [prs_sum, prs_sum, prs_sum, prs_sum]
  generalize List.range n = l
  induction l with
  | nil => rfl
  | cons k l ih =>
    simp only [List.map_cons, List.sum_cons]
    have : ∀ m : List Nat, (m.filter (f k)).length + (m.filter (g k)).length = (m.filter (h k)).length + 2 * (m.filter (b k)).length := by
      intro m
      induction m with
      | nil => rfl
      | cons j m ih2 =>
        have hj := H k j
        simp only [List.filter_cons]
        cases hf : f k j <;> cases hg : g k j <;> cases hh : h k j <;> cases hb : b k j <;> simp [hf, hg, hh, hb] at hj ⊢ <;> omega
    have := this (List.range' (k + 1) (n - (k + 1)))
    omega
theorem prs_any (n : Nat) (f : Nat → Nat → Bool) : (prs n f).length = 0 ↔ anyP n f = false := by
  unfold prs anyP
  rw [List.length_eq_zero_iff, List.flatMap_eq_nil_iff, List.any_eq_false]
  constructor
  · intro h k hk
    have := h k hk
    rw [List.map_eq_nil_iff, List.filter_eq_nil_iff] at this
    rw [Bool.not_eq_true, List.any_eq_false]
    exact this
  · intro h k hk
    have := h k hk
    rw [Bool.not_eq_true, List.any_eq_false] at this
    rw [List.map_eq_nil_iff, List.filter_eq_nil_iff]
    exact this
theorem btw_iff (n : Nat) (a m b : List Int) : btw n a m b = decide ((agst n a m).length + (agst n m b).length = (agst n a b).length) := by
  have h := prs3 n (ag a m) (ag m b) (ag a b) (bad3 a m b) fun k j => by
    unfold ag bad3
    cases decide (gt a k < gt a j) <;> cases decide (gt b k < gt b j) <;> cases decide (gt m k < gt m j) <;> rfl
  have h2 := prs_any n (bad3 a m b)
  unfold btw agst
  cases hA : anyP n (bad3 a m b) with
  | true =>
    have : (prs n (bad3 a m b)).length ≠ 0 := fun e => by
      rw [h2.mp e] at hA
      cases hA
    rw [decide_eq_false (by omega)]
    rfl
  | false =>
    have := h2.mpr hA
    rw [decide_eq_true (by omega)]
    rfl

def facN : Nat → Nat
  | 0 => 1
  | n + 1 => (n + 1) * facN n
def permsP : Nat → List Int → List (List Int)
  | 0, _ => [[]]
  | n + 1, xs => (List.range xs.length).flatMap fun k => (permsP n (xs.eraseIdx k)).map (gt xs k :: ·)
theorem permsP_len : ∀ (n : Nat) (xs : List Int), xs.length = n → (permsP n xs).length = facN n
  | 0, _, _ => rfl
  | n + 1, xs, h => by
    rw [permsP, List.length_flatMap, facN, h]
    have : ∀ l : List Nat, (∀ k ∈ l, k < n + 1) → (l.map fun k => ((permsP n (xs.eraseIdx k)).map (gt xs k :: ·)).length).sum = l.length * facN n := by
      intro l
      induction l with
      | nil => intro _; simp
      | cons k l ih =>
        intro hl
        rw [List.map_cons, List.sum_cons, ih fun j hj => hl j (List.mem_cons_of_mem _ hj), List.length_map, permsP_len n _ (by rw [List.length_eraseIdx_of_lt (by rw [h]; exact hl k (List.mem_cons_self ..)), h]; rfl), List.length_cons, Nat.add_mul, Nat.one_mul, Nat.add_comm]
    rw [this _ fun k hk => List.mem_range.mp hk, List.length_range]
theorem facN_le {n : Nat} (h : n ≤ 7) : facN n ≤ 5040 := by
  have : ∀ n, n ≤ 7 → facN n ≤ 5040 := by decide
  exact this n h
theorem permsP_el : ∀ (n : Nat) (xs : List Int), xs.length = n → ∀ l ∈ permsP n xs, l.length = n
  | 0, _, _, l, hl => by
    rw [permsP, List.mem_singleton] at hl
    rw [hl]
    rfl
  | n + 1, xs, h, l, hl => by
    rw [permsP, List.mem_flatMap] at hl
    obtain ⟨k, hk, hl⟩ := hl
    obtain ⟨r, hr, rfl⟩ := List.mem_map.mp hl
    rw [List.mem_range] at hk
    rw [List.length_cons, permsP_el n _ (by rw [List.length_eraseIdx_of_lt hk, h]; rfl) r hr]
theorem permsP_mem : ∀ (n : Nat) (xs l : List Int), xs.length = n → l.Perm xs → l ∈ permsP n xs
  | 0, xs, l, h, p => by
    have : l = [] := List.eq_nil_of_length_eq_zero (by rw [p.length_eq, h])
    rw [this]
    exact List.mem_singleton.mpr rfl
  | n + 1, xs, [], h, p => by
    have := p.length_eq
    rw [h] at this
    cases this
  | n + 1, xs, x :: l, h, p => by
    have hx : x ∈ xs := p.mem_iff.mp (List.mem_cons_self ..)
    have hi := List.idxOf_lt_length_iff.mpr hx
    have ep := erase_perm xs _ hi
    rw [gt_idx hx] at ep
    have hl : l.Perm (xs.eraseIdx (xs.idxOf x)) := (p.trans ep.symm).cons_inv
    rw [permsP, List.mem_flatMap]
    refine ⟨xs.idxOf x, List.mem_range.mpr hi, List.mem_map.mpr ⟨l, permsP_mem n _ l (by rw [List.length_eraseIdx_of_lt hi, h]; rfl) hl, by rw [gt_idx hx]⟩⟩
theorem permsP_perm : ∀ (n : Nat) (xs : List Int), xs.length = n → ∀ l ∈ permsP n xs, l.Perm xs
  | 0, xs, h, l, hl => by
    rw [permsP, List.mem_singleton] at hl
    rw [hl, List.eq_nil_of_length_eq_zero h]
  | n + 1, xs, h, l, hl => by
    rw [permsP, List.mem_flatMap] at hl
    obtain ⟨k, hk, hl⟩ := hl
    obtain ⟨r, hr, rfl⟩ := List.mem_map.mp hl
    rw [List.mem_range] at hk
    exact ((permsP_perm n _ (by rw [List.length_eraseIdx_of_lt hk, h]; rfl) r hr).cons _).trans (erase_perm xs k hk)
theorem permsP_rk {n : Nat} {l : List Int} (h1 : 1 ≤ n) (h7 : n ≤ 7) : l ∈ permsP n (ups n) ↔ Rk n l := ⟨fun h => ⟨permsP_perm n _ (ups_len n) l h, h1, h7⟩, fun h => permsP_mem n _ l (ups_len n) h.p⟩

def btwL (n : Nat) (a b : List Int) : List (List Int) := (permsP n (ups n)).filter fun m => btw n a m b
theorem permsP_le {n : Nat} (h : n ≤ 7) : (permsP n (ups n)).length ≤ 5040 := by
  rw [permsP_len n _ (ups_len n)]
  exact facN_le h
def nearL (n : Nat) (a : List Int) (m : Int) : List (List Int) := (permsP n (ups n)).filter fun r => decide (((agst n a r).length : Int) ≤ m)
theorem sum_perm {l m : List Int} (h : l.Perm m) : l.sum = m.sum := by
  induction h with
  | nil => rfl
  | cons x _ ih => rw [List.sum_cons, List.sum_cons, ih]
  | swap x y l =>
    rw [List.sum_cons, List.sum_cons, List.sum_cons, List.sum_cons]
    omega
  | trans _ _ h1 h2 => rw [h1, h2]
theorem max_perm {l m : List Int} (h : l.Perm m) (hne : l ≠ []) : maxI l = maxI m := by
  have hm : m ≠ [] := fun e => hne (List.eq_nil_of_length_eq_zero (by rw [h.length_eq, e]; rfl))
  obtain ⟨h1, h2⟩ := maxI_mem hm
  exact maxI_eq (h.mem_iff.mpr h1) fun y hy => h2 y (h.mem_iff.mp hy)
theorem seen_mem {n : Nat} {a b : List Int} (h : Rk n a) (g : b.length = n) {x : Int} (hx : 1 ≤ x ∧ x ≤ n) : (x, gt (seenL a b) (x - 1).toNat) ∈ a.zip b := by
  have hl := h.len
  have hxa := h.mem.mpr hx
  have hi := List.idxOf_lt_length_iff.mpr hxa
  have e : gt (seenL a b) (x - 1).toNat = gt b (a.idxOf x) := by
    unfold seenL ups
    rw [List.map_map, gt_map_range _ (by omega)]
    show gt b (a.idxOf ((((x - 1).toNat + 1 : Nat)) : Int)) = _
    rw [show ((((x - 1).toNat + 1 : Nat)) : Int) = x by omega]
  rw [e, List.mem_iff_getElem]
  refine ⟨a.idxOf x, by rw [List.length_zip]; omega, ?_⟩
  rw [List.getElem_zip, ← gt_eq hi, gt_idx hxa, ← gt_eq (by omega)]
theorem zip_uniq : ∀ {a b : List Int}, a.Nodup → ∀ {x y z : Int}, (x, y) ∈ a.zip b → (x, z) ∈ a.zip b → y = z
  | [], _, _, _, _, _, h, _ => by cases h
  | _ :: _, [], _, _, _, _, h, _ => by cases h
  | u :: a, v :: b, hn, x, y, z, h, g => by
    have hn := List.nodup_cons.mp hn
    rw [List.zip_cons_cons, List.mem_cons] at h g
    rcases h with h | h <;> rcases g with g | g
    · cases h
      cases g
      rfl
    · cases h
      exact absurd (List.of_mem_zip g).1 hn.1
    · cases g
      exact absurd (List.of_mem_zip h).1 hn.1
    · exact zip_uniq hn.2 h g
theorem seen_perm {n : Nat} {a b a' b' : List Int} (h : Rk n a) (g : Rk n b) (h' : Rk n a') (g' : Rk n b') (p : (a'.zip b').Perm (a.zip b)) : seenL a' b' = seenL a b := by
  refine gt_ext (by rw [seenL_len, seenL_len, h.len, h'.len]) fun i hi => ?_
  rw [seenL_len, h'.len] at hi
  have h1 := seen_mem h' g'.len (x := (i : Int) + 1) (by omega)
  have h2 := seen_mem h g.len (x := (i : Int) + 1) (by omega)
  rw [p.mem_iff] at h1
  have := zip_uniq h.nodup h1 h2
  rw [show ((i : Int) + 1 - 1).toNat = i by omega] at this
  exact this
theorem mz_perm {n c : Nat} {k : Int} {a b a' b' : List Int} (h : Rk n a) (g : Rk n b) (h' : Rk n a') (g' : Rk n b') (p : (a'.zip b').Perm (a.zip b)) : mz n a' b' c k = mz n a b c k := by
  have pg : (gaps (a'.zip b')).Perm (gaps (a.zip b)) := p.map _
  unfold mz
  rw [agst_cnt h' g', agst_cnt h g, cnt_perm p, sum_perm pg, max_perm pg (gaps_ne h' g')]
  have e1 : sqs (a'.zip b') = sqs (a.zip b) := sum_perm (p.map _)
  have e2 : unl (a'.zip b') = unl (a.zip b) := (p.filter _).length_eq
  rw [e1, e2]
def trn (n : Nat) (a : List Int) : List Int := a.map fun x => (n : Int) + 1 - x
theorem trn_rk {n : Nat} {a : List Int} (h : Rk n a) : Rk n (trn n a) := by
  refine ⟨?_, h.lo, h.hi⟩
  have h1 : (trn n a).Perm (trn n (ups n)) := h.p.map _
  refine h1.trans ?_
  have nd : (trn n (ups n)).Nodup := by
    unfold trn
    exact List.Pairwise.map _ (fun x y hxy => by omega) (ups_nodup n)
  have e : trn n (ups n) = (ups n).reverse := by
    refine gt_ext (by unfold trn; simp) fun i hi => ?_
    unfold trn at hi
    rw [List.length_map, ups_len] at hi
    have e1 : gt (trn n (ups n)) i = (n : Int) + 1 - gt (ups n) i := by
      rw [gt_eq (by unfold trn; rw [List.length_map, ups_len]; exact hi), gt_eq (by rw [ups_len]; exact hi)]
      unfold trn
      rw [List.getElem_map]
    have e2 : ∀ j, j < n → gt (ups n) j = (j : Int) + 1 := fun j hj => by
      unfold ups
      rw [gt_map_range _ hj]
      omega
    have e3 : gt (ups n).reverse i = gt (ups n) (n - 1 - i) := by
      rw [gt_eq (by rw [List.length_reverse, ups_len]; exact hi), List.getElem_reverse, ← gt_eq]
      congr 1
      rw [ups_len]
    rw [e1, e3, e2 i hi, e2 (n - 1 - i) (by omega)]
    omega
  rw [e]
  exact List.reverse_perm _
theorem zip_map2 (f : Int → Int) : ∀ a b : List Int, (a.map f).zip (b.map f) = (a.zip b).map fun p => (f p.1, f p.2)
  | [], _ => by simp
  | _ :: _, [] => by simp
  | x :: a, y :: b => by
    rw [List.map_cons, List.map_cons, List.zip_cons_cons, List.zip_cons_cons, List.map_cons, zip_map2 f a b]
theorem cnt_map (f : Int × Int → Int × Int) (h : ∀ p q, dsc (f p) (f q) = dsc p q) : ∀ l, cnt (l.map f) = cnt l
  | [] => rfl
  | p :: r => by
    rw [List.map_cons, cnt, cnt, filt_map, cnt_map f h r]
    congr 2
    exact List.filter_congr fun q _ => h p q
theorem mz_trn {n c : Nat} {k : Int} {a b : List Int} (h : Rk n a) (g : Rk n b) : mz n (trn n a) (trn n b) c k = mz n a b c k := by
  have hz : (trn n a).zip (trn n b) = (a.zip b).map fun p => ((n : Int) + 1 - p.1, (n : Int) + 1 - p.2) := zip_map2 _ a b
  have e0 : cnt ((trn n a).zip (trn n b)) = cnt (a.zip b) := by
    rw [hz]
    refine cnt_map _ (fun p q => ?_) _
    unfold dsc
    show decide (((n : Int) + 1 - p.1 - ((n : Int) + 1 - q.1)) * ((n : Int) + 1 - p.2 - ((n : Int) + 1 - q.2)) < 0) = _
    rw [show (n : Int) + 1 - p.1 - ((n : Int) + 1 - q.1) = -(p.1 - q.1) by omega, show (n : Int) + 1 - p.2 - ((n : Int) + 1 - q.2) = -(p.2 - q.2) by omega, Int.neg_mul_neg]
  have e1 : gaps ((trn n a).zip (trn n b)) = gaps (a.zip b) := by
    rw [hz]
    unfold gaps
    rw [List.map_map]
    refine List.map_congr_left fun p _ => ?_
    show iabs ((n : Int) + 1 - p.1 - ((n : Int) + 1 - p.2)) = _
    rw [iabs_sub p.1 p.2]
    congr 1
    omega
  have e2 : sqs ((trn n a).zip (trn n b)) = sqs (a.zip b) := by
    rw [hz]
    unfold sqs
    rw [List.map_map]
    refine congrArg List.sum (List.map_congr_left fun p _ => ?_)
    show ((n : Int) + 1 - p.1 - ((n : Int) + 1 - p.2)) * ((n : Int) + 1 - p.1 - ((n : Int) + 1 - p.2)) = _
    rw [show (n : Int) + 1 - p.1 - ((n : Int) + 1 - p.2) = -(p.1 - p.2) by omega, Int.neg_mul_neg]
  have e3 : unl ((trn n a).zip (trn n b)) = unl (a.zip b) := by
    rw [hz]
    unfold unl
    rw [filt_map]
    congr 1
    refine List.filter_congr fun p _ => ?_
    show (!decide ((n : Int) + 1 - p.1 = (n : Int) + 1 - p.2)) = _
    congr 1
    refine decide_eq_decide.mpr ?_
    constructor <;> intro h <;> omega
  unfold mz
  rw [agst_cnt (trn_rk h) (trn_rk g), agst_cnt h g, e0, e1, e2, e3]
def rcv (s : List Int) : List Int := (s.map fun x => (s.length : Int) + 1 - x).reverse
theorem gt_rev {l : List Int} {i : Nat} (h : i < l.length) : gt l.reverse i = gt l (l.length - 1 - i) := by
  rw [gt_eq (by rw [List.length_reverse]; exact h), List.getElem_reverse, ← gt_eq]
theorem gt_mapf {l : List Int} {f : Int → Int} {i : Nat} (h : i < l.length) : gt (l.map f) i = f (gt l i) := by
  rw [gt_eq (by rw [List.length_map]; exact h), List.getElem_map, ← gt_eq h]
theorem seen_trn {n : Nat} {a b : List Int} (h : Rk n a) (g : Rk n b) : seenL (trn n a) (trn n b) = rcv (seenL a b) := by
  have hs := (seenL_rk h g).len
  refine gt_ext (by unfold rcv; rw [seenL_len, (trn_rk h).len, List.length_reverse, List.length_map, hs]) fun i hi => ?_
  rw [seenL_len, (trn_rk h).len] at hi
  have h1 := seen_mem (trn_rk h) (trn_rk g).len (x := (i : Int) + 1) (by omega)
  have h2 := seen_mem h g.len (x := (n : Int) - i) (by omega)
  have hz : (trn n a).zip (trn n b) = (a.zip b).map fun p => ((n : Int) + 1 - p.1, (n : Int) + 1 - p.2) := zip_map2 _ a b
  rw [hz] at h1
  obtain ⟨q, hq, e⟩ := List.mem_map.mp h1
  injection e with e1 e2
  have hq1 : q.1 = (n : Int) - i := by omega
  have hq' : ((n : Int) - i, q.2) ∈ a.zip b := by
    rw [← hq1]
    exact hq
  have e3 := zip_uniq h.nodup hq' h2
  unfold rcv
  rw [gt_rev (by rw [List.length_map, hs]; exact hi), gt_mapf (by rw [List.length_map, hs]; omega), List.length_map, hs]
  rw [show ((i : Int) + 1 - 1).toNat = i by omega] at e2
  rw [show ((n : Int) - i - 1).toNat = n - 1 - i by omega] at e3
  rw [← e2, e3]
def perF (s : List Int) (x : Int) : Nat → Int → Nat → Nat
  | 0, _, j => j
  | m + 1, y, j => if nxt s y = x then j else perF s x m (nxt s y) (j + 1)
def perC (s : List Int) : Int := ((ups s.length).map fun x => ((420 / perF s x 8 x 1 : Nat) : Int)).sum
theorem perF_conj {n : Nat} {s s' t : List Int} (ht : Rk n t) (hs : Rk n s) (hc : ∀ x : Int, 1 ≤ x → x ≤ n → nxt s' (nxt t x) = nxt t (nxt s x)) {x : Int} (hx : 1 ≤ x ∧ x ≤ n) : ∀ (m : Nat) (y : Int) (j : Nat), 1 ≤ y → y ≤ n → perF s' (nxt t x) m (nxt t y) j = perF s x m y j
  | 0, _, _, _, _ => rfl
  | m + 1, y, j, h1, h2 => by
    have hn := nxt_rg hs h1 h2
    rw [perF, perF, hc y h1 h2, perF_conj ht hs hc hx m (nxt s y) (j + 1) hn.1 hn.2]
    have : nxt t (nxt s y) = nxt t x ↔ nxt s y = x := by
      constructor
      · intro e
        unfold nxt at e
        have hl := ht.len
        have i1 := idx_gt ht.nodup (i := (nxt s y - 1).toNat) (by omega)
        have i2 := idx_gt ht.nodup (i := (x - 1).toNat) (by omega)
        unfold nxt at i1
        rw [e, i2] at i1
        unfold nxt at hn ⊢
        omega
      · intro e
        rw [e]
    by_cases e : nxt s y = x
    · rw [if_pos e, if_pos (this.mpr e)]
    · rw [if_neg e, if_neg fun q => e (this.mp q)]
theorem perC_conj {n : Nat} {s s' t : List Int} (ht : Rk n t) (hs : Rk n s) (hs' : Rk n s') (hc : ∀ x : Int, 1 ≤ x → x ≤ n → nxt s' (nxt t x) = nxt t (nxt s x)) : perC s' = perC s := by
  unfold perC
  rw [hs.len, hs'.len]
  have e : (ups n).map (nxt t) = t := by
    refine gt_ext (by rw [List.length_map, ups_len, ht.len]) fun i hi => ?_
    rw [List.length_map, ups_len] at hi
    rw [gt_mapf (by rw [ups_len]; exact hi)]
    unfold ups
    rw [gt_map_range _ hi]
    unfold nxt
    congr 1
    omega
  have hp : ((ups n).map (nxt t)).Perm (ups n) := by
    rw [e]
    exact ht.p
  have h1 := sum_perm (hp.map fun x => ((420 / perF s' x 8 x 1 : Nat) : Int))
  rw [← h1, List.map_map]
  refine congrArg List.sum (List.map_congr_left fun x hx => ?_)
  have hx := mem_ups.mp hx
  show ((420 / perF s' (nxt t x) 8 (nxt t x) 1 : Nat) : Int) = _
  rw [perF_conj ht hs hc hx 8 x 1 hx.1 hx.2]
def chkP (s : List Int) : Bool := match cycL s with
  | some C => decide (420 * (C.length : Int) = perC s) && decide (lisL (rcv s) = lisL s)
  | none => false
def cyN (s : List Int) : Nat := (perC s / 420).toNat
def gat (n : Nat) (js : Nat → List Nat) (f : Nat → Nat → Bool) : List (Nat × Nat) := (List.range n).flatMap fun k => ((js k).filter (f k)).map fun j => (k, j)
theorem gat_prs (n : Nat) (f : Nat → Nat → Bool) : gat n (fun k => List.range' (k + 1) (n - (k + 1))) f = prs n f := rfl
def zp (m s : List Int) : Nat := cnt (m.zip s)
theorem zip_mm' (f g : Int → Int) : ∀ l : List Int, (l.map f).zip (l.map g) = l.map fun x => (f x, g x)
  | [] => rfl
  | x :: l => by rw [List.map_cons, List.map_cons, List.zip_cons_cons, zip_mm' f g l, List.map_cons]
theorem prs_neg (n : Nat) (f : Nat → Nat → Bool) : (prs n fun k j => !f k j).length + (prs n f).length = (prs n fun _ _ => true).length := by
  have := prs3 n (fun k j => !f k j) f (fun _ _ => true) (fun _ _ => false) fun k j => by cases f k j <;> rfl
  rw [prs_false] at this
  exact this
theorem gat_len (n : Nat) (f : Nat → Nat → Bool) : (gat n (fun _ => List.range n) f).length = ((List.range n).map fun k => ((List.range n).filter (f k)).length).sum := by
  unfold gat
  rw [List.length_flatMap]
  congr 1
  exact List.map_congr_left fun k _ => List.length_map ..
theorem sum_split (l : List Nat) (u v : Nat → Nat) : (l.map fun k => u k + v k).sum = (l.map u).sum + (l.map v).sum := by
  induction l with
  | nil => rfl
  | cons k l ih => simp only [List.map_cons, List.sum_cons, ih]; omega
theorem filt_count (p : Nat → Bool) (l : List Nat) : (l.map fun k => (p k).toNat).sum = (l.filter p).length := by
  induction l with
  | nil => rfl
  | cons k l ih =>
    simp only [List.map_cons, List.sum_cons, List.filter_cons, ih]
    cases p k <;> simp
    omega
theorem gat_split : ∀ (n : Nat) (f : Nat → Nat → Bool), (∀ k, f k k = false) → (gat n (fun _ => List.range n) f).length = (prs n f).length + (prs n fun k j => f j k).length
  | 0, _, _ => rfl
  | n + 1, f, h => by
    have ih := gat_split n (fun k j => f (k + 1) (j + 1)) fun k => h (k + 1)
    rw [gat_len] at ih ⊢
    rw [prs_succ, prs_succ]
    have e : ∀ k, ((List.range (n + 1)).filter (f k)).length = (f k 0).toNat + ((List.range n).filter fun j => f k (j + 1)).length := fun k => by
      have this : ((List.map Nat.succ (List.range n)).filter (f k)).length = ((List.range n).filter fun j => f k (j + 1)).length := filt_map Nat.succ (f k) (List.range n)
      rw [List.range_succ_eq_map, List.filter_cons]
      cases f k 0
      · rw [if_neg Bool.false_ne_true, this]
        simp
      · rw [if_pos rfl, List.length_cons, this]
        simp
        omega
    have e2 : ((List.range (n + 1)).map fun k => ((List.range (n + 1)).filter (f k)).length).sum = ((f 0 0).toNat + ((List.range n).filter fun j => f 0 (j + 1)).length) + ((List.range n).map fun k => (f (k + 1) 0).toNat + ((List.range n).filter fun j => f (k + 1) (j + 1)).length).sum := by
      have : ((List.range (n + 1)).map fun k => ((List.range (n + 1)).filter (f k)).length) = (List.range (n + 1)).map fun k => (f k 0).toNat + ((List.range n).filter fun j => f k (j + 1)).length := List.map_congr_left fun k _ => e k
      rw [this, List.range_succ_eq_map, List.map_cons, List.sum_cons, List.map_map]
      rfl
    rw [e2, sum_split, filt_count (fun k => f (k + 1) 0), h 0, ih]
    simp
    omega
def ggF (a b : List Int) (k j : Nat) : Bool := decide (gt a k < gt a j) && decide (gt b k < gt b j)
def gp (n : Nat) (a b m : List Int) : Int := iabs (((agst n a m).length : Int) - ((agst n m b).length : Int))
def GP (n : Nat) (a b : List Int) : List Int := (btwL n a b).map (gp n a b)
def nearest (n : Nat) (a b : List Int) : List (List Int) := (btwL n a b).filter fun m => decide (gp n a b m = minI (GP n a b))
theorem btwL_le {n : Nat} {a b : List Int} (h : n ≤ 7) : (btwL n a b).length ≤ 5040 := Nat.le_trans (List.length_filter_le _ _) (permsP_le h)
theorem btwL_rk {n : Nat} {a b m : List Int} (h1 : 1 ≤ n) (h7 : n ≤ 7) (hm : m ∈ btwL n a b) : Rk n m := (permsP_rk h1 h7).mp (List.mem_filter.mp hm).1
theorem mem_btwL {n : Nat} {a b m : List Int} (g : Rk n m) : m ∈ btwL n a b ↔ btw n a m b = true := by
  unfold btwL
  rw [List.mem_filter]
  exact ⟨fun h => h.2, fun h => ⟨(permsP_rk g.lo g.hi).mpr g, h⟩⟩
theorem near_ix (B : List (List Int)) (P : List Int → Bool) : ((List.range B.length).filter fun i => P (B.getD i [])).map (fun i => B.getD i []) = B.filter P := by
  have e : B = (List.range B.length).map fun i => B.getD i [] := by
    refine List.ext_getElem (by simp) fun i h1 h2 => ?_
    simp
    rw [List.getElem?_eq_getElem h1]
    rfl
  conv => rhs; rw [e]
  rw [List.filter_map]
  rfl

end Ag


namespace Ag
open PySem L2

/-! ### rising parts, told by places -/
def Chn (s t : List Int) : Prop := t.Sublist s ∧ t.Pairwise (· < ·)
theorem snoc_sub {α : Type} {t : List α} {w : α} {l : List α} (h : (t ++ [w]).Sublist l) : ∃ j, l[j]? = some w ∧ t.Sublist (l.take j) := by
  obtain ⟨r1, r2, rfl, h1, h2⟩ := List.append_sublist_iff.mp h
  have hw := List.singleton_sublist.mp h2
  obtain ⟨u, v, rfl⟩ := List.append_of_mem hw
  refine ⟨r1.length + u.length, ?_, ?_⟩
  · rw [List.getElem?_append_right (by omega), Nat.add_sub_cancel_left, List.getElem?_append_right (by omega)]
    simp
  · have e : (r1 ++ (u ++ w :: v)).take (r1.length + u.length) = r1 ++ u := by
      rw [List.take_append, Nat.add_sub_cancel_left, List.take_of_length_le (by omega), List.take_append]
      simp
    rw [e]
    exact h1.trans (List.sublist_append_left _ _)
theorem snoc_pw {t : List Int} {v : Int} : (t ++ [v]).Pairwise (· < ·) ↔ t.Pairwise (· < ·) ∧ ∀ x ∈ t, x < v := by
  rw [List.pairwise_append]
  constructor
  · rintro ⟨h1, _, h2⟩
    exact ⟨h1, fun x hx => h2 x hx v (List.mem_singleton.mpr rfl)⟩
  · rintro ⟨h1, h2⟩
    refine ⟨h1, List.pairwise_singleton _ _, fun x hx y hy => ?_⟩
    rw [List.mem_singleton.mp hy]
    exact h2 x hx
theorem snoc_cases {α : Type} (t : List α) : t = [] ∨ ∃ u w, t = u ++ [w] := by
  rcases List.eq_nil_or_concat t with h | ⟨u, w, h⟩
  · exact .inl h
  · exact .inr ⟨u, w, by rw [h, List.concat_eq_append]⟩
/-- the longest rising part that ends at place i -/
def EndAt (s : List Int) (i : Nat) (m : Int) : Prop := (∃ t : List Int, t.Sublist (s.take i) ∧ (t ++ [gt s i]).Pairwise (· < ·) ∧ ((t.length : Nat) : Int) + 1 = m) ∧ ∀ t : List Int, t.Sublist (s.take i) → (t ++ [gt s i]).Pairwise (· < ·) → ((t.length : Nat) : Int) + 1 ≤ m
theorem gt_take {s : List Int} {i k : Nat} (h : i < k) : gt (s.take k) i = gt s i := by
  unfold gt
  rw [List.getD_eq_getElem?_getD, List.getD_eq_getElem?_getD, List.getElem?_take_of_lt h]
theorem some_gt {s : List Int} {i : Nat} {w : Int} (h : s[i]? = some w) : i < s.length ∧ gt s i = w := by
  obtain ⟨h1, h2⟩ := List.getElem?_eq_some_iff.mp h
  exact ⟨h1, by rw [gt_eq h1, h2]⟩
theorem lisG_end {s : List Int} : ∀ (r : List Int) (k : Nat) (best : List Int), (∃ pre, s = pre ++ r ∧ pre.length = k) → best.length = k → (∀ i, i < k → EndAt s i (gt best i)) → ∀ i, i < s.length → EndAt s i (gt (lisG s k best r) i)
  | [], k, best, ⟨pre, e, hp⟩, hb, h => fun i hi => by
    rw [List.append_nil] at e
    exact h i (by rw [e] at hi; omega)
  | v :: r, k, best, ⟨pre, e, hp⟩, hb, h => by
    have hkl : k < s.length := by rw [e, List.length_append, List.length_cons]; omega
    have hgv : gt s k = v := by
      unfold gt
      rw [e, List.getD_eq_getElem?_getD, List.getElem?_append_right (by omega), hp, Nat.sub_self]
      rfl
    rw [lisG]
    generalize hq : ((List.range k).filter fun j => decide (gt s j < v)).map (fun j => gt best j) = q
    have hmx := maxI_mem (l := 0 :: q) (by simp)
    refine lisG_end r (k + 1) (best ++ [1 + maxI (0 :: q)]) ⟨pre ++ [v], by rw [e, List.append_assoc]; rfl, by rw [List.length_append, hp]; rfl⟩ (by rw [List.length_append, hb]; rfl) fun i hi => ?_
    by_cases hik : i < k
    · have : gt (best ++ [1 + maxI (0 :: q)]) i = gt best i := by
        unfold gt
        rw [List.getD_eq_getElem?_getD, List.getD_eq_getElem?_getD, List.getElem?_append_left (by omega)]
      rw [this]
      exact h i hik
    · have hi : i = k := by omega
      subst hi
      have : gt (best ++ [1 + maxI (0 :: q)]) i = 1 + maxI (0 :: q) := by
        unfold gt
        rw [List.getD_eq_getElem?_getD, List.getElem?_append_right (by omega), hb, Nat.sub_self]
        rfl
      rw [this]
      constructor
      · rcases List.mem_cons.mp hmx.1 with h0 | h0
        · exact ⟨[], List.nil_sublist _, List.pairwise_singleton _ _, by rw [h0]; rfl⟩
        · rw [← hq] at h0
          obtain ⟨j, hj, ej⟩ := List.mem_map.mp h0
          obtain ⟨hj1, hj2⟩ := List.mem_filter.mp hj
          rw [List.mem_range] at hj1
          rw [decide_eq_true_eq] at hj2
          obtain ⟨⟨t, t1, t2, t3⟩, _⟩ := h j hj1
          have t2' := snoc_pw.mp t2
          refine ⟨t ++ [gt s j], ?_, ?_, ?_⟩
          · have e1 : s.take (j + 1) = s.take j ++ [gt s j] := by
              rw [gt_eq (by omega)]
              exact List.take_succ_eq_append_getElem (by omega)
            have : (t ++ [gt s j]).Sublist (s.take (j + 1)) := by
              rw [e1]
              exact t1.append (List.Sublist.refl _)
            exact this.trans (List.take_sublist_take_left (by omega))
          · rw [hgv]
            refine snoc_pw.mpr ⟨t2, fun x hx => ?_⟩
            rcases List.mem_append.mp hx with hx | hx
            · have := t2'.2 x hx
              omega
            · rw [List.mem_singleton.mp hx]
              exact hj2
          · rw [List.length_append, List.length_singleton]
            rw [hq] at ej
            omega
      · intro t t1 t2
        rw [hgv] at t2
        rcases snoc_cases t with rfl | ⟨u, w, rfl⟩
        · have := hmx.2 0 (List.mem_cons_self ..)
          show ((0 : Nat) : Int) + 1 ≤ _
          omega
        · obtain ⟨j, hj, hu⟩ := snoc_sub t1
          have t3 := snoc_pw.mp t2
          obtain ⟨hj1, hj2⟩ := some_gt hj
          rw [List.length_take] at hj1
          rw [gt_take (by omega)] at hj2
          have hub : u.Sublist (s.take j) := by
            rw [List.take_take, Nat.min_eq_left (by omega)] at hu
            exact hu
          have := (h j (by omega)).2 u hub (by rw [hj2]; exact t3.1)
          have hle := hmx.2 (gt best j) (List.mem_cons_of_mem _ (by
            rw [← hq]
            exact List.mem_map.mpr ⟨j, List.mem_filter.mpr ⟨List.mem_range.mpr (by omega), by rw [hj2]; exact decide_eq_true (t3.2 w (by simp))⟩, rfl⟩))
          rw [List.length_append, List.length_singleton]
          omega
theorem lis_char {s : List Int} (hs : s ≠ []) : (∃ t, Chn s t ∧ ((t.length : Nat) : Int) = lisL s) ∧ ∀ t, Chn s t → ((t.length : Nat) : Int) ≤ lisL s := by
  have hE := lisG_end (s := s) s 0 [] ⟨[], rfl, rfl⟩ rfl fun i hi => absurd hi (Nat.not_lt_zero _)
  have hlen := lisG_len s s 0 []
  rw [List.length_nil, Nat.zero_add] at hlen
  have hsl : 0 < s.length := List.length_pos_iff.mpr hs
  have hne : lisG s 0 [] s ≠ [] := fun e => by
    rw [e] at hlen
    simp at hlen
    omega
  obtain ⟨m1, m2⟩ := maxI_mem hne
  constructor
  · obtain ⟨i, hi, e⟩ := List.mem_iff_getElem.mp m1
    obtain ⟨⟨t, t1, t2, t3⟩, _⟩ := hE i (by omega)
    refine ⟨t ++ [gt s i], ⟨?_, t2⟩, ?_⟩
    · have e1 : s.take (i + 1) = s.take i ++ [gt s i] := by
        rw [gt_eq (by omega)]
        exact List.take_succ_eq_append_getElem (by omega)
      have : (t ++ [gt s i]).Sublist (s.take (i + 1)) := by
        rw [e1]
        exact t1.append (List.Sublist.refl _)
      exact this.trans (List.take_sublist _ _)
    · rw [gt_eq hi, e] at t3
      rw [List.length_append, List.length_singleton]
      unfold lisL
      omega
  · rintro t ⟨t1, t2⟩
    rcases snoc_cases t with rfl | ⟨u, w, rfl⟩
    · have := m2 _ (gt_mem (a := lisG s 0 [] s) (i := 0) (by omega))
      obtain ⟨⟨t, _, _, t3⟩, _⟩ := hE 0 hsl
      show ((0 : Nat) : Int) ≤ _
      unfold lisL
      omega
    · obtain ⟨j, hj, hu⟩ := snoc_sub t1
      obtain ⟨hj1, hj2⟩ := some_gt hj
      have := (hE j hj1).2 u hu (by rw [hj2]; exact t2)
      have := m2 _ (gt_mem (a := lisG s 0 [] s) (i := j) (by omega))
      rw [List.length_append, List.length_singleton]
      unfold lisL
      omega
/-! the same over places -/
theorem nodup_sub_len {α : Type} [DecidableEq α] : ∀ (l m : List α), l.Nodup → (∀ x ∈ l, x ∈ m) → l.length ≤ m.length
  | [], _, _, _ => Nat.zero_le _
  | x :: l, m, hn, h => by
    have hn := List.nodup_cons.mp hn
    have hx := h x (List.mem_cons_self ..)
    have := nodup_sub_len l (m.erase x) hn.2 fun y hy => (List.mem_erase_of_ne (show y ≠ x from fun e => hn.1 (e ▸ hy))).mpr (h y (List.mem_cons_of_mem _ hy))
    rw [List.length_erase_of_mem hx] at this
    have := List.length_pos_of_mem hx
    rw [List.length_cons]
    omega
theorem pw_tri {α : Type} {R : α → α → Prop} : ∀ {l : List α}, l.Pairwise R → ∀ {x y : α}, x ∈ l → y ∈ l → x = y ∨ R x y ∨ R y x
  | [], _, _, _, h, _ => by cases h
  | z :: l, h, x, y, hx, hy => by
    obtain ⟨h1, h2⟩ := List.pairwise_cons.mp h
    rcases List.mem_cons.mp hx with e1 | hx <;> rcases List.mem_cons.mp hy with e2 | hy
    · exact .inl (e1.trans e2.symm)
    · exact .inr (.inl (e1 ▸ h1 y hy))
    · exact .inr (.inr (e2 ▸ h1 x hx))
    · exact pw_tri h2 hx hy
structure Good (n : Nat) (a b : List Int) (P : List Nat) : Prop where
  nd : P.Nodup
  lt : ∀ i ∈ P, i < n
  up : ∀ i ∈ P, ∀ j ∈ P, gt a i < gt a j → gt b i < gt b j
theorem good_le {n : Nat} {a b : List Int} (h : Rk n a) (g : Rk n b) {P : List Nat} (hP : Good n a b P) : ((P.length : Nat) : Int) ≤ lisL (seenL a b) := by
  have hla := h.len
  have hs := seenL_rk h g
  have hne : seenL a b ≠ [] := fun e => by
    have h1 := hs.len
    have h2 := h.lo
    rw [e, List.length_nil] at h1
    omega
  let R := P.map fun i => gt a i
  have hR : R.Nodup := by
    refine (List.pairwise_map).mpr (hP.nd.imp_of_mem fun {i j} hi hj hij e => ?_)
    exact h.ne (hP.lt i hi) (hP.lt j hj) hij e
  let t := (ups n).filter fun x => decide (x ∈ R)
  have hlen : P.length ≤ t.length := by
    have := nodup_sub_len R t hR fun x hx => by
      obtain ⟨i, hi, rfl⟩ := List.mem_map.mp hx
      exact List.mem_filter.mpr ⟨h.p.mem_iff.mp (gt_mem (by rw [hla]; exact hP.lt i hi)), decide_eq_true hx⟩
    rw [List.length_map] at this
    exact this
  have hc : Chn (seenL a b) (t.map fun x => gt b (a.idxOf x)) := by
    refine ⟨?_, ?_⟩
    · unfold seenL
      rw [hla]
      exact (List.filter_sublist).map _
    · rw [List.pairwise_map]
      refine ((ups_srt n).sublist List.filter_sublist).imp_of_mem fun {x y} hx hy hxy => ?_
      obtain ⟨_, hx2⟩ := List.mem_filter.mp hx
      obtain ⟨_, hy2⟩ := List.mem_filter.mp hy
      obtain ⟨i, hi, rfl⟩ := List.mem_map.mp (of_decide_eq_true hx2)
      obtain ⟨j, hj, rfl⟩ := List.mem_map.mp (of_decide_eq_true hy2)
      rw [idx_gt h.nodup (by rw [hla]; exact hP.lt i hi), idx_gt h.nodup (by rw [hla]; exact hP.lt j hj)]
      exact hP.up i hi j hj hxy
  have := (lis_char hne).2 _ hc
  rw [List.length_map] at this
  omega
theorem good_ex {n : Nat} {a b : List Int} (h : Rk n a) (g : Rk n b) : ∃ P, Good n a b P ∧ ((P.length : Nat) : Int) = lisL (seenL a b) := by
  have hla := h.len
  have hs := seenL_rk h g
  have hne : seenL a b ≠ [] := fun e => by
    have h1 := hs.len
    have h2 := h.lo
    rw [e, List.length_nil] at h1
    omega
  obtain ⟨⟨t, ⟨t1, t2⟩, t3⟩, _⟩ := lis_char hne
  unfold seenL at t1
  rw [hla] at t1
  obtain ⟨l, hl, rfl⟩ := List.sublist_map_iff.mp t1
  have hls : l.Pairwise (· < ·) := (ups_srt n).sublist hl
  have hmem : ∀ x ∈ l, x ∈ a := fun x hx => h.p.mem_iff.mpr (hl.subset hx)
  refine ⟨l.map fun x => a.idxOf x, ⟨?_, ?_, ?_⟩, by rw [List.length_map]; rw [List.length_map] at t3; exact t3⟩
  · refine (List.pairwise_map).mpr (hls.imp_of_mem fun {x y} hx hy hxy e => ?_)
    have h1 := gt_idx (hmem x hx)
    have h2 := gt_idx (hmem y hy)
    rw [e, h2] at h1
    omega
  · intro i hi
    obtain ⟨x, hx, rfl⟩ := List.mem_map.mp hi
    have := List.idxOf_lt_length_iff.mpr (hmem x hx)
    omega
  · intro i hi j hj hij
    obtain ⟨x, hx, rfl⟩ := List.mem_map.mp hi
    obtain ⟨y, hy, rfl⟩ := List.mem_map.mp hj
    rw [gt_idx (hmem x hx), gt_idx (hmem y hy)] at hij
    have hboth : l.Pairwise fun x y => x < y ∧ gt b (a.idxOf x) < gt b (a.idxOf y) := hls.and (List.pairwise_map.mp t2)
    rcases pw_tri hboth hx hy with e | e | e
    · omega
    · exact e.2
    · omega
/-- over a third one -/
theorem lis_third {n : Nat} {a b c : List Int} (h : Rk n a) (g : Rk n b) (k : Rk n c) : lisL (seenL a c) + lisL (seenL c b) ≤ n + lisL (seenL a b) := by
  obtain ⟨P, hP, eP⟩ := good_ex h k
  obtain ⟨Q, hQ, eQ⟩ := good_ex k g
  have hG : Good n a b (P.filter fun i => decide (i ∈ Q)) := ⟨hP.nd.filter _, fun i hi => hP.lt i (List.mem_filter.mp hi).1, fun i hi j hj hij => by
    obtain ⟨i1, i2⟩ := List.mem_filter.mp hi
    obtain ⟨j1, j2⟩ := List.mem_filter.mp hj
    exact hQ.up i (of_decide_eq_true i2) j (of_decide_eq_true j2) (hP.up i i1 j j1 hij)⟩
  have h1 := good_le h g hG
  have h2 : (P.filter fun i => !decide (i ∈ Q)).length + Q.length ≤ n := by
    have := nodup_sub_len ((P.filter fun i => !decide (i ∈ Q)) ++ Q) (List.range n) (by
      rw [List.nodup_append]
      refine ⟨hP.nd.filter _, hQ.nd, fun x hx y hy e => ?_⟩
      subst e
      have := (List.mem_filter.mp hx).2
      simp [hy] at this) fun x hx => by
        rw [List.mem_range]
        rcases List.mem_append.mp hx with hx | hx
        · exact hP.lt x (List.mem_filter.mp hx).1
        · exact hQ.lt x hx
    rw [List.length_append, List.length_range] at this
    exact this
  have h3 : P.length = (P.filter fun i => decide (i ∈ Q)).length + (P.filter fun i => !decide (i ∈ Q)).length := by
    clear hP eP hG h1 h2
    induction P with
    | nil => rfl
    | cons x P ih =>
      rw [List.filter_cons, List.filter_cons, List.length_cons, ih]
      cases decide (x ∈ Q) <;> simp <;> omega
  omega
/-! all rising parts, gathered -/
theorem ris_mem : ∀ (s t : List Int), t ∈ s.foldl rstep [[]] ↔ Chn s t := by
  intro s
  rcases snoc_cases s with rfl | ⟨u, v, rfl⟩
  · intro t
    show t ∈ [[]] ↔ _
    rw [List.mem_singleton]
    constructor
    · rintro rfl
      exact ⟨List.Sublist.refl _, .nil⟩
    · rintro ⟨h, _⟩
      exact List.sublist_nil.mp h
  · intro t
    have ih := ris_mem u
    rw [List.foldl_append]
    show t ∈ rstep (u.foldl rstep [[]]) v ↔ _
    unfold rstep
    rw [List.mem_append, List.mem_map]
    have hl : ∀ p : List Int, p.Pairwise (· < ·) → ((p = [] ∨ lst p < v) ↔ ∀ x ∈ p, x < v) := fun p hp => by
      rcases snoc_cases p with rfl | ⟨w, z, rfl⟩
      · simp
      · rw [lst_snoc]
        have h2 := (snoc_pw.mp hp).2
        constructor
        · rintro (h | h)
          · simp at h
          · intro x hx
            rcases List.mem_append.mp hx with hx | hx
            · have := h2 x hx
              omega
            · rw [List.mem_singleton.mp hx]
              exact h
        · intro h
          exact .inr (h z (by simp))
    constructor
    · rintro (h | ⟨p, hp, rfl⟩)
      · obtain ⟨h1, h2⟩ := (ih t).mp h
        exact ⟨h1.trans (List.sublist_append_left _ _), h2⟩
      · obtain ⟨hp1, hp2⟩ := List.mem_filter.mp hp
        obtain ⟨h1, h2⟩ := (ih p).mp hp1
        refine ⟨h1.append (List.Sublist.refl _), snoc_pw.mpr ⟨h2, (hl p h2).mp ?_⟩⟩
        rw [Bool.or_eq_true, decide_eq_true_eq, decide_eq_true_eq] at hp2
        exact hp2
    · rintro ⟨h1, h2⟩
      obtain ⟨t1, t2, rfl, h3, h4⟩ := List.sublist_append_iff.mp h1
      have h4' : t2 = [] ∨ t2 = [v] := by
        cases h4 with
        | cons _ h => exact .inl (List.sublist_nil.mp h)
        | cons_cons _ h => exact .inr (by rw [List.sublist_nil.mp h])
      rcases h4' with rfl | rfl
      · rw [List.append_nil] at h2 ⊢
        exact .inl ((ih t1).mpr ⟨h3, h2⟩)
      · obtain ⟨h5, h6⟩ := snoc_pw.mp h2
        refine .inr ⟨t1, List.mem_filter.mpr ⟨(ih t1).mpr ⟨h3, h5⟩, ?_⟩, rfl⟩
        rw [Bool.or_eq_true, decide_eq_true_eq, decide_eq_true_eq]
        exact (hl t1 h5).mpr h6
termination_by s => s.length
decreasing_by
  subst_vars
  simp
theorem ris_lis {s : List Int} (hs : s ≠ []) : risL s = lisL s := by
  obtain ⟨⟨t, t1, t2⟩, h⟩ := lis_char hs
  refine maxI_eq (List.mem_map.mpr ⟨t, (ris_mem s t).mpr t1, t2⟩) fun y hy => ?_
  obtain ⟨p, hp, rfl⟩ := List.mem_map.mp hy
  exact h p ((ris_mem s p).mp hp)
end Ag


namespace Ag
open PySem L2

/-! ### one exchange changes the number of cycles by one -/
theorem nodup_perm {l m : List Int} (h : l.Nodup) (g : m.Nodup) (k : ∀ x, x ∈ l ↔ x ∈ m) : l.Perm m := by
  rw [List.perm_iff_count]
  intro x
  rw [h.count, g.count]
  by_cases hx : x ∈ l
  · rw [if_pos hx, if_pos ((k x).mp hx)]
  · rw [if_neg hx, if_neg fun z => hx ((k x).mpr z)]
def tr (u v x : Int) : Int := if x = u then v else if x = v then u else x
theorem tr_tr (u v x : Int) : tr u v (tr u v x) = x := by
  unfold tr
  split
  · split <;> (try split) <;> omega
  · split
    · split <;> (try split) <;> omega
    · rfl
theorem tr_rg {n : Nat} {u v x : Int} (hu : 1 ≤ u ∧ u ≤ n) (hv : 1 ≤ v ∧ v ≤ n) (hx : 1 ≤ x ∧ x ≤ n) : 1 ≤ tr u v x ∧ tr u v x ≤ n := by
  unfold tr
  split
  · exact hv
  · split
    · exact hu
    · exact hx
theorem tr_perm {n : Nat} {u v : Int} (hu : 1 ≤ u ∧ u ≤ n) (hv : 1 ≤ v ∧ v ≤ n) : ((ups n).map (tr u v)).Perm (ups n) := by
  refine nodup_perm ?_ (ups_nodup n) fun x => ?_
  · refine List.pairwise_map.mpr ((ups_nodup n).imp fun {x y} hxy e => hxy ?_)
    rw [← tr_tr u v x, e, tr_tr]
  · constructor
    · intro h
      obtain ⟨y, hy, rfl⟩ := List.mem_map.mp h
      exact mem_ups.mpr (tr_rg hu hv (mem_ups.mp hy))
    · intro h
      exact List.mem_map.mpr ⟨tr u v x, mem_ups.mpr (tr_rg hu hv (mem_ups.mp h)), tr_tr u v x⟩
theorem nxt_mk {n : Nat} (f : Int → Int) {x : Int} (hx : 1 ≤ x ∧ x ≤ n) : nxt ((ups n).map f) x = f x := by
  unfold nxt ups
  rw [List.map_map, gt_map_range _ (by omega)]
  show f (((x - 1).toNat + 1 : Nat) : Int) = f x
  congr 1
  omega
theorem mk_nxt {n : Nat} {s : List Int} (h : s.length = n) : (ups n).map (nxt s) = s := by
  refine gt_ext (by rw [List.length_map, ups_len, h]) fun i hi => ?_
  rw [List.length_map, ups_len] at hi
  unfold ups
  rw [List.map_map, gt_map_range _ hi]
  show gt s (((i + 1 : Nat) : Int) - 1).toNat = _
  congr 1
  omega
def sw (r q : Int) (s : List Int) : List Int := (ups s.length).map fun x => nxt s (tr r q x)
def cj (u v : Int) (s : List Int) : List Int := (ups s.length).map fun x => tr u v (nxt s (tr u v x))
section
variable {n : Nat} {s : List Int} {u v r q : Int}
theorem sw_rk (h : Rk n s) (hr : 1 ≤ r ∧ r ≤ n) (hq : 1 ≤ q ∧ q ≤ n) : Rk n (sw r q s) := by
  refine ⟨?_, h.lo, h.hi⟩
  have h1 := (tr_perm hr hq).map (nxt s)
  rw [List.map_map, mk_nxt h.len] at h1
  unfold sw
  rw [h.len]
  exact h1.trans h.p
theorem cj_rk (h : Rk n s) (hr : 1 ≤ u ∧ u ≤ n) (hq : 1 ≤ v ∧ v ≤ n) : Rk n (cj u v s) := by
  refine ⟨?_, h.lo, h.hi⟩
  have h1 := (sw_rk h hr hq).p.map (tr u v)
  unfold sw at h1
  rw [List.map_map] at h1
  exact h1.trans (tr_perm hr hq)
theorem cj_per (h : Rk n s) (hr : 1 ≤ u ∧ u ≤ n) (hq : 1 ≤ v ∧ v ≤ n) : perC (cj u v s) = perC s := by
  have ht : Rk n ((ups n).map (tr u v)) := ⟨tr_perm hr hq, h.lo, h.hi⟩
  refine perC_conj ht h (cj_rk h hr hq) fun x h1 h2 => ?_
  have hx := tr_rg hr hq ⟨h1, h2⟩
  have hs := nxt_rg h h1 h2
  rw [nxt_mk _ ⟨h1, h2⟩, nxt_mk _ hs]
  unfold cj
  rw [h.len, nxt_mk _ hx, tr_tr]
theorem tr_cj (x : Int) : tr r q (tr u v x) = tr u v (tr (tr u v r) (tr u v q) x) := by
  have e1 : (tr u v x = r) ↔ (x = tr u v r) := ⟨fun e => by rw [← e, tr_tr], fun e => by rw [e, tr_tr]⟩
  have e2 : (tr u v x = q) ↔ (x = tr u v q) := ⟨fun e => by rw [← e, tr_tr], fun e => by rw [e, tr_tr]⟩
  conv => lhs; unfold tr
  conv => rhs; arg 3; unfold tr
  by_cases h1 : x = tr u v r
  · have := e1.mpr h1
    show (if tr u v x = r then q else if tr u v x = q then r else tr u v x) = tr u v (if x = tr u v r then tr u v q else if x = tr u v q then tr u v r else x)
    rw [if_pos this, if_pos h1, tr_tr]
  · by_cases h2 : x = tr u v q
    · show (if tr u v x = r then q else if tr u v x = q then r else tr u v x) = tr u v (if x = tr u v r then tr u v q else if x = tr u v q then tr u v r else x)
      rw [if_neg fun z => h1 (e1.mp z), if_pos (e2.mpr h2), if_neg h1, if_pos h2, tr_tr]
    · show (if tr u v x = r then q else if tr u v x = q then r else tr u v x) = tr u v (if x = tr u v r then tr u v q else if x = tr u v q then tr u v r else x)
      rw [if_neg fun z => h1 (e1.mp z), if_neg fun z => h2 (e2.mp z), if_neg h1, if_neg h2]
theorem cj_sw (h : Rk n s) (hu : 1 ≤ u ∧ u ≤ n) (hv : 1 ≤ v ∧ v ≤ n) (hr : 1 ≤ r ∧ r ≤ n) (hq : 1 ≤ q ∧ q ≤ n) : cj u v (sw r q s) = sw (tr u v r) (tr u v q) (cj u v s) := by
  have h1 := (sw_rk h hr hq).len
  have h2 := (cj_rk h hu hv).len
  show (ups (sw r q s).length).map _ = (ups (cj u v s).length).map _
  rw [h1, h2]
  refine List.map_congr_left fun x hx => ?_
  have hx := mem_ups.mp hx
  have hr' := tr_rg hu hv hr
  have hq' := tr_rg hu hv hq
  have e1 : nxt (sw r q s) (tr u v x) = nxt s (tr r q (tr u v x)) := by
    unfold sw
    rw [h.len, nxt_mk _ (tr_rg hu hv hx)]
  have e2 : nxt (cj u v s) (tr (tr u v r) (tr u v q) x) = tr u v (nxt s (tr u v (tr (tr u v r) (tr u v q) x))) := by
    unfold cj
    rw [h.len, nxt_mk _ (tr_rg hr' hq' hx)]
  rw [e1, e2, tr_cj]
def chkS (s : List Int) : Bool := decide (perC (sw 1 2 s) = perC s + 420)
/-- the second is 1 -/
def secN (n : Nat) (x : Int) : List (List Int) := (permsN (n - 2) (((ups n).erase 1).erase x)).map fun l => x :: 1 :: l
theorem sec_mem {n : Nat} {s : List Int} (h : Rk n s) (h2 : nxt s 2 = 1) : 2 ≤ n → ∃ x ∈ (ups n).erase 1, s ∈ secN n x := by
  intro hn
  have hl := h.len
  match s, hl, h, h2 with
  | [], hl, _, _ => simp at hl; omega
  | [_], hl, _, _ => simp at hl; omega
  | x :: y :: l, hl, h, h2 =>
    have hy : y = 1 := h2
    subst hy
    have hp : (x :: l).Perm ((ups n).erase 1) := by
      have h1 : (1 :: x :: l).Perm (ups n) := (List.Perm.swap x 1 l).trans h.p
      have h3 : (ups n).Perm (1 :: (ups n).erase 1) := List.perm_cons_erase (mem_ups.mpr ⟨by omega, by omega⟩)
      exact (h1.trans h3).cons_inv
    have hx : x ∈ (ups n).erase 1 := hp.mem_iff.mp (List.mem_cons_self ..)
    refine ⟨x, hx, List.mem_map.mpr ⟨l, permsN_mem (n - 2) _ l ?_ ?_, rfl⟩⟩
    · rw [List.length_erase_of_mem hx, List.length_erase_of_mem (mem_ups.mpr ⟨by omega, by omega⟩), ups_len]
      omega
    · exact (hp.trans (List.perm_cons_erase hx)).cons_inv
end
end Ag


namespace Ag
open PySem L2

theorem chkS_2 : ((ups 2).erase 1).all (fun x => (secN 2 x).all chkS) = true := by decide +kernel
theorem chkS_3 : ((ups 3).erase 1).all (fun x => (secN 3 x).all chkS) = true := by decide +kernel
theorem chkS_4 : ((ups 4).erase 1).all (fun x => (secN 4 x).all chkS) = true := by decide +kernel
theorem chkS_5 : ((ups 5).erase 1).all (fun x => (secN 5 x).all chkS) = true := by decide +kernel
theorem chkS_6 : ((ups 6).erase 1).all (fun x => (secN 6 x).all chkS) = true := by decide +kernel
theorem chkS_7_2 : (secN 7 2).all chkS = true := by decide +kernel
theorem chkS_7_3 : (secN 7 3).all chkS = true := by decide +kernel
theorem chkS_7_4 : (secN 7 4).all chkS = true := by decide +kernel
theorem chkS_7_5 : (secN 7 5).all chkS = true := by decide +kernel
theorem chkS_7_6 : (secN 7 6).all chkS = true := by decide +kernel
theorem chkS_7_7 : (secN 7 7).all chkS = true := by decide +kernel
end Ag


namespace Ag
open PySem L2

theorem chkS_all {n : Nat} {s : List Int} (h : Rk n s) (hn : 2 ≤ n) (h2 : nxt s 2 = 1) : perC (sw 1 2 s) = perC s + 420 := by
  obtain ⟨x, hx, hs⟩ := sec_mem h h2 hn
  have h7 := h.hi
  have k : chkS s = true := by
    have : n = 2 ∨ n = 3 ∨ n = 4 ∨ n = 5 ∨ n = 6 ∨ n = 7 := by omega
    rcases this with rfl | rfl | rfl | rfl | rfl | rfl
    · exact List.all_eq_true.mp (List.all_eq_true.mp chkS_2 x hx) s hs
    · exact List.all_eq_true.mp (List.all_eq_true.mp chkS_3 x hx) s hs
    · exact List.all_eq_true.mp (List.all_eq_true.mp chkS_4 x hx) s hs
    · exact List.all_eq_true.mp (List.all_eq_true.mp chkS_5 x hx) s hs
    · exact List.all_eq_true.mp (List.all_eq_true.mp chkS_6 x hx) s hs
    · have e : (ups 7).erase 1 = [2, 3, 4, 5, 6, 7] := by decide
      rw [e] at hx
      simp only [List.mem_cons, List.not_mem_nil, or_false] at hx
      rcases hx with rfl | rfl | rfl | rfl | rfl | rfl
      · exact List.all_eq_true.mp chkS_7_2 s hs
      · exact List.all_eq_true.mp chkS_7_3 s hs
      · exact List.all_eq_true.mp chkS_7_4 s hs
      · exact List.all_eq_true.mp chkS_7_5 s hs
      · exact List.all_eq_true.mp chkS_7_6 s hs
      · exact List.all_eq_true.mp chkS_7_7 s hs
  exact of_decide_eq_true k
theorem sw_fix {n : Nat} {s : List Int} {r q : Int} (h : Rk n s) (hr : 1 ≤ r ∧ r ≤ n) (hq : 1 ≤ q ∧ q ≤ n) (hne : r ≠ q) (hs : nxt s q = r) : perC (sw r q s) = perC s + 420 := by
  have hn : 2 ≤ n := by omega
  have o1 : (1 : Int) ≤ 1 ∧ (1 : Int) ≤ n := by omega
  have o2 : (1 : Int) ≤ 2 ∧ (2 : Int) ≤ n := by omega
  have t1 : tr 1 r r = 1 := by unfold tr; split <;> simp_all
  have hq1 := tr_rg o1 hr hq
  have q1 : tr 1 r q ≠ 1 := fun e => by
    have := tr_tr 1 r q
    rw [e] at this
    unfold tr at this
    rw [if_pos rfl] at this
    exact hne this
  have h1 := cj_rk h o1 hr
  have t2 : tr 2 (tr 1 r q) 1 = 1 := by
    revert q1
    generalize tr 1 r q = z
    intro q1
    unfold tr
    rw [if_neg (by decide), if_neg fun e => q1 e.symm]
  have t3 : tr 2 (tr 1 r q) (tr 1 r q) = 2 := by
    generalize tr 1 r q = z
    unfold tr
    split <;> simp_all
  have h2 := cj_rk h1 o2 hq1
  have hsw1 := sw_rk h hr hq
  have hsw2 := cj_rk hsw1 o1 hr
  have e1 := cj_per hsw1 o1 hr
  have e2 := cj_per hsw2 o2 hq1
  rw [cj_sw h o1 hr hr hq, t1] at e2
  rw [cj_sw h1 o2 hq1 o1 hq1, t2, t3] at e2
  rw [cj_sw h o1 hr hr hq, t1] at e1
  have e3 := cj_per h o1 hr
  have e4 := cj_per h1 o2 hq1
  have hx : nxt (cj 2 (tr 1 r q) (cj 1 r s)) 2 = 1 := by
    have d1 : tr 2 (tr 1 r q) 2 = tr 1 r q := by
      generalize tr 1 r q = z
      unfold tr
      rw [if_pos rfl]
    have e5 : nxt (cj 2 (tr 1 r q) (cj 1 r s)) 2 = tr 2 (tr 1 r q) (nxt (cj 1 r s) (tr 2 (tr 1 r q) 2)) := by
      conv => lhs; unfold cj
      have := h1.len
      unfold cj at this
      rw [this, nxt_mk _ o2]
      rfl
    have e6 : nxt (cj 1 r s) (tr 1 r q) = tr 1 r (nxt s (tr 1 r (tr 1 r q))) := by
      unfold cj
      rw [h.len, nxt_mk _ hq1]
    rw [e5, d1, e6, tr_tr, hs, t1, t2]
  have := chkS_all h2 hn hx
  omega
/-! exchanges of two places -/
def swp (i j : Nat) (a : List Int) : List Int := (a.set i (gt a j)).set j (gt a i)
theorem swp_map {n : Nat} {a : List Int} {i j : Nat} (h : Rk n a) (hi : i < n) (hj : j < n) : swp i j a = a.map (tr (gt a i) (gt a j)) := by
  have hl := h.len
  unfold swp
  refine gt_ext (by rw [List.length_set, List.length_set, List.length_map]) fun k hk => ?_
  rw [List.length_set, List.length_set] at hk
  rw [gt_set _ _ _ _ (by rw [List.length_set]; omega), gt_set _ _ _ _ (by omega), gt_mapf hk]
  unfold tr
  by_cases e1 : k = j
  · subst e1
    rw [if_pos rfl]
    split
    · rename_i e
      exact e.symm
    · rw [if_pos rfl]
  · rw [if_neg e1]
    by_cases e2 : k = i
    · subst e2
      rw [if_pos rfl, if_pos rfl]
    · rw [if_neg e2, if_neg fun e => h.ne (by omega) hi e2 e, if_neg fun e => h.ne (by omega) hj e1 e]
theorem gt_rg {n : Nat} {a : List Int} (h : Rk n a) {i : Nat} (hi : i < n) : 1 ≤ gt a i ∧ gt a i ≤ n := h.mem.mp (gt_mem (by rw [h.len]; exact hi))
theorem swp_rk {n : Nat} {a : List Int} {i j : Nat} (h : Rk n a) (hi : i < n) (hj : j < n) : Rk n (swp i j a) := by
  rw [swp_map h hi hj]
  exact ⟨(h.p.map _).trans (tr_perm (gt_rg h hi) (gt_rg h hj)), h.lo, h.hi⟩
theorem nxt_seen {n : Nat} {a b : List Int} (h : Rk n a) {x : Int} (hx : 1 ≤ x ∧ x ≤ n) : nxt (seenL a b) x = gt b (a.idxOf x) := by
  unfold seenL
  rw [h.len, nxt_mk _ hx]
theorem swp_seen {n : Nat} {a b : List Int} {i j : Nat} (h : Rk n a) (hi : i < n) (hj : j < n) : seenL (swp i j a) b = sw (gt a i) (gt a j) (seenL a b) := by
  have h' := swp_rk h hi hj
  have hl := seenL_len a b
  rw [h.len] at hl
  unfold sw
  rw [hl]
  conv => lhs; unfold seenL
  rw [h'.len]
  refine List.map_congr_left fun x hx => ?_
  have hx := mem_ups.mp hx
  have hy := tr_rg (gt_rg h hi) (gt_rg h hj) hx
  have hm : tr (gt a i) (gt a j) x ∈ a := h.mem.mpr hy
  have hk := List.idxOf_lt_length_iff.mpr hm
  rw [nxt_seen h hy]
  congr 1
  have e : gt (swp i j a) (a.idxOf (tr (gt a i) (gt a j) x)) = x := by
    rw [swp_map h hi hj, gt_mapf hk, gt_idx hm, tr_tr]
  have := idx_gt h'.nodup (i := a.idxOf (tr (gt a i) (gt a j) x)) (by rw [h'.len]; have := h.len; omega)
  rw [e] at this
  exact this
/-- places exchanged, in turn -/
def aft (a : List Int) (w : List (Nat × Nat)) : List Int := w.foldl (fun now p => swp p.1 p.2 now) a
def xwG (b : List Int) : List Nat → List Int → List (Nat × Nat) → List Int × List (Nat × Nat)
  | [], now, w => (now, w)
  | p :: ps, now, w => if gt now p = gt b p then xwG b ps now w else xwG b ps (swp p (now.idxOf (gt b p)) now) (w ++ [(p, now.idxOf (gt b p))])
theorem xwG_ok {n : Nat} {a b : List Int} (g : Rk n b) : ∀ (ps : List Nat) (k : Nat) (now : List Int) (w : List (Nat × Nat)), ps = List.range' k (n - k) → k ≤ n → Rk n now → (∀ j, j < k → gt now j = gt b j) → now = aft a w → (∀ p ∈ w, p.1 < n ∧ p.2 < n) →
    perC (seenL now b) = perC (seenL a b) + 420 * (w.length : Int) → (xwG b ps now w).1 = b ∧ b = aft a (xwG b ps now w).2 ∧ (∀ p ∈ (xwG b ps now w).2, p.1 < n ∧ p.2 < n) ∧ perC (seenL b b) = perC (seenL a b) + 420 * ((xwG b ps now w).2.length : Int)
  | [], k, now, w, e, hk, hr, hd, ha, hw, hp => by
    have hkn : k = n := by
      have := congrArg List.length e
      rw [List.length_nil, List.length_range'] at this
      omega
    have : now = b := gt_ext (by rw [hr.len, g.len]) fun i hi => hd i (by rw [hr.len] at hi; omega)
    subst this
    exact ⟨rfl, ha, hw, hp⟩
  | p :: ps, k, now, w, e, hk, hr, hd, ha, hw, hp => by
    have hlen := congrArg List.length e
    rw [List.length_cons, List.length_range'] at hlen
    have hkn : k < n := by omega
    have e2 : n - k = (n - (k + 1)) + 1 := by omega
    rw [e2, List.range'_succ] at e
    injection e with e1 e3
    subst e1
    have hnl := hr.len
    have hbl := g.len
    rw [xwG]
    by_cases hc : gt now p = gt b p
    · rw [if_pos hc]
      refine xwG_ok g ps (p + 1) now w e3 hkn hr (fun j hj => ?_) ha hw hp
      by_cases h : j = p
      · rw [h]
        exact hc
      · exact hd j (by omega)
    · rw [if_neg hc]
      have hm : gt b p ∈ now := hr.mem.mpr (gt_rg g hkn)
      have hf := List.idxOf_lt_length_iff.mpr hm
      have hgf := gt_idx hm
      generalize now.idxOf (gt b p) = f at hf hgf ⊢
      have hfn : f < n := by omega
      have hfp : p < f := by
        by_cases h1 : f = p
        · rw [h1] at hgf
          exact absurd hgf hc
        · by_cases h2 : f < p
          · have := hd f h2
            rw [hgf] at this
            exact absurd this (g.ne hkn hfn (by omega))
          · omega
      have hs : nxt (seenL now b) (gt now p) = gt now f := by
        rw [nxt_seen hr (gt_rg hr hkn), idx_gt hr.nodup (by omega), hgf]
      have hx := sw_fix (seenL_rk hr g) (gt_rg hr hfn) (gt_rg hr hkn) (hr.ne hfn hkn (by omega)) hs
      have hsw : swp p f now = swp f p now := by
        rw [swp_map hr hkn hfn, swp_map hr hfn hkn]
        refine List.map_congr_left fun x _ => ?_
        unfold tr
        split <;> split <;> simp_all
      refine xwG_ok g ps (p + 1) _ _ e3 hkn (swp_rk hr hkn hfn) (fun j hj => ?_) ?_ (fun q hq => ?_) ?_
      · unfold swp
        rw [gt_set _ _ _ _ (by rw [List.length_set]; omega), gt_set _ _ _ _ (by omega), if_neg (by omega)]
        by_cases h : j = p
        · rw [if_pos h, hgf, h]
        · rw [if_neg h]
          exact hd j (by omega)
      · unfold aft
        rw [List.foldl_append]
        show _ = swp p f (aft a w)
        rw [← ha]
      · rcases List.mem_append.mp hq with hq | hq
        · exact hw q hq
        · rw [List.mem_singleton.mp hq]
          exact ⟨hkn, hfn⟩
      · rw [hsw, swp_seen hr hfn hkn, hx, hp, List.length_append, List.length_singleton]
        omega
def xwL (n : Nat) (a b : List Int) : List (Nat × Nat) := (xwG b (List.range n) a []).2
theorem xwL_ok {n : Nat} {a b : List Int} (h : Rk n a) (g : Rk n b) : aft a (xwL n a b) = b ∧ (∀ p ∈ xwL n a b, p.1 < n ∧ p.2 < n) ∧ perC (seenL b b) = perC (seenL a b) + 420 * ((xwL n a b).length : Int) := by
  have := xwG_ok (a := a) g (List.range n) 0 a [] (by rw [List.range_eq_range']; rfl) (Nat.zero_le _) h (fun j hj => absurd hj (Nat.not_lt_zero _)) rfl (fun p hp => by cases hp) (by simp)
  exact ⟨this.2.1.symm, this.2.2.1, this.2.2.2⟩
/-! periods of one order -/
theorem perF_ge (s : List Int) (x : Int) : ∀ (m : Nat) (y : Int) (j : Nat), j ≤ perF s x m y j
  | 0, _, _ => Nat.le_refl _
  | m + 1, y, j => by
    rw [perF]
    split
    · exact Nat.le_refl _
    · have := perF_ge s x m (nxt s y) (j + 1)
      omega
theorem per_one {s : List Int} {x : Int} (h : nxt s x = x) : perF s x 8 x 1 = 1 := by
  rw [perF, if_pos h]
theorem per_two {s : List Int} {x : Int} (h : nxt s x ≠ x) : 2 ≤ perF s x 8 x 1 := by
  rw [perF, if_neg h]
  exact perF_ge s x 7 _ 2
theorem sum_le {α : Type} (f : α → Int) : ∀ (l : List α), (∀ x ∈ l, f x ≤ 420) → (l.map f).sum ≤ 420 * (l.length : Int)
  | [], _ => by simp
  | x :: l, h => by
    have h1 := h x (List.mem_cons_self ..)
    have h2 := sum_le f l fun y hy => h y (List.mem_cons_of_mem _ hy)
    rw [List.map_cons, List.sum_cons, List.length_cons]
    omega
theorem sum_lt {α : Type} (f : α → Int) : ∀ (l : List α), (∀ x ∈ l, f x ≤ 420) → (∃ x ∈ l, f x ≤ 210) → (l.map f).sum ≤ 420 * (l.length : Int) - 210
  | [], _, ⟨x, hx, _⟩ => by cases hx
  | x :: l, h, ⟨y, hy, hf⟩ => by
    have h1 := h x (List.mem_cons_self ..)
    have h0 := fun y hy => h y (List.mem_cons_of_mem _ hy)
    rw [List.map_cons, List.sum_cons, List.length_cons]
    rcases List.mem_cons.mp hy with e | hy
    · subst e
      have := sum_le f l h0
      omega
    · have := sum_lt f l h0 ⟨y, hy, hf⟩
      omega
theorem per_le (s : List Int) (x : Int) : ((420 / perF s x 8 x 1 : Nat) : Int) ≤ 420 := by
  have : 420 / perF s x 8 x 1 ≤ 420 := Nat.div_le_self _ _
  omega
theorem perC_ups (n : Nat) : perC (ups n) = 420 * (n : Int) := by
  unfold perC
  rw [ups_len]
  have : (ups n).map (fun x => ((420 / perF (ups n) x 8 x 1 : Nat) : Int)) = (ups n).map fun _ => (420 : Int) := List.map_congr_left fun x hx => by
    have hx := mem_ups.mp hx
    have h1 : nxt (ups n) x = x := by
      have := nxt_mk (n := n) id hx
      rw [List.map_id] at this
      exact this
    rw [per_one h1]
    rfl
  rw [this]
  have : ∀ l : List Int, (l.map fun _ => (420 : Int)).sum = 420 * (l.length : Int) := by
    intro l
    induction l with
    | nil => rfl
    | cons x l ih =>
      rw [List.map_cons, List.sum_cons, ih, List.length_cons]
      omega
  rw [this, ups_len]
theorem perC_le {n : Nat} {s : List Int} (h : Rk n s) : perC s ≤ 420 * (n : Int) := by
  have := sum_le (fun x => ((420 / perF s x 8 x 1 : Nat) : Int)) (ups s.length) fun x _ => per_le s x
  rw [ups_len, h.len] at this
  unfold perC
  rw [h.len]
  exact this
theorem perC_lt {n : Nat} {s : List Int} (h : Rk n s) (hne : s ≠ ups n) : perC s ≤ 420 * (n : Int) - 210 := by
  have hx : ∃ x ∈ ups n, nxt s x ≠ x := by
    apply Classical.byContradiction
    intro hc
    refine hne ?_
    have : (ups n).map (nxt s) = (ups n).map id := List.map_congr_left fun x hx => Classical.byContradiction fun z => hc ⟨x, hx, z⟩
    rw [mk_nxt h.len, List.map_id] at this
    exact this
  obtain ⟨x, hx, hn⟩ := hx
  have := sum_lt (fun x => ((420 / perF s x 8 x 1 : Nat) : Int)) (ups s.length) (fun x _ => per_le s x) ⟨x, by rw [h.len]; exact hx, by
    have h2 := per_two hn
    have : 420 / perF s x 8 x 1 ≤ 420 / 2 := Nat.div_le_div_left h2 (by decide)
    show ((420 / perF s x 8 x 1 : Nat) : Int) ≤ 210
    omega⟩
  rw [ups_len, h.len] at this
  unfold perC
  rw [h.len]
  exact this
theorem seen_self {n : Nat} {a : List Int} (h : Rk n a) : seenL a a = ups n := by
  unfold seenL
  rw [h.len]
  conv => rhs; rw [← List.map_id (ups n)]
  exact List.map_congr_left fun x hx => gt_idx (h.p.mem_iff.mpr hx)
theorem seen_eq {n : Nat} {a b : List Int} (h : Rk n a) (g : Rk n b) (e : seenL a b = ups n) : a = b := by
  refine gt_ext (by rw [h.len, g.len]) fun i hi => ?_
  rw [h.len] at hi
  have h1 := nxt_seen (b := b) h (gt_rg h hi)
  rw [idx_gt h.nodup (by rw [h.len]; exact hi), e] at h1
  have h2 := nxt_mk (n := n) id (gt_rg h hi)
  rw [List.map_id] at h2
  exact h2.symm.trans h1
end Ag


namespace Ag
open PySem L2

/-! ### fewer exchanges never do -/
section
variable {n : Nat} {s : List Int} {lam : Int → Nat}
theorem folC_lab (h : Rk n s) (hl : ∀ x : Int, 1 ≤ x → x ≤ n → lam (nxt s x) = lam x) {first : Int} {L : Nat} : ∀ (m : Nat) (cyc : List Int) (x : Int) (c : List Int), folC s first m cyc x = some c → 1 ≤ x → x ≤ n → lam x = L → (∀ y ∈ cyc, lam y = L) → (∀ y ∈ cyc, y ∈ c) ∧ ∀ y ∈ c, lam y = L
  | 0, _, _, _, e, _, _, _, _ => by cases e
  | m + 1, cyc, x, c, e, h1, h2, hx, hc => by
    rw [folC] at e
    split at e
    · cases e
      exact ⟨fun y hy => hy, hc⟩
    · have hr := nxt_rg h h1 h2
      have hn := hl x h1 h2
      obtain ⟨g1, g2⟩ := folC_lab h hl m (cyc ++ [nxt s x]) (nxt s x) c e hr.1 hr.2 (hn.trans hx) (fun y hy => by
        rcases List.mem_append.mp hy with hy | hy
        · exact hc y hy
        · rw [List.mem_singleton.mp hy]
          exact hn.trans hx)
      exact ⟨fun y hy => g1 y (List.mem_append_left _ hy), g2⟩
theorem cycG_lab (h : Rk n s) (hl : ∀ x : Int, 1 ≤ x → x ≤ n → lam (nxt s x) = lam x) : ∀ (fs : List Int) (found : List (List Int)) (known : List Int) (C : List (List Int)), (∀ f ∈ fs, 1 ≤ f ∧ f ≤ n) → cycG s fs found known = some C → (∀ y ∈ known, ∃ c ∈ found, y ∈ c) → (∀ c ∈ found, ∃ m, ∀ y ∈ c, lam y = m) →
    (∀ c ∈ found, c ∈ C) ∧ (∀ f ∈ fs, ∃ c ∈ C, f ∈ c) ∧ ∀ c ∈ C, ∃ m, ∀ y ∈ c, lam y = m
  | [], found, known, C, _, e, _, hm => by
    cases e
    exact ⟨fun c hc => hc, fun f hf => absurd hf (List.not_mem_nil), hm⟩
  | f :: r, found, known, C, hf, e, hk, hm => by
    have hff := hf f (List.mem_cons_self ..)
    have hr := fun g hg => hf g (List.mem_cons_of_mem _ hg)
    rw [cycG] at e
    by_cases hkn : f ∈ known
    · rw [if_pos hkn] at e
      obtain ⟨g1, g2, g3⟩ := cycG_lab h hl r found known C hr e hk hm
      refine ⟨g1, fun g hg => ?_, g3⟩
      rcases List.mem_cons.mp hg with e | hg
      · subst e
        obtain ⟨c, hc, hgc⟩ := hk g hkn
        exact ⟨c, g1 c hc, hgc⟩
      · exact g2 g hg
    · rw [if_neg hkn] at e
      cases hc : folC s f 1000 [f] f with
      | none =>
        rw [hc] at e
        cases e
      | some c =>
        rw [hc] at e
        obtain ⟨k1, k2⟩ := folC_lab h hl 1000 [f] f c hc hff.1 hff.2 rfl (fun y hy => by rw [List.mem_singleton.mp hy])
        obtain ⟨g1, g2, g3⟩ := cycG_lab h hl r (found ++ [c]) (known ++ c) C hr e (fun y hy => by
          rcases List.mem_append.mp hy with hy | hy
          · obtain ⟨c', hc', hy'⟩ := hk y hy
            exact ⟨c', List.mem_append_left _ hc', hy'⟩
          · exact ⟨c, by simp, hy⟩) (fun c' hc' => by
          rcases List.mem_append.mp hc' with hc' | hc'
          · exact hm c' hc'
          · rw [List.mem_singleton.mp hc']
            exact ⟨lam f, k2⟩)
        refine ⟨fun c' hc' => g1 c' (List.mem_append_left _ hc'), fun g hg => ?_, g3⟩
        rcases List.mem_cons.mp hg with e | hg
        · subst e
          exact ⟨c, g1 c (by simp), k1 g (by simp)⟩
        · exact g2 g hg
theorem cyc_lab (h : Rk n s) (hl : ∀ x : Int, 1 ≤ x → x ≤ n → lam (nxt s x) = lam x) {C : List (List Int)} (e : cycL s = some C) {M : List Nat} (hM : M.Nodup) (hx : ∀ m ∈ M, ∃ x : Int, (1 ≤ x ∧ x ≤ n) ∧ lam x = m) : M.length ≤ C.length := by
  unfold cycL at e
  rw [h.len] at e
  obtain ⟨_, g2, g3⟩ := cycG_lab h hl (ups n) [] [] C (fun f hf => mem_ups.mp hf) e (fun y hy => by cases hy) (fun c hc => by cases hc)
  have := nodup_sub_len M (C.map fun c => match c with
    | [] => 0
    | y :: _ => lam y) hM fun m hm => by
      obtain ⟨x, hx, rfl⟩ := hx m hm
      obtain ⟨c, hc, hxc⟩ := g2 x (mem_ups.mpr hx)
      obtain ⟨m', hm'⟩ := g3 c hc
      refine List.mem_map.mpr ⟨c, hc, ?_⟩
      cases c with
      | nil => cases hxc
      | cons y c =>
        show lam y = lam x
        rw [hm' y (List.mem_cons_self ..), hm' x hxc]
  rw [List.length_map] at this
  exact this
end
/-- classes of places after exchanges: each value lies in its class -/
theorem aft_lab {n : Nat} {a : List Int} (h : Rk n a) : ∀ (w : List (Nat × Nat)), (∀ p ∈ w, p.1 < n ∧ p.2 < n) → ∃ lab : Nat → Nat, (∀ x, x < n → ∃ y, y < n ∧ lab y = lab x ∧ gt (aft a w) x = gt a y) ∧ ∃ M : List Nat, M.Nodup ∧ (∀ m ∈ M, ∃ x, x < n ∧ lab x = m) ∧ n ≤ M.length + w.length := by
  intro w
  rcases snoc_cases w with rfl | ⟨w, p, rfl⟩
  · intro _
    exact ⟨id, fun x hx => ⟨x, hx, rfl, rfl⟩, List.range n, List.nodup_range, fun m hm => ⟨m, List.mem_range.mp hm, rfl⟩, by simp⟩
  · intro hw
    obtain ⟨lab, h1, M, h2, h3, h4⟩ := aft_lab h w fun q hq => hw q (List.mem_append_left _ hq)
    have hp := hw p (by simp)
    have hlen : ∀ w : List (Nat × Nat), (aft a w).length = n := by
      intro w
      have : ∀ (w : List (Nat × Nat)) (l : List Int), (aft l w).length = l.length := by
        intro w
        induction w with
        | nil => intro l; rfl
        | cons q w ih =>
          intro l
          show (aft (swp q.1 q.2 l) w).length = _
          rw [ih]
          unfold swp
          rw [List.length_set, List.length_set]
      rw [this, h.len]
    have ha : aft a (w ++ [p]) = swp p.1 p.2 (aft a w) := by
      unfold aft
      rw [List.foldl_append]
      rfl
    have hl := hlen w
    refine ⟨fun x => if lab x = lab p.1 then lab p.2 else lab x, fun x hx => ?_, M.erase (lab p.1), h2.erase _, fun m hm => ?_, ?_⟩
    · rw [ha]
      unfold swp
      rw [gt_set _ _ _ _ (by rw [List.length_set]; omega), gt_set _ _ _ _ (by omega)]
      by_cases e1 : x = p.2
      · rw [if_pos e1]
        obtain ⟨y, y1, y2, y3⟩ := h1 p.1 hp.1
        refine ⟨y, y1, ?_, y3⟩
        subst e1
        dsimp only
        rw [if_pos y2]
        split <;> rfl
      · rw [if_neg e1]
        by_cases e2 : x = p.1
        · rw [if_pos e2]
          obtain ⟨y, y1, y2, y3⟩ := h1 p.2 hp.2
          refine ⟨y, y1, ?_, y3⟩
          subst e2
          dsimp only
          rw [if_pos rfl, y2]
          split <;> rfl
        · rw [if_neg e2]
          obtain ⟨y, y1, y2, y3⟩ := h1 x hx
          exact ⟨y, y1, by dsimp only; rw [y2], y3⟩
    · have hm' := (List.Nodup.mem_erase_iff h2).mp hm
      obtain ⟨x, x1, x2⟩ := h3 m hm'.2
      exact ⟨x, x1, by show (if lab x = lab p.1 then lab p.2 else lab x) = m; rw [if_neg (by rw [x2]; exact hm'.1)]; exact x2⟩
    · have : M.length - 1 ≤ (M.erase (lab p.1)).length := by
        rw [List.length_erase]
        split <;> omega
      rw [List.length_append, List.length_singleton]
      omega
termination_by w => w.length
decreasing_by
  subst_vars
  simp
theorem ways_ge {n : Nat} {a b : List Int} (h : Rk n a) (g : Rk n b) {C : List (List Int)} (e : cycL (seenL a b) = some C) {w : List (Nat × Nat)} (hw : ∀ p ∈ w, p.1 < n ∧ p.2 < n) (hb : aft a w = b) : n ≤ C.length + w.length := by
  obtain ⟨lab, h1, M, h2, h3, h4⟩ := aft_lab h w hw
  rw [hb] at h1
  have := cyc_lab (lam := fun x => lab (a.idxOf x)) (seenL_rk h g) (fun x x1 x2 => by
    have hm := h.mem.mpr ⟨x1, x2⟩
    have hi := List.idxOf_lt_length_iff.mpr hm
    rw [h.len] at hi
    obtain ⟨y, y1, y2, y3⟩ := h1 _ hi
    rw [nxt_seen h ⟨x1, x2⟩, y3, idx_gt h.nodup (by rw [h.len]; exact y1)]
    exact y2) e h2 fun m hm => by
      obtain ⟨x, x1, x2⟩ := h3 m hm
      refine ⟨gt a x, gt_rg h x1, ?_⟩
      show lab (a.idxOf (gt a x)) = m
      rw [idx_gt h.nodup (by rw [h.len]; exact x1)]
      exact x2
  omega
end Ag


namespace Ag
open PySem L2

/-! ### exchanges of neighbours -/
def bst (p : List Int × List Int) (k : Nat) : List Int × List Int := if gt p.1 (k + 1) < gt p.1 k then (swp k (k + 1) p.1, p.2 ++ [((k : Nat) : Int) + 1]) else p
def bub1 (n : Nat) (p : List Int × List Int) : List Int × List Int := (List.range (n - 1)).foldl bst p
def bubK (n : Nat) (s : List Int) (t : Nat) : List Int × List Int := (List.range t).foldl (fun p _ => bub1 n p) (s, [])
def nbs (a w : List Int) : List Int := w.foldl (fun now r => now.map (tr r (r + 1))) a
theorem gt_swp {o : List Int} {i j : Nat} (hi : i < o.length) (hj : j < o.length) (k : Nat) : gt (swp i j o) k = if k = j then gt o i else if k = i then gt o j else gt o k := by
  unfold swp
  rw [gt_set _ _ _ _ (by rw [List.length_set]; exact hj), gt_set _ _ _ _ hi]
theorem sw_swp {n : Nat} {s : List Int} {k : Nat} (h : Rk n s) (hk : k + 1 < n) : sw ((k : Int) + 1) ((k : Int) + 1 + 1) s = swp k (k + 1) s := by
  have hl := h.len
  refine gt_ext (by unfold sw swp; rw [List.length_map, ups_len, List.length_set, List.length_set]) fun i hi => ?_
  unfold sw at hi ⊢
  rw [List.length_map, ups_len, hl] at hi
  rw [gt_swp (by omega) (by omega), hl]
  unfold ups
  rw [List.map_map, gt_map_range _ hi]
  show nxt s (tr ((k : Int) + 1) ((k : Int) + 1 + 1) ((i + 1 : Nat) : Int)) = _
  unfold tr nxt
  by_cases h1 : i = k + 1
  · rw [if_neg (by omega), if_pos (by omega), if_pos h1]
    congr 1
    omega
  · by_cases h2 : i = k
    · rw [if_pos (by omega), if_neg h1, if_pos h2]
      congr 1
      omega
    · rw [if_neg (by omega), if_neg (by omega), if_neg h1, if_neg h2]
      congr 1
      omega
theorem map_seen {n : Nat} {a b : List Int} {r q : Int} (h : Rk n a) (hr : 1 ≤ r ∧ r ≤ n) (hq : 1 ≤ q ∧ q ≤ n) : Rk n (a.map (tr r q)) ∧ seenL (a.map (tr r q)) b = sw r q (seenL a b) := by
  have hi := List.idxOf_lt_length_iff.mpr (h.mem.mpr hr)
  have hj := List.idxOf_lt_length_iff.mpr (h.mem.mpr hq)
  have hl := h.len
  have e := swp_map h (i := a.idxOf r) (j := a.idxOf q) (by omega) (by omega)
  rw [gt_idx (h.mem.mpr hr), gt_idx (h.mem.mpr hq)] at e
  have e2 := swp_seen (b := b) h (i := a.idxOf r) (j := a.idxOf q) (by omega) (by omega)
  rw [gt_idx (h.mem.mpr hr), gt_idx (h.mem.mpr hq), e] at e2
  have e3 := swp_rk h (i := a.idxOf r) (j := a.idxOf q) (by omega) (by omega)
  rw [e] at e3
  exact ⟨e3, e2⟩
theorem enc_swap : ∀ (k : Nat) (o : List Int), k + 1 < o.length → gt o (k + 1) < gt o k → (enc (swp k (k + 1) o)).sum + 1 = (enc o).sum
  | 0, x :: y :: l, _, h => by
    have h : y < x := h
    have e : swp 0 1 (x :: y :: l) = y :: x :: l := rfl
    have h2 : ¬ (x < y) := by omega
    rw [e, enc, enc, enc, enc, List.sum_cons, List.sum_cons, List.sum_cons, List.sum_cons, List.filter_cons, List.filter_cons, decide_eq_true h, decide_eq_false h2]
    simp only [if_true, Bool.false_eq_true, if_false, List.length_cons]
    omega
  | k + 1, x :: l, hl, h => by
    have hl : k + 1 < l.length := by simpa using hl
    have h : gt l (k + 1) < gt l k := h
    have e : swp (k + 1) (k + 1 + 1) (x :: l) = x :: swp k (k + 1) l := rfl
    have ih := enc_swap k l hl h
    have hp : (swp k (k + 1) l).Perm l := by
      have : ∀ (k : Nat) (l : List Int), k + 1 < l.length → (swp k (k + 1) l).Perm l := by
        intro k
        induction k with
        | zero =>
          intro l hl
          match l, hl with
          | x :: y :: l, _ => exact List.Perm.swap x y l
        | succ k ih =>
          intro l hl
          match l, hl with
          | x :: l, hl => exact (ih l (by simpa using hl)).cons x
      exact this k l hl
    rw [e, enc, enc, List.sum_cons, List.sum_cons, (hp.filter _).length_eq]
    omega
  | 0, [], h, _ => by simp at h
  | 0, [_], h, _ => by simp at h
  | k + 1, [], h, _ => by simp at h
structure BI (n : Nat) (a b : List Int) (p : List Int × List Int) : Prop where
  rk : Rk n p.1
  ra : Rk n (nbs a p.2)
  se : seenL (nbs a p.2) b = p.1
  cn : (enc p.1).sum + (p.2.length : Int) = (enc (seenL a b)).sum
  wy : ∀ r ∈ p.2, 1 ≤ r ∧ r + 1 ≤ n
theorem bst_ok {n : Nat} {a b : List Int} {p : List Int × List Int} {k : Nat} (h : BI n a b p) (hk : k + 1 < n) : BI n a b (bst p k) := by
  unfold bst
  split
  · rename_i hc
    have hl := h.rk.len
    obtain ⟨m1, m2⟩ := map_seen (b := b) h.ra (r := (k : Int) + 1) (q := (k : Int) + 1 + 1) (by omega) (by omega)
    rw [h.se, sw_swp h.rk hk] at m2
    have hn : nbs a (p.2 ++ [((k : Nat) : Int) + 1]) = (nbs a p.2).map (tr ((k : Int) + 1) ((k : Int) + 1 + 1)) := by
      unfold nbs
      rw [List.foldl_append]
      rfl
    have he := enc_swap k p.1 (by omega) hc
    refine ⟨swp_rk h.rk (by omega) hk, by rw [hn]; exact m1, by rw [hn]; exact m2, ?_, fun r hr => ?_⟩
    · have := h.cn
      show (enc (swp k (k + 1) p.1)).sum + (((p.2 ++ [((k : Nat) : Int) + 1]).length : Nat) : Int) = _
      rw [List.length_append, List.length_singleton]
      omega
    · rcases List.mem_append.mp hr with hr | hr
      · exact h.wy r hr
      · rw [List.mem_singleton.mp hr]
        omega
  · exact h
/-- the last ones are in their places, and m is on its way there -/
structure BJ (n m k : Nat) (o : List Int) : Prop where
  rk : Rk n o
  sf : ∀ i, m ≤ i → i < n → gt o i = (i : Int) + 1
  at_ : ∃ i, min k (m - 1) ≤ i ∧ i < m ∧ gt o i = (m : Int)
theorem bst_J {n m k : Nat} {p : List Int × List Int} (h : BJ n m k p.1) (hm : 1 ≤ m) (hmn : m ≤ n) (hk : k + 1 < n) : BJ n m (k + 1) (bst p k).1 := by
  obtain ⟨i, h1, h2, h3⟩ := h.at_
  have hl := h.rk.len
  have hle : ∀ j, j < m → gt p.1 j ≤ (m : Int) := fun j hj => by
    apply Classical.byContradiction
    intro hc
    have hr := gt_rg h.rk (i := j) (by omega)
    have e := h.sf ((gt p.1 j).toNat - 1) (by omega) (by omega)
    have e2 : gt p.1 ((gt p.1 j).toNat - 1) = gt p.1 j := by rw [e]; omega
    exact h.rk.ne (i := (gt p.1 j).toNat - 1) (j := j) (by omega) (by omega) (by omega) e2
  by_cases hkm : k + 1 < m
  · unfold bst
    split
    · rename_i hc
      refine ⟨swp_rk h.rk (by omega) hk, fun j hj hjn => ?_, ?_⟩
      · show gt (swp k (k + 1) p.1) j = _
        rw [gt_swp (by omega) (by omega), if_neg (by omega), if_neg (by omega)]
        exact h.sf j hj hjn
      · by_cases hik : i = k
        · refine ⟨k + 1, by omega, hkm, ?_⟩
          show gt (swp k (k + 1) p.1) (k + 1) = _
          rw [gt_swp (by omega) (by omega), if_pos rfl, ← hik]
          exact h3
        · have hik1 : i ≠ k + 1 := fun e => by
            rw [e] at h3
            rw [h3] at hc
            have := hle k (by omega)
            omega
          refine ⟨i, by omega, h2, ?_⟩
          show gt (swp k (k + 1) p.1) i = _
          rw [gt_swp (by omega) (by omega), if_neg hik1, if_neg hik]
          exact h3
    · rename_i hc
      refine ⟨h.rk, h.sf, i, ?_, h2, h3⟩
      have : i ≠ k := fun e => by
        rw [e] at h3
        have e2 := hle (k + 1) hkm
        have e3 := h.rk.ne (i := k) (j := k + 1) (by omega) hk (by omega)
        omega
      omega
  · have hi : i = m - 1 := by omega
    have hc : ¬ gt p.1 (k + 1) < gt p.1 k := by
      have e1 := h.sf (k + 1) (by omega) hk
      by_cases e : k = m - 1
      · have : gt p.1 k = (m : Int) := by rw [e, ← hi]; exact h3
        omega
      · have := h.sf k (by omega) (by omega)
        omega
    unfold bst
    rw [if_neg hc]
    exact ⟨h.rk, h.sf, i, by omega, h2, h3⟩
theorem bub1_J {n m : Nat} {a b : List Int} {p : List Int × List Int} (hm : 1 ≤ m) (hmn : m ≤ n) (hB : BI n a b p) (hs : ∀ i, m ≤ i → i < n → gt p.1 i = (i : Int) + 1) : BI n a b (bub1 n p) ∧ ∀ i, m - 1 ≤ i → i < n → gt (bub1 n p).1 i = (i : Int) + 1 := by
  have hl := hB.rk.len
  have h0 : BJ n m 0 p.1 := by
    refine ⟨hB.rk, hs, ?_⟩
    have hmem : (m : Int) ∈ p.1 := hB.rk.mem.mpr (by omega)
    refine ⟨p.1.idxOf (m : Int), by omega, ?_, gt_idx hmem⟩
    have hi := List.idxOf_lt_length_iff.mpr hmem
    apply Classical.byContradiction
    intro hc
    have := hs (p.1.idxOf (m : Int)) (by omega) (by omega)
    rw [gt_idx hmem] at this
    omega
  have hgo : ∀ t, t ≤ n - 1 → BI n a b ((List.range t).foldl bst p) ∧ BJ n m t ((List.range t).foldl bst p).1 := by
    intro t
    induction t with
    | zero => exact fun _ => ⟨hB, h0⟩
    | succ t ih =>
      intro ht
      obtain ⟨i1, i2⟩ := ih (by omega)
      rw [List.range_succ, List.foldl_append]
      exact ⟨bst_ok i1 (by omega), bst_J i2 hm hmn (by omega)⟩
  obtain ⟨g1, g2⟩ := hgo (n - 1) (Nat.le_refl _)
  refine ⟨g1, fun i h1 h2 => ?_⟩
  obtain ⟨j, j1, j2, j3⟩ := g2.at_
  by_cases e : i = m - 1
  · have : j = i := by omega
    rw [this] at j3
    unfold bub1
    rw [j3]
    omega
  · exact g2.sf i (by omega) h2
theorem bub_ok {n : Nat} {a b : List Int} (h : Rk n a) (g : Rk n b) : (bubK n (seenL a b) n).1 = ups n ∧ nbs a (bubK n (seenL a b) n).2 = b ∧ ((bubK n (seenL a b) n).2.length : Int) = (enc (seenL a b)).sum ∧ ∀ r ∈ (bubK n (seenL a b) n).2, 1 ≤ r ∧ r + 1 ≤ n := by
  have hgo : ∀ t, t ≤ n → BI n a b (bubK n (seenL a b) t) ∧ ∀ i, n - t ≤ i → i < n → gt (bubK n (seenL a b) t).1 i = (i : Int) + 1 := by
    intro t
    induction t with
    | zero => exact fun _ => ⟨⟨seenL_rk h g, h, rfl, by show (enc (seenL a b)).sum + ((0 : Nat) : Int) = (enc (seenL a b)).sum; omega, fun r hr => by cases hr⟩, fun i h1 h2 => by omega⟩
    | succ t ih =>
      intro ht
      obtain ⟨i1, i2⟩ := ih (by omega)
      unfold bubK at i1 i2 ⊢
      rw [List.range_succ, List.foldl_append]
      have := bub1_J (m := n - t) (by omega) (by omega) i1 i2
      refine ⟨this.1, fun i h1 h2 => this.2 i (by omega) h2⟩
  obtain ⟨g1, g2⟩ := hgo n (Nat.le_refl _)
  have e : (bubK n (seenL a b) n).1 = ups n := gt_ext (by rw [g1.rk.len, ups_len]) fun i hi => by
    rw [g1.rk.len] at hi
    rw [g2 i (by omega) hi]
    unfold ups
    rw [gt_map_range _ hi]
    omega
  refine ⟨e, seen_eq g1.ra g (g1.se.trans e), ?_, g1.wy⟩
  have := g1.cn
  rw [e] at this
  have hz : ∀ l : List Int, Srt l → (enc l).sum = 0 := by
    intro l
    induction l with
    | nil => intro _; rfl
    | cons x l ih =>
      intro hs
      obtain ⟨h1, h2⟩ := List.pairwise_cons.mp hs
      rw [enc, List.sum_cons, ih h2]
      have : (l.filter fun y => decide (y < x)) = [] := List.filter_eq_nil_iff.mpr fun y hy => by
        have := h1 y hy
        simp
        omega
      rw [this]
      rfl
  rw [hz _ (ups_srt n)] at this
  omega
/-- exchanged twice, back again -/
theorem nbs_back {n : Nat} : ∀ (w : List Int) (a : List Int), nbs (nbs a w) w.reverse = a := by
  intro w
  induction w with
  | nil => intro a; rfl
  | cons r w ih =>
    intro a
    have e1 : nbs a (r :: w) = nbs (a.map (tr r (r + 1))) w := rfl
    have e2 : ∀ l : List Int, nbs l (w.reverse ++ [r]) = (nbs l w.reverse).map (tr r (r + 1)) := fun l => by
      unfold nbs
      rw [List.foldl_append]
      rfl
    rw [List.reverse_cons, e2, e1, ih, List.map_map]
    have : (tr r (r + 1) ∘ tr r (r + 1)) = id := funext fun x => tr_tr r (r + 1) x
    rw [this, List.map_id]
end Ag


namespace Ag
open PySem L2
/-! ### one exchange of neighbours: what it does to the pairs against the goal -/
def xr (r : Int) (a : List Int) : List Int := a.map (tr r (r + 1))
def iv (n : Nat) (a b : List Int) : Nat := (agst n a b).length
theorem xr_len (r : Int) (a : List Int) : (xr r a).length = a.length := by unfold xr; rw [List.length_map]
theorem xr_rk {n : Nat} {a : List Int} {r : Int} (h : Rk n a) (h1 : 1 ≤ r) (h2 : r + 1 ≤ n) : Rk n (xr r a) := (map_seen (b := a) h (by omega) (by omega)).1
theorem xr_seen {n : Nat} {a b : List Int} {k : Nat} (h : Rk n a) (g : Rk n b) (hk : k + 1 < n) : seenL (xr ((k : Int) + 1) a) b = swp k (k + 1) (seenL a b) := by
  have m := (map_seen (b := b) h (r := (k : Int) + 1) (q := (k : Int) + 1 + 1) (by omega) (by omega)).2
  rw [sw_swp (seenL_rk h g) hk] at m
  exact m
theorem iv_enc {n : Nat} {a b : List Int} (h : Rk n a) (g : Rk n b) : ((iv n a b : Nat) : Int) = (enc (seenL a b)).sum := agst_enc h g
theorem iv_down {n : Nat} {a b : List Int} {k : Nat} (h : Rk n a) (g : Rk n b) (hk : k + 1 < n) (hc : gt (seenL a b) (k + 1) < gt (seenL a b) k) : iv n (xr ((k : Int) + 1) a) b + 1 = iv n a b := by
  have e1 := iv_enc (xr_rk (r := (k : Int) + 1) h (by omega) (by omega)) g
  have e2 := iv_enc h g
  rw [xr_seen h g hk] at e1
  have := enc_swap k (seenL a b) (by rw [(seenL_rk h g).len]; exact hk) hc
  omega
theorem iv_up {n : Nat} {a b : List Int} {k : Nat} (h : Rk n a) (g : Rk n b) (hk : k + 1 < n) (hc : ¬ gt (seenL a b) (k + 1) < gt (seenL a b) k) : iv n (xr ((k : Int) + 1) a) b = iv n a b + 1 := by
  have hs := seenL_rk h g
  have hl := hs.len
  have hx := xr_rk (r := (k : Int) + 1) h (by omega) (by omega)
  have e1 := iv_enc hx g
  have e2 := iv_enc h g
  have ex : xr ((k : Int) + 1) (xr ((k : Int) + 1) a) = a := by
    unfold xr
    rw [List.map_map]
    have : (tr ((k : Int) + 1) ((k : Int) + 1 + 1)) ∘ (tr ((k : Int) + 1) ((k : Int) + 1 + 1)) = id := by
      funext x
      exact tr_tr _ _ x
    rw [this, List.map_id]
  have e3 := xr_seen hx g hk
  rw [ex, xr_seen h g hk] at e3
  rw [xr_seen h g hk] at e1
  have hne := hs.ne (i := k) (j := k + 1) (by omega) hk (by omega)
  have hc2 : gt (swp k (k + 1) (seenL a b)) (k + 1) < gt (swp k (k + 1) (seenL a b)) k := by
    rw [gt_swp (by omega) (by omega), gt_swp (by omega) (by omega), if_pos rfl, if_neg (by omega), if_pos rfl]
    omega
  have := enc_swap k (swp k (k + 1) (seenL a b)) (by rw [(swp_rk hs (by omega) hk).len]; exact hk) hc2
  rw [← e3] at this
  omega
def usf (n : Nat) (a b : List Int) : List Nat := (List.range' 1 (n - 1)).filter fun k => decide (iv n (xr (k : Nat) a) b < iv n a b)
theorem mem_usf {n : Nat} {a b : List Int} {k : Nat} : k ∈ usf n a b ↔ 1 ≤ k ∧ k < 1 + (n - 1) ∧ iv n (xr (k : Nat) a) b < iv n a b := by
  unfold usf
  rw [List.mem_filter, List.mem_range'_1, decide_eq_true_eq, and_assoc]
theorem usf_down {n : Nat} {a b : List Int} {k : Nat} (h : Rk n a) (g : Rk n b) (hk : k ∈ usf n a b) : 1 ≤ k ∧ k + 1 ≤ n ∧ iv n (xr (k : Nat) a) b + 1 = iv n a b := by
  obtain ⟨h1, h2, h3⟩ := mem_usf.mp hk
  have hn := h.lo
  obtain ⟨j, rfl⟩ : ∃ j, k = j + 1 := ⟨k - 1, by omega⟩
  have ec : (((j + 1 : Nat) : Int)) = (j : Int) + 1 := by omega
  refine ⟨h1, by omega, ?_⟩
  rw [ec] at h3 ⊢
  by_cases hc : gt (seenL a b) (j + 1) < gt (seenL a b) j
  · exact iv_down h g (by omega) hc
  · have := iv_up h g (by omega) hc
    omega
theorem bub_id {n : Nat} {s : List Int} (h : ∀ k, k + 1 < n → ¬ gt s (k + 1) < gt s k) (t : Nat) : bubK n s t = (s, []) := by
  have h1 : ∀ m, m ≤ n - 1 → (List.range m).foldl bst (s, []) = (s, []) := by
    intro m
    induction m with
    | zero => intro _; rfl
    | succ m ih =>
      intro hm
      rw [List.range_succ, List.foldl_append, ih (by omega)]
      show bst (s, []) m = _
      unfold bst
      rw [if_neg (h m (by omega))]
  induction t with
  | zero => rfl
  | succ t ih =>
    unfold bubK at ih ⊢
    rw [List.range_succ, List.foldl_append, ih]
    exact h1 (n - 1) (Nat.le_refl _)
theorem usf_nil {n : Nat} {a b : List Int} (h : Rk n a) (g : Rk n b) : usf n a b = [] ↔ a = b := by
  constructor
  · intro e
    have hk : ∀ k, k + 1 < n → ¬ gt (seenL a b) (k + 1) < gt (seenL a b) k := fun k hk hc => by
      have hd := iv_down h g hk hc
      have : k + 1 ∈ usf n a b := mem_usf.mpr ⟨by omega, by omega, by
        have ec : (((k + 1 : Nat) : Int)) = (k : Int) + 1 := by omega
        rw [ec]
        omega⟩
      rw [e] at this
      cases this
    have := (bub_ok h g).2.1
    rw [bub_id hk] at this
    exact this
  · rintro rfl
    refine List.eq_nil_iff_forall_not_mem.mpr fun k hk => ?_
    have h3 := (mem_usf.mp hk).2.2
    unfold iv at h3
    rw [agst_self] at h3
    simp at h3
theorem iv_zero {n : Nat} {a b : List Int} (h : Rk n a) (g : Rk n b) (e : iv n a b = 0) : a = b := (usf_nil h g).mp (List.eq_nil_iff_forall_not_mem.mpr fun k hk => by
  have := (usf_down h g hk).2.2
  omega)
theorem iv_lt {n : Nat} {a b : List Int} (h : n ≤ 7) : iv n a b < 50 := by
  have h1 := prs_len n (ag a b) (by omega)
  have h2 : n * n ≤ 49 := Nat.mul_le_mul h h
  unfold iv agst
  omega
end Ag


namespace Ag
open PySem L2
def d_is_int : List D → Rs Rv := run 3
  (sRet (eAnd (eIsi "int" (eVarB 0)) (eAnd (eNot (eIsi "bool" (eVarB 0))) (eChain dLe dLe (eVarB 1) (eVarB 0) (eVarB 2)))))

def d_is_ranking : List D → Rs Rv := run 2
  (sSeq (sIf (bOr (bNot (asB (eIsi "list" (eVarB 0)))) (bNot (asB (eChain dLe dLe (eC (.int 1)) (eCB dLen (aCons (eVarB 0) aNil)) (eC (.int 7)))))) (sRet (eC (.bool false))) sNil)
  (sSeq (sIf (bNot (asB (eCB dAll (aCons (eFz (eLc (asL (eVarB 0)) (tgN 1) bYes (eCall 3 d_is_int (aCons (eVar 1) (aCons (eC (.int 1)) (aCons (eCB dLen (aCons (eVarB 0) aNil)) aNil)))) [1])) aNil)))) (sRet (eC (.bool false))) sNil)
  (sRet (eBin dEq (eFz (eCO dSorted (aCons (eVarB 0) aNil))) (eFz (eRg2 (eC (.int 1)) (eBin dAdd (eCB dLen (aCons (eVarB 0) aNil)) (eC (.int 1)))))))))

def d_check_ranking : List D → Rs Rv := run 1
  (sIf (bNot (asB (eCall 1 d_is_ranking (aCons (eVar 0) aNil)))) (sExc .rank) sNil)

def d_check_both : List D → Rs Rv := run 2
  (sSeq (sDrop (eCall 1 d_check_ranking (aCons (eVar 0) aNil)))
  (sSeq (sDrop (eCall 1 d_check_ranking (aCons (eVar 1) aNil)))
  (sIf (asB (eBin dNe (eCB dLen (aCons (eVarB 0) aNil)) (eCB dLen (aCons (eVarB 1) aNil)))) (sExc .rank) sNil)))

def d_against : List D → Rs Rv := run 5
  (sSeq (sSetO 2 (eLst aNil))
  (sSeq (sFor (eRg1 (eCB dLen (aCons (eVarB 0) aNil))) (tgN 3) (sFor (eRg2 (eBin dAdd (eVarB 3) (eC (.int 1))) (eCB dLen (aCons (eVarB 0) aNil))) (tgN 4) (sIf (asB (eBin dNe (eBin dLt (eBin dIx (eVarB 0) (eVarB 3)) (eBin dIx (eVarB 0) (eVarB 4))) (eBin dLt (eBin dIx (eVarB 1) (eVarB 3)) (eBin dIx (eVarB 1) (eVarB 4))))) (sApp 2 (eTup (aCons (eVar 3) (aCons (eVar 4) aNil)))) sNil)))
  (sRetV 2)))

def iniOk : List D → List D → Prop := okI (eCall 2 d_check_both (aCons (eVar 1) (aCons (eVar 2) aNil))) (eCO dList (aCons (eVarB 1) aNil)) (eCO dList (aCons (eVarB 2) aNil)) (eLst aNil)

def d_exchanged : List D → Rs Rv := run 3
  (sRetO (eLc (asL (eVarB 0)) (tgN 2) bYes (eIf (asB (eBin dEq (eVarB 2) (eVarB 1))) (eBin dAdd (eVarB 1) (eC (.int 1))) (eIf (asB (eBin dEq (eVarB 2) (eBin dAdd (eVarB 1) (eC (.int 1))))) (eVar 1) (eVar 2))) [2]))

def d_m_left (CS : Addr) : QF := runF 1
  (sRet (eCB dLen (aCons (eCall 2 d_against (aCons (eNow CS 0) (aCons (eGoal CS 0) aNil))) aNil)))

def d_m_exchange (CS : Addr) : QS := runX 2 CS (bNot (asB (eCall0 3 d_is_int (aCons (eVar 1) (aCons (eC (.int 1)) (aCons (eBin dSub (eCB dLen (aCons (eNow CS 0) aNil)) (eC (.int 1))) aNil)))))) .numb
  (sSeq (sNowW CS 0 (eCall0 2 d_exchanged (aCons (eNow CS 0) (aCons (eVar 1) aNil))))
  (sSeq (sDropM (mMadeA CS 0 (eVar 1)))
  (sRet (eMF CS 0 (d_m_left CS) 0 aNil))))

def d_m_ranking (CS : Addr) : QF := runF 1
  (sRetO (eCO dList (aCons (eNow CS 0) aNil)))

def d_m_useful (CS : Addr) : QF := runF 3
  (sSeq (sSetO 1 (eLst aNil))
  (sSeq (sFor (eRg2 (eC (.int 1)) (eCB dLen (aCons (eNow CS 0) aNil))) (tgN 2) (sIf (asB (eBin dLt (eCB dLen (aCons (eCall 2 d_against (aCons (eCall 2 d_exchanged (aCons (eNow CS 0) (aCons (eVar 2) aNil))) (aCons (eGoal CS 0) aNil))) aNil)) (eMF CS 0 (d_m_left CS) 0 aNil))) (sApp 1 (eVar 2)) sNil))
  (sRetV 1)))

def d_m_undo (CS : Addr) : QS := runX 2 CS (asB (eBin dEq (eMade CS 0) (eFz (eLst aNil)))) .noth
  (sSeq (sSetM 1 (mMadeP CS 0))
  (sSeq (sNowW CS 0 (eCall0 2 d_exchanged (aCons (eNow CS 0) (aCons (eVar 1) aNil))))
  (sRet (eVar 1))))

def d_m___len__ (CS : Addr) : QF := runF 1
  (sRet (eCB dLen (aCons (eMade CS 0) aNil)))




noncomputable def g__law_error (κ : Kp) : SF :=
  (sSeq (sSet 1 (eFz (eLst (aCons (eIsX 0 κ (fun k => sameEc k .rank)) (aCons (eIsX 0 κ (fun k => sameEc k .scor)) (aCons (eIsX 0 κ (fun k => sameEc k .numb)) aNil))))))
  (sSeq (sSet 1 (eBin dAdd (eVarB 1) (eFz (eLst (aCons (eIsX 0 κ (fun k => sameEc k .text)) (aCons (eIsX 0 κ (fun k => sameEc k .noth)) aNil))))))
  (sSeq (sIf (bOr (asB (eBin dNe (eMt dCountB (eVarB 1) (eC (.bool true))) (eC (.int 1)))) (bOr (bNot (asB (eIsX 0 κ (fun _ => true)))) (bNot (asB (eIsX 0 κ (fun _ => true)))))) (sRet (eC (.str "odd"))) sNil)
  (sRet (eBin dIx (eFz (eLst (aCons (eC (.str "ranking")) (aCons (eC (.str "scores")) (aCons (eC (.str "number")) (aCons (eC (.str "text")) (aCons (eC (.str "none")) aNil))))))) (eMt dIndex (eVarB 1) (eC (.bool true))))))))
theorem r_err (κ : Kp) (c : Ec) : ∃ env', g__law_error κ (.ob (ecN c) (exK κ c) :: List.replicate 1 .no) = .ret (.str (exKind c)) env' := by
  unfold g__law_error
  exact ⟨_, by
    simp (implicitDefEqProofs := false) only [run_eq, asQ_eq, asQK_list, asQK_tup, sFrz_eq', sFrzK_ow, sFrzK_fz, sFrzK_no, eRgD_eq, dAdd_q, dIs_true, dIs_false, runK_nx, runK_ret, runK_reto, runK_exc, sSeq_eq, seqK_nx, seqK_ret, seqK_reto, seqK_exc, sIf_eq, sSet_eq, sSetO_eq, setOK_ok, sFor_eq, sRet_eq, sRetO_eq, sRetV_eq, retVK_ow, retVK_fz, sRetN_eq, sDrop_eq, sExc_eq, sApp_eq, appJ_ow, sPut_eq, putK_ow, sPar_eq, parK_2, sNil_eq, sSetT_eq, sAug_eq, augK_fz, sAugL_eq, augLK_ow, sRem_eq, eVar_eq, varK_fz, eVarB_eq, varBK_fz, varBK_ow, eC_eq, eBin_eq, eChain_eq, chainK_bool, asB_eq, asBK_bool, bNot_eq, bAnd_eq, bOr_eq, bYes_eq, eNot_eq, eAnd_eq, eOr_eq, eIf_eq, eCB_eq, eCO_eq, eRg1_eq, rg1K_int, eRg2_eq, rg2K_int, eIsi_eq, isD_int, isD_bool, isD_list, isD_tup, isD_str, eCut_eq, cutK_list, eRev_eq, revK_list, eNeg_eq, negK_int, eTup_eq, tupK_ok, eLst_eq, lstK_ok, eFz_eq, eMt_eq, mtK_list, eLc_eq, eZip_eq, zipK_list, eEnum_eq, enumK_list, asL_eq, asLK_list, asT_eq, asTK_tup, tgN_eq, tgT_2, tgT_3, setE_nil, setE_cons, wipeE_nil, wipeE_cons, eCall_eq, callK_1, callK_2, callK_3, callK_4, eCallO_eq, callOK_1, callOK_2, callOK_3, rvO_o, rvD_d, rvD_o, eCatO_eq, eRepO_eq, repK_ok, aNil_eq, aCons_eq, oNo_eq, oYes_eq, oYK_int, mP_eq, mPT_eq, mPL_eq, mBin_eq, mAsB_eq, mAsBK_bool, mIf_eq, maNil_eq, maCons_eq, mTup_eq, mtupK_ok, sSetM_eq, sSetTM_eq, sIfM_eq, sParM_eq, parMK_2, sPar3M_eq, par3MK_3, so_val, noEx_val, ofO_some, rs_bind_val, rs_bind_exc, rs_bind_stk, rs_pure, List.map_cons, List.map_nil, List.length_cons, List.length_nil, List.length_map, List.length_set, List.replicate_succ, List.replicate_zero, List.cons_append, List.nil_append, List.getElem?_cons_zero, List.getElem?_cons_succ, List.set_cons_zero, List.set_cons_succ, List.zip_cons_cons, List.zip_nil_right, List.zip_nil_left, Nat.reduceAdd, Nat.reduceSub, Nat.reduceLT, Nat.reduceLeDiff, if_true, if_false, Bool.not_true, Bool.not_false, reduceCtorEq, and_true, true_and, LI, beq_self_eq_true, decide_true, decide_false, decide_eq_true_eq, Bool.false_eq_true, Bool.true_and, Bool.and_true, Bool.false_and, Bool.and_false, Bool.not_not, Bool.or_false, Bool.or_true, Bool.false_or, Bool.true_or, String.reduceBEq, dEq_LI, dNe_LI, dEq_int, dNe_int, dEq_bool, dNe_bool, dLt_int, dLe_int, dGt_int, dGe_int, dAdd_int, dSub_int, dLen_list, dLen_tup, dSum_LI, zipD_LI, eIsX_eq, isXK_ob, dAdd_list, errL_count, errL_index, errL_ix] <;> exact rfl⟩

def g__law_ranking : SF :=
  (sSeq (sSetO 2 (eRg2 (eC (.int 1)) (eBin dAdd (eVarB 1) (eC (.int 1)))))
  (sSeq (sSetO 3 (eLst aNil))
  (sSeq (sWhile (asB (eBin dNe (eVarB 2) (eFz (eLst aNil)))) (sSeq (sSetM 4 (mIf (mAsB (mBin dEq (mDraw 0 (mP (eC (.int 3)))) (mP (eC (.int 0))))) (mP (eBin dIx (eVarB 2) (eC (.int 0)))) (mPickV 0 2)))
  (sSeq (sRem 2 (eVarB 4))
  (sApp 3 (eVar 4)))) fuel)
  (sRetV 3))))

def d__law_against : List D → Rs Rv := run 5
  (sSeq (sSetO 2 (eLst aNil))
  (sSeq (sFor (eRg1 (eCB dLen (aCons (eVarB 0) aNil))) (tgN 3) (sFor (eRg2 (eBin dAdd (eVarB 3) (eC (.int 1))) (eCB dLen (aCons (eVarB 0) aNil))) (tgN 4) (sIf (asB (eBin dLt (eBin dMul (eBin dSub (eBin dIx (eVarB 0) (eVarB 3)) (eBin dIx (eVarB 0) (eVarB 4))) (eBin dSub (eBin dIx (eVarB 1) (eVarB 3)) (eBin dIx (eVarB 1) (eVarB 4)))) (eC (.int 0)))) (sApp 2 (eTup (aCons (eVar 3) (aCons (eVar 4) aNil)))) sNil)))
  (sRetV 2)))

noncomputable def d__law_call (κ : Kp) (CS : Addr) : QS := runS 6 CS
  (sSeq (sSet 3 (eC .none))
  (sSeq (sSet 4 (eC .none))
  (sSeq (sTryX 3 4 5 κ (mIfX (asB (eBin dEq (eVarB 1) (eC (.int 0)))) (mSoV CS 1 (d_m_exchange CS) 0 (aCons (eVar 2) aNil)) (mSoV CS 0 (d_m_undo CS) 0 aNil)))
  (sRet (eIf (bIsN 4) (eVar 3) (eErr 4 κ exKind))))))

def d__law_exchanged : List D → Rs Rv := run 3
  (sRetO (eLc (asL (eVarB 0)) (tgN 2) bYes (eIf (asB (eBin dEq (eVarB 2) (eVarB 1))) (eBin dAdd (eVarB 1) (eC (.int 1))) (eIf (asB (eBin dEq (eVarB 2) (eBin dAdd (eVarB 1) (eC (.int 1))))) (eVar 1) (eVar 2))) [2]))

noncomputable def g_law (κ : Kp) (CS : Addr) : SFF := fun a b =>
  (sSeq (sSetM 2 (mBin dAdd (mP (eC (.int 1))) (mDraw 1 (mP (eC (.int 7))))))
  (sSeq (sSetTM (tgT [3, 4]) (mTup (maCons (mRank g__law_ranking 3 1 (mP (eVar 2))) (maCons (mRank g__law_ranking 3 1 (mP (eVar 2))) maNil))))
  (sSeq (sNewP CS iniOk 5 6 (aCons (eVar 3) (aCons (eVar 4) aNil)) (eLst aNil) a b)
  (sSeq (sFor (eRg1 (eC (.int 12))) (tgN 7) (sSeq (sIfM (mAsB (mBin dGt (mDraw 1 (mP (eC (.int 4)))) (mP (eC (.int 0))))) (sSeq (sSetM 8 (mDraw 1 (mP (eBin dAdd (eVarB 2) (eC (.int 1))))))
  (sSeq (sSetM 9 (mSo CS 2 (d__law_call κ CS) 5 (maCons (mP (eC (.int 0))) (maCons (mP (eVar 8)) maNil))))
  (sIf (asB (eChain dLe dLt (eC (.int 1)) (eVarB 8) (eVarB 2))) (sSeq (sSet 3 (eCall 2 d__law_exchanged (aCons (eVar 3) (aCons (eVar 8) aNil))))
  (sSeq (sSet 6 (eBin dAdd (eVarB 6) (eFz (eLst (aCons (eVar 8) aNil)))))
  (sIf (asB (eBin dNe (eVarB 9) (eCB dLen (aCons (eCall 2 d__law_against (aCons (eVar 3) (aCons (eVar 4) aNil))) aNil)))) (sRet (eC (.bool false))) sNil))) (sIf (asB (eBin dNe (eVarB 9) (eC (.str "number")))) (sRet (eC (.bool false))) sNil)))) (sSeq (sSetM 9 (mSo CS 2 (d__law_call κ CS) 5 (maCons (mP (eC (.int 1))) (maCons (mP (eC (.int 0))) maNil))))
  (sSeq (sIf (asB (eBin dNe (eVarB 9) (eIf (asB (eBin dNe (eVarB 6) (eFz (eLst aNil)))) (eBin dIx (eVarB 6) (eNeg (eC (.int 1)))) (eC (.str "none"))))) (sRet (eC (.bool false))) sNil)
  (sIf (asB (eBin dNe (eVarB 6) (eFz (eLst aNil)))) (sSeq (sSet 3 (eCall 2 d__law_exchanged (aCons (eVar 3) (aCons (eBin dIx (eVarB 6) (eNeg (eC (.int 1)))) aNil))))
  (sSet 6 (eFz (eCut (eVarB 6) oNo (oYes (eNeg (eC (.int 1)))))))) sNil))))
  (sSeq (sSet 10 (eCB dLen (aCons (eCall 2 d__law_against (aCons (eVar 3) (aCons (eVar 4) aNil))) aNil)))
  (sSeq (sSet 11 (eFz (eLc (eRg2 (eC (.int 1)) (eVarB 2)) (tgN 8) (asB (eBin dLt (eCB dLen (aCons (eCall 2 d__law_against (aCons (eCall 2 d__law_exchanged (aCons (eVar 3) (aCons (eVar 8) aNil))) (aCons (eVar 4) aNil))) aNil)) (eVarB 10))) (eVar 8) [8])))
  (sSeq (sIf (bOr (asB (eBin dNe (eMF CS 0 (d_m_ranking CS) 5 aNil) (eVarB 3))) (bOr (asB (eBin dNe (eMF CS 0 (d_m_left CS) 5 aNil) (eVarB 10))) (bOr (asB (eBin dNe (eLenS CS (d_m___len__ CS) 5) (eCB dLen (aCons (eVarB 6) aNil)))) (asB (eBin dNe (eMF CS 0 (d_m_useful CS) 5 aNil) (eVarB 11)))))) (sRet (eC (.bool false))) sNil)
  (sIf (asB (eBin dNe (eBin dEq (eVarB 11) (eFz (eLst aNil))) (eBin dEq (eVarB 3) (eVarB 4)))) (sRet (eC (.bool false))) sNil))))))
  (sSeq (sSet 12 (eMF CS 0 (d_m_left CS) 5 aNil))
  (sSeq (sFor (eRg1 (eVarB 12)) (tgN 7) (sIfM (mAsB (mBin dNe (mSo CS 1 (d_m_exchange CS) 5 (maCons (mPick 1 (eMF CS 0 (d_m_useful CS) 5 aNil)) maNil)) (mP (eBin dSub (eBin dSub (eVarB 12) (eVarB 7)) (eC (.int 1)))))) (sRet (eC (.bool false))) sNil))
  (sRet (eAnd (eBin dEq (eMF CS 0 (d_m_ranking CS) 5 aNil) (eVarB 4)) (eBin dEq (eMF CS 0 (d_m_useful CS) 5 aNil) (eFz (eLst aNil)))))))))))
def n_law : Nat := 11
end Ag


namespace Ag
open PySem L2

/-! ### rankings -/
theorem rgI_ups (n : Nat) : rgI 1 ((n : Int) + 1) = ups n := by
  unfold rgI ups
  have e : ((n : Int) + 1 - 1).toNat = n := by omega
  rw [e]
  exact List.map_congr_left fun i _ => by omega
theorem rgL_val {a b : Int} (h : -1000000 ≤ a ∧ a ≤ 1000000 ∧ -1000000 ≤ b ∧ b ≤ 1000000) : rgL a b = .val ((rgI a b).map .int) := if_pos h
theorem rg_ups {n : Nat} (h : n ≤ 1000) : rgL 1 ((n : Int) + 1) = .val ((ups n).map .int) := by
  rw [rgL_val (by omega), rgI_ups]
theorem r_is_int (v lo hi : Int) : d_is_int [.int v, .int lo, .int hi] = .val (.d (.bool (decide (lo ≤ v) && decide (v ≤ hi)))) := by
  unfold d_is_int
  simp (implicitDefEqProofs := false) only [run_eq, asQ_eq, asQK_list, asQK_tup, sFrz_eq', sFrzK_ow, sFrzK_fz, sFrzK_no, eRgD_eq, dAdd_q, dIs_true, dIs_false, runK_nx, runK_ret, runK_reto, runK_exc, sSeq_eq, seqK_nx, seqK_ret, seqK_reto, seqK_exc, sIf_eq, sSet_eq, sSetO_eq, setOK_ok, sFor_eq, sRet_eq, sRetO_eq, sRetV_eq, retVK_ow, retVK_fz, sRetN_eq, sDrop_eq, sExc_eq, sApp_eq, appJ_ow, sPut_eq, putK_ow, sPar_eq, parK_2, sNil_eq, sSetT_eq, sAug_eq, augK_fz, sAugL_eq, augLK_ow, sRem_eq, eVar_eq, varK_fz, eVarB_eq, varBK_fz, varBK_ow, eC_eq, eBin_eq, eChain_eq, chainK_bool, asB_eq, asBK_bool, bNot_eq, bAnd_eq, bOr_eq, bYes_eq, eNot_eq, eAnd_eq, eOr_eq, eIf_eq, eCB_eq, eCO_eq, eRg1_eq, rg1K_int, eRg2_eq, rg2K_int, eIsi_eq, isD_int, isD_bool, isD_list, isD_tup, isD_str, eCut_eq, cutK_list, eRev_eq, revK_list, eNeg_eq, negK_int, eTup_eq, tupK_ok, eLst_eq, lstK_ok, eFz_eq, eMt_eq, mtK_list, eLc_eq, eZip_eq, zipK_list, eEnum_eq, enumK_list, asL_eq, asLK_list, asT_eq, asTK_tup, tgN_eq, tgT_2, tgT_3, setE_nil, setE_cons, wipeE_nil, wipeE_cons, eCall_eq, callK_1, callK_2, callK_3, callK_4, eCallO_eq, callOK_1, callOK_2, callOK_3, rvO_o, rvD_d, rvD_o, eCatO_eq, eRepO_eq, repK_ok, aNil_eq, aCons_eq, oNo_eq, oYes_eq, oYK_int, mP_eq, mPT_eq, mPL_eq, mBin_eq, mAsB_eq, mAsBK_bool, mIf_eq, maNil_eq, maCons_eq, mTup_eq, mtupK_ok, sSetM_eq, sSetTM_eq, sIfM_eq, sParM_eq, parMK_2, sPar3M_eq, par3MK_3, so_val, noEx_val, ofO_some, rs_bind_val, rs_bind_exc, rs_bind_stk, rs_pure, List.map_cons, List.map_nil, List.length_cons, List.length_nil, List.length_map, List.length_set, List.replicate_succ, List.replicate_zero, List.cons_append, List.nil_append, List.getElem?_cons_zero, List.getElem?_cons_succ, List.set_cons_zero, List.set_cons_succ, List.zip_cons_cons, List.zip_nil_right, List.zip_nil_left, Nat.reduceAdd, Nat.reduceSub, Nat.reduceLT, Nat.reduceLeDiff, if_true, if_false, Bool.not_true, Bool.not_false, reduceCtorEq, and_true, true_and, LI, beq_self_eq_true, decide_true, decide_false, decide_eq_true_eq, Bool.false_eq_true, Bool.true_and, Bool.and_true, Bool.false_and, Bool.and_false, Bool.not_not, Bool.or_false, Bool.or_true, Bool.false_or, Bool.true_or, String.reduceBEq, dEq_LI, dNe_LI, dEq_int, dNe_int, dEq_bool, dNe_bool, dLt_int, dLe_int, dGt_int, dGe_int, dAdd_int, dSub_int, dLen_list, dLen_tup, dSum_LI, zipD_LI]
  by_cases h1 : lo ≤ v <;> by_cases h2 : v ≤ hi <;> simp [h1, h2, so_val, runK_ret]
theorem r_is_ranking {n : Nat} {a : List Int} (h : Rk n a) : d_is_ranking [LI a] = .val (.d (.bool true)) := by
  unfold d_is_ranking
  have hl := h.len
  have h1 := h.lo
  have h2 := h.hi
  have c1 : (1 : Int) ≤ (n : Int) := by omega
  have c2 : (n : Int) ≤ 7 := by omega
  have lc : lcRun (tgN 1) bYes (eCall 3 d_is_int (aCons (eVar 1) (aCons (eC (.int 1)) (aCons (eCB dLen (aCons (eVarB 0) aNil)) aNil)))) (wipeE [.fz (LI a), .no] [1]) (a.map .int) = .val (a.map fun _ => .bool true) := by
    refine lcRun_all PyData.int _ a fun x hx => ⟨_, rfl, ?_⟩
    have hx := h.mem.mp hx
    simp (implicitDefEqProofs := false) only [run_eq, asQ_eq, asQK_list, asQK_tup, sFrz_eq', sFrzK_ow, sFrzK_fz, sFrzK_no, eRgD_eq, dAdd_q, dIs_true, dIs_false, runK_nx, runK_ret, runK_reto, runK_exc, sSeq_eq, seqK_nx, seqK_ret, seqK_reto, seqK_exc, sIf_eq, sSet_eq, sSetO_eq, setOK_ok, sFor_eq, sRet_eq, sRetO_eq, sRetV_eq, retVK_ow, retVK_fz, sRetN_eq, sDrop_eq, sExc_eq, sApp_eq, appJ_ow, sPut_eq, putK_ow, sPar_eq, parK_2, sNil_eq, sSetT_eq, sAug_eq, augK_fz, sAugL_eq, augLK_ow, sRem_eq, eVar_eq, varK_fz, eVarB_eq, varBK_fz, varBK_ow, eC_eq, eBin_eq, eChain_eq, chainK_bool, asB_eq, asBK_bool, bNot_eq, bAnd_eq, bOr_eq, bYes_eq, eNot_eq, eAnd_eq, eOr_eq, eIf_eq, eCB_eq, eCO_eq, eRg1_eq, rg1K_int, eRg2_eq, rg2K_int, eIsi_eq, isD_int, isD_bool, isD_list, isD_tup, isD_str, eCut_eq, cutK_list, eRev_eq, revK_list, eNeg_eq, negK_int, eTup_eq, tupK_ok, eLst_eq, lstK_ok, eFz_eq, eMt_eq, mtK_list, eLc_eq, eZip_eq, zipK_list, eEnum_eq, enumK_list, asL_eq, asLK_list, asT_eq, asTK_tup, tgN_eq, tgT_2, tgT_3, setE_nil, setE_cons, wipeE_nil, wipeE_cons, eCall_eq, callK_1, callK_2, callK_3, callK_4, eCallO_eq, callOK_1, callOK_2, callOK_3, rvO_o, rvD_d, rvD_o, eCatO_eq, eRepO_eq, repK_ok, aNil_eq, aCons_eq, oNo_eq, oYes_eq, oYK_int, mP_eq, mPT_eq, mPL_eq, mBin_eq, mAsB_eq, mAsBK_bool, mIf_eq, maNil_eq, maCons_eq, mTup_eq, mtupK_ok, sSetM_eq, sSetTM_eq, sIfM_eq, sParM_eq, parMK_2, sPar3M_eq, par3MK_3, so_val, noEx_val, ofO_some, rs_bind_val, rs_bind_exc, rs_bind_stk, rs_pure, List.map_cons, List.map_nil, List.length_cons, List.length_nil, List.length_map, List.length_set, List.replicate_succ, List.replicate_zero, List.cons_append, List.nil_append, List.getElem?_cons_zero, List.getElem?_cons_succ, List.set_cons_zero, List.set_cons_succ, List.zip_cons_cons, List.zip_nil_right, List.zip_nil_left, Nat.reduceAdd, Nat.reduceSub, Nat.reduceLT, Nat.reduceLeDiff, if_true, if_false, Bool.not_true, Bool.not_false, reduceCtorEq, and_true, true_and, LI, beq_self_eq_true, decide_true, decide_false, decide_eq_true_eq, Bool.false_eq_true, Bool.true_and, Bool.and_true, Bool.false_and, Bool.and_false, Bool.not_not, Bool.or_false, Bool.or_true, Bool.false_or, Bool.true_or, String.reduceBEq, dEq_LI, dNe_LI, dEq_int, dNe_int, dEq_bool, dNe_bool, dLt_int, dLe_int, dGt_int, dGe_int, dAdd_int, dSub_int, dLen_list, dLen_tup, dSum_LI, zipD_LI, r_is_int]
    rw [hl]
    simp [hx]
  have e1 : n ≤ 100000 := by omega
  have e2 : (a.map fun _ => PyData.bool true) = (a.map fun _ => true).map PyData.bool := by rw [List.map_map]; rfl
  have e3 : (a.map fun _ => true).all id = true := by simp
  have lc2 : lcK (tgN 1) bYes (eCall 3 d_is_int (aCons (eVar 1) (aCons (eC (.int 1)) (aCons (eCB dLen (aCons (eVarB 0) aNil)) aNil)))) [.fz (.list (a.map PyData.int)), .no] (a.map .int) = .val (a.map fun _ => .bool true) := lcK_ok (by rw [List.length_map]; omega) lc
  simp (implicitDefEqProofs := false) only [run_eq, asQ_eq, asQK_list, asQK_tup, sFrz_eq', sFrzK_ow, sFrzK_fz, sFrzK_no, eRgD_eq, dAdd_q, dIs_true, dIs_false, runK_nx, runK_ret, runK_reto, runK_exc, sSeq_eq, seqK_nx, seqK_ret, seqK_reto, seqK_exc, sIf_eq, sSet_eq, sSetO_eq, setOK_ok, sFor_eq, sRet_eq, sRetO_eq, sRetV_eq, retVK_ow, retVK_fz, sRetN_eq, sDrop_eq, sExc_eq, sApp_eq, appJ_ow, sPut_eq, putK_ow, sPar_eq, parK_2, sNil_eq, sSetT_eq, sAug_eq, augK_fz, sAugL_eq, augLK_ow, sRem_eq, eVar_eq, varK_fz, eVarB_eq, varBK_fz, varBK_ow, eC_eq, eBin_eq, eChain_eq, chainK_bool, asB_eq, asBK_bool, bNot_eq, bAnd_eq, bOr_eq, bYes_eq, eNot_eq, eAnd_eq, eOr_eq, eIf_eq, eCB_eq, eCO_eq, eRg1_eq, rg1K_int, eRg2_eq, rg2K_int, eIsi_eq, isD_int, isD_bool, isD_list, isD_tup, isD_str, eCut_eq, cutK_list, eRev_eq, revK_list, eNeg_eq, negK_int, eTup_eq, tupK_ok, eLst_eq, lstK_ok, eFz_eq, eMt_eq, mtK_list, eLc_eq, eZip_eq, zipK_list, eEnum_eq, enumK_list, asL_eq, asLK_list, asT_eq, asTK_tup, tgN_eq, tgT_2, tgT_3, setE_nil, setE_cons, wipeE_nil, wipeE_cons, eCall_eq, callK_1, callK_2, callK_3, callK_4, eCallO_eq, callOK_1, callOK_2, callOK_3, rvO_o, rvD_d, rvD_o, eCatO_eq, eRepO_eq, repK_ok, aNil_eq, aCons_eq, oNo_eq, oYes_eq, oYK_int, mP_eq, mPT_eq, mPL_eq, mBin_eq, mAsB_eq, mAsBK_bool, mIf_eq, maNil_eq, maCons_eq, mTup_eq, mtupK_ok, sSetM_eq, sSetTM_eq, sIfM_eq, sParM_eq, parMK_2, sPar3M_eq, par3MK_3, so_val, noEx_val, ofO_some, rs_bind_val, rs_bind_exc, rs_bind_stk, rs_pure, List.map_cons, List.map_nil, List.length_cons, List.length_nil, List.length_map, List.length_set, List.replicate_succ, List.replicate_zero, List.cons_append, List.nil_append, List.getElem?_cons_zero, List.getElem?_cons_succ, List.set_cons_zero, List.set_cons_succ, List.zip_cons_cons, List.zip_nil_right, List.zip_nil_left, Nat.reduceAdd, Nat.reduceSub, Nat.reduceLT, Nat.reduceLeDiff, if_true, if_false, Bool.not_true, Bool.not_false, reduceCtorEq, and_true, true_and, LI, beq_self_eq_true, decide_true, decide_false, decide_eq_true_eq, Bool.false_eq_true, Bool.true_and, Bool.and_true, Bool.false_and, Bool.and_false, Bool.not_not, Bool.or_false, Bool.or_true, Bool.false_or, Bool.true_or, String.reduceBEq, dEq_LI, dNe_LI, dEq_int, dNe_int, dEq_bool, dNe_bool, dLt_int, dLe_int, dGt_int, dGe_int, dAdd_int, dSub_int, dLen_list, dLen_tup, dSum_LI, zipD_LI, hl, c1, c2, lc2, e2, dAll_B, e3, dSorted_LI (a := a) (by omega), rg_ups (n := n) (by omega), isort_rk h]
theorem r_check_ranking {n : Nat} {a : List Int} (h : Rk n a) : d_check_ranking [LI a] = .val (.d .none) := by
  unfold d_check_ranking
  simp (implicitDefEqProofs := false) only [run_eq, asQ_eq, asQK_list, asQK_tup, sFrz_eq', sFrzK_ow, sFrzK_fz, sFrzK_no, eRgD_eq, dAdd_q, dIs_true, dIs_false, runK_nx, runK_ret, runK_reto, runK_exc, sSeq_eq, seqK_nx, seqK_ret, seqK_reto, seqK_exc, sIf_eq, sSet_eq, sSetO_eq, setOK_ok, sFor_eq, sRet_eq, sRetO_eq, sRetV_eq, retVK_ow, retVK_fz, sRetN_eq, sDrop_eq, sExc_eq, sApp_eq, appJ_ow, sPut_eq, putK_ow, sPar_eq, parK_2, sNil_eq, sSetT_eq, sAug_eq, augK_fz, sAugL_eq, augLK_ow, sRem_eq, eVar_eq, varK_fz, eVarB_eq, varBK_fz, varBK_ow, eC_eq, eBin_eq, eChain_eq, chainK_bool, asB_eq, asBK_bool, bNot_eq, bAnd_eq, bOr_eq, bYes_eq, eNot_eq, eAnd_eq, eOr_eq, eIf_eq, eCB_eq, eCO_eq, eRg1_eq, rg1K_int, eRg2_eq, rg2K_int, eIsi_eq, isD_int, isD_bool, isD_list, isD_tup, isD_str, eCut_eq, cutK_list, eRev_eq, revK_list, eNeg_eq, negK_int, eTup_eq, tupK_ok, eLst_eq, lstK_ok, eFz_eq, eMt_eq, mtK_list, eLc_eq, eZip_eq, zipK_list, eEnum_eq, enumK_list, asL_eq, asLK_list, asT_eq, asTK_tup, tgN_eq, tgT_2, tgT_3, setE_nil, setE_cons, wipeE_nil, wipeE_cons, eCall_eq, callK_1, callK_2, callK_3, callK_4, eCallO_eq, callOK_1, callOK_2, callOK_3, rvO_o, rvD_d, rvD_o, eCatO_eq, eRepO_eq, repK_ok, aNil_eq, aCons_eq, oNo_eq, oYes_eq, oYK_int, mP_eq, mPT_eq, mPL_eq, mBin_eq, mAsB_eq, mAsBK_bool, mIf_eq, maNil_eq, maCons_eq, mTup_eq, mtupK_ok, sSetM_eq, sSetTM_eq, sIfM_eq, sParM_eq, parMK_2, sPar3M_eq, par3MK_3, so_val, noEx_val, ofO_some, rs_bind_val, rs_bind_exc, rs_bind_stk, rs_pure, List.map_cons, List.map_nil, List.length_cons, List.length_nil, List.length_map, List.length_set, List.replicate_succ, List.replicate_zero, List.cons_append, List.nil_append, List.getElem?_cons_zero, List.getElem?_cons_succ, List.set_cons_zero, List.set_cons_succ, List.zip_cons_cons, List.zip_nil_right, List.zip_nil_left, Nat.reduceAdd, Nat.reduceSub, Nat.reduceLT, Nat.reduceLeDiff, if_true, if_false, Bool.not_true, Bool.not_false, reduceCtorEq, and_true, true_and, LI, beq_self_eq_true, decide_true, decide_false, decide_eq_true_eq, Bool.false_eq_true, Bool.true_and, Bool.and_true, Bool.false_and, Bool.and_false, Bool.not_not, Bool.or_false, Bool.or_true, Bool.false_or, Bool.true_or, String.reduceBEq, dEq_LI, dNe_LI, dEq_int, dNe_int, dEq_bool, dNe_bool, dLt_int, dLe_int, dGt_int, dGe_int, dAdd_int, dSub_int, dLen_list, dLen_tup, dSum_LI, zipD_LI, r_is_ranking h]
theorem r_check_both {n : Nat} {a b : List Int} (h : Rk n a) (g : Rk n b) : d_check_both [LI a, LI b] = .val (.d .none) := by
  unfold d_check_both
  simp (implicitDefEqProofs := false) only [run_eq, asQ_eq, asQK_list, asQK_tup, sFrz_eq', sFrzK_ow, sFrzK_fz, sFrzK_no, eRgD_eq, dAdd_q, dIs_true, dIs_false, runK_nx, runK_ret, runK_reto, runK_exc, sSeq_eq, seqK_nx, seqK_ret, seqK_reto, seqK_exc, sIf_eq, sSet_eq, sSetO_eq, setOK_ok, sFor_eq, sRet_eq, sRetO_eq, sRetV_eq, retVK_ow, retVK_fz, sRetN_eq, sDrop_eq, sExc_eq, sApp_eq, appJ_ow, sPut_eq, putK_ow, sPar_eq, parK_2, sNil_eq, sSetT_eq, sAug_eq, augK_fz, sAugL_eq, augLK_ow, sRem_eq, eVar_eq, varK_fz, eVarB_eq, varBK_fz, varBK_ow, eC_eq, eBin_eq, eChain_eq, chainK_bool, asB_eq, asBK_bool, bNot_eq, bAnd_eq, bOr_eq, bYes_eq, eNot_eq, eAnd_eq, eOr_eq, eIf_eq, eCB_eq, eCO_eq, eRg1_eq, rg1K_int, eRg2_eq, rg2K_int, eIsi_eq, isD_int, isD_bool, isD_list, isD_tup, isD_str, eCut_eq, cutK_list, eRev_eq, revK_list, eNeg_eq, negK_int, eTup_eq, tupK_ok, eLst_eq, lstK_ok, eFz_eq, eMt_eq, mtK_list, eLc_eq, eZip_eq, zipK_list, eEnum_eq, enumK_list, asL_eq, asLK_list, asT_eq, asTK_tup, tgN_eq, tgT_2, tgT_3, setE_nil, setE_cons, wipeE_nil, wipeE_cons, eCall_eq, callK_1, callK_2, callK_3, callK_4, eCallO_eq, callOK_1, callOK_2, callOK_3, rvO_o, rvD_d, rvD_o, eCatO_eq, eRepO_eq, repK_ok, aNil_eq, aCons_eq, oNo_eq, oYes_eq, oYK_int, mP_eq, mPT_eq, mPL_eq, mBin_eq, mAsB_eq, mAsBK_bool, mIf_eq, maNil_eq, maCons_eq, mTup_eq, mtupK_ok, sSetM_eq, sSetTM_eq, sIfM_eq, sParM_eq, parMK_2, sPar3M_eq, par3MK_3, so_val, noEx_val, ofO_some, rs_bind_val, rs_bind_exc, rs_bind_stk, rs_pure, List.map_cons, List.map_nil, List.length_cons, List.length_nil, List.length_map, List.length_set, List.replicate_succ, List.replicate_zero, List.cons_append, List.nil_append, List.getElem?_cons_zero, List.getElem?_cons_succ, List.set_cons_zero, List.set_cons_succ, List.zip_cons_cons, List.zip_nil_right, List.zip_nil_left, Nat.reduceAdd, Nat.reduceSub, Nat.reduceLT, Nat.reduceLeDiff, if_true, if_false, Bool.not_true, Bool.not_false, reduceCtorEq, and_true, true_and, LI, beq_self_eq_true, decide_true, decide_false, decide_eq_true_eq, Bool.false_eq_true, Bool.true_and, Bool.and_true, Bool.false_and, Bool.and_false, Bool.not_not, Bool.or_false, Bool.or_true, Bool.false_or, Bool.true_or, String.reduceBEq, dEq_LI, dNe_LI, dEq_int, dNe_int, dEq_bool, dNe_bool, dLt_int, dLe_int, dGt_int, dGe_int, dAdd_int, dSub_int, dLen_list, dLen_tup, dSum_LI, zipD_LI, r_check_ranking h, r_check_ranking g, h.len, g.len]


/-! ### seen -/
theorem ixN_ok {n : Nat} {k : Int} (h0 : 0 ≤ k) (h : k < n) : ixN n k = some k.toNat := by
  unfold ixN
  rw [if_pos h0, if_pos (by omega)]
def P2 (p : Int × Int) : D := .tuple [.int p.1, .int p.2]

theorem findIdx_int : ∀ (a : List Int) (x : Int), x ∈ a → (a.map PyData.int).findIdx? (fun z => PyData.eqv z (.int x)) = some (a.idxOf x)
  | [], _, h => by cases h
  | y :: a, x, h => by
    rw [List.map_cons, List.findIdx?_cons, eqv_int, List.idxOf_cons]
    by_cases e : y = x
    · subst e
      simp
    · have h' : x ∈ a := by
        rcases List.mem_cons.mp h with z | z
        · exact absurd z.symm e
        · exact z
      have e2 : (y == x) = false := by simpa using e
      rw [decide_eq_false e, findIdx_int a x h', e2]
      rfl
theorem dIndex_int {a : List Int} {x : Int} (h : x ∈ a) : dIndex (a.map PyData.int) (.int x) = .val (.int ((a.idxOf x : Nat) : Int)) := by
  unfold dIndex
  rw [shaped_ints, findIdx_int a x h]
  rfl
/-! ### pairs -/
def PN (p : Nat × Nat) : D := .tuple [.int p.1, .int p.2]
theorem rgI_from (a b : Nat) : rgI a b = (List.range' a (b - a)).map fun j => ((j : Nat) : Int) := by
  unfold rgI
  rw [List.range'_eq_map_range, List.map_map, show ((b : Int) - (a : Int)).toNat = b - a by omega]
  exact List.map_congr_left fun i _ => by show _ = (((a + i : Nat)) : Int); omega
theorem eqv_PN : ∀ a b : List (Nat × Nat), PyData.eqvAll (a.map PN) (b.map PN) = decide (a = b)
  | [], [] => rfl
  | [], _ :: _ => rfl
  | _ :: _, [] => rfl
  | (x, x') :: a, (y, y') :: b => by
    show ((((x : Int) == (y : Int)) && (((x' : Int) == (y' : Int)) && true)) && PyData.eqvAll (a.map PN) (b.map PN)) = _
    rw [eqv_PN a b]
    by_cases h : x = y <;> by_cases h' : x' = y' <;> by_cases g : a = b <;> simp [h, h', g] <;> omega
theorem canLay_PN : ∀ a : List (Nat × Nat), PyData.canLayAll0 (a.map PN) = true
  | [] => rfl
  | x :: r => by
    rw [List.map_cons]
    show (true && PyData.canLayAll0 (r.map PN)) = true
    rw [canLay_PN r]
    rfl
theorem depth_PN : ∀ a : List (Nat × Nat), PyData.depthAll (a.map PN) ≤ PyData.depth (PN (0, 0))
  | [] => Nat.zero_le _
  | n :: r => by
    rw [List.map_cons]
    show max (PyData.depth (PN n)) (PyData.depthAll (r.map PN)) ≤ _
    have := depth_PN r
    have e : PyData.depth (PN n) = PyData.depth (PN (0, 0)) := rfl
    omega
theorem shaped_PN (a : List (Nat × Nat)) : SeqAt.shaped (.list (a.map PN)) = true := by
  unfold SeqAt.shaped
  have h1 : PyData.canLay0 (.list (a.map PN)) = true := canLay_PN a
  have h2 : PyData.depth (.list (a.map PN)) ≤ 64 := by
    have := depth_PN a
    have e : PyData.depth (.list (a.map PN)) = 1 + PyData.depthAll (a.map PN) := by
      first
        | rfl
        | (show PyData.depthAll (a.map PN) + 1 = _; omega)
    have e0 : PyData.depth (PN (0, 0)) ≤ 3 := by decide
    omega
  rw [h1]
  simpa using h2
theorem dNe_PN (a b : List (Nat × Nat)) : dNe (.list (a.map PN)) (.list (b.map PN)) = .val (.bool (!decide (a = b))) := by
  unfold dNe
  rw [shaped_PN, shaped_PN]
  show Rs.val (PyData.bool (!PyData.eqvAll _ _)) = _
  rw [eqv_PN]
theorem dEq_PN (a b : List (Nat × Nat)) : dEq (.list (a.map PN)) (.list (b.map PN)) = .val (.bool (decide (a = b))) := by
  unfold dEq
  rw [shaped_PN, shaped_PN]
  show Rs.val (PyData.bool (PyData.eqvAll _ _)) = _
  rw [eqv_PN]
/-- two loops over the places k < j that add (k, j) where f says so -/
theorem prs_loop {n : Nat} {a b : D} (hn : n ≤ 100) (f : Nat → Nat → Bool) (it2 : En → Rs (List D)) (bd : SF)
    (h2 : ∀ (k : Nat) (acc : List D) (y : Sl), k < n → it2 [.fz a, .fz b, .ow acc, .fz (.int ((k : Nat) : Int)), y] = .val ((List.range' (k + 1) (n - (k + 1))).map fun j => .int ((j : Nat) : Int)))
    (hb : ∀ (k j : Nat) (acc : List D), k < j → j < n → acc.length < 100000 → bd [.fz a, .fz b, .ow acc, .fz (.int ((k : Nat) : Int)), .fz (.int ((j : Nat) : Int))] = .nx [.fz a, .fz b, .ow (if f k j = true then acc ++ [PN (k, j)] else acc), .fz (.int ((k : Nat) : Int)), .fz (.int ((j : Nat) : Int))]) :
    ∃ x y, forL (tgN 3) (sFor it2 (tgN 4) bd) ((List.range n).map fun i => PyData.int ((i : Nat) : Int)) [.fz a, .fz b, .ow [], .no, .no] = .nx [.fz a, .fz b, .ow ((prs n f).map PN), x, y] := by
  let inn : Nat → List Nat → List (Nat × Nat) := fun k js => (js.filter (f k)).map fun j => (k, j)
  let out : List Nat → List (Nat × Nat) := fun ks => ks.flatMap fun k => inn k (List.range' (k + 1) (n - (k + 1)))
  have inl : ∀ k js, (inn k js).length ≤ js.length := fun k js => by
    show ((js.filter (f k)).map _).length ≤ _
    rw [List.length_map]
    exact List.length_filter_le _ _
  have oul : ∀ ks : List Nat, (out ks).length ≤ ks.length * n := by
    intro l
    induction l with
    | nil => simp [out]
    | cons k r ih =>
      show ((inn k _) ++ out r).length ≤ _
      rw [List.length_append, List.length_cons, Nat.add_mul]
      have := inl k (List.range' (k + 1) (n - (k + 1)))
      rw [List.length_range'] at this
      omega
  have H := forL_map (t := tgN 3) (body := sFor it2 (tgN 4) bd) (fun i : Nat => PyData.int ((i : Nat) : Int)) (I := fun pre env => ∃ x y, env = [.fz a, .fz b, .ow ((out pre).map PN), x, y]) (List.range n) (env := [.fz a, .fz b, .ow [], .no, .no])
    (fun pre k post env e ⟨x, y, i⟩ => by
      subst i
      have hk : k < n := by
        have : k ∈ List.range n := by rw [e]; simp
        exact List.mem_range.mp this
      have hpl : pre.length ≤ n := by
        have : (List.range n).length = pre.length + (post.length + 1) := by rw [e, List.length_append, List.length_cons]
        rw [List.length_range] at this
        omega
      have hol : (out pre).length ≤ 10000 := by
        have h1 := oul pre
        have h3 : pre.length * n ≤ 100 * 100 := Nat.mul_le_mul (by omega) hn
        omega
      have G := forL_map (t := tgN 4) (body := bd) (fun i : Nat => PyData.int ((i : Nat) : Int)) (I := fun pre2 env => ∃ y, env = [.fz a, .fz b, .ow ((out pre ++ inn k pre2).map PN), .fz (.int ((k : Nat) : Int)), y]) (List.range' (k + 1) (n - (k + 1))) (env := [.fz a, .fz b, .ow ((out pre).map PN), .fz (.int ((k : Nat) : Int)), y])
        (fun pre2 j post2 env e2 ⟨y, i⟩ => by
          subst i
          have hj : k < j ∧ j < n := by
            have : j ∈ List.range' (k + 1) (n - (k + 1)) := by rw [e2]; simp
            rw [List.mem_range'_1] at this
            omega
          have hpl2 : pre2.length ≤ n := by
            have : (List.range' (k + 1) (n - (k + 1))).length = pre2.length + (post2.length + 1) := by rw [e2, List.length_append, List.length_cons]
            rw [List.length_range'] at this
            omega
          have hil := inl k pre2
          refine ⟨_, _, rfl, .inl (hb k j _ hj.1 hj.2 (by rw [List.length_map, List.length_append]; omega)), .fz (.int ((j : Nat) : Int)), ?_⟩
          have ei : inn k (pre2 ++ [j]) = inn k pre2 ++ (if f k j = true then [(k, j)] else []) := by
            show ((pre2 ++ [j]).filter (f k)).map _ = _
            rw [List.filter_append, List.map_append, List.filter_cons, List.filter_nil]
            cases f k j <;> rfl
          rw [ei]
          cases f k j with
          | true => rw [if_pos rfl, if_pos rfl, ← List.append_assoc, List.map_append (l₂ := [(k, j)])]; rfl
          | false => rw [if_neg Bool.false_ne_true, if_neg Bool.false_ne_true, List.append_nil]) ⟨y, by show _ = [Sl.fz a, .fz b, .ow ((out pre ++ []).map PN), .fz (.int ((k : Nat) : Int)), y]; rw [List.append_nil]⟩
      obtain ⟨env', hf, y', rfl⟩ := G
      refine ⟨_, [.fz a, .fz b, .ow ((out pre ++ inn k (List.range' (k + 1) (n - (k + 1)))).map PN), .fz (.int ((k : Nat) : Int)), y'], rfl, .inl ?_, .fz (.int ((k : Nat) : Int)), y', ?_⟩
      · show sFor it2 (tgN 4) bd [.fz a, .fz b, .ow ((out pre).map PN), .fz (.int ((k : Nat) : Int)), y] = _
        unfold sFor
        rw [h2 k _ y hk, so_val]
        exact hf
      · have : out (pre ++ [k]) = out pre ++ inn k (List.range' (k + 1) (n - (k + 1))) := by
          show (pre ++ [k]).flatMap _ = _
          rw [List.flatMap_append]
          simp [out]
        rw [this]) ⟨.no, .no, rfl⟩
  obtain ⟨env', hf, x, y, rfl⟩ := H
  exact ⟨x, y, hf⟩
theorem it2_ok {n k : Nat} {a b : List Int} (hl : a.length = n) (hn : n ≤ 100) (acc : List D) (y : Sl) (hk : k < n) : eRg2 (eBin dAdd (eVarB 3) (eC (.int 1))) (eCB dLen (aCons (eVarB 0) aNil)) [.fz (LI a), .fz (LI b), .ow acc, .fz (.int ((k : Nat) : Int)), y] = .val ((List.range' (k + 1) (n - (k + 1))).map fun j => .int ((j : Nat) : Int)) := by
  simp (implicitDefEqProofs := false) only [run_eq, asQ_eq, asQK_list, asQK_tup, sFrz_eq', sFrzK_ow, sFrzK_fz, sFrzK_no, eRgD_eq, dAdd_q, dIs_true, dIs_false, runK_nx, runK_ret, runK_reto, runK_exc, sSeq_eq, seqK_nx, seqK_ret, seqK_reto, seqK_exc, sIf_eq, sSet_eq, sSetO_eq, setOK_ok, sFor_eq, sRet_eq, sRetO_eq, sRetV_eq, retVK_ow, retVK_fz, sRetN_eq, sDrop_eq, sExc_eq, sApp_eq, appJ_ow, sPut_eq, putK_ow, sPar_eq, parK_2, sNil_eq, sSetT_eq, sAug_eq, augK_fz, sAugL_eq, augLK_ow, sRem_eq, eVar_eq, varK_fz, eVarB_eq, varBK_fz, varBK_ow, eC_eq, eBin_eq, eChain_eq, chainK_bool, asB_eq, asBK_bool, bNot_eq, bAnd_eq, bOr_eq, bYes_eq, eNot_eq, eAnd_eq, eOr_eq, eIf_eq, eCB_eq, eCO_eq, eRg1_eq, rg1K_int, eRg2_eq, rg2K_int, eIsi_eq, isD_int, isD_bool, isD_list, isD_tup, isD_str, eCut_eq, cutK_list, eRev_eq, revK_list, eNeg_eq, negK_int, eTup_eq, tupK_ok, eLst_eq, lstK_ok, eFz_eq, eMt_eq, mtK_list, eLc_eq, eZip_eq, zipK_list, eEnum_eq, enumK_list, asL_eq, asLK_list, asT_eq, asTK_tup, tgN_eq, tgT_2, tgT_3, setE_nil, setE_cons, wipeE_nil, wipeE_cons, eCall_eq, callK_1, callK_2, callK_3, callK_4, eCallO_eq, callOK_1, callOK_2, callOK_3, rvO_o, rvD_d, rvD_o, eCatO_eq, eRepO_eq, repK_ok, aNil_eq, aCons_eq, oNo_eq, oYes_eq, oYK_int, mP_eq, mPT_eq, mPL_eq, mBin_eq, mAsB_eq, mAsBK_bool, mIf_eq, maNil_eq, maCons_eq, mTup_eq, mtupK_ok, sSetM_eq, sSetTM_eq, sIfM_eq, sParM_eq, parMK_2, sPar3M_eq, par3MK_3, so_val, noEx_val, ofO_some, rs_bind_val, rs_bind_exc, rs_bind_stk, rs_pure, List.map_cons, List.map_nil, List.length_cons, List.length_nil, List.length_map, List.length_set, List.replicate_succ, List.replicate_zero, List.cons_append, List.nil_append, List.getElem?_cons_zero, List.getElem?_cons_succ, List.set_cons_zero, List.set_cons_succ, List.zip_cons_cons, List.zip_nil_right, List.zip_nil_left, Nat.reduceAdd, Nat.reduceSub, Nat.reduceLT, Nat.reduceLeDiff, if_true, if_false, Bool.not_true, Bool.not_false, reduceCtorEq, and_true, true_and, LI, beq_self_eq_true, decide_true, decide_false, decide_eq_true_eq, Bool.false_eq_true, Bool.true_and, Bool.and_true, Bool.false_and, Bool.and_false, Bool.not_not, Bool.or_false, Bool.or_true, Bool.false_or, Bool.true_or, String.reduceBEq, dEq_LI, dNe_LI, dEq_int, dNe_int, dEq_bool, dNe_bool, dLt_int, dLe_int, dGt_int, dGe_int, dAdd_int, dSub_int, dLen_list, dLen_tup, dSum_LI, zipD_LI, hl]
  rw [rgL_val (by omega)]
  have : (k : Int) + 1 = ((k + 1 : Nat) : Int) := by omega
  rw [this, rgI_from, List.map_map]
  rfl
theorem r_against {n : Nat} {a b : List Int} (ha : a.length = n) (hb : b.length = n) (hn : n ≤ 100) : d_against [LI a, LI b] = .val (.o ((prs n fun k j => decide (gt a k < gt a j) != decide (gt b k < gt b j)).map PN)) := by
  obtain ⟨x, y, hf⟩ := prs_loop (a := LI a) (b := LI b) hn (fun k j => decide (gt a k < gt a j) != decide (gt b k < gt b j)) _ (sIf (asB (eBin dNe (eBin dLt (eBin dIx (eVarB 0) (eVarB 3)) (eBin dIx (eVarB 0) (eVarB 4))) (eBin dLt (eBin dIx (eVarB 1) (eVarB 3)) (eBin dIx (eVarB 1) (eVarB 4))))) (sApp 2 (eTup (aCons (eVar 3) (aCons (eVar 4) aNil)))) sNil) (fun k acc y hk => it2_ok ha hn acc y hk) (fun k j acc hkj hj hac => by
    simp (implicitDefEqProofs := false) only [run_eq, asQ_eq, asQK_list, asQK_tup, sFrz_eq', sFrzK_ow, sFrzK_fz, sFrzK_no, eRgD_eq, dAdd_q, dIs_true, dIs_false, runK_nx, runK_ret, runK_reto, runK_exc, sSeq_eq, seqK_nx, seqK_ret, seqK_reto, seqK_exc, sIf_eq, sSet_eq, sSetO_eq, setOK_ok, sFor_eq, sRet_eq, sRetO_eq, sRetV_eq, retVK_ow, retVK_fz, sRetN_eq, sDrop_eq, sExc_eq, sApp_eq, appJ_ow, sPut_eq, putK_ow, sPar_eq, parK_2, sNil_eq, sSetT_eq, sAug_eq, augK_fz, sAugL_eq, augLK_ow, sRem_eq, eVar_eq, varK_fz, eVarB_eq, varBK_fz, varBK_ow, eC_eq, eBin_eq, eChain_eq, chainK_bool, asB_eq, asBK_bool, bNot_eq, bAnd_eq, bOr_eq, bYes_eq, eNot_eq, eAnd_eq, eOr_eq, eIf_eq, eCB_eq, eCO_eq, eRg1_eq, rg1K_int, eRg2_eq, rg2K_int, eIsi_eq, isD_int, isD_bool, isD_list, isD_tup, isD_str, eCut_eq, cutK_list, eRev_eq, revK_list, eNeg_eq, negK_int, eTup_eq, tupK_ok, eLst_eq, lstK_ok, eFz_eq, eMt_eq, mtK_list, eLc_eq, eZip_eq, zipK_list, eEnum_eq, enumK_list, asL_eq, asLK_list, asT_eq, asTK_tup, tgN_eq, tgT_2, tgT_3, setE_nil, setE_cons, wipeE_nil, wipeE_cons, eCall_eq, callK_1, callK_2, callK_3, callK_4, eCallO_eq, callOK_1, callOK_2, callOK_3, rvO_o, rvD_d, rvD_o, eCatO_eq, eRepO_eq, repK_ok, aNil_eq, aCons_eq, oNo_eq, oYes_eq, oYK_int, mP_eq, mPT_eq, mPL_eq, mBin_eq, mAsB_eq, mAsBK_bool, mIf_eq, maNil_eq, maCons_eq, mTup_eq, mtupK_ok, sSetM_eq, sSetTM_eq, sIfM_eq, sParM_eq, parMK_2, sPar3M_eq, par3MK_3, so_val, noEx_val, ofO_some, rs_bind_val, rs_bind_exc, rs_bind_stk, rs_pure, List.map_cons, List.map_nil, List.length_cons, List.length_nil, List.length_map, List.length_set, List.replicate_succ, List.replicate_zero, List.cons_append, List.nil_append, List.getElem?_cons_zero, List.getElem?_cons_succ, List.set_cons_zero, List.set_cons_succ, List.zip_cons_cons, List.zip_nil_right, List.zip_nil_left, Nat.reduceAdd, Nat.reduceSub, Nat.reduceLT, Nat.reduceLeDiff, if_true, if_false, Bool.not_true, Bool.not_false, reduceCtorEq, and_true, true_and, LI, beq_self_eq_true, decide_true, decide_false, decide_eq_true_eq, Bool.false_eq_true, Bool.true_and, Bool.and_true, Bool.false_and, Bool.and_false, Bool.not_not, Bool.or_false, Bool.or_true, Bool.false_or, Bool.true_or, String.reduceBEq, dEq_LI, dNe_LI, dEq_int, dNe_int, dEq_bool, dNe_bool, dLt_int, dLe_int, dGt_int, dGe_int, dAdd_int, dSub_int, dLen_list, dLen_tup, dSum_LI, zipD_LI, dIx_LI (a := a) (i := k) (by omega), dIx_LI (a := a) (i := j) (by omega), dIx_LI (a := b) (i := k) (by omega), dIx_LI (a := b) (i := j) (by omega), appK_ok hac]
    cases hc : (decide (gt a k < gt a j) == decide (gt b k < gt b j)) <;> simp [hc, bne, PN])
  unfold d_against
  have e1 : rgL 0 (n : Int) = .val ((List.range n).map fun i => PyData.int ((i : Nat) : Int)) := by
    rw [rgL_val (by omega), rgI_nat, List.map_map]
    rfl
  simp (implicitDefEqProofs := false) only [run_eq, asQ_eq, asQK_list, asQK_tup, sFrz_eq', sFrzK_ow, sFrzK_fz, sFrzK_no, eRgD_eq, dAdd_q, dIs_true, dIs_false, runK_nx, runK_ret, runK_reto, runK_exc, sSeq_eq, seqK_nx, seqK_ret, seqK_reto, seqK_exc, sIf_eq, sSet_eq, sSetO_eq, setOK_ok, sFor_eq, sRet_eq, sRetO_eq, sRetV_eq, retVK_ow, retVK_fz, sRetN_eq, sDrop_eq, sExc_eq, sApp_eq, appJ_ow, sPut_eq, putK_ow, sPar_eq, parK_2, sNil_eq, sSetT_eq, sAug_eq, augK_fz, sAugL_eq, augLK_ow, sRem_eq, eVar_eq, varK_fz, eVarB_eq, varBK_fz, varBK_ow, eC_eq, eBin_eq, eChain_eq, chainK_bool, asB_eq, asBK_bool, bNot_eq, bAnd_eq, bOr_eq, bYes_eq, eNot_eq, eAnd_eq, eOr_eq, eIf_eq, eCB_eq, eCO_eq, eRg1_eq, rg1K_int, eRg2_eq, rg2K_int, eIsi_eq, isD_int, isD_bool, isD_list, isD_tup, isD_str, eCut_eq, cutK_list, eRev_eq, revK_list, eNeg_eq, negK_int, eTup_eq, tupK_ok, eLst_eq, lstK_ok, eFz_eq, eMt_eq, mtK_list, eLc_eq, eZip_eq, zipK_list, eEnum_eq, enumK_list, asL_eq, asLK_list, asT_eq, asTK_tup, tgN_eq, tgT_2, tgT_3, setE_nil, setE_cons, wipeE_nil, wipeE_cons, eCall_eq, callK_1, callK_2, callK_3, callK_4, eCallO_eq, callOK_1, callOK_2, callOK_3, rvO_o, rvD_d, rvD_o, eCatO_eq, eRepO_eq, repK_ok, aNil_eq, aCons_eq, oNo_eq, oYes_eq, oYK_int, mP_eq, mPT_eq, mPL_eq, mBin_eq, mAsB_eq, mAsBK_bool, mIf_eq, maNil_eq, maCons_eq, mTup_eq, mtupK_ok, sSetM_eq, sSetTM_eq, sIfM_eq, sParM_eq, parMK_2, sPar3M_eq, par3MK_3, so_val, noEx_val, ofO_some, rs_bind_val, rs_bind_exc, rs_bind_stk, rs_pure, List.map_cons, List.map_nil, List.length_cons, List.length_nil, List.length_map, List.length_set, List.replicate_succ, List.replicate_zero, List.cons_append, List.nil_append, List.getElem?_cons_zero, List.getElem?_cons_succ, List.set_cons_zero, List.set_cons_succ, List.zip_cons_cons, List.zip_nil_right, List.zip_nil_left, Nat.reduceAdd, Nat.reduceSub, Nat.reduceLT, Nat.reduceLeDiff, if_true, if_false, Bool.not_true, Bool.not_false, reduceCtorEq, and_true, true_and, LI, beq_self_eq_true, decide_true, decide_false, decide_eq_true_eq, Bool.false_eq_true, Bool.true_and, Bool.and_true, Bool.false_and, Bool.and_false, Bool.not_not, Bool.or_false, Bool.or_true, Bool.false_or, Bool.true_or, String.reduceBEq, dEq_LI, dNe_LI, dEq_int, dNe_int, dEq_bool, dNe_bool, dLt_int, dLe_int, dGt_int, dGe_int, dAdd_int, dSub_int, dLen_list, dLen_tup, dSum_LI, zipD_LI, ha, e1, hf]


/-! ### the draws -/
theorem drawN_ne {ns : List Int} (h : ns ≠ []) (c lim : Int) : drawN ns c lim ≠ [] := by
  intro e
  have := drawN_len ns c lim
  rw [e] at this
  exact h (List.eq_nil_of_length_eq_zero this.symm)
theorem drOf_ok {env : En} {i : Nat} {p q : Addr} {ns : List Int} {c : Int} (h : env[i]? = some (.dr p q ns c)) (h1 : ns ≠ []) (h2 : ns.length ≤ 63) : drOf env i = .val (p, q, ns, c) := by
  unfold drOf
  rw [h]
  exact if_pos ⟨h1, by omega⟩
def drawK (i : Nat) (r : D × En) : Rs (D × En) := match r.1 with
  | .int lim => drOf r.2 i >>= fun d => if 0 < lim ∧ lim < 1073741824 then .val (.int (drawR d.2.2.1 d.2.2.2 lim), r.2.set i (.dr d.1 d.2.1 (drawN d.2.2.1 d.2.2.2 lim) (d.2.2.2 + 1))) else .stk
  | _ => .stk
theorem mDraw_eq (i : Nat) (f : MF) (env : En) : mDraw i f env = drOf env i >>= fun _ => f env >>= drawK i := rfl
theorem drawK_ok {i : Nat} {env : En} {p q : Addr} {ns : List Int} {c lim : Int} (h : drOf env i = .val (p, q, ns, c)) (h1 : 0 < lim) (h2 : lim ≤ 1000) :
    drawK i (.int lim, env) = .val (.int (drawR ns c lim), env.set i (.dr p q (drawN ns c lim) (c + 1))) := by
  show (drOf env i >>= _) = _
  rw [h]
  exact if_pos ⟨h1, by omega⟩
theorem mPickV_ow {i j : Nat} {env : En} {p q : Addr} {ns : List Int} {c : Int} {l : List D} (h : drOf env i = .val (p, q, ns, c)) (hj : env[j]? = some (.ow l)) : mPickV i j env = pickK i env (p, q, ns, c) l := by
  unfold mPickV
  rw [h, rs_bind_val, hj]
theorem pickK_ok {i : Nat} {env : En} {p q : Addr} {ns : List Int} {c : Int} {l : List D} (h1 : l ≠ []) (h2 : l.length ≤ 1000) : ∃ k z, k < l.length ∧ l[k]? = some z ∧ k = (drawR ns c l.length).toNat ∧ pickK i env (p, q, ns, c) l = .val (z, env.set i (.dr p q (drawN ns c l.length) (c + 1))) := by
  have hl : 0 < l.length := List.length_pos_iff.mpr h1
  obtain ⟨r0, r1⟩ := drawR_range ns c (lim := l.length) (by omega)
  have hk : (drawR ns c l.length).toNat < l.length := by omega
  refine ⟨_, l[(drawR ns c l.length).toNat], hk, List.getElem?_eq_getElem hk, rfl, ?_⟩
  unfold pickK
  rw [if_pos ⟨h1, by omega⟩]
  show (ofO l[(drawR ns c l.length).toNat]? >>= _) = _
  rw [List.getElem?_eq_getElem hk]
  rfl
def rankI (n : Nat) (p q : Addr) (m : Nat) (env : En) : Prop := ∃ (ns : List Int) (c : Int) (left found : List Int) (y : Sl), env = [.dr p q ns c, .fz (.int n), .ow (left.map PyData.int), .ow (found.map PyData.int), y] ∧ ns ≠ [] ∧ ns.length ≤ 63 ∧ (found ++ left).Perm (ups n) ∧ m = left.length
theorem r_rank {n : Nat} {p q : Addr} {ns : List Int} {c : Int} (h1 : 1 ≤ n) (h7 : n ≤ 7) (hne : ns ≠ []) (hlen : ns.length ≤ 63) :
    ∃ l e ns' c', g__law_ranking [.dr p q ns c, .fz (.int n), .no, .no, .no] = .reto (l.map PyData.int) e ∧ e[0]? = some (.dr p q ns' c') ∧ ns' ≠ [] ∧ ns'.length ≤ 63 ∧ Rk n l := by
  have W := sWhile_rel (c := asB (eBin dNe (eVarB 2) (eFz (eLst aNil)))) (body := sSeq (sSetM 4 (mIf (mAsB (mBin dEq (mDraw 0 (mP (eC (.int 3)))) (mP (eC (.int 0))))) (mP (eBin dIx (eVarB 2) (eC (.int 0)))) (mPickV 0 2))) (sSeq (sRem 2 (eVarB 4)) (sApp 3 (eVar 4)))) (I := rankI n p q) (by
    rintro m env ⟨ns, c, left, found, y, rfl, hne, hlen, hp, rfl⟩
    have hcond : asB (eBin dNe (eVarB 2) (eFz (eLst aNil))) [.dr p q ns c, .fz (.int n), .ow (left.map PyData.int), .ow (found.map PyData.int), y] = .val (!decide (left = [])) := by
      have := dNe_LI left []
      simp only [LI, List.map_nil] at this
      simp (implicitDefEqProofs := false) only [run_eq, asQ_eq, asQK_list, asQK_tup, sFrz_eq', sFrzK_ow, sFrzK_fz, sFrzK_no, eRgD_eq, dAdd_q, dIs_true, dIs_false, runK_nx, runK_ret, runK_reto, runK_exc, sSeq_eq, seqK_nx, seqK_ret, seqK_reto, seqK_exc, sIf_eq, sSet_eq, sSetO_eq, setOK_ok, sFor_eq, sRet_eq, sRetO_eq, sRetV_eq, retVK_ow, retVK_fz, sRetN_eq, sDrop_eq, sExc_eq, sApp_eq, appJ_ow, sPut_eq, putK_ow, sPar_eq, parK_2, sNil_eq, sSetT_eq, sAug_eq, augK_fz, sAugL_eq, augLK_ow, sRem_eq, eVar_eq, varK_fz, eVarB_eq, varBK_fz, varBK_ow, eC_eq, eBin_eq, eChain_eq, chainK_bool, asB_eq, asBK_bool, bNot_eq, bAnd_eq, bOr_eq, bYes_eq, eNot_eq, eAnd_eq, eOr_eq, eIf_eq, eCB_eq, eCO_eq, eRg1_eq, rg1K_int, eRg2_eq, rg2K_int, eIsi_eq, isD_int, isD_bool, isD_list, isD_tup, isD_str, eCut_eq, cutK_list, eRev_eq, revK_list, eNeg_eq, negK_int, eTup_eq, tupK_ok, eLst_eq, lstK_ok, eFz_eq, eMt_eq, mtK_list, eLc_eq, eZip_eq, zipK_list, eEnum_eq, enumK_list, asL_eq, asLK_list, asT_eq, asTK_tup, tgN_eq, tgT_2, tgT_3, setE_nil, setE_cons, wipeE_nil, wipeE_cons, eCall_eq, callK_1, callK_2, callK_3, callK_4, eCallO_eq, callOK_1, callOK_2, callOK_3, rvO_o, rvD_d, rvD_o, eCatO_eq, eRepO_eq, repK_ok, aNil_eq, aCons_eq, oNo_eq, oYes_eq, oYK_int, mP_eq, mPT_eq, mPL_eq, mBin_eq, mAsB_eq, mAsBK_bool, mIf_eq, maNil_eq, maCons_eq, mTup_eq, mtupK_ok, sSetM_eq, sSetTM_eq, sIfM_eq, sParM_eq, parMK_2, sPar3M_eq, par3MK_3, so_val, noEx_val, ofO_some, rs_bind_val, rs_bind_exc, rs_bind_stk, rs_pure, List.map_cons, List.map_nil, List.length_cons, List.length_nil, List.length_map, List.length_set, List.replicate_succ, List.replicate_zero, List.cons_append, List.nil_append, List.getElem?_cons_zero, List.getElem?_cons_succ, List.set_cons_zero, List.set_cons_succ, List.zip_cons_cons, List.zip_nil_right, List.zip_nil_left, Nat.reduceAdd, Nat.reduceSub, Nat.reduceLT, Nat.reduceLeDiff, if_true, if_false, Bool.not_true, Bool.not_false, reduceCtorEq, and_true, true_and, LI, beq_self_eq_true, decide_true, decide_false, decide_eq_true_eq, Bool.false_eq_true, Bool.true_and, Bool.and_true, Bool.false_and, Bool.and_false, Bool.not_not, Bool.or_false, Bool.or_true, Bool.false_or, Bool.true_or, String.reduceBEq, dEq_LI, dNe_LI, dEq_int, dNe_int, dEq_bool, dNe_bool, dLt_int, dLe_int, dGt_int, dGe_int, dAdd_int, dSub_int, dLen_list, dLen_tup, dSum_LI, zipD_LI, this]
    have hlf : found.length + left.length = n := by
      have := hp.length_eq
      rw [List.length_append, ups_len] at this
      exact this
    by_cases hl : left = []
    · refine .inl ?_
      rw [hcond, decide_eq_true hl]
      rfl
    · refine .inr ⟨by rw [hcond, decide_eq_false hl]; rfl, ?_⟩
      have hll : 0 < left.length := List.length_pos_iff.mpr hl
      have hd0 : drOf [Sl.dr p q ns c, .fz (.int n), .ow (left.map PyData.int), .ow (found.map PyData.int), y] 0 = .val (p, q, ns, c) := drOf_ok rfl hne hlen
      have hne1 := drawN_ne hne c 3
      have hlen1 : (drawN ns c 3).length ≤ 63 := by rw [drawN_len]; exact hlen
      have hd1 : drOf [Sl.dr p q (drawN ns c 3) (c + 1), .fz (.int n), .ow (left.map PyData.int), .ow (found.map PyData.int), y] 0 = .val (p, q, drawN ns c 3, c + 1) := drOf_ok rfl hne1 hlen1
      have hset : ∃ x ns' c', x ∈ left ∧ ns' ≠ [] ∧ ns'.length ≤ 63 ∧ sSetM 4 (mIf (mAsB (mBin dEq (mDraw 0 (mP (eC (.int 3)))) (mP (eC (.int 0))))) (mP (eBin dIx (eVarB 2) (eC (.int 0)))) (mPickV 0 2)) [.dr p q ns c, .fz (.int n), .ow (left.map PyData.int), .ow (found.map PyData.int), y] = .nx [.dr p q ns' c', .fz (.int n), .ow (left.map PyData.int), .ow (found.map PyData.int), .fz (.int x)] := by
        by_cases hz : drawR ns c 3 = 0
        · refine ⟨gt left 0, drawN ns c 3, c + 1, gt_mem hll, hne1, hlen1, ?_⟩
          have hix := dIx_LI (a := left) (i := 0) hll
          simp (implicitDefEqProofs := false) only [run_eq, asQ_eq, asQK_list, asQK_tup, sFrz_eq', sFrzK_ow, sFrzK_fz, sFrzK_no, eRgD_eq, dAdd_q, dIs_true, dIs_false, runK_nx, runK_ret, runK_reto, runK_exc, sSeq_eq, seqK_nx, seqK_ret, seqK_reto, seqK_exc, sIf_eq, sSet_eq, sSetO_eq, setOK_ok, sFor_eq, sRet_eq, sRetO_eq, sRetV_eq, retVK_ow, retVK_fz, sRetN_eq, sDrop_eq, sExc_eq, sApp_eq, appJ_ow, sPut_eq, putK_ow, sPar_eq, parK_2, sNil_eq, sSetT_eq, sAug_eq, augK_fz, sAugL_eq, augLK_ow, sRem_eq, eVar_eq, varK_fz, eVarB_eq, varBK_fz, varBK_ow, eC_eq, eBin_eq, eChain_eq, chainK_bool, asB_eq, asBK_bool, bNot_eq, bAnd_eq, bOr_eq, bYes_eq, eNot_eq, eAnd_eq, eOr_eq, eIf_eq, eCB_eq, eCO_eq, eRg1_eq, rg1K_int, eRg2_eq, rg2K_int, eIsi_eq, isD_int, isD_bool, isD_list, isD_tup, isD_str, eCut_eq, cutK_list, eRev_eq, revK_list, eNeg_eq, negK_int, eTup_eq, tupK_ok, eLst_eq, lstK_ok, eFz_eq, eMt_eq, mtK_list, eLc_eq, eZip_eq, zipK_list, eEnum_eq, enumK_list, asL_eq, asLK_list, asT_eq, asTK_tup, tgN_eq, tgT_2, tgT_3, setE_nil, setE_cons, wipeE_nil, wipeE_cons, eCall_eq, callK_1, callK_2, callK_3, callK_4, eCallO_eq, callOK_1, callOK_2, callOK_3, rvO_o, rvD_d, rvD_o, eCatO_eq, eRepO_eq, repK_ok, aNil_eq, aCons_eq, oNo_eq, oYes_eq, oYK_int, mP_eq, mPT_eq, mPL_eq, mBin_eq, mAsB_eq, mAsBK_bool, mIf_eq, maNil_eq, maCons_eq, mTup_eq, mtupK_ok, sSetM_eq, sSetTM_eq, sIfM_eq, sParM_eq, parMK_2, sPar3M_eq, par3MK_3, so_val, noEx_val, ofO_some, rs_bind_val, rs_bind_exc, rs_bind_stk, rs_pure, List.map_cons, List.map_nil, List.length_cons, List.length_nil, List.length_map, List.length_set, List.replicate_succ, List.replicate_zero, List.cons_append, List.nil_append, List.getElem?_cons_zero, List.getElem?_cons_succ, List.set_cons_zero, List.set_cons_succ, List.zip_cons_cons, List.zip_nil_right, List.zip_nil_left, Nat.reduceAdd, Nat.reduceSub, Nat.reduceLT, Nat.reduceLeDiff, if_true, if_false, Bool.not_true, Bool.not_false, reduceCtorEq, and_true, true_and, LI, beq_self_eq_true, decide_true, decide_false, decide_eq_true_eq, Bool.false_eq_true, Bool.true_and, Bool.and_true, Bool.false_and, Bool.and_false, Bool.not_not, Bool.or_false, Bool.or_true, Bool.false_or, Bool.true_or, String.reduceBEq, dEq_LI, dNe_LI, dEq_int, dNe_int, dEq_bool, dNe_bool, dLt_int, dLe_int, dGt_int, dGe_int, dAdd_int, dSub_int, dLen_list, dLen_tup, dSum_LI, zipD_LI, mDraw_eq, hd0, drawK_ok (lim := 3) hd0 (by decide) (by decide), hz]
          have hix' : dIx (.list (left.map PyData.int)) (.int 0) = .val (.int (gt left 0)) := hix
          simp (implicitDefEqProofs := false) only [run_eq, asQ_eq, asQK_list, asQK_tup, sFrz_eq', sFrzK_ow, sFrzK_fz, sFrzK_no, eRgD_eq, dAdd_q, dIs_true, dIs_false, runK_nx, runK_ret, runK_reto, runK_exc, sSeq_eq, seqK_nx, seqK_ret, seqK_reto, seqK_exc, sIf_eq, sSet_eq, sSetO_eq, setOK_ok, sFor_eq, sRet_eq, sRetO_eq, sRetV_eq, retVK_ow, retVK_fz, sRetN_eq, sDrop_eq, sExc_eq, sApp_eq, appJ_ow, sPut_eq, putK_ow, sPar_eq, parK_2, sNil_eq, sSetT_eq, sAug_eq, augK_fz, sAugL_eq, augLK_ow, sRem_eq, eVar_eq, varK_fz, eVarB_eq, varBK_fz, varBK_ow, eC_eq, eBin_eq, eChain_eq, chainK_bool, asB_eq, asBK_bool, bNot_eq, bAnd_eq, bOr_eq, bYes_eq, eNot_eq, eAnd_eq, eOr_eq, eIf_eq, eCB_eq, eCO_eq, eRg1_eq, rg1K_int, eRg2_eq, rg2K_int, eIsi_eq, isD_int, isD_bool, isD_list, isD_tup, isD_str, eCut_eq, cutK_list, eRev_eq, revK_list, eNeg_eq, negK_int, eTup_eq, tupK_ok, eLst_eq, lstK_ok, eFz_eq, eMt_eq, mtK_list, eLc_eq, eZip_eq, zipK_list, eEnum_eq, enumK_list, asL_eq, asLK_list, asT_eq, asTK_tup, tgN_eq, tgT_2, tgT_3, setE_nil, setE_cons, wipeE_nil, wipeE_cons, eCall_eq, callK_1, callK_2, callK_3, callK_4, eCallO_eq, callOK_1, callOK_2, callOK_3, rvO_o, rvD_d, rvD_o, eCatO_eq, eRepO_eq, repK_ok, aNil_eq, aCons_eq, oNo_eq, oYes_eq, oYK_int, mP_eq, mPT_eq, mPL_eq, mBin_eq, mAsB_eq, mAsBK_bool, mIf_eq, maNil_eq, maCons_eq, mTup_eq, mtupK_ok, sSetM_eq, sSetTM_eq, sIfM_eq, sParM_eq, parMK_2, sPar3M_eq, par3MK_3, so_val, noEx_val, ofO_some, rs_bind_val, rs_bind_exc, rs_bind_stk, rs_pure, List.map_cons, List.map_nil, List.length_cons, List.length_nil, List.length_map, List.length_set, List.replicate_succ, List.replicate_zero, List.cons_append, List.nil_append, List.getElem?_cons_zero, List.getElem?_cons_succ, List.set_cons_zero, List.set_cons_succ, List.zip_cons_cons, List.zip_nil_right, List.zip_nil_left, Nat.reduceAdd, Nat.reduceSub, Nat.reduceLT, Nat.reduceLeDiff, if_true, if_false, Bool.not_true, Bool.not_false, reduceCtorEq, and_true, true_and, LI, beq_self_eq_true, decide_true, decide_false, decide_eq_true_eq, Bool.false_eq_true, Bool.true_and, Bool.and_true, Bool.false_and, Bool.and_false, Bool.not_not, Bool.or_false, Bool.or_true, Bool.false_or, Bool.true_or, String.reduceBEq, dEq_LI, dNe_LI, dEq_int, dNe_int, dEq_bool, dNe_bool, dLt_int, dLe_int, dGt_int, dGe_int, dAdd_int, dSub_int, dLen_list, dLen_tup, dSum_LI, zipD_LI, hix']
        · obtain ⟨k, z, hk, hkz, _, hpk⟩ := pickK_ok (i := 0) (env := [Sl.dr p q (drawN ns c 3) (c + 1), .fz (.int n), .ow (left.map PyData.int), .ow (found.map PyData.int), y]) (p := p) (q := q) (ns := drawN ns c 3) (c := c + 1) (l := left.map PyData.int) (by simpa using hl) (by rw [List.length_map]; omega)
          rw [List.length_map] at hk
          have hz' : z = .int (gt left k) := by
            rw [List.getElem?_map, List.getElem?_eq_getElem hk] at hkz
            cases hkz
            rw [gt_eq hk]
          subst hz'
          refine ⟨gt left k, drawN (drawN ns c 3) (c + 1) (left.map PyData.int).length, c + 1 + 1, gt_mem hk, drawN_ne hne1 (c + 1) (left.map PyData.int).length, by rw [drawN_len]; exact hlen1, ?_⟩
          simp (implicitDefEqProofs := false) only [run_eq, asQ_eq, asQK_list, asQK_tup, sFrz_eq', sFrzK_ow, sFrzK_fz, sFrzK_no, eRgD_eq, dAdd_q, dIs_true, dIs_false, runK_nx, runK_ret, runK_reto, runK_exc, sSeq_eq, seqK_nx, seqK_ret, seqK_reto, seqK_exc, sIf_eq, sSet_eq, sSetO_eq, setOK_ok, sFor_eq, sRet_eq, sRetO_eq, sRetV_eq, retVK_ow, retVK_fz, sRetN_eq, sDrop_eq, sExc_eq, sApp_eq, appJ_ow, sPut_eq, putK_ow, sPar_eq, parK_2, sNil_eq, sSetT_eq, sAug_eq, augK_fz, sAugL_eq, augLK_ow, sRem_eq, eVar_eq, varK_fz, eVarB_eq, varBK_fz, varBK_ow, eC_eq, eBin_eq, eChain_eq, chainK_bool, asB_eq, asBK_bool, bNot_eq, bAnd_eq, bOr_eq, bYes_eq, eNot_eq, eAnd_eq, eOr_eq, eIf_eq, eCB_eq, eCO_eq, eRg1_eq, rg1K_int, eRg2_eq, rg2K_int, eIsi_eq, isD_int, isD_bool, isD_list, isD_tup, isD_str, eCut_eq, cutK_list, eRev_eq, revK_list, eNeg_eq, negK_int, eTup_eq, tupK_ok, eLst_eq, lstK_ok, eFz_eq, eMt_eq, mtK_list, eLc_eq, eZip_eq, zipK_list, eEnum_eq, enumK_list, asL_eq, asLK_list, asT_eq, asTK_tup, tgN_eq, tgT_2, tgT_3, setE_nil, setE_cons, wipeE_nil, wipeE_cons, eCall_eq, callK_1, callK_2, callK_3, callK_4, eCallO_eq, callOK_1, callOK_2, callOK_3, rvO_o, rvD_d, rvD_o, eCatO_eq, eRepO_eq, repK_ok, aNil_eq, aCons_eq, oNo_eq, oYes_eq, oYK_int, mP_eq, mPT_eq, mPL_eq, mBin_eq, mAsB_eq, mAsBK_bool, mIf_eq, maNil_eq, maCons_eq, mTup_eq, mtupK_ok, sSetM_eq, sSetTM_eq, sIfM_eq, sParM_eq, parMK_2, sPar3M_eq, par3MK_3, so_val, noEx_val, ofO_some, rs_bind_val, rs_bind_exc, rs_bind_stk, rs_pure, List.map_cons, List.map_nil, List.length_cons, List.length_nil, List.length_map, List.length_set, List.replicate_succ, List.replicate_zero, List.cons_append, List.nil_append, List.getElem?_cons_zero, List.getElem?_cons_succ, List.set_cons_zero, List.set_cons_succ, List.zip_cons_cons, List.zip_nil_right, List.zip_nil_left, Nat.reduceAdd, Nat.reduceSub, Nat.reduceLT, Nat.reduceLeDiff, if_true, if_false, Bool.not_true, Bool.not_false, reduceCtorEq, and_true, true_and, LI, beq_self_eq_true, decide_true, decide_false, decide_eq_true_eq, Bool.false_eq_true, Bool.true_and, Bool.and_true, Bool.false_and, Bool.and_false, Bool.not_not, Bool.or_false, Bool.or_true, Bool.false_or, Bool.true_or, String.reduceBEq, dEq_LI, dNe_LI, dEq_int, dNe_int, dEq_bool, dNe_bool, dLt_int, dLe_int, dGt_int, dGe_int, dAdd_int, dSub_int, dLen_list, dLen_tup, dSum_LI, zipD_LI, mDraw_eq, hd0, drawK_ok (lim := 3) hd0 (by decide) (by decide), hz, mPickV_ow (j := 2) (l := left.map PyData.int) hd1 rfl, hpk]
      obtain ⟨x, ns', c', hx, hne', hlen', hset⟩ := hset
      obtain ⟨j, hj, hje⟩ := findIdx_erase left x hx
      refine ⟨[.dr p q ns' c', .fz (.int n), .ow ((left.erase x).map PyData.int), .ow ((found ++ [x]).map PyData.int), .fz (.int x)], .inl ?_, left.length - 1, by omega, ns', c', left.erase x, found ++ [x], _, rfl, hne', hlen', ?_, ?_⟩
      · have happ := fun e => appK_ok (i := 3) (env := e) (l := found.map PyData.int) (d := .int x) (by rw [List.length_map]; omega)
        have hrm := fun e => remK_ow e 2 left x j hj
        rw [sSeq_eq, hset, seqK_nx, ← hje, ← eraseIdx_map']
        simp (implicitDefEqProofs := false) only [run_eq, asQ_eq, asQK_list, asQK_tup, sFrz_eq', sFrzK_ow, sFrzK_fz, sFrzK_no, eRgD_eq, dAdd_q, dIs_true, dIs_false, runK_nx, runK_ret, runK_reto, runK_exc, sSeq_eq, seqK_nx, seqK_ret, seqK_reto, seqK_exc, sIf_eq, sSet_eq, sSetO_eq, setOK_ok, sFor_eq, sRet_eq, sRetO_eq, sRetV_eq, retVK_ow, retVK_fz, sRetN_eq, sDrop_eq, sExc_eq, sApp_eq, appJ_ow, sPut_eq, putK_ow, sPar_eq, parK_2, sNil_eq, sSetT_eq, sAug_eq, augK_fz, sAugL_eq, augLK_ow, sRem_eq, eVar_eq, varK_fz, eVarB_eq, varBK_fz, varBK_ow, eC_eq, eBin_eq, eChain_eq, chainK_bool, asB_eq, asBK_bool, bNot_eq, bAnd_eq, bOr_eq, bYes_eq, eNot_eq, eAnd_eq, eOr_eq, eIf_eq, eCB_eq, eCO_eq, eRg1_eq, rg1K_int, eRg2_eq, rg2K_int, eIsi_eq, isD_int, isD_bool, isD_list, isD_tup, isD_str, eCut_eq, cutK_list, eRev_eq, revK_list, eNeg_eq, negK_int, eTup_eq, tupK_ok, eLst_eq, lstK_ok, eFz_eq, eMt_eq, mtK_list, eLc_eq, eZip_eq, zipK_list, eEnum_eq, enumK_list, asL_eq, asLK_list, asT_eq, asTK_tup, tgN_eq, tgT_2, tgT_3, setE_nil, setE_cons, wipeE_nil, wipeE_cons, eCall_eq, callK_1, callK_2, callK_3, callK_4, eCallO_eq, callOK_1, callOK_2, callOK_3, rvO_o, rvD_d, rvD_o, eCatO_eq, eRepO_eq, repK_ok, aNil_eq, aCons_eq, oNo_eq, oYes_eq, oYK_int, mP_eq, mPT_eq, mPL_eq, mBin_eq, mAsB_eq, mAsBK_bool, mIf_eq, maNil_eq, maCons_eq, mTup_eq, mtupK_ok, sSetM_eq, sSetTM_eq, sIfM_eq, sParM_eq, parMK_2, sPar3M_eq, par3MK_3, so_val, noEx_val, ofO_some, rs_bind_val, rs_bind_exc, rs_bind_stk, rs_pure, List.map_cons, List.map_nil, List.length_cons, List.length_nil, List.length_map, List.length_set, List.replicate_succ, List.replicate_zero, List.cons_append, List.nil_append, List.getElem?_cons_zero, List.getElem?_cons_succ, List.set_cons_zero, List.set_cons_succ, List.zip_cons_cons, List.zip_nil_right, List.zip_nil_left, Nat.reduceAdd, Nat.reduceSub, Nat.reduceLT, Nat.reduceLeDiff, if_true, if_false, Bool.not_true, Bool.not_false, reduceCtorEq, and_true, true_and, LI, beq_self_eq_true, decide_true, decide_false, decide_eq_true_eq, Bool.false_eq_true, Bool.true_and, Bool.and_true, Bool.false_and, Bool.and_false, Bool.not_not, Bool.or_false, Bool.or_true, Bool.false_or, Bool.true_or, String.reduceBEq, dEq_LI, dNe_LI, dEq_int, dNe_int, dEq_bool, dNe_bool, dLt_int, dLe_int, dGt_int, dGe_int, dAdd_int, dSub_int, dLen_list, dLen_tup, dSum_LI, zipD_LI, hrm, happ, List.map_append]
      · rw [List.append_assoc]
        exact (List.Perm.append_left found (List.perm_cons_erase hx).symm).trans hp
      · rw [List.length_erase_of_mem hx])
  obtain ⟨e, m', hw, hc, ns', c', left, found, y, rfl, hne', hlen', hp, _⟩ := W fuel n [.dr p q ns c, .fz (.int n), .ow ((ups n).map PyData.int), .ow [], .no] (by unfold fuel; omega) ⟨ns, c, ups n, [], .no, rfl, hne, hlen, List.Perm.refl _, (ups_len n).symm⟩
  have hl : left = [] := by
    have hcond : asB (eBin dNe (eVarB 2) (eFz (eLst aNil))) [.dr p q ns' c', .fz (.int n), .ow (left.map PyData.int), .ow (found.map PyData.int), y] = .val (!decide (left = [])) := by
      have := dNe_LI left []
      simp only [LI, List.map_nil] at this
      simp (implicitDefEqProofs := false) only [run_eq, asQ_eq, asQK_list, asQK_tup, sFrz_eq', sFrzK_ow, sFrzK_fz, sFrzK_no, eRgD_eq, dAdd_q, dIs_true, dIs_false, runK_nx, runK_ret, runK_reto, runK_exc, sSeq_eq, seqK_nx, seqK_ret, seqK_reto, seqK_exc, sIf_eq, sSet_eq, sSetO_eq, setOK_ok, sFor_eq, sRet_eq, sRetO_eq, sRetV_eq, retVK_ow, retVK_fz, sRetN_eq, sDrop_eq, sExc_eq, sApp_eq, appJ_ow, sPut_eq, putK_ow, sPar_eq, parK_2, sNil_eq, sSetT_eq, sAug_eq, augK_fz, sAugL_eq, augLK_ow, sRem_eq, eVar_eq, varK_fz, eVarB_eq, varBK_fz, varBK_ow, eC_eq, eBin_eq, eChain_eq, chainK_bool, asB_eq, asBK_bool, bNot_eq, bAnd_eq, bOr_eq, bYes_eq, eNot_eq, eAnd_eq, eOr_eq, eIf_eq, eCB_eq, eCO_eq, eRg1_eq, rg1K_int, eRg2_eq, rg2K_int, eIsi_eq, isD_int, isD_bool, isD_list, isD_tup, isD_str, eCut_eq, cutK_list, eRev_eq, revK_list, eNeg_eq, negK_int, eTup_eq, tupK_ok, eLst_eq, lstK_ok, eFz_eq, eMt_eq, mtK_list, eLc_eq, eZip_eq, zipK_list, eEnum_eq, enumK_list, asL_eq, asLK_list, asT_eq, asTK_tup, tgN_eq, tgT_2, tgT_3, setE_nil, setE_cons, wipeE_nil, wipeE_cons, eCall_eq, callK_1, callK_2, callK_3, callK_4, eCallO_eq, callOK_1, callOK_2, callOK_3, rvO_o, rvD_d, rvD_o, eCatO_eq, eRepO_eq, repK_ok, aNil_eq, aCons_eq, oNo_eq, oYes_eq, oYK_int, mP_eq, mPT_eq, mPL_eq, mBin_eq, mAsB_eq, mAsBK_bool, mIf_eq, maNil_eq, maCons_eq, mTup_eq, mtupK_ok, sSetM_eq, sSetTM_eq, sIfM_eq, sParM_eq, parMK_2, sPar3M_eq, par3MK_3, so_val, noEx_val, ofO_some, rs_bind_val, rs_bind_exc, rs_bind_stk, rs_pure, List.map_cons, List.map_nil, List.length_cons, List.length_nil, List.length_map, List.length_set, List.replicate_succ, List.replicate_zero, List.cons_append, List.nil_append, List.getElem?_cons_zero, List.getElem?_cons_succ, List.set_cons_zero, List.set_cons_succ, List.zip_cons_cons, List.zip_nil_right, List.zip_nil_left, Nat.reduceAdd, Nat.reduceSub, Nat.reduceLT, Nat.reduceLeDiff, if_true, if_false, Bool.not_true, Bool.not_false, reduceCtorEq, and_true, true_and, LI, beq_self_eq_true, decide_true, decide_false, decide_eq_true_eq, Bool.false_eq_true, Bool.true_and, Bool.and_true, Bool.false_and, Bool.and_false, Bool.not_not, Bool.or_false, Bool.or_true, Bool.false_or, Bool.true_or, String.reduceBEq, dEq_LI, dNe_LI, dEq_int, dNe_int, dEq_bool, dNe_bool, dLt_int, dLe_int, dGt_int, dGe_int, dAdd_int, dSub_int, dLen_list, dLen_tup, dSum_LI, zipD_LI, this]
    rw [hcond] at hc
    have hc : (!decide (left = [])) = false := by
      injection hc
    simpa using hc
  subst hl
  rw [List.append_nil] at hp
  refine ⟨found, [.dr p q ns' c', .fz (.int n), .ow [], .fz (.list (found.map PyData.int)), y], ns', c', ?_, rfl, hne', hlen', hp, h1, h7⟩
  unfold g__law_ranking
  simp (implicitDefEqProofs := false) only [run_eq, asQ_eq, asQK_list, asQK_tup, sFrz_eq', sFrzK_ow, sFrzK_fz, sFrzK_no, eRgD_eq, dAdd_q, dIs_true, dIs_false, runK_nx, runK_ret, runK_reto, runK_exc, sSeq_eq, seqK_nx, seqK_ret, seqK_reto, seqK_exc, sIf_eq, sSet_eq, sSetO_eq, setOK_ok, sFor_eq, sRet_eq, sRetO_eq, sRetV_eq, retVK_ow, retVK_fz, sRetN_eq, sDrop_eq, sExc_eq, sApp_eq, appJ_ow, sPut_eq, putK_ow, sPar_eq, parK_2, sNil_eq, sSetT_eq, sAug_eq, augK_fz, sAugL_eq, augLK_ow, sRem_eq, eVar_eq, varK_fz, eVarB_eq, varBK_fz, varBK_ow, eC_eq, eBin_eq, eChain_eq, chainK_bool, asB_eq, asBK_bool, bNot_eq, bAnd_eq, bOr_eq, bYes_eq, eNot_eq, eAnd_eq, eOr_eq, eIf_eq, eCB_eq, eCO_eq, eRg1_eq, rg1K_int, eRg2_eq, rg2K_int, eIsi_eq, isD_int, isD_bool, isD_list, isD_tup, isD_str, eCut_eq, cutK_list, eRev_eq, revK_list, eNeg_eq, negK_int, eTup_eq, tupK_ok, eLst_eq, lstK_ok, eFz_eq, eMt_eq, mtK_list, eLc_eq, eZip_eq, zipK_list, eEnum_eq, enumK_list, asL_eq, asLK_list, asT_eq, asTK_tup, tgN_eq, tgT_2, tgT_3, setE_nil, setE_cons, wipeE_nil, wipeE_cons, eCall_eq, callK_1, callK_2, callK_3, callK_4, eCallO_eq, callOK_1, callOK_2, callOK_3, rvO_o, rvD_d, rvD_o, eCatO_eq, eRepO_eq, repK_ok, aNil_eq, aCons_eq, oNo_eq, oYes_eq, oYK_int, mP_eq, mPT_eq, mPL_eq, mBin_eq, mAsB_eq, mAsBK_bool, mIf_eq, maNil_eq, maCons_eq, mTup_eq, mtupK_ok, sSetM_eq, sSetTM_eq, sIfM_eq, sParM_eq, parMK_2, sPar3M_eq, par3MK_3, so_val, noEx_val, ofO_some, rs_bind_val, rs_bind_exc, rs_bind_stk, rs_pure, List.map_cons, List.map_nil, List.length_cons, List.length_nil, List.length_map, List.length_set, List.replicate_succ, List.replicate_zero, List.cons_append, List.nil_append, List.getElem?_cons_zero, List.getElem?_cons_succ, List.set_cons_zero, List.set_cons_succ, List.zip_cons_cons, List.zip_nil_right, List.zip_nil_left, Nat.reduceAdd, Nat.reduceSub, Nat.reduceLT, Nat.reduceLeDiff, if_true, if_false, Bool.not_true, Bool.not_false, reduceCtorEq, and_true, true_and, LI, beq_self_eq_true, decide_true, decide_false, decide_eq_true_eq, Bool.false_eq_true, Bool.true_and, Bool.and_true, Bool.false_and, Bool.and_false, Bool.not_not, Bool.or_false, Bool.or_true, Bool.false_or, Bool.true_or, String.reduceBEq, dEq_LI, dNe_LI, dEq_int, dNe_int, dEq_bool, dNe_bool, dLt_int, dLe_int, dGt_int, dGe_int, dAdd_int, dSub_int, dLen_list, dLen_tup, dSum_LI, zipD_LI, rg_ups (n := n) (by omega), hw]
def rankK2 (i : Nat) (e : En) (d : Addr × Addr × List Int × Int) (l : List D) (s : Option Sl) : Rs (D × En) := match s with
  | some (Sl.dr p q ns' c') => if p = d.1 ∧ q = d.2.1 then .val (.list l, e.set i (.dr p q ns' c')) else .stk
  | _ => .stk
def rankK (i : Nat) (e : En) (d : Addr × Addr × List Int × Int) (o : So) : Rs (D × En) := match o with
  | .reto l env' => rankK2 i e d l env'[0]?
  | _ => .stk
theorem mRank_eq (g : SF) (n i : Nat) (f : MF) (env : En) : mRank g n i f env = drOf env i >>= fun _ => f env >>= fun r => drOf r.2 i >>= fun d => rankK i r.2 d (g (.dr d.1 d.2.1 d.2.2.1 d.2.2.2 :: .fz r.1 :: List.replicate n .no)) := rfl
theorem rankK_reto (i : Nat) (e : En) (d : Addr × Addr × List Int × Int) (l : List D) (e' : En) : rankK i e d (.reto l e') = rankK2 i e d l e'[0]? := rfl
theorem rankK2_ok (i : Nat) (e : En) (p q : Addr) (ns : List Int) (c : Int) (ns' : List Int) (c' : Int) (l : List D) : rankK2 i e (p, q, ns, c) l (some (.dr p q ns' c')) = .val (.list l, e.set i (.dr p q ns' c')) := if_pos ⟨rfl, rfl⟩
theorem mRank_ok {env : En} {i n : Nat} {p q : Addr} {ns : List Int} {c : Int} {f : MF} (he : env[i]? = some (.dr p q ns c)) (hne : ns ≠ []) (hlen : ns.length ≤ 63) (hf : f env = .val (.int (n : Int), env)) (h1 : 1 ≤ n) (h7 : n ≤ 7) :
    ∃ l ns' c', mRank g__law_ranking 3 i f env = .val (LI l, env.set i (.dr p q ns' c')) ∧ ns' ≠ [] ∧ ns'.length ≤ 63 ∧ Rk n l := by
  obtain ⟨l, e, ns', c', hr, he0, h1', h2', h3'⟩ := r_rank (p := p) (q := q) (c := c) h1 h7 hne hlen
  refine ⟨l, ns', c', ?_, h1', h2', h3'⟩
  have hr' : g__law_ranking (.dr p q ns c :: .fz (.int (n : Int)) :: List.replicate 3 .no) = .reto (l.map PyData.int) e := hr
  rw [mRank_eq, drOf_ok he hne hlen, rs_bind_val, hf, rs_bind_val, drOf_ok he hne hlen, rs_bind_val]
  dsimp only
  rw [hr', rankK_reto, he0, rankK2_ok]
theorem seq_ex {k1 k2 : SF} {env e : En} {d : D} (h : k1 env = .nx e) (g : ∃ env', k2 e = .ret d env') : ∃ env', sSeq k1 k2 env = .ret d env' := by
  rw [sSeq_eq, h, seqK_nx]
  exact g
def mlcK (i : Nat) (env : En) (z : Addr × Addr × List Int × Int) (x : D) (s : Option Sl) (k : En → Rs (List D × En)) : Rs (List D × En) := match s with
  | some (Sl.dr p q ns c) => if p = z.1 ∧ q = z.2.1 then k (env.set i (.dr p q ns c)) >>= fun w => .val (x :: w.1, w.2) else .stk
  | _ => .stk
theorem mlcRun_cons (i : Nat) (t : D → Rs (List (Nat × D))) (fe : MF) (vs : List Nat) (env : En) (d : D) (ds : List D) : mlcRun i t fe vs env (d :: ds) = drOf env i >>= fun z => t d >>= fun l => fe (shutE i (setE (wipeE env vs) l)) >>= fun r => mlcK i env z r.1 r.2[i]? fun e => mlcRun i t fe vs e ds := rfl
theorem mlcK_ok (i : Nat) (env : En) (p q : Addr) (ns : List Int) (c : Int) (x : D) (ns' : List Int) (c' : Int) (k : En → Rs (List D × En)) : mlcK i env (p, q, ns, c) x (some (.dr p q ns' c')) k = k (env.set i (.dr p q ns' c')) >>= fun w => .val (x :: w.1, w.2) := if_pos ⟨rfl, rfl⟩
theorem mlcRun_map {α : Type} {i : Nat} {t : D → Rs (List (Nat × D))} {fe : MF} {vs : List Nat} {env : En} {p q : Addr} (g : α → D) (P : α → D → Prop) (hi : i < env.length) : ∀ (xs : List α),
    (∀ x ∈ xs, ∀ (ns : List Int) (c : Int), ns ≠ [] → ns.length ≤ 63 → ∃ l y ns' c' e', t (g x) = .val l ∧ fe (shutE i (setE (wipeE (env.set i (.dr p q ns c)) vs) l)) = .val (y, e') ∧ e'[i]? = some (.dr p q ns' c') ∧ ns' ≠ [] ∧ ns'.length ≤ 63 ∧ P x y) →
    ∀ (ns : List Int) (c : Int), ns ≠ [] → ns.length ≤ 63 → ∃ ys ns' c', mlcRun i t fe vs (env.set i (.dr p q ns c)) (xs.map g) = .val (ys, env.set i (.dr p q ns' c')) ∧ ns' ≠ [] ∧ ns'.length ≤ 63 ∧ Paired P xs ys
  | [], _, ns, c, h1, h2 => ⟨[], ns, c, rfl, h1, h2, .nil⟩
  | x :: xs, h, ns, c, h1, h2 => by
    obtain ⟨l, y, ns1, c1, e', e1, e2, e3, e4, e5, e6⟩ := h x (List.mem_cons_self ..) ns c h1 h2
    obtain ⟨ys, ns2, c2, f1, f2, f3, f4⟩ := mlcRun_map g P hi xs (fun z hz => h z (List.mem_cons_of_mem _ hz)) ns1 c1 e4 e5
    refine ⟨y :: ys, ns2, c2, ?_, f2, f3, .cons e6 f4⟩
    have hd : drOf (env.set i (.dr p q ns c)) i = .val (p, q, ns, c) := drOf_ok (List.getElem?_set_self hi) h1 h2
    rw [List.map_cons, mlcRun_cons, hd, rs_bind_val, e1, rs_bind_val, e2, rs_bind_val, e3, mlcK_ok, List.set_set, f1, rs_bind_val]
def mlcJ (i : Nat) (t : D → Rs (List (Nat × D))) (fe : MF) (vs : List Nat) (ds : List D × En) : Rs (D × En) := if ds.1.length ≤ 100000 then noEx (mlcRun i t fe vs ds.2 ds.1) >>= fun w => .val (.list w.1, w.2) else .stk
theorem mLc_eq (i : Nat) (fi : En → Rs (List D × En)) (t : D → Rs (List (Nat × D))) (fe : MF) (vs : List Nat) (env : En) : mLc i fi t fe vs env = fi env >>= mlcJ i t fe vs := rfl
theorem mlcJ_ok {i : Nat} {t : D → Rs (List (Nat × D))} {fe : MF} {vs : List Nat} {ds ys : List D} {env e : En} (h : ds.length ≤ 100000) (g : mlcRun i t fe vs env ds = .val (ys, e)) : mlcJ i t fe vs (ds, env) = .val (.list ys, e) := by
  unfold mlcJ
  rw [if_pos h, g]
  rfl
theorem shutE_0 (s : Sl) (r : En) : shutE 0 (s :: r) = s :: r.map shut := rfl
theorem shutE_s (i : Nat) (s : Sl) (r : En) : shutE (i + 1) (s :: r) = shut s :: shutE i r := rfl
theorem shut_no : shut .no = .no := rfl
theorem shut_fz (d : D) : shut (.fz d) = .fz d := rfl
theorem shut_ow (d : List D) : shut (.ow d) = .no := rfl
/-! ### the pairs of the law -/
theorem r_ag {n : Nat} {a b : List Int} (h : Rk n a) (g : Rk n b) : d_against [LI a, LI b] = .val (.o ((agst n a b).map PN)) := r_against h.len g.len (by have := h.hi; omega)
theorem r_law_ag {n : Nat} {a b : List Int} (h : Rk n a) (g : Rk n b) : d__law_against [LI a, LI b] = .val (.o ((agst n a b).map PN)) := by
  have ha := h.len
  have hb := g.len
  have hi := h.hi
  have e : agst n a b = prs n fun k j => decide ((gt a k - gt a j) * (gt b k - gt b j) < 0) := prs_congr fun k j h1 h2 => by
    rw [mul_sign (h.ne (i := k) (j := j) (by omega) h2 (by omega)) (g.ne (i := k) (j := j) (by omega) h2 (by omega))]
    rfl
  rw [e]
  obtain ⟨x, y, hf⟩ := prs_loop (n := n) (a := LI a) (b := LI b) (by omega) (fun k j => decide ((gt a k - gt a j) * (gt b k - gt b j) < 0)) _ (sIf (asB (eBin dLt (eBin dMul (eBin dSub (eBin dIx (eVarB 0) (eVarB 3)) (eBin dIx (eVarB 0) (eVarB 4))) (eBin dSub (eBin dIx (eVarB 1) (eVarB 3)) (eBin dIx (eVarB 1) (eVarB 4)))) (eC (.int 0)))) (sApp 2 (eTup (aCons (eVar 3) (aCons (eVar 4) aNil)))) sNil) (fun k acc y hk => it2_ok ha (by omega) acc y hk) (fun k j acc hkj hj hac => by
    have b1 := h.gt (i := k) (by omega)
    have b2 := h.gt (i := j) (by omega)
    have b3 := g.gt (i := k) (by omega)
    have b4 := g.gt (i := j) (by omega)
    simp (implicitDefEqProofs := false) only [run_eq, asQ_eq, asQK_list, asQK_tup, sFrz_eq', sFrzK_ow, sFrzK_fz, sFrzK_no, eRgD_eq, dAdd_q, dIs_true, dIs_false, runK_nx, runK_ret, runK_reto, runK_exc, sSeq_eq, seqK_nx, seqK_ret, seqK_reto, seqK_exc, sIf_eq, sSet_eq, sSetO_eq, setOK_ok, sFor_eq, sRet_eq, sRetO_eq, sRetV_eq, retVK_ow, retVK_fz, sRetN_eq, sDrop_eq, sExc_eq, sApp_eq, appJ_ow, sPut_eq, putK_ow, sPar_eq, parK_2, sNil_eq, sSetT_eq, sAug_eq, augK_fz, sAugL_eq, augLK_ow, sRem_eq, eVar_eq, varK_fz, eVarB_eq, varBK_fz, varBK_ow, eC_eq, eBin_eq, eChain_eq, chainK_bool, asB_eq, asBK_bool, bNot_eq, bAnd_eq, bOr_eq, bYes_eq, eNot_eq, eAnd_eq, eOr_eq, eIf_eq, eCB_eq, eCO_eq, eRg1_eq, rg1K_int, eRg2_eq, rg2K_int, eIsi_eq, isD_int, isD_bool, isD_list, isD_tup, isD_str, eCut_eq, cutK_list, eRev_eq, revK_list, eNeg_eq, negK_int, eTup_eq, tupK_ok, eLst_eq, lstK_ok, eFz_eq, eMt_eq, mtK_list, eLc_eq, eZip_eq, zipK_list, eEnum_eq, enumK_list, asL_eq, asLK_list, asT_eq, asTK_tup, tgN_eq, tgT_2, tgT_3, setE_nil, setE_cons, wipeE_nil, wipeE_cons, eCall_eq, callK_1, callK_2, callK_3, callK_4, eCallO_eq, callOK_1, callOK_2, callOK_3, rvO_o, rvD_d, rvD_o, eCatO_eq, eRepO_eq, repK_ok, aNil_eq, aCons_eq, oNo_eq, oYes_eq, oYK_int, mP_eq, mPT_eq, mPL_eq, mBin_eq, mAsB_eq, mAsBK_bool, mIf_eq, maNil_eq, maCons_eq, mTup_eq, mtupK_ok, sSetM_eq, sSetTM_eq, sIfM_eq, sParM_eq, parMK_2, sPar3M_eq, par3MK_3, so_val, noEx_val, ofO_some, rs_bind_val, rs_bind_exc, rs_bind_stk, rs_pure, List.map_cons, List.map_nil, List.length_cons, List.length_nil, List.length_map, List.length_set, List.replicate_succ, List.replicate_zero, List.cons_append, List.nil_append, List.getElem?_cons_zero, List.getElem?_cons_succ, List.set_cons_zero, List.set_cons_succ, List.zip_cons_cons, List.zip_nil_right, List.zip_nil_left, Nat.reduceAdd, Nat.reduceSub, Nat.reduceLT, Nat.reduceLeDiff, if_true, if_false, Bool.not_true, Bool.not_false, reduceCtorEq, and_true, true_and, LI, beq_self_eq_true, decide_true, decide_false, decide_eq_true_eq, Bool.false_eq_true, Bool.true_and, Bool.and_true, Bool.false_and, Bool.and_false, Bool.not_not, Bool.or_false, Bool.or_true, Bool.false_or, Bool.true_or, String.reduceBEq, dEq_LI, dNe_LI, dEq_int, dNe_int, dEq_bool, dNe_bool, dLt_int, dLe_int, dGt_int, dGe_int, dAdd_int, dSub_int, dLen_list, dLen_tup, dSum_LI, zipD_LI, dIx_LI (a := a) (i := k) (by omega), dIx_LI (a := a) (i := j) (by omega), dIx_LI (a := b) (i := k) (by omega), dIx_LI (a := b) (i := j) (by omega), appK_ok hac, dMul_int (a := gt a k - gt a j) (b := gt b k - gt b j) (by omega)]
    by_cases hc : (gt a k - gt a j) * (gt b k - gt b j) < 0 <;> simp [hc, PN])
  unfold d__law_against
  have e1 : rgL 0 (n : Int) = .val ((List.range n).map fun i => PyData.int ((i : Nat) : Int)) := by
    rw [rgL_val (by omega), rgI_nat, List.map_map]
    rfl
  simp (implicitDefEqProofs := false) only [run_eq, asQ_eq, asQK_list, asQK_tup, sFrz_eq', sFrzK_ow, sFrzK_fz, sFrzK_no, eRgD_eq, dAdd_q, dIs_true, dIs_false, runK_nx, runK_ret, runK_reto, runK_exc, sSeq_eq, seqK_nx, seqK_ret, seqK_reto, seqK_exc, sIf_eq, sSet_eq, sSetO_eq, setOK_ok, sFor_eq, sRet_eq, sRetO_eq, sRetV_eq, retVK_ow, retVK_fz, sRetN_eq, sDrop_eq, sExc_eq, sApp_eq, appJ_ow, sPut_eq, putK_ow, sPar_eq, parK_2, sNil_eq, sSetT_eq, sAug_eq, augK_fz, sAugL_eq, augLK_ow, sRem_eq, eVar_eq, varK_fz, eVarB_eq, varBK_fz, varBK_ow, eC_eq, eBin_eq, eChain_eq, chainK_bool, asB_eq, asBK_bool, bNot_eq, bAnd_eq, bOr_eq, bYes_eq, eNot_eq, eAnd_eq, eOr_eq, eIf_eq, eCB_eq, eCO_eq, eRg1_eq, rg1K_int, eRg2_eq, rg2K_int, eIsi_eq, isD_int, isD_bool, isD_list, isD_tup, isD_str, eCut_eq, cutK_list, eRev_eq, revK_list, eNeg_eq, negK_int, eTup_eq, tupK_ok, eLst_eq, lstK_ok, eFz_eq, eMt_eq, mtK_list, eLc_eq, eZip_eq, zipK_list, eEnum_eq, enumK_list, asL_eq, asLK_list, asT_eq, asTK_tup, tgN_eq, tgT_2, tgT_3, setE_nil, setE_cons, wipeE_nil, wipeE_cons, eCall_eq, callK_1, callK_2, callK_3, callK_4, eCallO_eq, callOK_1, callOK_2, callOK_3, rvO_o, rvD_d, rvD_o, eCatO_eq, eRepO_eq, repK_ok, aNil_eq, aCons_eq, oNo_eq, oYes_eq, oYK_int, mP_eq, mPT_eq, mPL_eq, mBin_eq, mAsB_eq, mAsBK_bool, mIf_eq, maNil_eq, maCons_eq, mTup_eq, mtupK_ok, sSetM_eq, sSetTM_eq, sIfM_eq, sParM_eq, parMK_2, sPar3M_eq, par3MK_3, so_val, noEx_val, ofO_some, rs_bind_val, rs_bind_exc, rs_bind_stk, rs_pure, List.map_cons, List.map_nil, List.length_cons, List.length_nil, List.length_map, List.length_set, List.replicate_succ, List.replicate_zero, List.cons_append, List.nil_append, List.getElem?_cons_zero, List.getElem?_cons_succ, List.set_cons_zero, List.set_cons_succ, List.zip_cons_cons, List.zip_nil_right, List.zip_nil_left, Nat.reduceAdd, Nat.reduceSub, Nat.reduceLT, Nat.reduceLeDiff, if_true, if_false, Bool.not_true, Bool.not_false, reduceCtorEq, and_true, true_and, LI, beq_self_eq_true, decide_true, decide_false, decide_eq_true_eq, Bool.false_eq_true, Bool.true_and, Bool.and_true, Bool.false_and, Bool.and_false, Bool.not_not, Bool.or_false, Bool.or_true, Bool.false_or, Bool.true_or, String.reduceBEq, dEq_LI, dNe_LI, dEq_int, dNe_int, dEq_bool, dNe_bool, dLt_int, dLe_int, dGt_int, dGe_int, dAdd_int, dSub_int, dLen_list, dLen_tup, dSum_LI, zipD_LI, ha, e1, hf]


/-! ### inversions, plainly -/
/-! the pairs, counted over the list of both ranks -/

/-! ### the pairs, told -/
/-! ### the table of inversions -/
theorem cutD_drop {α : Type} (l : List α) (k : Nat) : cutD l (some ((k : Nat) : Int)) none = l.drop k := by
  unfold cutD
  rw [HT.sIx_nat, HT.sIx_none]
  by_cases h : k ≤ l.length
  · rw [Nat.min_eq_left h, List.take_of_length_le (by rw [List.length_drop]; omega)]
  · rw [Nat.min_eq_right (by omega), List.drop_length, List.drop_of_length_le (by omega), List.take_nil]
theorem cutD_take {α : Type} (l : List α) (k : Nat) : cutD l none (some ((k : Nat) : Int)) = l.take k := by
  unfold cutD
  rw [HT.sIx_nat, HT.sIx_none, List.drop_zero, Nat.sub_zero, List.take_eq_take_iff]
  omega
theorem cut1 (l : List Int) (k : Nat) : cutD (l.map PyData.int) (some ((k : Int) + 1)) none = (l.drop (k + 1)).map PyData.int := by
  rw [cutD_map, show (k : Int) + 1 = ((k + 1 : Nat) : Int) by omega, cutD_drop]

/-! ### measures -/
theorem dAbs_i (x : Int) : dAbs [.int x] = .val (.int (iabs x)) := rfl
theorem lc_sq {i j : Nat} {n : Nat} {a b : List Int} (h : Rk n a) (g : Rk n b) (env : En) (e : ∀ x y : D, eVarB i (setE env [(i, x), (j, y)]) = .val x ∧ eVarB j (setE env [(i, x), (j, y)]) = .val y) :
    lcK (tgT [i, j]) bYes (eBin dMul (eBin dSub (eVarB i) (eVarB j)) (eBin dSub (eVarB i) (eVarB j))) env ((a.zip b).map fun p => .tuple [.int p.1, .int p.2]) = .val (((a.zip b).map fun p => (p.1 - p.2) * (p.1 - p.2)).map .int) := by
  have hi := h.hi
  refine lcK_ok (by rw [List.length_map, zip_len h g]; omega) ?_
  rw [List.map_map]
  refine lcRun_all (fun p : Int × Int => PyData.tuple [.int p.1, .int p.2]) _ (a.zip b) fun p hp => ⟨[(i, .int p.1), (j, .int p.2)], rfl, ?_⟩
  obtain ⟨e1, e2⟩ := e (.int p.1) (.int p.2)
  have hm := zip_mem h g hp
  rw [eBin_eq, eBin_eq, e1, e2]
  exact dMul_int (by omega)
theorem lc_abs {n : Nat} {a b : List Int} (h : Rk n a) (g : Rk n b) : lcK (tgT [2, 3]) bYes (eCB dAbs (aCons (eBin dSub (eVarB 2) (eVarB 3)) aNil)) [.fz (.list (a.map .int)), .fz (.list (b.map .int)), .no, .no] ((a.zip b).map fun p => .tuple [.int p.1, .int p.2]) = .val ((gaps (a.zip b)).map .int) := by
  have hi := h.hi
  refine lcK_ok (by rw [List.length_map, zip_len h g]; omega) ?_
  unfold gaps
  rw [List.map_map]
  refine lcRun_all (fun p : Int × Int => PyData.tuple [.int p.1, .int p.2]) _ (a.zip b) fun p hp => ⟨[(2, .int p.1), (3, .int p.2)], rfl, ?_⟩
  simp (implicitDefEqProofs := false) only [run_eq, asQ_eq, asQK_list, asQK_tup, sFrz_eq', sFrzK_ow, sFrzK_fz, sFrzK_no, eRgD_eq, dAdd_q, dIs_true, dIs_false, runK_nx, runK_ret, runK_reto, runK_exc, sSeq_eq, seqK_nx, seqK_ret, seqK_reto, seqK_exc, sIf_eq, sSet_eq, sSetO_eq, setOK_ok, sFor_eq, sRet_eq, sRetO_eq, sRetV_eq, retVK_ow, retVK_fz, sRetN_eq, sDrop_eq, sExc_eq, sApp_eq, appJ_ow, sPut_eq, putK_ow, sPar_eq, parK_2, sNil_eq, sSetT_eq, sAug_eq, augK_fz, sAugL_eq, augLK_ow, sRem_eq, eVar_eq, varK_fz, eVarB_eq, varBK_fz, varBK_ow, eC_eq, eBin_eq, eChain_eq, chainK_bool, asB_eq, asBK_bool, bNot_eq, bAnd_eq, bOr_eq, bYes_eq, eNot_eq, eAnd_eq, eOr_eq, eIf_eq, eCB_eq, eCO_eq, eRg1_eq, rg1K_int, eRg2_eq, rg2K_int, eIsi_eq, isD_int, isD_bool, isD_list, isD_tup, isD_str, eCut_eq, cutK_list, eRev_eq, revK_list, eNeg_eq, negK_int, eTup_eq, tupK_ok, eLst_eq, lstK_ok, eFz_eq, eMt_eq, mtK_list, eLc_eq, eZip_eq, zipK_list, eEnum_eq, enumK_list, asL_eq, asLK_list, asT_eq, asTK_tup, tgN_eq, tgT_2, tgT_3, setE_nil, setE_cons, wipeE_nil, wipeE_cons, eCall_eq, callK_1, callK_2, callK_3, callK_4, eCallO_eq, callOK_1, callOK_2, callOK_3, rvO_o, rvD_d, rvD_o, eCatO_eq, eRepO_eq, repK_ok, aNil_eq, aCons_eq, oNo_eq, oYes_eq, oYK_int, mP_eq, mPT_eq, mPL_eq, mBin_eq, mAsB_eq, mAsBK_bool, mIf_eq, maNil_eq, maCons_eq, mTup_eq, mtupK_ok, sSetM_eq, sSetTM_eq, sIfM_eq, sParM_eq, parMK_2, sPar3M_eq, par3MK_3, so_val, noEx_val, ofO_some, rs_bind_val, rs_bind_exc, rs_bind_stk, rs_pure, List.map_cons, List.map_nil, List.length_cons, List.length_nil, List.length_map, List.length_set, List.replicate_succ, List.replicate_zero, List.cons_append, List.nil_append, List.getElem?_cons_zero, List.getElem?_cons_succ, List.set_cons_zero, List.set_cons_succ, List.zip_cons_cons, List.zip_nil_right, List.zip_nil_left, Nat.reduceAdd, Nat.reduceSub, Nat.reduceLT, Nat.reduceLeDiff, if_true, if_false, Bool.not_true, Bool.not_false, reduceCtorEq, and_true, true_and, LI, beq_self_eq_true, decide_true, decide_false, decide_eq_true_eq, Bool.false_eq_true, Bool.true_and, Bool.and_true, Bool.false_and, Bool.and_false, Bool.not_not, Bool.or_false, Bool.or_true, Bool.false_or, Bool.true_or, String.reduceBEq, dEq_LI, dNe_LI, dEq_int, dNe_int, dEq_bool, dNe_bool, dLt_int, dLe_int, dGt_int, dGe_int, dAdd_int, dSub_int, dLen_list, dLen_tup, dSum_LI, zipD_LI, dAbs_i]
  rfl
theorem shaped_T (ns : List Int) : SeqAt.shaped (.tuple (ns.map PyData.int)) = true := by
  unfold SeqAt.shaped
  have h1 : PyData.canLay0 (.tuple (ns.map PyData.int)) = true := canLay_ints ns
  have h2 : PyData.depth (.tuple (ns.map PyData.int)) ≤ 64 := by
    have := depth_ints ns
    have e : PyData.depth (.tuple (ns.map PyData.int)) = 1 + PyData.depthAll (ns.map PyData.int) := by
      first
        | rfl
        | (show PyData.depthAll (ns.map PyData.int) + 1 = _; omega)
    have e0 : PyData.depth (.int 0) ≤ 1 := by decide
    omega
  rw [h1]
  simpa using h2
theorem dNe_T (a b : List Int) : dNe (.tuple (a.map .int)) (.tuple (b.map .int)) = .val (.bool (!decide (a = b))) := by
  unfold dNe
  rw [shaped_T, shaped_T]
  show Rs.val (PyData.bool (!PyData.eqvAll _ _)) = _
  rw [eqv_ints]
theorem dEq_T (a b : List Int) : dEq (.tuple (a.map .int)) (.tuple (b.map .int)) = .val (.bool (decide (a = b))) := by
  unfold dEq
  rw [shaped_T, shaped_T]
  show Rs.val (PyData.bool (PyData.eqvAll _ _)) = _
  rw [eqv_ints]
/-! ### all orders of few things, walked by the kernel -/
def getO (r : Rs Rv) : Option (List D) := match r with
  | .val (.o l) => some l
  | _ => none
def getI (r : Rs Rv) : Option Int := match r with
  | .val (.d (.int i)) => some i
  | _ => none
theorem getO_some {r : Rs Rv} {l : List D} (h : getO r = some l) : r = .val (.o l) := by
  unfold getO at h
  split at h
  · cases h
    rfl
  · cases h
theorem getI_some {r : Rs Rv} {l : Int} (h : getI r = some l) : r = .val (.d (.int l)) := by
  unfold getI at h
  split at h
  · cases h
    rfl
  · cases h

/-! ### cycles, plainly -/
theorem dIx_last {l : List Int} (h : l ≠ []) : dIx (LI l) (.int (-1)) = .val (.int (lst l)) := by
  have hl : 0 < l.length := List.length_pos_iff.mpr h
  refine dIx_list ?_
  have h2 : (l.map PyData.int)[l.length - 1]? = some (.int (lst l)) := by
    unfold lst
    rw [List.getElem?_map, List.getElem?_eq_getElem (by omega), gt_eq (by omega)]
    rfl
  have h3 : ixN (l.map PyData.int).length (-1) = some (l.length - 1) := by
    unfold ixN
    rw [List.length_map]
    rw [if_neg (by decide), if_pos (by omega)]
    congr 1
    omega
  unfold atI
  rw [h3]
  exact h2
theorem dIn_int (neg : Bool) (x : Int) (l : List Int) : dIn neg (.int x) (LI l) = .val (.bool (if neg = true then !decide (x ∈ l) else decide (x ∈ l))) := by
  have e : ((l.map PyData.int).any fun z => PyData.eqv z (.int x)) = decide (x ∈ l) := by
    induction l with
    | nil => rfl
    | cons y r ih =>
      rw [List.map_cons, List.any_cons, eqv_int, ih]
      by_cases h1 : y = x <;> by_cases h2 : x ∈ r <;> simp [h1, h2, eq_comm]
      exact fun h => h1 h.symm
  unfold dIn
  show (if (SeqAt.shaped (.int x) && SeqAt.shaped (LI l)) = true then _ else _) = _
  rw [shaped_int, shaped_ints, e]
  rfl
def frzK (i : Nat) (g : SF) (env : En) (s : Option Sl) : So := match s with
  | some (.ow l) => g (env.set i (.fz (.list l)))
  | _ => g env
theorem sFrz_eq (i : Nat) (g : SF) (env : En) : sFrz i g env = frzK i g env env[i]? := rfl
theorem frzK_ow (i : Nat) (g : SF) (env : En) (l : List D) : frzK i g env (some (.ow l)) = g (env.set i (.fz (.list l))) := rfl
theorem dIx_nxt {n : Nat} {s : List Int} (h : Rk n s) {x : Int} (h1 : 1 ≤ x) (h2 : x ≤ n) : dIx (LI s) (.int (x - 1)) = .val (.int (nxt s x)) := dIx_LI' (by omega) (by rw [h.len]; omega)
def wC : En → Rs Bool := asB (eBin dNe (eBin dIx (eVarB 0) (eBin dSub (eBin dIx (eVarB 4) (eNeg (eC (.int 1)))) (eC (.int 1)))) (eVarB 3))
def wB : SF := sApp 4 (eBin dIx (eVarB 0) (eBin dSub (eBin dIx (eVarB 4) (eNeg (eC (.int 1)))) (eC (.int 1))))
theorem folC_run {n : Nat} {s : List Int} (h : Rk n s) {first : Int} {F K : Sl} : ∀ (m : Nat) (pre : List Int) (x : Int) (c : List Int), pre.length + m < 90000 → 1 ≤ x → x ≤ n → folC s first m (pre ++ [x]) x = some c →
    sWhile wC wB m [.fz (LI s), F, K, .fz (.int first), .ow ((pre ++ [x]).map .int)] = .nx [.fz (LI s), F, K, .fz (.int first), .ow (c.map .int)] ∧ c.length ≤ pre.length + m
  | 0, _, _, _, _, _, _, e => by cases e
  | m + 1, pre, x, c, hl, h1, h2, e => by
    have hne : pre ++ [x] ≠ [] := by simp
    have hd := dIx_last hne
    rw [lst_snoc] at hd
    have hx := dIx_nxt h h1 h2
    have hc : wC [.fz (LI s), F, K, .fz (.int first), .ow ((pre ++ [x]).map .int)] = .val (!decide (nxt s x = first)) := by
      unfold wC
      simp only [LI] at hd hx
      simp (implicitDefEqProofs := false) only [run_eq, asQ_eq, asQK_list, asQK_tup, sFrz_eq', sFrzK_ow, sFrzK_fz, sFrzK_no, eRgD_eq, dAdd_q, dIs_true, dIs_false, runK_nx, runK_ret, runK_reto, runK_exc, sSeq_eq, seqK_nx, seqK_ret, seqK_reto, seqK_exc, sIf_eq, sSet_eq, sSetO_eq, setOK_ok, sFor_eq, sRet_eq, sRetO_eq, sRetV_eq, retVK_ow, retVK_fz, sRetN_eq, sDrop_eq, sExc_eq, sApp_eq, appJ_ow, sPut_eq, putK_ow, sPar_eq, parK_2, sNil_eq, sSetT_eq, sAug_eq, augK_fz, sAugL_eq, augLK_ow, sRem_eq, eVar_eq, varK_fz, eVarB_eq, varBK_fz, varBK_ow, eC_eq, eBin_eq, eChain_eq, chainK_bool, asB_eq, asBK_bool, bNot_eq, bAnd_eq, bOr_eq, bYes_eq, eNot_eq, eAnd_eq, eOr_eq, eIf_eq, eCB_eq, eCO_eq, eRg1_eq, rg1K_int, eRg2_eq, rg2K_int, eIsi_eq, isD_int, isD_bool, isD_list, isD_tup, isD_str, eCut_eq, cutK_list, eRev_eq, revK_list, eNeg_eq, negK_int, eTup_eq, tupK_ok, eLst_eq, lstK_ok, eFz_eq, eMt_eq, mtK_list, eLc_eq, eZip_eq, zipK_list, eEnum_eq, enumK_list, asL_eq, asLK_list, asT_eq, asTK_tup, tgN_eq, tgT_2, tgT_3, setE_nil, setE_cons, wipeE_nil, wipeE_cons, eCall_eq, callK_1, callK_2, callK_3, callK_4, eCallO_eq, callOK_1, callOK_2, callOK_3, rvO_o, rvD_d, rvD_o, eCatO_eq, eRepO_eq, repK_ok, aNil_eq, aCons_eq, oNo_eq, oYes_eq, oYK_int, mP_eq, mPT_eq, mPL_eq, mBin_eq, mAsB_eq, mAsBK_bool, mIf_eq, maNil_eq, maCons_eq, mTup_eq, mtupK_ok, sSetM_eq, sSetTM_eq, sIfM_eq, sParM_eq, parMK_2, sPar3M_eq, par3MK_3, so_val, noEx_val, ofO_some, rs_bind_val, rs_bind_exc, rs_bind_stk, rs_pure, List.map_cons, List.map_nil, List.length_cons, List.length_nil, List.length_map, List.length_set, List.replicate_succ, List.replicate_zero, List.cons_append, List.nil_append, List.getElem?_cons_zero, List.getElem?_cons_succ, List.set_cons_zero, List.set_cons_succ, List.zip_cons_cons, List.zip_nil_right, List.zip_nil_left, Nat.reduceAdd, Nat.reduceSub, Nat.reduceLT, Nat.reduceLeDiff, if_true, if_false, Bool.not_true, Bool.not_false, reduceCtorEq, and_true, true_and, LI, beq_self_eq_true, decide_true, decide_false, decide_eq_true_eq, Bool.false_eq_true, Bool.true_and, Bool.and_true, Bool.false_and, Bool.and_false, Bool.not_not, Bool.or_false, Bool.or_true, Bool.false_or, Bool.true_or, String.reduceBEq, dEq_LI, dNe_LI, dEq_int, dNe_int, dEq_bool, dNe_bool, dLt_int, dLe_int, dGt_int, dGe_int, dAdd_int, dSub_int, dLen_list, dLen_tup, dSum_LI, zipD_LI, hd, hx]
    rw [folC] at e
    rw [sWhile, hc, so_val]
    by_cases hf : nxt s x = first
    · rw [if_pos hf] at e
      cases e
      rw [decide_eq_true hf]
      refine ⟨rfl, ?_⟩
      rw [List.length_append, List.length_singleton]
      omega
    · rw [if_neg hf] at e
      rw [decide_eq_false hf, Bool.not_false, if_pos rfl]
      have hb : wB [.fz (LI s), F, K, .fz (.int first), .ow ((pre ++ [x]).map .int)] = .nx [.fz (LI s), F, K, .fz (.int first), .ow ((pre ++ [x] ++ [nxt s x]).map .int)] := by
        have happ := fun e => appK_ok (i := 4) (env := e) (l := (pre ++ [x]).map PyData.int) (d := .int (nxt s x)) (by rw [List.length_map, List.length_append, List.length_singleton]; omega)
        unfold wB
        simp only [LI] at hd hx
        rw [List.map_append (l₁ := pre ++ [x])]
        simp (implicitDefEqProofs := false) only [run_eq, asQ_eq, asQK_list, asQK_tup, sFrz_eq', sFrzK_ow, sFrzK_fz, sFrzK_no, eRgD_eq, dAdd_q, dIs_true, dIs_false, runK_nx, runK_ret, runK_reto, runK_exc, sSeq_eq, seqK_nx, seqK_ret, seqK_reto, seqK_exc, sIf_eq, sSet_eq, sSetO_eq, setOK_ok, sFor_eq, sRet_eq, sRetO_eq, sRetV_eq, retVK_ow, retVK_fz, sRetN_eq, sDrop_eq, sExc_eq, sApp_eq, appJ_ow, sPut_eq, putK_ow, sPar_eq, parK_2, sNil_eq, sSetT_eq, sAug_eq, augK_fz, sAugL_eq, augLK_ow, sRem_eq, eVar_eq, varK_fz, eVarB_eq, varBK_fz, varBK_ow, eC_eq, eBin_eq, eChain_eq, chainK_bool, asB_eq, asBK_bool, bNot_eq, bAnd_eq, bOr_eq, bYes_eq, eNot_eq, eAnd_eq, eOr_eq, eIf_eq, eCB_eq, eCO_eq, eRg1_eq, rg1K_int, eRg2_eq, rg2K_int, eIsi_eq, isD_int, isD_bool, isD_list, isD_tup, isD_str, eCut_eq, cutK_list, eRev_eq, revK_list, eNeg_eq, negK_int, eTup_eq, tupK_ok, eLst_eq, lstK_ok, eFz_eq, eMt_eq, mtK_list, eLc_eq, eZip_eq, zipK_list, eEnum_eq, enumK_list, asL_eq, asLK_list, asT_eq, asTK_tup, tgN_eq, tgT_2, tgT_3, setE_nil, setE_cons, wipeE_nil, wipeE_cons, eCall_eq, callK_1, callK_2, callK_3, callK_4, eCallO_eq, callOK_1, callOK_2, callOK_3, rvO_o, rvD_d, rvD_o, eCatO_eq, eRepO_eq, repK_ok, aNil_eq, aCons_eq, oNo_eq, oYes_eq, oYK_int, mP_eq, mPT_eq, mPL_eq, mBin_eq, mAsB_eq, mAsBK_bool, mIf_eq, maNil_eq, maCons_eq, mTup_eq, mtupK_ok, sSetM_eq, sSetTM_eq, sIfM_eq, sParM_eq, parMK_2, sPar3M_eq, par3MK_3, so_val, noEx_val, ofO_some, rs_bind_val, rs_bind_exc, rs_bind_stk, rs_pure, List.map_cons, List.map_nil, List.length_cons, List.length_nil, List.length_map, List.length_set, List.replicate_succ, List.replicate_zero, List.cons_append, List.nil_append, List.getElem?_cons_zero, List.getElem?_cons_succ, List.set_cons_zero, List.set_cons_succ, List.zip_cons_cons, List.zip_nil_right, List.zip_nil_left, Nat.reduceAdd, Nat.reduceSub, Nat.reduceLT, Nat.reduceLeDiff, if_true, if_false, Bool.not_true, Bool.not_false, reduceCtorEq, and_true, true_and, LI, beq_self_eq_true, decide_true, decide_false, decide_eq_true_eq, Bool.false_eq_true, Bool.true_and, Bool.and_true, Bool.false_and, Bool.and_false, Bool.not_not, Bool.or_false, Bool.or_true, Bool.false_or, Bool.true_or, String.reduceBEq, dEq_LI, dNe_LI, dEq_int, dNe_int, dEq_bool, dNe_bool, dLt_int, dLe_int, dGt_int, dGe_int, dAdd_int, dSub_int, dLen_list, dLen_tup, dSum_LI, zipD_LI, hd, hx, happ]
      rw [hb]
      have := nxt_rg h h1 h2
      obtain ⟨g1, g2⟩ := folC_run h (F := F) (K := K) m (pre ++ [x]) (nxt s x) c (by rw [List.length_append, List.length_singleton]; omega) this.1 this.2 e
      rw [List.length_append, List.length_singleton] at g2
      exact ⟨g1, by omega⟩
def LL (C : List (List Int)) : List D := C.map fun c => LI c
def oB : SF := sIf (asB (eBin (dIn true) (eVarB 3) (eVarB 2))) (sSeq (sSetO 4 (eLst (aCons (eVar 3) aNil))) (sSeq (sWhile wC wB fuel) (sSeq (sFrz 4 (sApp 1 (eVar 4))) (sSet 2 (eBin dAdd (eVarB 2) (eVarB 4)))))) sNil
theorem cycG_run {n : Nat} {s : List Int} (h : Rk n s) : ∀ (fs : List Int) (found : List (List Int)) (known : List Int) (C : List (List Int)) (y z : Sl), (∀ f ∈ fs, 1 ≤ f ∧ f ≤ n) → found.length + fs.length < 50 → known.length + fs.length * 1000 < 50000 → cycG s fs found known = some C →
    ∃ k y' z', forL (tgN 3) oB (fs.map .int) [.fz (LI s), .ow (LL found), .fz (LI known), y, z] = .nx [.fz (LI s), .ow (LL C), .fz (LI k), y', z']
  | [], found, known, C, y, z, _, _, _, e => by
    cases e
    exact ⟨known, y, z, rfl⟩
  | f :: r, found, known, C, y, z, hf, h1, h2, e => by
    have hff := hf f (List.mem_cons_self ..)
    have hr := fun g hg => hf g (List.mem_cons_of_mem _ hg)
    rw [List.length_cons] at h1 h2
    rw [cycG] at e
    have hin := dIn_int true f known
    simp only [LI, if_true] at hin
    have hset : setE [.fz (LI s), .ow (LL found), .fz (LI known), y, z] [(3, .int f)] = [.fz (LI s), .ow (LL found), .fz (LI known), .fz (.int f), z] := rfl
    rw [List.map_cons, forL, tgN_eq, noEx_val, so_val, hset]
    by_cases hk : f ∈ known
    · rw [if_pos hk] at e
      have hb : oB [.fz (LI s), .ow (LL found), .fz (LI known), .fz (.int f), z] = .nx [.fz (LI s), .ow (LL found), .fz (LI known), .fz (.int f), z] := by
        unfold oB
        simp (implicitDefEqProofs := false) only [run_eq, asQ_eq, asQK_list, asQK_tup, sFrz_eq', sFrzK_ow, sFrzK_fz, sFrzK_no, eRgD_eq, dAdd_q, dIs_true, dIs_false, runK_nx, runK_ret, runK_reto, runK_exc, sSeq_eq, seqK_nx, seqK_ret, seqK_reto, seqK_exc, sIf_eq, sSet_eq, sSetO_eq, setOK_ok, sFor_eq, sRet_eq, sRetO_eq, sRetV_eq, retVK_ow, retVK_fz, sRetN_eq, sDrop_eq, sExc_eq, sApp_eq, appJ_ow, sPut_eq, putK_ow, sPar_eq, parK_2, sNil_eq, sSetT_eq, sAug_eq, augK_fz, sAugL_eq, augLK_ow, sRem_eq, eVar_eq, varK_fz, eVarB_eq, varBK_fz, varBK_ow, eC_eq, eBin_eq, eChain_eq, chainK_bool, asB_eq, asBK_bool, bNot_eq, bAnd_eq, bOr_eq, bYes_eq, eNot_eq, eAnd_eq, eOr_eq, eIf_eq, eCB_eq, eCO_eq, eRg1_eq, rg1K_int, eRg2_eq, rg2K_int, eIsi_eq, isD_int, isD_bool, isD_list, isD_tup, isD_str, eCut_eq, cutK_list, eRev_eq, revK_list, eNeg_eq, negK_int, eTup_eq, tupK_ok, eLst_eq, lstK_ok, eFz_eq, eMt_eq, mtK_list, eLc_eq, eZip_eq, zipK_list, eEnum_eq, enumK_list, asL_eq, asLK_list, asT_eq, asTK_tup, tgN_eq, tgT_2, tgT_3, setE_nil, setE_cons, wipeE_nil, wipeE_cons, eCall_eq, callK_1, callK_2, callK_3, callK_4, eCallO_eq, callOK_1, callOK_2, callOK_3, rvO_o, rvD_d, rvD_o, eCatO_eq, eRepO_eq, repK_ok, aNil_eq, aCons_eq, oNo_eq, oYes_eq, oYK_int, mP_eq, mPT_eq, mPL_eq, mBin_eq, mAsB_eq, mAsBK_bool, mIf_eq, maNil_eq, maCons_eq, mTup_eq, mtupK_ok, sSetM_eq, sSetTM_eq, sIfM_eq, sParM_eq, parMK_2, sPar3M_eq, par3MK_3, so_val, noEx_val, ofO_some, rs_bind_val, rs_bind_exc, rs_bind_stk, rs_pure, List.map_cons, List.map_nil, List.length_cons, List.length_nil, List.length_map, List.length_set, List.replicate_succ, List.replicate_zero, List.cons_append, List.nil_append, List.getElem?_cons_zero, List.getElem?_cons_succ, List.set_cons_zero, List.set_cons_succ, List.zip_cons_cons, List.zip_nil_right, List.zip_nil_left, Nat.reduceAdd, Nat.reduceSub, Nat.reduceLT, Nat.reduceLeDiff, if_true, if_false, Bool.not_true, Bool.not_false, reduceCtorEq, and_true, true_and, LI, beq_self_eq_true, decide_true, decide_false, decide_eq_true_eq, Bool.false_eq_true, Bool.true_and, Bool.and_true, Bool.false_and, Bool.and_false, Bool.not_not, Bool.or_false, Bool.or_true, Bool.false_or, Bool.true_or, String.reduceBEq, dEq_LI, dNe_LI, dEq_int, dNe_int, dEq_bool, dNe_bool, dLt_int, dLe_int, dGt_int, dGe_int, dAdd_int, dSub_int, dLen_list, dLen_tup, dSum_LI, zipD_LI, hin, decide_eq_true hk]
      rw [hb]
      exact cycG_run h r found known C _ _ hr (by omega) (by omega) e
    · rw [if_neg hk] at e
      cases hc : folC s f 1000 [f] f with
      | none =>
        rw [hc] at e
        cases e
      | some c =>
        rw [hc] at e
        obtain ⟨w1, w2⟩ := folC_run h (F := .ow (LL found)) (K := .fz (LI known)) 1000 [] f c (by decide) hff.1 hff.2 hc
        rw [List.length_nil, Nat.zero_add] at w2
        have hb : oB [.fz (LI s), .ow (LL found), .fz (LI known), .fz (.int f), z] = .nx [.fz (LI s), .ow (LL (found ++ [c])), .fz (LI (known ++ c)), .fz (.int f), .fz (LI c)] := by
          have happ := fun e => appK_ok (i := 1) (env := e) (l := LL found) (d := LI c) (by unfold LL; rw [List.length_map]; omega)
          have hadd : dAdd (LI known) (LI c) = .val (LI (known ++ c)) := by
            rw [dAdd_list (by rw [List.length_map, List.length_map]; omega), ← List.map_append]
          have hLL : LL (found ++ [c]) = LL found ++ [LI c] := by
            unfold LL
            rw [List.map_append]
            rfl
          have w1' : sWhile wC wB fuel [.fz (LI s), .ow (LL found), .fz (LI known), .fz (.int f), .ow [.int f]] = .nx [.fz (LI s), .ow (LL found), .fz (LI known), .fz (.int f), .ow (c.map .int)] := w1
          rw [hLL]
          unfold oB
          simp only [LI] at hadd w1' happ
          simp (implicitDefEqProofs := false) only [run_eq, asQ_eq, asQK_list, asQK_tup, sFrz_eq', sFrzK_ow, sFrzK_fz, sFrzK_no, eRgD_eq, dAdd_q, dIs_true, dIs_false, runK_nx, runK_ret, runK_reto, runK_exc, sSeq_eq, seqK_nx, seqK_ret, seqK_reto, seqK_exc, sIf_eq, sSet_eq, sSetO_eq, setOK_ok, sFor_eq, sRet_eq, sRetO_eq, sRetV_eq, retVK_ow, retVK_fz, sRetN_eq, sDrop_eq, sExc_eq, sApp_eq, appJ_ow, sPut_eq, putK_ow, sPar_eq, parK_2, sNil_eq, sSetT_eq, sAug_eq, augK_fz, sAugL_eq, augLK_ow, sRem_eq, eVar_eq, varK_fz, eVarB_eq, varBK_fz, varBK_ow, eC_eq, eBin_eq, eChain_eq, chainK_bool, asB_eq, asBK_bool, bNot_eq, bAnd_eq, bOr_eq, bYes_eq, eNot_eq, eAnd_eq, eOr_eq, eIf_eq, eCB_eq, eCO_eq, eRg1_eq, rg1K_int, eRg2_eq, rg2K_int, eIsi_eq, isD_int, isD_bool, isD_list, isD_tup, isD_str, eCut_eq, cutK_list, eRev_eq, revK_list, eNeg_eq, negK_int, eTup_eq, tupK_ok, eLst_eq, lstK_ok, eFz_eq, eMt_eq, mtK_list, eLc_eq, eZip_eq, zipK_list, eEnum_eq, enumK_list, asL_eq, asLK_list, asT_eq, asTK_tup, tgN_eq, tgT_2, tgT_3, setE_nil, setE_cons, wipeE_nil, wipeE_cons, eCall_eq, callK_1, callK_2, callK_3, callK_4, eCallO_eq, callOK_1, callOK_2, callOK_3, rvO_o, rvD_d, rvD_o, eCatO_eq, eRepO_eq, repK_ok, aNil_eq, aCons_eq, oNo_eq, oYes_eq, oYK_int, mP_eq, mPT_eq, mPL_eq, mBin_eq, mAsB_eq, mAsBK_bool, mIf_eq, maNil_eq, maCons_eq, mTup_eq, mtupK_ok, sSetM_eq, sSetTM_eq, sIfM_eq, sParM_eq, parMK_2, sPar3M_eq, par3MK_3, so_val, noEx_val, ofO_some, rs_bind_val, rs_bind_exc, rs_bind_stk, rs_pure, List.map_cons, List.map_nil, List.length_cons, List.length_nil, List.length_map, List.length_set, List.replicate_succ, List.replicate_zero, List.cons_append, List.nil_append, List.getElem?_cons_zero, List.getElem?_cons_succ, List.set_cons_zero, List.set_cons_succ, List.zip_cons_cons, List.zip_nil_right, List.zip_nil_left, Nat.reduceAdd, Nat.reduceSub, Nat.reduceLT, Nat.reduceLeDiff, if_true, if_false, Bool.not_true, Bool.not_false, reduceCtorEq, and_true, true_and, LI, beq_self_eq_true, decide_true, decide_false, decide_eq_true_eq, Bool.false_eq_true, Bool.true_and, Bool.and_true, Bool.false_and, Bool.and_false, Bool.not_not, Bool.or_false, Bool.or_true, Bool.false_or, Bool.true_or, String.reduceBEq, dEq_LI, dNe_LI, dEq_int, dNe_int, dEq_bool, dNe_bool, dLt_int, dLe_int, dGt_int, dGe_int, dAdd_int, dSub_int, dLen_list, dLen_tup, dSum_LI, zipD_LI, hin, decide_eq_false hk, w1', sFrz_eq, frzK_ow, happ, hadd]
        rw [hb]
        exact cycG_run h r (found ++ [c]) (known ++ c) C _ _ hr (by rw [List.length_append, List.length_singleton]; omega) (by rw [List.length_append]; omega) e
/-! ### the longest rising list, by its ends -/
theorem lisG_run {n : Nat} {s : List Int} (h : Rk n s) : ∀ (r : List Int) (k : Nat) (best : List Int) (x y z : Sl), k + r.length = n → best.length = k →
    ∃ x' y' z', forL (tgT [2, 3]) (sApp 1 (eBin dAdd (eC (.int 1)) (eCB dMax (aCons (eBin dAdd (eFz (eLst (aCons (eC (.int 0)) aNil))) (eFz (eLc (eRg1 (eVarB 2)) (tgN 4) (asB (eBin dLt (eBin dIx (eVarB 0) (eVarB 4)) (eVarB 3))) (eBin dIx (eVarB 1) (eVarB 4)) [4]))) aNil)))) (enumD k (r.map .int)) [.fz (LI s), .ow (best.map .int), x, y, z] = .nx [.fz (LI s), .ow ((lisG s k best r).map .int), x', y', z']
  | [], k, best, x, y, z, _, _ => ⟨x, y, z, rfl⟩
  | v :: r, k, best, x, y, z, h1, h2 => by
    have h7 := h.hi
    have hl := h.len
    rw [List.length_cons] at h1
    have e0 : rgL 0 (k : Int) = .val ((List.range k).map fun i => PyData.int ((i : Nat) : Int)) := by
      rw [rgL_val (by omega), rgI_nat, List.map_map]
      rfl
    have lc : lcK (tgN 4) (asB (eBin dLt (eBin dIx (eVarB 0) (eVarB 4)) (eVarB 3))) (eBin dIx (eVarB 1) (eVarB 4)) [.fz (.list (s.map .int)), .ow (best.map .int), .fz (.int (k : Nat)), .fz (.int v), .no] ((List.range k).map fun i => PyData.int ((i : Nat) : Int)) = .val ((((List.range k).filter fun j => decide (gt s j < v)).map fun j => gt best j).map .int) := by
      rw [List.map_map]
      refine lcK_ok (by rw [List.length_map, List.length_range]; omega) (lcRun_map (fun i : Nat => PyData.int ((i : Nat) : Int)) _ _ _ fun j hj => ⟨_, rfl, ?_, fun _ => ?_⟩)
      · rw [List.mem_range] at hj
        have := dIx_LI (a := s) (i := j) (by omega)
        simp only [LI] at this
        simp (implicitDefEqProofs := false) only [run_eq, asQ_eq, asQK_list, asQK_tup, sFrz_eq', sFrzK_ow, sFrzK_fz, sFrzK_no, eRgD_eq, dAdd_q, dIs_true, dIs_false, runK_nx, runK_ret, runK_reto, runK_exc, sSeq_eq, seqK_nx, seqK_ret, seqK_reto, seqK_exc, sIf_eq, sSet_eq, sSetO_eq, setOK_ok, sFor_eq, sRet_eq, sRetO_eq, sRetV_eq, retVK_ow, retVK_fz, sRetN_eq, sDrop_eq, sExc_eq, sApp_eq, appJ_ow, sPut_eq, putK_ow, sPar_eq, parK_2, sNil_eq, sSetT_eq, sAug_eq, augK_fz, sAugL_eq, augLK_ow, sRem_eq, eVar_eq, varK_fz, eVarB_eq, varBK_fz, varBK_ow, eC_eq, eBin_eq, eChain_eq, chainK_bool, asB_eq, asBK_bool, bNot_eq, bAnd_eq, bOr_eq, bYes_eq, eNot_eq, eAnd_eq, eOr_eq, eIf_eq, eCB_eq, eCO_eq, eRg1_eq, rg1K_int, eRg2_eq, rg2K_int, eIsi_eq, isD_int, isD_bool, isD_list, isD_tup, isD_str, eCut_eq, cutK_list, eRev_eq, revK_list, eNeg_eq, negK_int, eTup_eq, tupK_ok, eLst_eq, lstK_ok, eFz_eq, eMt_eq, mtK_list, eLc_eq, eZip_eq, zipK_list, eEnum_eq, enumK_list, asL_eq, asLK_list, asT_eq, asTK_tup, tgN_eq, tgT_2, tgT_3, setE_nil, setE_cons, wipeE_nil, wipeE_cons, eCall_eq, callK_1, callK_2, callK_3, callK_4, eCallO_eq, callOK_1, callOK_2, callOK_3, rvO_o, rvD_d, rvD_o, eCatO_eq, eRepO_eq, repK_ok, aNil_eq, aCons_eq, oNo_eq, oYes_eq, oYK_int, mP_eq, mPT_eq, mPL_eq, mBin_eq, mAsB_eq, mAsBK_bool, mIf_eq, maNil_eq, maCons_eq, mTup_eq, mtupK_ok, sSetM_eq, sSetTM_eq, sIfM_eq, sParM_eq, parMK_2, sPar3M_eq, par3MK_3, so_val, noEx_val, ofO_some, rs_bind_val, rs_bind_exc, rs_bind_stk, rs_pure, List.map_cons, List.map_nil, List.length_cons, List.length_nil, List.length_map, List.length_set, List.replicate_succ, List.replicate_zero, List.cons_append, List.nil_append, List.getElem?_cons_zero, List.getElem?_cons_succ, List.set_cons_zero, List.set_cons_succ, List.zip_cons_cons, List.zip_nil_right, List.zip_nil_left, Nat.reduceAdd, Nat.reduceSub, Nat.reduceLT, Nat.reduceLeDiff, if_true, if_false, Bool.not_true, Bool.not_false, reduceCtorEq, and_true, true_and, LI, beq_self_eq_true, decide_true, decide_false, decide_eq_true_eq, Bool.false_eq_true, Bool.true_and, Bool.and_true, Bool.false_and, Bool.and_false, Bool.not_not, Bool.or_false, Bool.or_true, Bool.false_or, Bool.true_or, String.reduceBEq, dEq_LI, dNe_LI, dEq_int, dNe_int, dEq_bool, dNe_bool, dLt_int, dLe_int, dGt_int, dGe_int, dAdd_int, dSub_int, dLen_list, dLen_tup, dSum_LI, zipD_LI, this]
      · rw [List.mem_range] at hj
        have := dIx_LI (a := best) (i := j) (by omega)
        simp only [LI] at this
        simp (implicitDefEqProofs := false) only [run_eq, asQ_eq, asQK_list, asQK_tup, sFrz_eq', sFrzK_ow, sFrzK_fz, sFrzK_no, eRgD_eq, dAdd_q, dIs_true, dIs_false, runK_nx, runK_ret, runK_reto, runK_exc, sSeq_eq, seqK_nx, seqK_ret, seqK_reto, seqK_exc, sIf_eq, sSet_eq, sSetO_eq, setOK_ok, sFor_eq, sRet_eq, sRetO_eq, sRetV_eq, retVK_ow, retVK_fz, sRetN_eq, sDrop_eq, sExc_eq, sApp_eq, appJ_ow, sPut_eq, putK_ow, sPar_eq, parK_2, sNil_eq, sSetT_eq, sAug_eq, augK_fz, sAugL_eq, augLK_ow, sRem_eq, eVar_eq, varK_fz, eVarB_eq, varBK_fz, varBK_ow, eC_eq, eBin_eq, eChain_eq, chainK_bool, asB_eq, asBK_bool, bNot_eq, bAnd_eq, bOr_eq, bYes_eq, eNot_eq, eAnd_eq, eOr_eq, eIf_eq, eCB_eq, eCO_eq, eRg1_eq, rg1K_int, eRg2_eq, rg2K_int, eIsi_eq, isD_int, isD_bool, isD_list, isD_tup, isD_str, eCut_eq, cutK_list, eRev_eq, revK_list, eNeg_eq, negK_int, eTup_eq, tupK_ok, eLst_eq, lstK_ok, eFz_eq, eMt_eq, mtK_list, eLc_eq, eZip_eq, zipK_list, eEnum_eq, enumK_list, asL_eq, asLK_list, asT_eq, asTK_tup, tgN_eq, tgT_2, tgT_3, setE_nil, setE_cons, wipeE_nil, wipeE_cons, eCall_eq, callK_1, callK_2, callK_3, callK_4, eCallO_eq, callOK_1, callOK_2, callOK_3, rvO_o, rvD_d, rvD_o, eCatO_eq, eRepO_eq, repK_ok, aNil_eq, aCons_eq, oNo_eq, oYes_eq, oYK_int, mP_eq, mPT_eq, mPL_eq, mBin_eq, mAsB_eq, mAsBK_bool, mIf_eq, maNil_eq, maCons_eq, mTup_eq, mtupK_ok, sSetM_eq, sSetTM_eq, sIfM_eq, sParM_eq, parMK_2, sPar3M_eq, par3MK_3, so_val, noEx_val, ofO_some, rs_bind_val, rs_bind_exc, rs_bind_stk, rs_pure, List.map_cons, List.map_nil, List.length_cons, List.length_nil, List.length_map, List.length_set, List.replicate_succ, List.replicate_zero, List.cons_append, List.nil_append, List.getElem?_cons_zero, List.getElem?_cons_succ, List.set_cons_zero, List.set_cons_succ, List.zip_cons_cons, List.zip_nil_right, List.zip_nil_left, Nat.reduceAdd, Nat.reduceSub, Nat.reduceLT, Nat.reduceLeDiff, if_true, if_false, Bool.not_true, Bool.not_false, reduceCtorEq, and_true, true_and, LI, beq_self_eq_true, decide_true, decide_false, decide_eq_true_eq, Bool.false_eq_true, Bool.true_and, Bool.and_true, Bool.false_and, Bool.and_false, Bool.not_not, Bool.or_false, Bool.or_true, Bool.false_or, Bool.true_or, String.reduceBEq, dEq_LI, dNe_LI, dEq_int, dNe_int, dEq_bool, dNe_bool, dLt_int, dLe_int, dGt_int, dGe_int, dAdd_int, dSub_int, dLen_list, dLen_tup, dSum_LI, zipD_LI, this]
        rfl
    generalize hq : (((List.range k).filter fun j => decide (gt s j < v)).map fun j => gt best j) = q at lc
    have hql : q.length ≤ k := by
      rw [← hq, List.length_map]
      have := List.length_filter_le (fun j => decide (gt s j < v)) (List.range k)
      rw [List.length_range] at this
      exact this
    have hadd : dAdd (.list [PyData.int 0]) (.list (q.map .int)) = .val (LI (0 :: q)) := by
      rw [dAdd_list (by rw [List.length_map]; show 1 + q.length ≤ 100000; omega)]
      rfl
    have hmax := dMax_LI (a := 0 :: q) (by simp)
    have happ := fun e d => appK_ok (i := 1) (env := e) (l := best.map PyData.int) (d := d) (by rw [List.length_map]; omega)
    obtain ⟨x', y', z', ih⟩ := lisG_run h r (k + 1) (best ++ [1 + maxI (0 :: q)]) (.fz (.int (k : Nat))) (.fz (.int v)) z (by omega) (by rw [List.length_append, List.length_singleton, h2])
    refine ⟨x', y', z', ?_⟩
    rw [lisG, hq, List.map_cons, enumD, forL]
    have hb : sApp 1 (eBin dAdd (eC (.int 1)) (eCB dMax (aCons (eBin dAdd (eFz (eLst (aCons (eC (.int 0)) aNil))) (eFz (eLc (eRg1 (eVarB 2)) (tgN 4) (asB (eBin dLt (eBin dIx (eVarB 0) (eVarB 4)) (eVarB 3))) (eBin dIx (eVarB 1) (eVarB 4)) [4]))) aNil))) [.fz (LI s), .ow (best.map .int), .fz (.int (k : Nat)), .fz (.int v), z] = .nx [.fz (LI s), .ow ((best ++ [1 + maxI (0 :: q)]).map .int), .fz (.int (k : Nat)), .fz (.int v), z] := by
      simp only [LI, List.map_cons] at hmax hadd
      rw [List.map_append]
      simp (implicitDefEqProofs := false) only [run_eq, asQ_eq, asQK_list, asQK_tup, sFrz_eq', sFrzK_ow, sFrzK_fz, sFrzK_no, eRgD_eq, dAdd_q, dIs_true, dIs_false, runK_nx, runK_ret, runK_reto, runK_exc, sSeq_eq, seqK_nx, seqK_ret, seqK_reto, seqK_exc, sIf_eq, sSet_eq, sSetO_eq, setOK_ok, sFor_eq, sRet_eq, sRetO_eq, sRetV_eq, retVK_ow, retVK_fz, sRetN_eq, sDrop_eq, sExc_eq, sApp_eq, appJ_ow, sPut_eq, putK_ow, sPar_eq, parK_2, sNil_eq, sSetT_eq, sAug_eq, augK_fz, sAugL_eq, augLK_ow, sRem_eq, eVar_eq, varK_fz, eVarB_eq, varBK_fz, varBK_ow, eC_eq, eBin_eq, eChain_eq, chainK_bool, asB_eq, asBK_bool, bNot_eq, bAnd_eq, bOr_eq, bYes_eq, eNot_eq, eAnd_eq, eOr_eq, eIf_eq, eCB_eq, eCO_eq, eRg1_eq, rg1K_int, eRg2_eq, rg2K_int, eIsi_eq, isD_int, isD_bool, isD_list, isD_tup, isD_str, eCut_eq, cutK_list, eRev_eq, revK_list, eNeg_eq, negK_int, eTup_eq, tupK_ok, eLst_eq, lstK_ok, eFz_eq, eMt_eq, mtK_list, eLc_eq, eZip_eq, zipK_list, eEnum_eq, enumK_list, asL_eq, asLK_list, asT_eq, asTK_tup, tgN_eq, tgT_2, tgT_3, setE_nil, setE_cons, wipeE_nil, wipeE_cons, eCall_eq, callK_1, callK_2, callK_3, callK_4, eCallO_eq, callOK_1, callOK_2, callOK_3, rvO_o, rvD_d, rvD_o, eCatO_eq, eRepO_eq, repK_ok, aNil_eq, aCons_eq, oNo_eq, oYes_eq, oYK_int, mP_eq, mPT_eq, mPL_eq, mBin_eq, mAsB_eq, mAsBK_bool, mIf_eq, maNil_eq, maCons_eq, mTup_eq, mtupK_ok, sSetM_eq, sSetTM_eq, sIfM_eq, sParM_eq, parMK_2, sPar3M_eq, par3MK_3, so_val, noEx_val, ofO_some, rs_bind_val, rs_bind_exc, rs_bind_stk, rs_pure, List.map_cons, List.map_nil, List.length_cons, List.length_nil, List.length_map, List.length_set, List.replicate_succ, List.replicate_zero, List.cons_append, List.nil_append, List.getElem?_cons_zero, List.getElem?_cons_succ, List.set_cons_zero, List.set_cons_succ, List.zip_cons_cons, List.zip_nil_right, List.zip_nil_left, Nat.reduceAdd, Nat.reduceSub, Nat.reduceLT, Nat.reduceLeDiff, if_true, if_false, Bool.not_true, Bool.not_false, reduceCtorEq, and_true, true_and, LI, beq_self_eq_true, decide_true, decide_false, decide_eq_true_eq, Bool.false_eq_true, Bool.true_and, Bool.and_true, Bool.false_and, Bool.and_false, Bool.not_not, Bool.or_false, Bool.or_true, Bool.false_or, Bool.true_or, String.reduceBEq, dEq_LI, dNe_LI, dEq_int, dNe_int, dEq_bool, dNe_bool, dLt_int, dLe_int, dGt_int, dGe_int, dAdd_int, dSub_int, dLen_list, dLen_tup, dSum_LI, zipD_LI, e0, lc, hadd, hmax, happ]
    rw [tgT_2, noEx_val, so_val]
    show (match sApp 1 _ [.fz (LI s), .ow (best.map .int), .fz (.int (k : Nat)), .fz (.int v), z] with
      | .nx e => forL _ _ _ e
      | .ct e => forL _ _ _ e
      | .bk e => .nx e
      | r => r) = _
    rw [hb]
    exact ih

/-! ### the law's own cycles and rising lists -/
def vC : En → Rs Bool := asB (eBin (dIn false) (eBin dIx (eVarB 0) (eBin dSub (eBin dIx (eVarB 3) (eNeg (eC (.int 1)))) (eC (.int 1)))) (eVarB 1))
def vB : SF := sSeq (sApp 3 (eBin dIx (eVarB 0) (eBin dSub (eBin dIx (eVarB 3) (eNeg (eC (.int 1)))) (eC (.int 1))))) (sRem 1 (eBin dIx (eVarB 3) (eNeg (eC (.int 1)))))
theorem lawI_run {n : Nat} {s : List Int} (h : Rk n s) {F : Sl} : ∀ (m : Nat) (left pre : List Int) (x : Int) (c left' : List Int), pre.length + m < 90000 → 1 ≤ x → x ≤ n → lawI s m left (pre ++ [x]) x = some (c, left') →
    sWhile vC vB m [.fz (LI s), .ow (left.map .int), F, .ow ((pre ++ [x]).map .int)] = .nx [.fz (LI s), .ow (left'.map .int), F, .ow (c.map .int)] ∧ left'.length ≤ left.length
  | 0, _, _, _, _, _, _, _, _, e => by cases e
  | m + 1, left, pre, x, c, left', hl, h1, h2, e => by
    have hne : pre ++ [x] ≠ [] := by simp
    have hd := dIx_last hne
    rw [lst_snoc] at hd
    have hx := dIx_nxt h h1 h2
    have hin := dIn_int false (nxt s x) left
    have hc : vC [.fz (LI s), .ow (left.map .int), F, .ow ((pre ++ [x]).map .int)] = .val (decide (nxt s x ∈ left)) := by
      unfold vC
      simp only [LI, Bool.false_eq_true, if_false] at hd hx hin
      simp (implicitDefEqProofs := false) only [run_eq, asQ_eq, asQK_list, asQK_tup, sFrz_eq', sFrzK_ow, sFrzK_fz, sFrzK_no, eRgD_eq, dAdd_q, dIs_true, dIs_false, runK_nx, runK_ret, runK_reto, runK_exc, sSeq_eq, seqK_nx, seqK_ret, seqK_reto, seqK_exc, sIf_eq, sSet_eq, sSetO_eq, setOK_ok, sFor_eq, sRet_eq, sRetO_eq, sRetV_eq, retVK_ow, retVK_fz, sRetN_eq, sDrop_eq, sExc_eq, sApp_eq, appJ_ow, sPut_eq, putK_ow, sPar_eq, parK_2, sNil_eq, sSetT_eq, sAug_eq, augK_fz, sAugL_eq, augLK_ow, sRem_eq, eVar_eq, varK_fz, eVarB_eq, varBK_fz, varBK_ow, eC_eq, eBin_eq, eChain_eq, chainK_bool, asB_eq, asBK_bool, bNot_eq, bAnd_eq, bOr_eq, bYes_eq, eNot_eq, eAnd_eq, eOr_eq, eIf_eq, eCB_eq, eCO_eq, eRg1_eq, rg1K_int, eRg2_eq, rg2K_int, eIsi_eq, isD_int, isD_bool, isD_list, isD_tup, isD_str, eCut_eq, cutK_list, eRev_eq, revK_list, eNeg_eq, negK_int, eTup_eq, tupK_ok, eLst_eq, lstK_ok, eFz_eq, eMt_eq, mtK_list, eLc_eq, eZip_eq, zipK_list, eEnum_eq, enumK_list, asL_eq, asLK_list, asT_eq, asTK_tup, tgN_eq, tgT_2, tgT_3, setE_nil, setE_cons, wipeE_nil, wipeE_cons, eCall_eq, callK_1, callK_2, callK_3, callK_4, eCallO_eq, callOK_1, callOK_2, callOK_3, rvO_o, rvD_d, rvD_o, eCatO_eq, eRepO_eq, repK_ok, aNil_eq, aCons_eq, oNo_eq, oYes_eq, oYK_int, mP_eq, mPT_eq, mPL_eq, mBin_eq, mAsB_eq, mAsBK_bool, mIf_eq, maNil_eq, maCons_eq, mTup_eq, mtupK_ok, sSetM_eq, sSetTM_eq, sIfM_eq, sParM_eq, parMK_2, sPar3M_eq, par3MK_3, so_val, noEx_val, ofO_some, rs_bind_val, rs_bind_exc, rs_bind_stk, rs_pure, List.map_cons, List.map_nil, List.length_cons, List.length_nil, List.length_map, List.length_set, List.replicate_succ, List.replicate_zero, List.cons_append, List.nil_append, List.getElem?_cons_zero, List.getElem?_cons_succ, List.set_cons_zero, List.set_cons_succ, List.zip_cons_cons, List.zip_nil_right, List.zip_nil_left, Nat.reduceAdd, Nat.reduceSub, Nat.reduceLT, Nat.reduceLeDiff, if_true, if_false, Bool.not_true, Bool.not_false, reduceCtorEq, and_true, true_and, LI, beq_self_eq_true, decide_true, decide_false, decide_eq_true_eq, Bool.false_eq_true, Bool.true_and, Bool.and_true, Bool.false_and, Bool.and_false, Bool.not_not, Bool.or_false, Bool.or_true, Bool.false_or, Bool.true_or, String.reduceBEq, dEq_LI, dNe_LI, dEq_int, dNe_int, dEq_bool, dNe_bool, dLt_int, dLe_int, dGt_int, dGe_int, dAdd_int, dSub_int, dLen_list, dLen_tup, dSum_LI, zipD_LI, hd, hx, hin]
    rw [lawI] at e
    rw [sWhile, hc, so_val]
    by_cases hf : nxt s x ∈ left
    · rw [if_pos hf] at e
      rw [decide_eq_true hf, if_pos rfl]
      have hb : vB [.fz (LI s), .ow (left.map .int), F, .ow ((pre ++ [x]).map .int)] = .nx [.fz (LI s), .ow ((left.erase (nxt s x)).map .int), F, .ow ((pre ++ [x] ++ [nxt s x]).map .int)] := by
        have happ := fun e => appK_ok (i := 3) (env := e) (l := (pre ++ [x]).map PyData.int) (d := .int (nxt s x)) (by rw [List.length_map, List.length_append, List.length_singleton]; omega)
        obtain ⟨j, hj, hje⟩ := findIdx_erase left (nxt s x) hf
        have hrm := fun e => remK_ow e 1 left (nxt s x) j hj
        have hd2 := dIx_last (l := pre ++ [x] ++ [nxt s x]) (by simp)
        rw [lst_snoc] at hd2
        rw [← hje, ← eraseIdx_map']
        unfold vB
        simp only [LI] at hd hx hd2
        rw [List.map_append (l₁ := pre ++ [x])] at hd2 ⊢
        simp only [List.map_cons, List.map_nil] at hd2
        simp (implicitDefEqProofs := false) only [run_eq, asQ_eq, asQK_list, asQK_tup, sFrz_eq', sFrzK_ow, sFrzK_fz, sFrzK_no, eRgD_eq, dAdd_q, dIs_true, dIs_false, runK_nx, runK_ret, runK_reto, runK_exc, sSeq_eq, seqK_nx, seqK_ret, seqK_reto, seqK_exc, sIf_eq, sSet_eq, sSetO_eq, setOK_ok, sFor_eq, sRet_eq, sRetO_eq, sRetV_eq, retVK_ow, retVK_fz, sRetN_eq, sDrop_eq, sExc_eq, sApp_eq, appJ_ow, sPut_eq, putK_ow, sPar_eq, parK_2, sNil_eq, sSetT_eq, sAug_eq, augK_fz, sAugL_eq, augLK_ow, sRem_eq, eVar_eq, varK_fz, eVarB_eq, varBK_fz, varBK_ow, eC_eq, eBin_eq, eChain_eq, chainK_bool, asB_eq, asBK_bool, bNot_eq, bAnd_eq, bOr_eq, bYes_eq, eNot_eq, eAnd_eq, eOr_eq, eIf_eq, eCB_eq, eCO_eq, eRg1_eq, rg1K_int, eRg2_eq, rg2K_int, eIsi_eq, isD_int, isD_bool, isD_list, isD_tup, isD_str, eCut_eq, cutK_list, eRev_eq, revK_list, eNeg_eq, negK_int, eTup_eq, tupK_ok, eLst_eq, lstK_ok, eFz_eq, eMt_eq, mtK_list, eLc_eq, eZip_eq, zipK_list, eEnum_eq, enumK_list, asL_eq, asLK_list, asT_eq, asTK_tup, tgN_eq, tgT_2, tgT_3, setE_nil, setE_cons, wipeE_nil, wipeE_cons, eCall_eq, callK_1, callK_2, callK_3, callK_4, eCallO_eq, callOK_1, callOK_2, callOK_3, rvO_o, rvD_d, rvD_o, eCatO_eq, eRepO_eq, repK_ok, aNil_eq, aCons_eq, oNo_eq, oYes_eq, oYK_int, mP_eq, mPT_eq, mPL_eq, mBin_eq, mAsB_eq, mAsBK_bool, mIf_eq, maNil_eq, maCons_eq, mTup_eq, mtupK_ok, sSetM_eq, sSetTM_eq, sIfM_eq, sParM_eq, parMK_2, sPar3M_eq, par3MK_3, so_val, noEx_val, ofO_some, rs_bind_val, rs_bind_exc, rs_bind_stk, rs_pure, List.map_cons, List.map_nil, List.length_cons, List.length_nil, List.length_map, List.length_set, List.replicate_succ, List.replicate_zero, List.cons_append, List.nil_append, List.getElem?_cons_zero, List.getElem?_cons_succ, List.set_cons_zero, List.set_cons_succ, List.zip_cons_cons, List.zip_nil_right, List.zip_nil_left, Nat.reduceAdd, Nat.reduceSub, Nat.reduceLT, Nat.reduceLeDiff, if_true, if_false, Bool.not_true, Bool.not_false, reduceCtorEq, and_true, true_and, LI, beq_self_eq_true, decide_true, decide_false, decide_eq_true_eq, Bool.false_eq_true, Bool.true_and, Bool.and_true, Bool.false_and, Bool.and_false, Bool.not_not, Bool.or_false, Bool.or_true, Bool.false_or, Bool.true_or, String.reduceBEq, dEq_LI, dNe_LI, dEq_int, dNe_int, dEq_bool, dNe_bool, dLt_int, dLe_int, dGt_int, dGe_int, dAdd_int, dSub_int, dLen_list, dLen_tup, dSum_LI, zipD_LI, hd, hx, happ, hd2, hrm]
      rw [hb]
      have := nxt_rg h h1 h2
      obtain ⟨g1, g2⟩ := lawI_run h (F := F) m (left.erase (nxt s x)) (pre ++ [x]) (nxt s x) c left' (by rw [List.length_append, List.length_singleton]; omega) this.1 this.2 e
      exact ⟨g1, Nat.le_trans g2 (by rw [List.length_erase_of_mem hf]; omega)⟩
    · rw [if_neg hf] at e
      cases e
      rw [decide_eq_false hf]
      exact ⟨rfl, Nat.le_refl _⟩
def uC : En → Rs Bool := asB (eBin dNe (eVarB 1) (eFz (eLst aNil)))
def uB : SF := sSeq (sSetO 3 (eLst (aCons (eBin dIx (eVarB 1) (eC (.int 0))) aNil))) (sSeq (sRem 1 (eBin dIx (eVarB 3) (eC (.int 0)))) (sSeq (sWhile vC vB fuel) (sFrz 3 (sApp 2 (eVar 3)))))
theorem dIx_0 (x : Int) (l : List D) : dIx (.list (.int x :: l)) (.int 0) = .val (.int x) := dIx_list (by
  have : (PyData.int x :: l)[0]? = some (.int x) := rfl
  exact atI_nat this)
theorem lawO_run {n : Nat} {s : List Int} (h : Rk n s) : ∀ (m : Nat) (left : List Int) (found : List (List Int)) (C : List (List Int)) (y : Sl), (∀ z ∈ left, 1 ≤ z ∧ z ≤ n) → found.length + left.length < 50000 → lawO s m left found = some C →
    ∃ y', sWhile uC uB m [.fz (LI s), .ow (left.map .int), .ow (LL found), y] = .nx [.fz (LI s), .ow [], .ow (LL C), y']
  | 0, _, _, _, _, _, _, e => by cases e
  | m + 1, left, found, C, y, hm, hl, e => by
    have hc : uC [.fz (LI s), .ow (left.map .int), .ow (LL found), y] = .val (!decide (left = [])) := by
      have := dNe_LI left []
      simp only [LI, List.map_nil] at this
      unfold uC
      simp (implicitDefEqProofs := false) only [run_eq, asQ_eq, asQK_list, asQK_tup, sFrz_eq', sFrzK_ow, sFrzK_fz, sFrzK_no, eRgD_eq, dAdd_q, dIs_true, dIs_false, runK_nx, runK_ret, runK_reto, runK_exc, sSeq_eq, seqK_nx, seqK_ret, seqK_reto, seqK_exc, sIf_eq, sSet_eq, sSetO_eq, setOK_ok, sFor_eq, sRet_eq, sRetO_eq, sRetV_eq, retVK_ow, retVK_fz, sRetN_eq, sDrop_eq, sExc_eq, sApp_eq, appJ_ow, sPut_eq, putK_ow, sPar_eq, parK_2, sNil_eq, sSetT_eq, sAug_eq, augK_fz, sAugL_eq, augLK_ow, sRem_eq, eVar_eq, varK_fz, eVarB_eq, varBK_fz, varBK_ow, eC_eq, eBin_eq, eChain_eq, chainK_bool, asB_eq, asBK_bool, bNot_eq, bAnd_eq, bOr_eq, bYes_eq, eNot_eq, eAnd_eq, eOr_eq, eIf_eq, eCB_eq, eCO_eq, eRg1_eq, rg1K_int, eRg2_eq, rg2K_int, eIsi_eq, isD_int, isD_bool, isD_list, isD_tup, isD_str, eCut_eq, cutK_list, eRev_eq, revK_list, eNeg_eq, negK_int, eTup_eq, tupK_ok, eLst_eq, lstK_ok, eFz_eq, eMt_eq, mtK_list, eLc_eq, eZip_eq, zipK_list, eEnum_eq, enumK_list, asL_eq, asLK_list, asT_eq, asTK_tup, tgN_eq, tgT_2, tgT_3, setE_nil, setE_cons, wipeE_nil, wipeE_cons, eCall_eq, callK_1, callK_2, callK_3, callK_4, eCallO_eq, callOK_1, callOK_2, callOK_3, rvO_o, rvD_d, rvD_o, eCatO_eq, eRepO_eq, repK_ok, aNil_eq, aCons_eq, oNo_eq, oYes_eq, oYK_int, mP_eq, mPT_eq, mPL_eq, mBin_eq, mAsB_eq, mAsBK_bool, mIf_eq, maNil_eq, maCons_eq, mTup_eq, mtupK_ok, sSetM_eq, sSetTM_eq, sIfM_eq, sParM_eq, parMK_2, sPar3M_eq, par3MK_3, so_val, noEx_val, ofO_some, rs_bind_val, rs_bind_exc, rs_bind_stk, rs_pure, List.map_cons, List.map_nil, List.length_cons, List.length_nil, List.length_map, List.length_set, List.replicate_succ, List.replicate_zero, List.cons_append, List.nil_append, List.getElem?_cons_zero, List.getElem?_cons_succ, List.set_cons_zero, List.set_cons_succ, List.zip_cons_cons, List.zip_nil_right, List.zip_nil_left, Nat.reduceAdd, Nat.reduceSub, Nat.reduceLT, Nat.reduceLeDiff, if_true, if_false, Bool.not_true, Bool.not_false, reduceCtorEq, and_true, true_and, LI, beq_self_eq_true, decide_true, decide_false, decide_eq_true_eq, Bool.false_eq_true, Bool.true_and, Bool.and_true, Bool.false_and, Bool.and_false, Bool.not_not, Bool.or_false, Bool.or_true, Bool.false_or, Bool.true_or, String.reduceBEq, dEq_LI, dNe_LI, dEq_int, dNe_int, dEq_bool, dNe_bool, dLt_int, dLe_int, dGt_int, dGe_int, dAdd_int, dSub_int, dLen_list, dLen_tup, dSum_LI, zipD_LI, this]
    rw [sWhile, hc, so_val]
    cases left with
    | nil =>
      rw [lawO] at e
      cases e
      exact ⟨y, rfl⟩
    | cons f left =>
      rw [decide_eq_false (by simp), Bool.not_false, if_pos rfl]
      rw [lawO] at e
      cases hI : lawI s 1000 left [f] f with
      | none =>
        rw [hI] at e
        cases e
      | some q =>
        obtain ⟨c, left'⟩ := q
        rw [hI] at e
        have hf := hm f (List.mem_cons_self ..)
        obtain ⟨w1, w2⟩ := lawI_run h (F := .ow (LL found)) 1000 left [] f c left' (by decide) hf.1 hf.2 hI
        rw [List.length_cons] at hl
        have hb : uB [.fz (LI s), .ow ((f :: left).map .int), .ow (LL found), y] = .nx [.fz (LI s), .ow (left'.map .int), .ow (LL (found ++ [c])), .fz (LI c)] := by
          have happ := fun e => appK_ok (i := 2) (env := e) (l := LL found) (d := LI c) (by unfold LL; rw [List.length_map]; omega)
          have hLL : LL (found ++ [c]) = LL found ++ [LI c] := by
            unfold LL
            rw [List.map_append]
            rfl
          have w1' : sWhile vC vB fuel [.fz (LI s), .ow (left.map .int), .ow (LL found), .ow [.int f]] = .nx [.fz (LI s), .ow (left'.map .int), .ow (LL found), .ow (c.map .int)] := w1
          have hrm : ∀ e, remK 1 e (some (.ow (.int f :: left.map .int))) (.val (.int f)) = .nx (e.set 1 (.ow (left.map .int))) := fun e => remK_ow e 1 (f :: left) f 0 (by rw [List.findIdx?_cons, beq_self_eq_true]; rfl)
          rw [hLL]
          unfold uB
          simp only [LI] at w1' happ
          simp (implicitDefEqProofs := false) only [run_eq, asQ_eq, asQK_list, asQK_tup, sFrz_eq', sFrzK_ow, sFrzK_fz, sFrzK_no, eRgD_eq, dAdd_q, dIs_true, dIs_false, runK_nx, runK_ret, runK_reto, runK_exc, sSeq_eq, seqK_nx, seqK_ret, seqK_reto, seqK_exc, sIf_eq, sSet_eq, sSetO_eq, setOK_ok, sFor_eq, sRet_eq, sRetO_eq, sRetV_eq, retVK_ow, retVK_fz, sRetN_eq, sDrop_eq, sExc_eq, sApp_eq, appJ_ow, sPut_eq, putK_ow, sPar_eq, parK_2, sNil_eq, sSetT_eq, sAug_eq, augK_fz, sAugL_eq, augLK_ow, sRem_eq, eVar_eq, varK_fz, eVarB_eq, varBK_fz, varBK_ow, eC_eq, eBin_eq, eChain_eq, chainK_bool, asB_eq, asBK_bool, bNot_eq, bAnd_eq, bOr_eq, bYes_eq, eNot_eq, eAnd_eq, eOr_eq, eIf_eq, eCB_eq, eCO_eq, eRg1_eq, rg1K_int, eRg2_eq, rg2K_int, eIsi_eq, isD_int, isD_bool, isD_list, isD_tup, isD_str, eCut_eq, cutK_list, eRev_eq, revK_list, eNeg_eq, negK_int, eTup_eq, tupK_ok, eLst_eq, lstK_ok, eFz_eq, eMt_eq, mtK_list, eLc_eq, eZip_eq, zipK_list, eEnum_eq, enumK_list, asL_eq, asLK_list, asT_eq, asTK_tup, tgN_eq, tgT_2, tgT_3, setE_nil, setE_cons, wipeE_nil, wipeE_cons, eCall_eq, callK_1, callK_2, callK_3, callK_4, eCallO_eq, callOK_1, callOK_2, callOK_3, rvO_o, rvD_d, rvD_o, eCatO_eq, eRepO_eq, repK_ok, aNil_eq, aCons_eq, oNo_eq, oYes_eq, oYK_int, mP_eq, mPT_eq, mPL_eq, mBin_eq, mAsB_eq, mAsBK_bool, mIf_eq, maNil_eq, maCons_eq, mTup_eq, mtupK_ok, sSetM_eq, sSetTM_eq, sIfM_eq, sParM_eq, parMK_2, sPar3M_eq, par3MK_3, so_val, noEx_val, ofO_some, rs_bind_val, rs_bind_exc, rs_bind_stk, rs_pure, List.map_cons, List.map_nil, List.length_cons, List.length_nil, List.length_map, List.length_set, List.replicate_succ, List.replicate_zero, List.cons_append, List.nil_append, List.getElem?_cons_zero, List.getElem?_cons_succ, List.set_cons_zero, List.set_cons_succ, List.zip_cons_cons, List.zip_nil_right, List.zip_nil_left, Nat.reduceAdd, Nat.reduceSub, Nat.reduceLT, Nat.reduceLeDiff, if_true, if_false, Bool.not_true, Bool.not_false, reduceCtorEq, and_true, true_and, LI, beq_self_eq_true, decide_true, decide_false, decide_eq_true_eq, Bool.false_eq_true, Bool.true_and, Bool.and_true, Bool.false_and, Bool.and_false, Bool.not_not, Bool.or_false, Bool.or_true, Bool.false_or, Bool.true_or, String.reduceBEq, dEq_LI, dNe_LI, dEq_int, dNe_int, dEq_bool, dNe_bool, dLt_int, dLe_int, dGt_int, dGe_int, dAdd_int, dSub_int, dLen_list, dLen_tup, dSum_LI, zipD_LI, dIx_0, hrm, w1', sFrz_eq, frzK_ow, happ]
        rw [hb]
        exact lawO_run h m left' (found ++ [c]) C _ (fun z hz => hm z (List.mem_cons_of_mem _ (lawI_mem (n := n) 1000 _ _ _ c left' hI z hz))) (by rw [List.length_append, List.length_singleton]; omega) e
/-! rising lists -/
theorem ris_run : ∀ (r : List Int) (S : D) (parts : List (List Int)) (y z : Sl) (m : Nat), r.length ≤ 8 → parts.length * 2 ^ r.length ≤ 1000 → m + r.length ≤ 100 → (∀ p ∈ parts, p.length ≤ m) →
    ∃ y' z', forL (tgN 2) (sSet 1 (eBin dAdd (eVarB 1) (eFz (eLc (asL (eVarB 1)) (tgN 3) (bOr (asB (eBin dEq (eVarB 3) (eFz (eLst aNil)))) (asB (eBin dLt (eBin dIx (eVarB 3) (eNeg (eC (.int 1)))) (eVarB 2)))) (eBin dAdd (eVarB 3) (eFz (eLst (aCons (eVar 2) aNil)))) [3])))) (r.map .int) [.fz S, .fz (.list (LL parts)), y, z] = .nx [.fz S, .fz (.list (LL (r.foldl rstep parts))), y', z']
  | [], S, parts, y, z, m, _, _, _, _ => ⟨y, z, rfl⟩
  | v :: r, S, parts, y, z, m, h0, h1, h2, h3 => by
    rw [List.length_cons] at h0 h1 h2
    have hp : parts.length ≤ 1000 := Nat.le_trans (Nat.le_mul_of_pos_right _ (Nat.two_pow_pos _)) h1
    have h1' : (rstep parts v).length * 2 ^ r.length ≤ 1000 := by
      have := Nat.mul_le_mul_right (2 ^ r.length) (rstep_len parts v)
      rw [Nat.pow_succ] at h1
      have e : 2 * parts.length * 2 ^ r.length = parts.length * (2 ^ r.length * 2) := by
        rw [Nat.mul_comm 2, Nat.mul_assoc, Nat.mul_comm 2]
      omega
    obtain ⟨y', z', ih⟩ := ris_run r S (rstep parts v) (.fz (.int v)) z (m + 1) (by omega) h1' (by omega) (rstep_el h3)
    refine ⟨y', z', ?_⟩
    have lc : lcK (tgN 3) (bOr (asB (eBin dEq (eVarB 3) (eFz (eLst aNil)))) (asB (eBin dLt (eBin dIx (eVarB 3) (eNeg (eC (.int 1)))) (eVarB 2)))) (eBin dAdd (eVarB 3) (eFz (eLst (aCons (eVar 2) aNil)))) [.fz S, .fz (.list (LL parts)), .fz (.int v), .no] (LL parts) = .val ((parts.filter fun p => decide (p = []) || decide (lst p < v)).map fun p => LI (p ++ [v])) := by
      refine lcK_ok (by unfold LL; rw [List.length_map]; omega) (lcRun_map (fun p : List Int => LI p) _ _ parts fun p hp => ⟨_, rfl, ?_, fun _ => ?_⟩)
      · have hq := dEq_LI p []
        simp only [LI, List.map_nil] at hq
        by_cases he : p = []
        · simp (implicitDefEqProofs := false) only [run_eq, asQ_eq, asQK_list, asQK_tup, sFrz_eq', sFrzK_ow, sFrzK_fz, sFrzK_no, eRgD_eq, dAdd_q, dIs_true, dIs_false, runK_nx, runK_ret, runK_reto, runK_exc, sSeq_eq, seqK_nx, seqK_ret, seqK_reto, seqK_exc, sIf_eq, sSet_eq, sSetO_eq, setOK_ok, sFor_eq, sRet_eq, sRetO_eq, sRetV_eq, retVK_ow, retVK_fz, sRetN_eq, sDrop_eq, sExc_eq, sApp_eq, appJ_ow, sPut_eq, putK_ow, sPar_eq, parK_2, sNil_eq, sSetT_eq, sAug_eq, augK_fz, sAugL_eq, augLK_ow, sRem_eq, eVar_eq, varK_fz, eVarB_eq, varBK_fz, varBK_ow, eC_eq, eBin_eq, eChain_eq, chainK_bool, asB_eq, asBK_bool, bNot_eq, bAnd_eq, bOr_eq, bYes_eq, eNot_eq, eAnd_eq, eOr_eq, eIf_eq, eCB_eq, eCO_eq, eRg1_eq, rg1K_int, eRg2_eq, rg2K_int, eIsi_eq, isD_int, isD_bool, isD_list, isD_tup, isD_str, eCut_eq, cutK_list, eRev_eq, revK_list, eNeg_eq, negK_int, eTup_eq, tupK_ok, eLst_eq, lstK_ok, eFz_eq, eMt_eq, mtK_list, eLc_eq, eZip_eq, zipK_list, eEnum_eq, enumK_list, asL_eq, asLK_list, asT_eq, asTK_tup, tgN_eq, tgT_2, tgT_3, setE_nil, setE_cons, wipeE_nil, wipeE_cons, eCall_eq, callK_1, callK_2, callK_3, callK_4, eCallO_eq, callOK_1, callOK_2, callOK_3, rvO_o, rvD_d, rvD_o, eCatO_eq, eRepO_eq, repK_ok, aNil_eq, aCons_eq, oNo_eq, oYes_eq, oYK_int, mP_eq, mPT_eq, mPL_eq, mBin_eq, mAsB_eq, mAsBK_bool, mIf_eq, maNil_eq, maCons_eq, mTup_eq, mtupK_ok, sSetM_eq, sSetTM_eq, sIfM_eq, sParM_eq, parMK_2, sPar3M_eq, par3MK_3, so_val, noEx_val, ofO_some, rs_bind_val, rs_bind_exc, rs_bind_stk, rs_pure, List.map_cons, List.map_nil, List.length_cons, List.length_nil, List.length_map, List.length_set, List.replicate_succ, List.replicate_zero, List.cons_append, List.nil_append, List.getElem?_cons_zero, List.getElem?_cons_succ, List.set_cons_zero, List.set_cons_succ, List.zip_cons_cons, List.zip_nil_right, List.zip_nil_left, Nat.reduceAdd, Nat.reduceSub, Nat.reduceLT, Nat.reduceLeDiff, if_true, if_false, Bool.not_true, Bool.not_false, reduceCtorEq, and_true, true_and, LI, beq_self_eq_true, decide_true, decide_false, decide_eq_true_eq, Bool.false_eq_true, Bool.true_and, Bool.and_true, Bool.false_and, Bool.and_false, Bool.not_not, Bool.or_false, Bool.or_true, Bool.false_or, Bool.true_or, String.reduceBEq, dEq_LI, dNe_LI, dEq_int, dNe_int, dEq_bool, dNe_bool, dLt_int, dLe_int, dGt_int, dGe_int, dAdd_int, dSub_int, dLen_list, dLen_tup, dSum_LI, zipD_LI, hq, decide_eq_true he]
        · have hd := dIx_last he
          simp only [LI] at hd
          simp (implicitDefEqProofs := false) only [run_eq, asQ_eq, asQK_list, asQK_tup, sFrz_eq', sFrzK_ow, sFrzK_fz, sFrzK_no, eRgD_eq, dAdd_q, dIs_true, dIs_false, runK_nx, runK_ret, runK_reto, runK_exc, sSeq_eq, seqK_nx, seqK_ret, seqK_reto, seqK_exc, sIf_eq, sSet_eq, sSetO_eq, setOK_ok, sFor_eq, sRet_eq, sRetO_eq, sRetV_eq, retVK_ow, retVK_fz, sRetN_eq, sDrop_eq, sExc_eq, sApp_eq, appJ_ow, sPut_eq, putK_ow, sPar_eq, parK_2, sNil_eq, sSetT_eq, sAug_eq, augK_fz, sAugL_eq, augLK_ow, sRem_eq, eVar_eq, varK_fz, eVarB_eq, varBK_fz, varBK_ow, eC_eq, eBin_eq, eChain_eq, chainK_bool, asB_eq, asBK_bool, bNot_eq, bAnd_eq, bOr_eq, bYes_eq, eNot_eq, eAnd_eq, eOr_eq, eIf_eq, eCB_eq, eCO_eq, eRg1_eq, rg1K_int, eRg2_eq, rg2K_int, eIsi_eq, isD_int, isD_bool, isD_list, isD_tup, isD_str, eCut_eq, cutK_list, eRev_eq, revK_list, eNeg_eq, negK_int, eTup_eq, tupK_ok, eLst_eq, lstK_ok, eFz_eq, eMt_eq, mtK_list, eLc_eq, eZip_eq, zipK_list, eEnum_eq, enumK_list, asL_eq, asLK_list, asT_eq, asTK_tup, tgN_eq, tgT_2, tgT_3, setE_nil, setE_cons, wipeE_nil, wipeE_cons, eCall_eq, callK_1, callK_2, callK_3, callK_4, eCallO_eq, callOK_1, callOK_2, callOK_3, rvO_o, rvD_d, rvD_o, eCatO_eq, eRepO_eq, repK_ok, aNil_eq, aCons_eq, oNo_eq, oYes_eq, oYK_int, mP_eq, mPT_eq, mPL_eq, mBin_eq, mAsB_eq, mAsBK_bool, mIf_eq, maNil_eq, maCons_eq, mTup_eq, mtupK_ok, sSetM_eq, sSetTM_eq, sIfM_eq, sParM_eq, parMK_2, sPar3M_eq, par3MK_3, so_val, noEx_val, ofO_some, rs_bind_val, rs_bind_exc, rs_bind_stk, rs_pure, List.map_cons, List.map_nil, List.length_cons, List.length_nil, List.length_map, List.length_set, List.replicate_succ, List.replicate_zero, List.cons_append, List.nil_append, List.getElem?_cons_zero, List.getElem?_cons_succ, List.set_cons_zero, List.set_cons_succ, List.zip_cons_cons, List.zip_nil_right, List.zip_nil_left, Nat.reduceAdd, Nat.reduceSub, Nat.reduceLT, Nat.reduceLeDiff, if_true, if_false, Bool.not_true, Bool.not_false, reduceCtorEq, and_true, true_and, LI, beq_self_eq_true, decide_true, decide_false, decide_eq_true_eq, Bool.false_eq_true, Bool.true_and, Bool.and_true, Bool.false_and, Bool.and_false, Bool.not_not, Bool.or_false, Bool.or_true, Bool.false_or, Bool.true_or, String.reduceBEq, dEq_LI, dNe_LI, dEq_int, dNe_int, dEq_bool, dNe_bool, dLt_int, dLe_int, dGt_int, dGe_int, dAdd_int, dSub_int, dLen_list, dLen_tup, dSum_LI, zipD_LI, hq, decide_eq_false he, hd]
      · have := h3 p hp
        have hadd : dAdd (.list (p.map .int)) (.list [.int v]) = .val (LI (p ++ [v])) := by
          rw [dAdd_list (by rw [List.length_map]; show p.length + 1 ≤ 100000; omega), LI, List.map_append]
          rfl
        simp only [LI] at hadd
        simp (implicitDefEqProofs := false) only [run_eq, asQ_eq, asQK_list, asQK_tup, sFrz_eq', sFrzK_ow, sFrzK_fz, sFrzK_no, eRgD_eq, dAdd_q, dIs_true, dIs_false, runK_nx, runK_ret, runK_reto, runK_exc, sSeq_eq, seqK_nx, seqK_ret, seqK_reto, seqK_exc, sIf_eq, sSet_eq, sSetO_eq, setOK_ok, sFor_eq, sRet_eq, sRetO_eq, sRetV_eq, retVK_ow, retVK_fz, sRetN_eq, sDrop_eq, sExc_eq, sApp_eq, appJ_ow, sPut_eq, putK_ow, sPar_eq, parK_2, sNil_eq, sSetT_eq, sAug_eq, augK_fz, sAugL_eq, augLK_ow, sRem_eq, eVar_eq, varK_fz, eVarB_eq, varBK_fz, varBK_ow, eC_eq, eBin_eq, eChain_eq, chainK_bool, asB_eq, asBK_bool, bNot_eq, bAnd_eq, bOr_eq, bYes_eq, eNot_eq, eAnd_eq, eOr_eq, eIf_eq, eCB_eq, eCO_eq, eRg1_eq, rg1K_int, eRg2_eq, rg2K_int, eIsi_eq, isD_int, isD_bool, isD_list, isD_tup, isD_str, eCut_eq, cutK_list, eRev_eq, revK_list, eNeg_eq, negK_int, eTup_eq, tupK_ok, eLst_eq, lstK_ok, eFz_eq, eMt_eq, mtK_list, eLc_eq, eZip_eq, zipK_list, eEnum_eq, enumK_list, asL_eq, asLK_list, asT_eq, asTK_tup, tgN_eq, tgT_2, tgT_3, setE_nil, setE_cons, wipeE_nil, wipeE_cons, eCall_eq, callK_1, callK_2, callK_3, callK_4, eCallO_eq, callOK_1, callOK_2, callOK_3, rvO_o, rvD_d, rvD_o, eCatO_eq, eRepO_eq, repK_ok, aNil_eq, aCons_eq, oNo_eq, oYes_eq, oYK_int, mP_eq, mPT_eq, mPL_eq, mBin_eq, mAsB_eq, mAsBK_bool, mIf_eq, maNil_eq, maCons_eq, mTup_eq, mtupK_ok, sSetM_eq, sSetTM_eq, sIfM_eq, sParM_eq, parMK_2, sPar3M_eq, par3MK_3, so_val, noEx_val, ofO_some, rs_bind_val, rs_bind_exc, rs_bind_stk, rs_pure, List.map_cons, List.map_nil, List.length_cons, List.length_nil, List.length_map, List.length_set, List.replicate_succ, List.replicate_zero, List.cons_append, List.nil_append, List.getElem?_cons_zero, List.getElem?_cons_succ, List.set_cons_zero, List.set_cons_succ, List.zip_cons_cons, List.zip_nil_right, List.zip_nil_left, Nat.reduceAdd, Nat.reduceSub, Nat.reduceLT, Nat.reduceLeDiff, if_true, if_false, Bool.not_true, Bool.not_false, reduceCtorEq, and_true, true_and, LI, beq_self_eq_true, decide_true, decide_false, decide_eq_true_eq, Bool.false_eq_true, Bool.true_and, Bool.and_true, Bool.false_and, Bool.and_false, Bool.not_not, Bool.or_false, Bool.or_true, Bool.false_or, Bool.true_or, String.reduceBEq, dEq_LI, dNe_LI, dEq_int, dNe_int, dEq_bool, dNe_bool, dLt_int, dLe_int, dGt_int, dGe_int, dAdd_int, dSub_int, dLen_list, dLen_tup, dSum_LI, zipD_LI, hadd]
    have hadd : dAdd (.list (LL parts)) (.list ((parts.filter fun p => decide (p = []) || decide (lst p < v)).map fun p => LI (p ++ [v]))) = .val (.list (LL (rstep parts v))) := by
      have := List.length_filter_le (fun p => decide (p = []) || decide (lst p < v)) parts
      rw [dAdd_list (by unfold LL; rw [List.length_map, List.length_map]; omega)]
      unfold LL rstep
      rw [List.map_append, List.map_map]
      rfl
    have hb : sSet 1 (eBin dAdd (eVarB 1) (eFz (eLc (asL (eVarB 1)) (tgN 3) (bOr (asB (eBin dEq (eVarB 3) (eFz (eLst aNil)))) (asB (eBin dLt (eBin dIx (eVarB 3) (eNeg (eC (.int 1)))) (eVarB 2)))) (eBin dAdd (eVarB 3) (eFz (eLst (aCons (eVar 2) aNil)))) [3]))) [.fz S, .fz (.list (LL parts)), .fz (.int v), z] = .nx [.fz S, .fz (.list (LL (rstep parts v))), .fz (.int v), z] := by
      simp (implicitDefEqProofs := false) only [run_eq, asQ_eq, asQK_list, asQK_tup, sFrz_eq', sFrzK_ow, sFrzK_fz, sFrzK_no, eRgD_eq, dAdd_q, dIs_true, dIs_false, runK_nx, runK_ret, runK_reto, runK_exc, sSeq_eq, seqK_nx, seqK_ret, seqK_reto, seqK_exc, sIf_eq, sSet_eq, sSetO_eq, setOK_ok, sFor_eq, sRet_eq, sRetO_eq, sRetV_eq, retVK_ow, retVK_fz, sRetN_eq, sDrop_eq, sExc_eq, sApp_eq, appJ_ow, sPut_eq, putK_ow, sPar_eq, parK_2, sNil_eq, sSetT_eq, sAug_eq, augK_fz, sAugL_eq, augLK_ow, sRem_eq, eVar_eq, varK_fz, eVarB_eq, varBK_fz, varBK_ow, eC_eq, eBin_eq, eChain_eq, chainK_bool, asB_eq, asBK_bool, bNot_eq, bAnd_eq, bOr_eq, bYes_eq, eNot_eq, eAnd_eq, eOr_eq, eIf_eq, eCB_eq, eCO_eq, eRg1_eq, rg1K_int, eRg2_eq, rg2K_int, eIsi_eq, isD_int, isD_bool, isD_list, isD_tup, isD_str, eCut_eq, cutK_list, eRev_eq, revK_list, eNeg_eq, negK_int, eTup_eq, tupK_ok, eLst_eq, lstK_ok, eFz_eq, eMt_eq, mtK_list, eLc_eq, eZip_eq, zipK_list, eEnum_eq, enumK_list, asL_eq, asLK_list, asT_eq, asTK_tup, tgN_eq, tgT_2, tgT_3, setE_nil, setE_cons, wipeE_nil, wipeE_cons, eCall_eq, callK_1, callK_2, callK_3, callK_4, eCallO_eq, callOK_1, callOK_2, callOK_3, rvO_o, rvD_d, rvD_o, eCatO_eq, eRepO_eq, repK_ok, aNil_eq, aCons_eq, oNo_eq, oYes_eq, oYK_int, mP_eq, mPT_eq, mPL_eq, mBin_eq, mAsB_eq, mAsBK_bool, mIf_eq, maNil_eq, maCons_eq, mTup_eq, mtupK_ok, sSetM_eq, sSetTM_eq, sIfM_eq, sParM_eq, parMK_2, sPar3M_eq, par3MK_3, so_val, noEx_val, ofO_some, rs_bind_val, rs_bind_exc, rs_bind_stk, rs_pure, List.map_cons, List.map_nil, List.length_cons, List.length_nil, List.length_map, List.length_set, List.replicate_succ, List.replicate_zero, List.cons_append, List.nil_append, List.getElem?_cons_zero, List.getElem?_cons_succ, List.set_cons_zero, List.set_cons_succ, List.zip_cons_cons, List.zip_nil_right, List.zip_nil_left, Nat.reduceAdd, Nat.reduceSub, Nat.reduceLT, Nat.reduceLeDiff, if_true, if_false, Bool.not_true, Bool.not_false, reduceCtorEq, and_true, true_and, LI, beq_self_eq_true, decide_true, decide_false, decide_eq_true_eq, Bool.false_eq_true, Bool.true_and, Bool.and_true, Bool.false_and, Bool.and_false, Bool.not_not, Bool.or_false, Bool.or_true, Bool.false_or, Bool.true_or, String.reduceBEq, dEq_LI, dNe_LI, dEq_int, dNe_int, dEq_bool, dNe_bool, dLt_int, dLe_int, dGt_int, dGe_int, dAdd_int, dSub_int, dLen_list, dLen_tup, dSum_LI, zipD_LI, lc, hadd]
    rw [List.map_cons, forL, tgN_eq, noEx_val, so_val]
    show (match sSet 1 _ [.fz S, .fz (.list (LL parts)), .fz (.int v), z] with
      | .nx e => forL _ _ _ e
      | .ct e => forL _ _ _ e
      | .bk e => .nx e
      | r => r) = _
    rw [hb]
    exact ih

theorem LL_len (C : List (List Int)) : (LL C).length = C.length := List.length_map ..
theorem dCount_int (l : List Int) (x : Int) : dCount (l.map PyData.int) (.int x) = .val (.int ((l.count x : Nat) : Int)) := by
  show (ofO (intsOf (l.map .int)) >>= fun ns => Rs.val (PyData.int (ns.count x))) = _
  rw [intsOf_map]
  rfl
theorem mul_small {x y : Int} (h : -1000 ≤ x ∧ x ≤ 1000 ∧ -1000 ≤ y ∧ y ≤ 1000) : dMul (.int x) (.int y) = .val (.int (x * y)) := dMul_int (by omega)
theorem eqv_LL : ∀ A B : List (List Int), PyData.eqvAll (LL A) (LL B) = decide (A = B)
  | [], [] => rfl
  | [], _ :: _ => rfl
  | _ :: _, [] => rfl
  | x :: a, y :: b => by
    show (PyData.eqv (LI x) (LI y) && PyData.eqvAll (LL a) (LL b)) = _
    rw [eqv_LL a b, eqv_LI]
    by_cases h : x = y <;> by_cases g : a = b <;> simp [h, g]
theorem canLay_LL : ∀ a : List (List Int), PyData.canLayAll0 (LL a) = true
  | [] => rfl
  | x :: r => by
    show (PyData.canLayAll0 (x.map PyData.int) && PyData.canLayAll0 (LL r)) = true
    rw [canLay_LL r, canLay_ints]
    rfl
theorem depth_LL : ∀ a : List (List Int), PyData.depthAll (LL a) ≤ 3
  | [] => Nat.zero_le _
  | n :: r => by
    show max (PyData.depth (LI n)) (PyData.depthAll (LL r)) ≤ _
    have := depth_LL r
    have h2 := depth_ints n
    have e : PyData.depth (LI n) = 1 + PyData.depthAll (n.map PyData.int) := by
      first
        | rfl
        | (show PyData.depthAll (n.map PyData.int) + 1 = _; omega)
    have e0 : PyData.depth (.int 0) ≤ 1 := by decide
    omega
theorem shaped_LL (a : List (List Int)) : SeqAt.shaped (.list (LL a)) = true := by
  unfold SeqAt.shaped
  have h1 : PyData.canLay0 (.list (LL a)) = true := canLay_LL a
  have h2 : PyData.depth (.list (LL a)) ≤ 64 := by
    have := depth_LL a
    have e : PyData.depth (.list (LL a)) = 1 + PyData.depthAll (LL a) := by
      first
        | rfl
        | (show PyData.depthAll (LL a) + 1 = _; omega)
    omega
  rw [h1]
  simpa using h2
theorem dNe_LL (a b : List (List Int)) : dNe (.list (LL a)) (.list (LL b)) = .val (.bool (!decide (a = b))) := by
  unfold dNe
  rw [shaped_LL, shaped_LL]
  show Rs.val (PyData.bool (!PyData.eqvAll _ _)) = _
  rw [eqv_LL]
theorem dEq_LL (a b : List (List Int)) : dEq (.list (LL a)) (.list (LL b)) = .val (.bool (decide (a = b))) := by
  unfold dEq
  rw [shaped_LL, shaped_LL]
  show Rs.val (PyData.bool (PyData.eqvAll _ _)) = _
  rw [eqv_LL]

/-! ### loops that may answer early -/
theorem forL_find {α : Type} {t : D → Rs (List (Nat × D))} {body : SF} {d : D} (g : α → D) (I : En → Prop) (bad : α → Bool) : ∀ (xs : List α) (env : En),
    (∀ x ∈ xs, ∀ env, I env → ∃ l, t (g x) = .val l ∧ (bad x = true → ∃ env', body (setE env l) = .ret d env') ∧ (bad x = false → ∃ env', body (setE env l) = .nx env' ∧ I env')) → I env →
    (xs.any bad = true → ∃ env', forL t body (xs.map g) env = .ret d env') ∧ (xs.any bad = false → ∃ env', forL t body (xs.map g) env = .nx env' ∧ I env')
  | [], env, _, i => ⟨fun h => absurd h Bool.false_ne_true, fun _ => ⟨env, rfl, i⟩⟩
  | x :: xs, env, h, i => by
    obtain ⟨l, h1, h2, h3⟩ := h x (List.mem_cons_self ..) env i
    rw [List.map_cons, List.any_cons, forL, h1, noEx_val, so_val]
    cases hb : bad x with
    | true =>
      obtain ⟨env', e⟩ := h2 hb
      rw [e, Bool.true_or]
      exact ⟨fun _ => ⟨env', rfl⟩, fun z => absurd z (by decide)⟩
    | false =>
      obtain ⟨env', e, i'⟩ := h3 hb
      rw [e, Bool.false_or]
      exact forL_find g I bad xs env' (fun y hy => h y (List.mem_cons_of_mem _ hy)) i'
/-! between, by the pairs -/

/-! ### all orders -/
theorem dAdd_cut {xs : List Int} (h : xs.length ≤ 1000) (k : Nat) : dAdd (.list (cutD (xs.map PyData.int) none (some (k : Int)))) (.list (cutD (xs.map PyData.int) (some ((k : Int) + 1)) none)) = .val (LI (xs.eraseIdx k)) := by
  rw [cutD_map, cutD_map, cutD_take, show (k : Int) + 1 = ((k + 1 : Nat) : Int) by omega, cutD_drop, dAdd_list (by rw [List.length_map, List.length_map, List.length_take, List.length_drop]; omega), ← List.map_append, List.eraseIdx_eq_take_drop_succ]
theorem LL_app (A B : List (List Int)) : LL (A ++ B) = LL A ++ LL B := List.map_append ..
theorem LL_len' (A : List (List Int)) : (LL A).length = A.length := List.length_map ..

def decs : List D → Option (List (List Int))
  | [] => some []
  | .list l :: r => match intsOf l, decs r with
    | some a, some b => some (a :: b)
    | _, _ => none
  | _ => none
theorem decs_some : ∀ {l : List D} {A : List (List Int)}, decs l = some A → l = LL A
  | [], A, h => by
    rw [decs] at h
    cases h
    rfl
  | .list l :: r, A, h => by
    rw [decs] at h
    split at h
    · rename_i a b e1 e2
      cases h
      rw [intsOf_some e1, decs_some e2]
      rfl
    · cases h
  | .none :: _, _, h => by cases h
  | .bool _ :: _, _, h => by cases h
  | .int _ :: _, _, h => by cases h
  | .str _ :: _, _, h => by cases h
  | .tuple _ :: _, _, h => by cases h
  | .dict _ :: _, _, h => by cases h
def getL (r : Rs Rv) : Option (List (List Int)) := match r with
  | .val (.d (.list l)) => decs l
  | _ => none
theorem getL_some {r : Rs Rv} {A : List (List Int)} (h : getL r = some A) : r = .val (.d (.list (LL A))) := by
  unfold getL at h
  split at h
  · rw [decs_some h]
  · cases h

/-! ### what the pairs of ranks alone tell -/
/-! turned over -/
/-! periods -/
/-! the check of all orders -/

/-! ### pairs gathered by two loops, in any frame -/
theorem gat_loop {n : Nat} (hn : n ≤ 100) (js : Nat → List Nat) (hjs : ∀ k, (js k).length ≤ n) (f : Nat → Nat → Bool) (it2 : En → Rs (List D)) (bd : SF) (E : List D → Sl → Sl → En) (ik ij : Nat)
    (hk : ∀ acc x y v, setE (E acc x y) [(ik, v)] = E acc (.fz v) y) (hj : ∀ acc x y v, setE (E acc x y) [(ij, v)] = E acc x (.fz v))
    (h2 : ∀ (k : Nat) (acc : List D) (y : Sl), k < n → it2 (E acc (.fz (.int ((k : Nat) : Int))) y) = .val ((js k).map fun j => .int ((j : Nat) : Int)))
    (hb : ∀ (k j : Nat) (acc : List D), k < n → j ∈ js k → acc.length < 100000 → bd (E acc (.fz (.int ((k : Nat) : Int))) (.fz (.int ((j : Nat) : Int)))) = .nx (E (if f k j = true then acc ++ [PN (k, j)] else acc) (.fz (.int ((k : Nat) : Int))) (.fz (.int ((j : Nat) : Int))))) (x0 y0 : Sl) :
    ∃ x y, forL (tgN ik) (sFor it2 (tgN ij) bd) ((List.range n).map fun i => PyData.int ((i : Nat) : Int)) (E [] x0 y0) = .nx (E ((gat n js f).map PN) x y) := by
  let inn : Nat → List Nat → List (Nat × Nat) := fun k l => (l.filter (f k)).map fun j => (k, j)
  let out : List Nat → List (Nat × Nat) := fun ks => ks.flatMap fun k => inn k (js k)
  have inl : ∀ k l, (inn k l).length ≤ l.length := fun k l => by
    show ((l.filter (f k)).map _).length ≤ _
    rw [List.length_map]
    exact List.length_filter_le _ _
  have oul : ∀ ks : List Nat, (out ks).length ≤ ks.length * n := by
    intro l
    induction l with
    | nil => simp [out]
    | cons k r ih =>
      show ((inn k _) ++ out r).length ≤ _
      rw [List.length_append, List.length_cons, Nat.add_mul]
      have h1 := inl k (js k)
      have h2 := hjs k
      omega
  have H := forL_map (t := tgN ik) (body := sFor it2 (tgN ij) bd) (fun i : Nat => PyData.int ((i : Nat) : Int)) (I := fun pre env => ∃ x y, env = E ((out pre).map PN) x y) (List.range n) (env := E [] x0 y0)
    (fun pre k post env e ⟨x, y, i⟩ => by
      subst i
      have hkn : k < n := by
        have : k ∈ List.range n := by rw [e]; simp
        exact List.mem_range.mp this
      have hpl : pre.length ≤ n := by
        have : (List.range n).length = pre.length + (post.length + 1) := by rw [e, List.length_append, List.length_cons]
        rw [List.length_range] at this
        omega
      have hol : (out pre).length ≤ 10000 := by
        have h1 := oul pre
        have h3 : pre.length * n ≤ 100 * 100 := Nat.mul_le_mul (by omega) hn
        omega
      have G := forL_map (t := tgN ij) (body := bd) (fun i : Nat => PyData.int ((i : Nat) : Int)) (I := fun pre2 env => ∃ y, env = E ((out pre ++ inn k pre2).map PN) (.fz (.int ((k : Nat) : Int))) y) (js k) (env := E ((out pre).map PN) (.fz (.int ((k : Nat) : Int))) y)
        (fun pre2 j post2 env e2 ⟨y, i⟩ => by
          subst i
          have hjj : j ∈ js k := by rw [e2]; simp
          have hpl2 : pre2.length ≤ n := by
            have : (js k).length = pre2.length + (post2.length + 1) := by rw [e2, List.length_append, List.length_cons]
            have := hjs k
            omega
          have hil := inl k pre2
          refine ⟨[(ij, .int ((j : Nat) : Int))], E ((out pre ++ inn k (pre2 ++ [j])).map PN) (.fz (.int ((k : Nat) : Int))) (.fz (.int ((j : Nat) : Int))), rfl, .inl ?_, .fz (.int ((j : Nat) : Int)), rfl⟩
          have ei : inn k (pre2 ++ [j]) = inn k pre2 ++ (if f k j = true then [(k, j)] else []) := by
            show ((pre2 ++ [j]).filter (f k)).map _ = _
            rw [List.filter_append, List.map_append, List.filter_cons, List.filter_nil]
            cases f k j <;> rfl
          rw [hj, hb k j _ hkn hjj (by rw [List.length_map, List.length_append]; omega), ei]
          cases f k j with
          | true => rw [if_pos rfl, if_pos rfl, ← List.append_assoc, List.map_append (l₂ := [(k, j)])]; rfl
          | false => rw [if_neg Bool.false_ne_true, if_neg Bool.false_ne_true, List.append_nil]) ⟨y, by show _ = E ((out pre ++ []).map PN) _ y; rw [List.append_nil]⟩
      obtain ⟨env', hf, y', rfl⟩ := G
      refine ⟨[(ik, .int ((k : Nat) : Int))], E ((out pre ++ inn k (js k)).map PN) (.fz (.int ((k : Nat) : Int))) y', rfl, .inl ?_, .fz (.int ((k : Nat) : Int)), y', ?_⟩
      · rw [hk, sFor_eq, h2 k _ y hkn, so_val]
        exact hf
      · have : out (pre ++ [k]) = out pre ++ inn k (js k) := by
          show (pre ++ [k]).flatMap _ = _
          rw [List.flatMap_append]
          simp [out]
        rw [this]) ⟨x0, y0, rfl⟩
  obtain ⟨env', hf, x, y, rfl⟩ := H
  exact ⟨x, y, hf⟩
theorem dIn_LL (x : List Int) (A : List (List Int)) : dIn false (LI x) (.list (LL A)) = .val (.bool (decide (x ∈ A))) := by
  have e : ((LL A).any fun z => PyData.eqv z (LI x)) = decide (x ∈ A) := by
    induction A with
    | nil => rfl
    | cons y r ih =>
      have h0 : LL (y :: r) = LI y :: LL r := rfl
      rw [h0, List.any_cons, eqv_LI, ih]
      by_cases h1 : y = x <;> by_cases h2 : x ∈ r <;> simp [h1, h2, eq_comm]
      exact fun h => h1 h.symm
  unfold dIn
  show (if (SeqAt.shaped (LI x) && SeqAt.shaped (.list (LL A))) = true then _ else _) = _
  rw [shaped_ints, shaped_LL, e]
  rfl
theorem dEq_PNn (a : List (Nat × Nat)) : dEq (.list (a.map PN)) (.list []) = .val (.bool (decide (a = []))) := dEq_PN a []
/-! ### one that lies halfway -/
/-- over the straight one: some order between is as far from both ends, but for one -/
def halfB (n : Nat) (s : List Int) : Bool := (permsP n (ups n)).any fun m => decide (zp (ups n) m + zp m s = zp (ups n) s) && (decide (zp (ups n) m ≤ zp m s + 1) && decide (zp m s ≤ zp (ups n) m + 1))


theorem prs_len_true : ∀ n : Nat, n ≤ 7 → ((prs n fun _ _ => true).length : Int) = (n : Int) * ((n : Int) - 1) / 2 := by decide +kernel
theorem gg_len {n : Nat} {a b : List Int} (h : Rk n a) (g : Rk n b) : (((gat n (fun _ => List.range n) (ggF a b)).length : Nat) : Int) + ((agst n a b).length : Nat) = (n : Int) * ((n : Int) - 1) / 2 := by
  have h1 := gat_split n (ggF a b) fun k => by
    unfold ggF
    rw [decide_eq_false (Int.lt_irrefl _)]
    rfl
  have e : (prs n fun k j => ggF a b j k) = prs n fun k j => !decide (gt a k < gt a j) && !decide (gt b k < gt b j) := prs_congr fun k j hkj hj => by
    have n1 := h.ne (i := k) (j := j) (by omega) hj (by omega)
    have n2 := g.ne (i := k) (j := j) (by omega) hj (by omega)
    have s1 : decide (gt a j < gt a k) = !decide (gt a k < gt a j) := by
      by_cases hh : gt a k < gt a j
      · rw [decide_eq_true hh, decide_eq_false (by omega)]
        rfl
      · rw [decide_eq_false hh, decide_eq_true (by omega)]
        rfl
    have s2 : decide (gt b j < gt b k) = !decide (gt b k < gt b j) := by
      by_cases hh : gt b k < gt b j
      · rw [decide_eq_true hh, decide_eq_false (by omega)]
        rfl
      · rw [decide_eq_false hh, decide_eq_true (by omega)]
        rfl
    unfold ggF
    rw [s1, s2]
  have h2 := prs3 n (ggF a b) (fun k j => !decide (gt a k < gt a j) && !decide (gt b k < gt b j)) (fun k j => !ag a b k j) (fun _ _ => false) fun k j => by
    unfold ggF ag
    cases decide (gt a k < gt a j) <;> cases decide (gt b k < gt b j) <;> rfl
  rw [prs_false] at h2
  have h3 := prs_neg n (ag a b)
  have h4 := prs_len_true n h.hi
  rw [e] at h1
  have h2 : (prs n (ggF a b)).length + (prs n fun k j => !decide (gt a k < gt a j) && !decide (gt b k < gt b j)).length = (prs n fun k j => !ag a b k j).length + 2 * 0 := h2
  unfold agst
  omega
theorem rg0 {n : Nat} (h : n ≤ 1000) : rgL 0 (n : Int) = .val ((List.range n).map fun i => PyData.int ((i : Nat) : Int)) := by
  rw [rgL_val (by omega), rgI_nat, List.map_map]
  rfl
theorem dAbs_i' (x : Int) : dAbs [.int x] = .val (.int (iabs x)) := rfl
theorem ag_trn {n : Nat} {a b : List Int} (h : Rk n a) (g : Rk n b) : (((agst n a (trn n b)).length : Nat) : Int) = (n : Int) * ((n : Int) - 1) / 2 - ((agst n a b).length : Nat) := by
  have e : agst n a (trn n b) = prs n fun k j => !ag a b k j := prs_congr fun k j h1 h2 => by
    have hk : gt (trn n b) k = (n : Int) + 1 - gt b k := by
      unfold trn
      exact gt_mapf (by rw [g.len]; omega)
    have hj : gt (trn n b) j = (n : Int) + 1 - gt b j := by
      unfold trn
      exact gt_mapf (by rw [g.len]; omega)
    have hne := g.ne (i := k) (j := j) (by omega) h2 (by omega)
    unfold ag
    rw [hk, hj]
    have : decide ((n : Int) + 1 - gt b k < (n : Int) + 1 - gt b j) = !decide (gt b k < gt b j) := by
      by_cases h : gt b k < gt b j
      · rw [decide_eq_true h, decide_eq_false (by omega)]
        rfl
      · rw [decide_eq_false h, decide_eq_true (by omega)]
        rfl
    rw [this]
    cases decide (gt a k < gt a j) <;> cases decide (gt b k < gt b j) <;> rfl
  have h1 := prs_neg n (ag a b)
  have h2 := prs_len_true n h.hi
  rw [e]
  unfold agst
  omega
theorem cat_gt {B : List (List Int)} {i : Nat} (h : i < B.length) : dIx (.list (LL B)) (.int (i : Int)) = .val (LI (B.getD i [])) := dIx_list (atI_nat (by
  unfold LL
  rw [List.getElem?_map, List.getElem?_eq_getElem h, List.getD_eq_getElem?_getD, List.getElem?_eq_getElem h]
  rfl))
theorem rg0' {n : Nat} (h : n ≤ 100000) : rgL 0 (n : Int) = .val ((List.range n).map fun i => PyData.int ((i : Nat) : Int)) := by
  rw [rgL_val (by omega), rgI_nat, List.map_map]
  rfl

end Ag


namespace Ag
open PySem L2
/-! ### exchanges -/
theorem lc_nb {env : En} {i k : Nat} {r : Int} (a : List Int) (ha : a.length ≤ 100) (e1 : ∀ d, eVarB i (setE env [(k, d)]) = .val (.int r)) (e2 : ∀ d, eVar i (setE env [(k, d)]) = .val (.int r)) (e3 : ∀ d, eVarB k (setE env [(k, d)]) = .val d) (e4 : ∀ d, eVar k (setE env [(k, d)]) = .val d) :
    lcK (tgN k) bYes (eIf (asB (eBin dEq (eVarB k) (eVarB i))) (eBin dAdd (eVarB i) (eC (.int 1))) (eIf (asB (eBin dEq (eVarB k) (eBin dAdd (eVarB i) (eC (.int 1))))) (eVar i) (eVar k))) env (a.map .int) = .val ((xr r a).map .int) := by
  have e : (xr r a).map PyData.int = a.map fun x => .int (tr r (r + 1) x) := by unfold xr; rw [List.map_map]; rfl
  rw [e]
  refine lcK_ok (by rw [List.length_map]; omega) (lcRun_all PyData.int _ a fun x hx => ⟨_, rfl, ?_⟩)
  simp (implicitDefEqProofs := false) only [eIf_eq, asB_eq, eBin_eq, e1, e2, e3, e4, rs_bind_val, dEq_int, asBK_bool, eC_eq, dAdd_int, decide_eq_true_eq]
  unfold tr
  by_cases h1 : x = r
  · rw [if_pos h1, if_pos h1]
  · rw [if_neg h1, if_neg h1]
    by_cases h2 : x = r + 1
    · rw [if_pos h2, if_pos h2]
    · rw [if_neg h2, if_neg h2]
theorem r_exch {a : List Int} (r : Int) (h : a.length ≤ 100) : d_exchanged [.list (a.map .int), .int r] = .val (.o ((xr r a).map .int)) := by
  have lc := lc_nb (env := [.fz (.list (a.map .int)), .fz (.int r), .no]) (i := 1) (k := 2) (r := r) a h (fun _ => rfl) (fun _ => rfl) (fun _ => rfl) (fun _ => rfl)
  unfold d_exchanged
  simp (implicitDefEqProofs := false) only [run_eq, asQ_eq, asQK_list, asQK_tup, sFrz_eq', sFrzK_ow, sFrzK_fz, sFrzK_no, eRgD_eq, dAdd_q, dIs_true, dIs_false, runK_nx, runK_ret, runK_reto, runK_exc, sSeq_eq, seqK_nx, seqK_ret, seqK_reto, seqK_exc, sIf_eq, sSet_eq, sSetO_eq, setOK_ok, sFor_eq, sRet_eq, sRetO_eq, sRetV_eq, retVK_ow, retVK_fz, sRetN_eq, sDrop_eq, sExc_eq, sApp_eq, appJ_ow, sPut_eq, putK_ow, sPar_eq, parK_2, sNil_eq, sSetT_eq, sAug_eq, augK_fz, sAugL_eq, augLK_ow, sRem_eq, eVar_eq, varK_fz, eVarB_eq, varBK_fz, varBK_ow, eC_eq, eBin_eq, eChain_eq, chainK_bool, asB_eq, asBK_bool, bNot_eq, bAnd_eq, bOr_eq, bYes_eq, eNot_eq, eAnd_eq, eOr_eq, eIf_eq, eCB_eq, eCO_eq, eRg1_eq, rg1K_int, eRg2_eq, rg2K_int, eIsi_eq, isD_int, isD_bool, isD_list, isD_tup, isD_str, eCut_eq, cutK_list, eRev_eq, revK_list, eNeg_eq, negK_int, eTup_eq, tupK_ok, eLst_eq, lstK_ok, eFz_eq, eMt_eq, mtK_list, eLc_eq, eZip_eq, zipK_list, eEnum_eq, enumK_list, asL_eq, asLK_list, asT_eq, asTK_tup, tgN_eq, tgT_2, tgT_3, setE_nil, setE_cons, wipeE_nil, wipeE_cons, eCall_eq, callK_1, callK_2, callK_3, callK_4, eCallO_eq, callOK_1, callOK_2, callOK_3, rvO_o, rvD_d, rvD_o, eCatO_eq, eRepO_eq, repK_ok, aNil_eq, aCons_eq, oNo_eq, oYes_eq, oYK_int, mP_eq, mPT_eq, mPL_eq, mBin_eq, mAsB_eq, mAsBK_bool, mIf_eq, maNil_eq, maCons_eq, mTup_eq, mtupK_ok, sSetM_eq, sSetTM_eq, sIfM_eq, sParM_eq, parMK_2, sPar3M_eq, par3MK_3, so_val, noEx_val, ofO_some, rs_bind_val, rs_bind_exc, rs_bind_stk, rs_pure, List.map_cons, List.map_nil, List.length_cons, List.length_nil, List.length_map, List.length_set, List.replicate_succ, List.replicate_zero, List.cons_append, List.nil_append, List.getElem?_cons_zero, List.getElem?_cons_succ, List.set_cons_zero, List.set_cons_succ, List.zip_cons_cons, List.zip_nil_right, List.zip_nil_left, Nat.reduceAdd, Nat.reduceSub, Nat.reduceLT, Nat.reduceLeDiff, if_true, if_false, Bool.not_true, Bool.not_false, reduceCtorEq, and_true, true_and, LI, beq_self_eq_true, decide_true, decide_false, decide_eq_true_eq, Bool.false_eq_true, Bool.true_and, Bool.and_true, Bool.false_and, Bool.and_false, Bool.not_not, Bool.or_false, Bool.or_true, Bool.false_or, Bool.true_or, String.reduceBEq, dEq_LI, dNe_LI, dEq_int, dNe_int, dEq_bool, dNe_bool, dLt_int, dLe_int, dGt_int, dGe_int, dAdd_int, dSub_int, dLen_list, dLen_tup, dSum_LI, zipD_LI, lc]
theorem r_lexch {a : List Int} (r : Int) (h : a.length ≤ 100) : d__law_exchanged [.list (a.map .int), .int r] = .val (.o ((xr r a).map .int)) := by
  have lc := lc_nb (env := [.fz (.list (a.map .int)), .fz (.int r), .no]) (i := 1) (k := 2) (r := r) a h (fun _ => rfl) (fun _ => rfl) (fun _ => rfl) (fun _ => rfl)
  unfold d__law_exchanged
  simp (implicitDefEqProofs := false) only [run_eq, asQ_eq, asQK_list, asQK_tup, sFrz_eq', sFrzK_ow, sFrzK_fz, sFrzK_no, eRgD_eq, dAdd_q, dIs_true, dIs_false, runK_nx, runK_ret, runK_reto, runK_exc, sSeq_eq, seqK_nx, seqK_ret, seqK_reto, seqK_exc, sIf_eq, sSet_eq, sSetO_eq, setOK_ok, sFor_eq, sRet_eq, sRetO_eq, sRetV_eq, retVK_ow, retVK_fz, sRetN_eq, sDrop_eq, sExc_eq, sApp_eq, appJ_ow, sPut_eq, putK_ow, sPar_eq, parK_2, sNil_eq, sSetT_eq, sAug_eq, augK_fz, sAugL_eq, augLK_ow, sRem_eq, eVar_eq, varK_fz, eVarB_eq, varBK_fz, varBK_ow, eC_eq, eBin_eq, eChain_eq, chainK_bool, asB_eq, asBK_bool, bNot_eq, bAnd_eq, bOr_eq, bYes_eq, eNot_eq, eAnd_eq, eOr_eq, eIf_eq, eCB_eq, eCO_eq, eRg1_eq, rg1K_int, eRg2_eq, rg2K_int, eIsi_eq, isD_int, isD_bool, isD_list, isD_tup, isD_str, eCut_eq, cutK_list, eRev_eq, revK_list, eNeg_eq, negK_int, eTup_eq, tupK_ok, eLst_eq, lstK_ok, eFz_eq, eMt_eq, mtK_list, eLc_eq, eZip_eq, zipK_list, eEnum_eq, enumK_list, asL_eq, asLK_list, asT_eq, asTK_tup, tgN_eq, tgT_2, tgT_3, setE_nil, setE_cons, wipeE_nil, wipeE_cons, eCall_eq, callK_1, callK_2, callK_3, callK_4, eCallO_eq, callOK_1, callOK_2, callOK_3, rvO_o, rvD_d, rvD_o, eCatO_eq, eRepO_eq, repK_ok, aNil_eq, aCons_eq, oNo_eq, oYes_eq, oYK_int, mP_eq, mPT_eq, mPL_eq, mBin_eq, mAsB_eq, mAsBK_bool, mIf_eq, maNil_eq, maCons_eq, mTup_eq, mtupK_ok, sSetM_eq, sSetTM_eq, sIfM_eq, sParM_eq, parMK_2, sPar3M_eq, par3MK_3, so_val, noEx_val, ofO_some, rs_bind_val, rs_bind_exc, rs_bind_stk, rs_pure, List.map_cons, List.map_nil, List.length_cons, List.length_nil, List.length_map, List.length_set, List.replicate_succ, List.replicate_zero, List.cons_append, List.nil_append, List.getElem?_cons_zero, List.getElem?_cons_succ, List.set_cons_zero, List.set_cons_succ, List.zip_cons_cons, List.zip_nil_right, List.zip_nil_left, Nat.reduceAdd, Nat.reduceSub, Nat.reduceLT, Nat.reduceLeDiff, if_true, if_false, Bool.not_true, Bool.not_false, reduceCtorEq, and_true, true_and, LI, beq_self_eq_true, decide_true, decide_false, decide_eq_true_eq, Bool.false_eq_true, Bool.true_and, Bool.and_true, Bool.false_and, Bool.and_false, Bool.not_not, Bool.or_false, Bool.or_true, Bool.false_or, Bool.true_or, String.reduceBEq, dEq_LI, dNe_LI, dEq_int, dNe_int, dEq_bool, dNe_bool, dLt_int, dLe_int, dGt_int, dGe_int, dAdd_int, dSub_int, dLen_list, dLen_tup, dSum_LI, zipD_LI, lc]
/-! ### what the methods that look compute -/
section
variable {n : Nat} {a b : List Int} (CS : Addr) (m : List D)
theorem r_ag' (h : Rk n a) (g : Rk n b) : d_against [.list (a.map .int), .list (b.map .int)] = .val (.o ((agst n a b).map PN)) := r_ag h g
theorem r_law_ag' (h : Rk n a) (g : Rk n b) : d__law_against [.list (a.map .int), .list (b.map .int)] = .val (.o ((agst n a b).map PN)) := r_law_ag h g
theorem r_ranking : d_m_ranking CS CS (a.map .int) (b.map .int) m [] = .val (.o (a.map .int)) := by
  have e : dList [.list (a.map .int)] = .val (a.map .int) := rfl
  unfold d_m_ranking
  simp (implicitDefEqProofs := false) only [run_eq, asQ_eq, asQK_list, asQK_tup, sFrz_eq', sFrzK_ow, sFrzK_fz, sFrzK_no, eRgD_eq, dAdd_q, dIs_true, dIs_false, runK_nx, runK_ret, runK_reto, runK_exc, sSeq_eq, seqK_nx, seqK_ret, seqK_reto, seqK_exc, sIf_eq, sSet_eq, sSetO_eq, setOK_ok, sFor_eq, sRet_eq, sRetO_eq, sRetV_eq, retVK_ow, retVK_fz, sRetN_eq, sDrop_eq, sExc_eq, sApp_eq, appJ_ow, sPut_eq, putK_ow, sPar_eq, parK_2, sNil_eq, sSetT_eq, sAug_eq, augK_fz, sAugL_eq, augLK_ow, sRem_eq, eVar_eq, varK_fz, eVarB_eq, varBK_fz, varBK_ow, eC_eq, eBin_eq, eChain_eq, chainK_bool, asB_eq, asBK_bool, bNot_eq, bAnd_eq, bOr_eq, bYes_eq, eNot_eq, eAnd_eq, eOr_eq, eIf_eq, eCB_eq, eCO_eq, eRg1_eq, rg1K_int, eRg2_eq, rg2K_int, eIsi_eq, isD_int, isD_bool, isD_list, isD_tup, isD_str, eCut_eq, cutK_list, eRev_eq, revK_list, eNeg_eq, negK_int, eTup_eq, tupK_ok, eLst_eq, lstK_ok, eFz_eq, eMt_eq, mtK_list, eLc_eq, eZip_eq, zipK_list, eEnum_eq, enumK_list, asL_eq, asLK_list, asT_eq, asTK_tup, tgN_eq, tgT_2, tgT_3, setE_nil, setE_cons, wipeE_nil, wipeE_cons, eCall_eq, callK_1, callK_2, callK_3, callK_4, eCallO_eq, callOK_1, callOK_2, callOK_3, rvO_o, rvD_d, rvD_o, eCatO_eq, eRepO_eq, repK_ok, aNil_eq, aCons_eq, oNo_eq, oYes_eq, oYK_int, mP_eq, mPT_eq, mPL_eq, mBin_eq, mAsB_eq, mAsBK_bool, mIf_eq, maNil_eq, maCons_eq, mTup_eq, mtupK_ok, sSetM_eq, sSetTM_eq, sIfM_eq, sParM_eq, parMK_2, sPar3M_eq, par3MK_3, so_val, noEx_val, ofO_some, rs_bind_val, rs_bind_exc, rs_bind_stk, rs_pure, List.map_cons, List.map_nil, List.length_cons, List.length_nil, List.length_map, List.length_set, List.replicate_succ, List.replicate_zero, List.cons_append, List.nil_append, List.getElem?_cons_zero, List.getElem?_cons_succ, List.set_cons_zero, List.set_cons_succ, List.zip_cons_cons, List.zip_nil_right, List.zip_nil_left, Nat.reduceAdd, Nat.reduceSub, Nat.reduceLT, Nat.reduceLeDiff, if_true, if_false, Bool.not_true, Bool.not_false, reduceCtorEq, and_true, true_and, LI, beq_self_eq_true, decide_true, decide_false, decide_eq_true_eq, Bool.false_eq_true, Bool.true_and, Bool.and_true, Bool.false_and, Bool.and_false, Bool.not_not, Bool.or_false, Bool.or_true, Bool.false_or, Bool.true_or, String.reduceBEq, dEq_LI, dNe_LI, dEq_int, dNe_int, dEq_bool, dNe_bool, dLt_int, dLe_int, dGt_int, dGe_int, dAdd_int, dSub_int, dLen_list, dLen_tup, dSum_LI, zipD_LI, runF_eq, eNow_eq, soG_fo, e, runFK_reto]
theorem r_left (h : Rk n a) (g : Rk n b) : d_m_left CS CS (a.map .int) (b.map .int) m [] = .val (.d (.int (iv n a b : Nat))) := by
  unfold d_m_left iv
  simp (implicitDefEqProofs := false) only [run_eq, asQ_eq, asQK_list, asQK_tup, sFrz_eq', sFrzK_ow, sFrzK_fz, sFrzK_no, eRgD_eq, dAdd_q, dIs_true, dIs_false, runK_nx, runK_ret, runK_reto, runK_exc, sSeq_eq, seqK_nx, seqK_ret, seqK_reto, seqK_exc, sIf_eq, sSet_eq, sSetO_eq, setOK_ok, sFor_eq, sRet_eq, sRetO_eq, sRetV_eq, retVK_ow, retVK_fz, sRetN_eq, sDrop_eq, sExc_eq, sApp_eq, appJ_ow, sPut_eq, putK_ow, sPar_eq, parK_2, sNil_eq, sSetT_eq, sAug_eq, augK_fz, sAugL_eq, augLK_ow, sRem_eq, eVar_eq, varK_fz, eVarB_eq, varBK_fz, varBK_ow, eC_eq, eBin_eq, eChain_eq, chainK_bool, asB_eq, asBK_bool, bNot_eq, bAnd_eq, bOr_eq, bYes_eq, eNot_eq, eAnd_eq, eOr_eq, eIf_eq, eCB_eq, eCO_eq, eRg1_eq, rg1K_int, eRg2_eq, rg2K_int, eIsi_eq, isD_int, isD_bool, isD_list, isD_tup, isD_str, eCut_eq, cutK_list, eRev_eq, revK_list, eNeg_eq, negK_int, eTup_eq, tupK_ok, eLst_eq, lstK_ok, eFz_eq, eMt_eq, mtK_list, eLc_eq, eZip_eq, zipK_list, eEnum_eq, enumK_list, asL_eq, asLK_list, asT_eq, asTK_tup, tgN_eq, tgT_2, tgT_3, setE_nil, setE_cons, wipeE_nil, wipeE_cons, eCall_eq, callK_1, callK_2, callK_3, callK_4, eCallO_eq, callOK_1, callOK_2, callOK_3, rvO_o, rvD_d, rvD_o, eCatO_eq, eRepO_eq, repK_ok, aNil_eq, aCons_eq, oNo_eq, oYes_eq, oYK_int, mP_eq, mPT_eq, mPL_eq, mBin_eq, mAsB_eq, mAsBK_bool, mIf_eq, maNil_eq, maCons_eq, mTup_eq, mtupK_ok, sSetM_eq, sSetTM_eq, sIfM_eq, sParM_eq, parMK_2, sPar3M_eq, par3MK_3, so_val, noEx_val, ofO_some, rs_bind_val, rs_bind_exc, rs_bind_stk, rs_pure, List.map_cons, List.map_nil, List.length_cons, List.length_nil, List.length_map, List.length_set, List.replicate_succ, List.replicate_zero, List.cons_append, List.nil_append, List.getElem?_cons_zero, List.getElem?_cons_succ, List.set_cons_zero, List.set_cons_succ, List.zip_cons_cons, List.zip_nil_right, List.zip_nil_left, Nat.reduceAdd, Nat.reduceSub, Nat.reduceLT, Nat.reduceLeDiff, if_true, if_false, Bool.not_true, Bool.not_false, reduceCtorEq, and_true, true_and, LI, beq_self_eq_true, decide_true, decide_false, decide_eq_true_eq, Bool.false_eq_true, Bool.true_and, Bool.and_true, Bool.false_and, Bool.and_false, Bool.not_not, Bool.or_false, Bool.or_true, Bool.false_or, Bool.true_or, String.reduceBEq, dEq_LI, dNe_LI, dEq_int, dNe_int, dEq_bool, dNe_bool, dLt_int, dLe_int, dGt_int, dGe_int, dAdd_int, dSub_int, dLen_list, dLen_tup, dSum_LI, zipD_LI, runF_eq, eNow_eq, eGoal_eq, soG_fo, r_ag' h g, runFK_ret]
theorem r_len : d_m___len__ CS CS (a.map .int) (b.map .int) m [] = .val (.d (.int (m.length : Nat))) := by
  unfold d_m___len__
  simp (implicitDefEqProofs := false) only [run_eq, asQ_eq, asQK_list, asQK_tup, sFrz_eq', sFrzK_ow, sFrzK_fz, sFrzK_no, eRgD_eq, dAdd_q, dIs_true, dIs_false, runK_nx, runK_ret, runK_reto, runK_exc, sSeq_eq, seqK_nx, seqK_ret, seqK_reto, seqK_exc, sIf_eq, sSet_eq, sSetO_eq, setOK_ok, sFor_eq, sRet_eq, sRetO_eq, sRetV_eq, retVK_ow, retVK_fz, sRetN_eq, sDrop_eq, sExc_eq, sApp_eq, appJ_ow, sPut_eq, putK_ow, sPar_eq, parK_2, sNil_eq, sSetT_eq, sAug_eq, augK_fz, sAugL_eq, augLK_ow, sRem_eq, eVar_eq, varK_fz, eVarB_eq, varBK_fz, varBK_ow, eC_eq, eBin_eq, eChain_eq, chainK_bool, asB_eq, asBK_bool, bNot_eq, bAnd_eq, bOr_eq, bYes_eq, eNot_eq, eAnd_eq, eOr_eq, eIf_eq, eCB_eq, eCO_eq, eRg1_eq, rg1K_int, eRg2_eq, rg2K_int, eIsi_eq, isD_int, isD_bool, isD_list, isD_tup, isD_str, eCut_eq, cutK_list, eRev_eq, revK_list, eNeg_eq, negK_int, eTup_eq, tupK_ok, eLst_eq, lstK_ok, eFz_eq, eMt_eq, mtK_list, eLc_eq, eZip_eq, zipK_list, eEnum_eq, enumK_list, asL_eq, asLK_list, asT_eq, asTK_tup, tgN_eq, tgT_2, tgT_3, setE_nil, setE_cons, wipeE_nil, wipeE_cons, eCall_eq, callK_1, callK_2, callK_3, callK_4, eCallO_eq, callOK_1, callOK_2, callOK_3, rvO_o, rvD_d, rvD_o, eCatO_eq, eRepO_eq, repK_ok, aNil_eq, aCons_eq, oNo_eq, oYes_eq, oYK_int, mP_eq, mPT_eq, mPL_eq, mBin_eq, mAsB_eq, mAsBK_bool, mIf_eq, maNil_eq, maCons_eq, mTup_eq, mtupK_ok, sSetM_eq, sSetTM_eq, sIfM_eq, sParM_eq, parMK_2, sPar3M_eq, par3MK_3, so_val, noEx_val, ofO_some, rs_bind_val, rs_bind_exc, rs_bind_stk, rs_pure, List.map_cons, List.map_nil, List.length_cons, List.length_nil, List.length_map, List.length_set, List.replicate_succ, List.replicate_zero, List.cons_append, List.nil_append, List.getElem?_cons_zero, List.getElem?_cons_succ, List.set_cons_zero, List.set_cons_succ, List.zip_cons_cons, List.zip_nil_right, List.zip_nil_left, Nat.reduceAdd, Nat.reduceSub, Nat.reduceLT, Nat.reduceLeDiff, if_true, if_false, Bool.not_true, Bool.not_false, reduceCtorEq, and_true, true_and, LI, beq_self_eq_true, decide_true, decide_false, decide_eq_true_eq, Bool.false_eq_true, Bool.true_and, Bool.and_true, Bool.false_and, Bool.and_false, Bool.not_not, Bool.or_false, Bool.or_true, Bool.false_or, Bool.true_or, String.reduceBEq, dEq_LI, dNe_LI, dEq_int, dNe_int, dEq_bool, dNe_bool, dLt_int, dLe_int, dGt_int, dGe_int, dAdd_int, dSub_int, dLen_list, dLen_tup, dSum_LI, zipD_LI, runF_eq, eMade_eq, soG_fo, runFK_ret]
theorem mf_left {env : En} {i : Nat} {as : List Addr} (h : Rk n a) (g : Rk n b) (hi : env[i]? = some (.gx as (.fo CS (a.map .int) (b.map .int) m))) : eMF CS 0 (d_m_left CS) i aNil env = .val (.int (iv n a b : Nat)) := by
  simp (implicitDefEqProofs := false) only [run_eq, asQ_eq, asQK_list, asQK_tup, sFrz_eq', sFrzK_ow, sFrzK_fz, sFrzK_no, eRgD_eq, dAdd_q, dIs_true, dIs_false, runK_nx, runK_ret, runK_reto, runK_exc, sSeq_eq, seqK_nx, seqK_ret, seqK_reto, seqK_exc, sIf_eq, sSet_eq, sSetO_eq, setOK_ok, sFor_eq, sRet_eq, sRetO_eq, sRetV_eq, retVK_ow, retVK_fz, sRetN_eq, sDrop_eq, sExc_eq, sApp_eq, appJ_ow, sPut_eq, putK_ow, sPar_eq, parK_2, sNil_eq, sSetT_eq, sAug_eq, augK_fz, sAugL_eq, augLK_ow, sRem_eq, eVar_eq, varK_fz, eVarB_eq, varBK_fz, varBK_ow, eC_eq, eBin_eq, eChain_eq, chainK_bool, asB_eq, asBK_bool, bNot_eq, bAnd_eq, bOr_eq, bYes_eq, eNot_eq, eAnd_eq, eOr_eq, eIf_eq, eCB_eq, eCO_eq, eRg1_eq, rg1K_int, eRg2_eq, rg2K_int, eIsi_eq, isD_int, isD_bool, isD_list, isD_tup, isD_str, eCut_eq, cutK_list, eRev_eq, revK_list, eNeg_eq, negK_int, eTup_eq, tupK_ok, eLst_eq, lstK_ok, eFz_eq, eMt_eq, mtK_list, eLc_eq, eZip_eq, zipK_list, eEnum_eq, enumK_list, asL_eq, asLK_list, asT_eq, asTK_tup, tgN_eq, tgT_2, tgT_3, setE_nil, setE_cons, wipeE_nil, wipeE_cons, eCall_eq, callK_1, callK_2, callK_3, callK_4, eCallO_eq, callOK_1, callOK_2, callOK_3, rvO_o, rvD_d, rvD_o, eCatO_eq, eRepO_eq, repK_ok, aNil_eq, aCons_eq, oNo_eq, oYes_eq, oYK_int, mP_eq, mPT_eq, mPL_eq, mBin_eq, mAsB_eq, mAsBK_bool, mIf_eq, maNil_eq, maCons_eq, mTup_eq, mtupK_ok, sSetM_eq, sSetTM_eq, sIfM_eq, sParM_eq, parMK_2, sPar3M_eq, par3MK_3, so_val, noEx_val, ofO_some, rs_bind_val, rs_bind_exc, rs_bind_stk, rs_pure, List.map_cons, List.map_nil, List.length_cons, List.length_nil, List.length_map, List.length_set, List.replicate_succ, List.replicate_zero, List.cons_append, List.nil_append, List.getElem?_cons_zero, List.getElem?_cons_succ, List.set_cons_zero, List.set_cons_succ, List.zip_cons_cons, List.zip_nil_right, List.zip_nil_left, Nat.reduceAdd, Nat.reduceSub, Nat.reduceLT, Nat.reduceLeDiff, if_true, if_false, Bool.not_true, Bool.not_false, reduceCtorEq, and_true, true_and, LI, beq_self_eq_true, decide_true, decide_false, decide_eq_true_eq, Bool.false_eq_true, Bool.true_and, Bool.and_true, Bool.false_and, Bool.and_false, Bool.not_not, Bool.or_false, Bool.or_true, Bool.false_or, Bool.true_or, String.reduceBEq, dEq_LI, dNe_LI, dEq_int, dNe_int, dEq_bool, dNe_bool, dLt_int, dLe_int, dGt_int, dGe_int, dAdd_int, dSub_int, dLen_list, dLen_tup, dSum_LI, zipD_LI, eMF_eq, hi, soG_fo, mfK_0, r_left CS m h g, inG_int]
theorem rg_from1 {n : Nat} (h1 : 1 ≤ n) (h7 : n ≤ 7) : rgL 1 (n : Int) = .val ((List.range' 1 (n - 1)).map fun i => PyData.int ((i : Nat) : Int)) := by
  rw [rgL_val (by omega)]
  match n, h1, h7 with
  | 1, _, _ => rfl
  | 2, _, _ => rfl
  | 3, _, _ => rfl
  | 4, _, _ => rfl
  | 5, _, _ => rfl
  | 6, _, _ => rfl
  | 7, _, _ => rfl
abbrev bU (CS : Addr) : SF := (sIf (asB (eBin dLt (eCB dLen (aCons (eCall 2 d_against (aCons (eCall 2 d_exchanged (aCons (eNow CS 0) (aCons (eVar 2) aNil))) (aCons (eGoal CS 0) aNil))) aNil)) (eMF CS 0 (d_m_left CS) 0 aNil))) (sApp 1 (eVar 2)) sNil)
theorem agst_iv (n : Nat) (a b : List Int) : (agst n a b).length = iv n a b := rfl
abbrev NI (l : List Nat) : List D := l.map fun k => PyData.int ((k : Nat) : Int)
theorem r_useful (h : Rk n a) (g : Rk n b) : d_m_useful CS CS (a.map .int) (b.map .int) m [] = .val (.o (NI (usf n a b))) := by
  have h7 := h.hi
  have h1 := h.lo
  have hf : ∃ x', forL (tgN 2) (bU CS) ((List.range' 1 (n - 1)).map fun i => PyData.int ((i : Nat) : Int)) [.gx [] (.fo CS (a.map .int) (b.map .int) m), .ow [], .no] = .nx [.gx [] (.fo CS (a.map .int) (b.map .int) m), .ow (NI (usf n a b)), x'] := by
    obtain ⟨env', e1, x, rfl⟩ := forL_map (t := tgN 2) (body := bU CS) (fun i : Nat => PyData.int ((i : Nat) : Int)) (I := fun pre env => ∃ x, env = [.gx [] (.fo CS (a.map .int) (b.map .int) m), .ow (NI (pre.filter fun k => decide (iv n (xr (k : Nat) a) b < iv n a b))), x]) (List.range' 1 (n - 1)) (env := [.gx [] (.fo CS (a.map .int) (b.map .int) m), .ow [], .no]) (fun pre k post env e ⟨x, hx⟩ => by
      subst hx
      have hk : 1 ≤ k ∧ k < 1 + (n - 1) := by
        have : k ∈ List.range' 1 (n - 1) := by rw [e]; simp
        exact List.mem_range'_1.mp this
      have hpl : pre.length ≤ n := by
        have := congrArg List.length e
        rw [List.length_range', List.length_append] at this
        omega
      have hll : (NI (pre.filter fun k => decide (iv n (xr (k : Nat) a) b < iv n a b))).length < 100000 := by
        have := List.length_filter_le (fun k : Nat => decide (iv n (xr (k : Nat) a) b < iv n a b)) pre
        rw [List.length_map]
        omega
      refine ⟨_, [.gx [] (.fo CS (a.map .int) (b.map .int) m), .ow (NI ((pre ++ [k]).filter fun k => decide (iv n (xr (k : Nat) a) b < iv n a b))), .fz (.int (k : Nat))], rfl, .inl ?_, _, rfl⟩
      have lf := mf_left (env := [.gx [] (.fo CS (a.map .int) (b.map .int) m), .ow (NI (pre.filter fun k => decide (iv n (xr (k : Nat) a) b < iv n a b))), .fz (.int (k : Nat))]) (i := 0) (as := []) CS m h g rfl
      have hx := xr_rk (r := (k : Nat)) h (by omega) (by omega)
      generalize hL : pre.filter (fun k => decide (iv n (xr (k : Nat) a) b < iv n a b)) = L at lf hll ⊢
      show bU CS [.gx [] (.fo CS (a.map .int) (b.map .int) m), .ow (NI L), .fz (.int (k : Nat))] = _
      rw [List.filter_append, hL]
      by_cases hc : iv n (xr (k : Nat) a) b < iv n a b
      · have hc' : ((((iv n (xr (k : Nat) a) b : Nat) : Int)) < ((iv n a b : Nat) : Int)) = True := eq_true (by omega)
        have e2 : NI (L ++ [k].filter fun k => decide (iv n (xr (k : Nat) a) b < iv n a b)) = NI L ++ [.int (k : Nat)] := by
          simp [hc]
        rw [e2]
        unfold bU
        simp (implicitDefEqProofs := false) only [run_eq, asQ_eq, asQK_list, asQK_tup, sFrz_eq', sFrzK_ow, sFrzK_fz, sFrzK_no, eRgD_eq, dAdd_q, dIs_true, dIs_false, runK_nx, runK_ret, runK_reto, runK_exc, sSeq_eq, seqK_nx, seqK_ret, seqK_reto, seqK_exc, sIf_eq, sSet_eq, sSetO_eq, setOK_ok, sFor_eq, sRet_eq, sRetO_eq, sRetV_eq, retVK_ow, retVK_fz, sRetN_eq, sDrop_eq, sExc_eq, sApp_eq, appJ_ow, sPut_eq, putK_ow, sPar_eq, parK_2, sNil_eq, sSetT_eq, sAug_eq, augK_fz, sAugL_eq, augLK_ow, sRem_eq, eVar_eq, varK_fz, eVarB_eq, varBK_fz, varBK_ow, eC_eq, eBin_eq, eChain_eq, chainK_bool, asB_eq, asBK_bool, bNot_eq, bAnd_eq, bOr_eq, bYes_eq, eNot_eq, eAnd_eq, eOr_eq, eIf_eq, eCB_eq, eCO_eq, eRg1_eq, rg1K_int, eRg2_eq, rg2K_int, eIsi_eq, isD_int, isD_bool, isD_list, isD_tup, isD_str, eCut_eq, cutK_list, eRev_eq, revK_list, eNeg_eq, negK_int, eTup_eq, tupK_ok, eLst_eq, lstK_ok, eFz_eq, eMt_eq, mtK_list, eLc_eq, eZip_eq, zipK_list, eEnum_eq, enumK_list, asL_eq, asLK_list, asT_eq, asTK_tup, tgN_eq, tgT_2, tgT_3, setE_nil, setE_cons, wipeE_nil, wipeE_cons, eCall_eq, callK_1, callK_2, callK_3, callK_4, eCallO_eq, callOK_1, callOK_2, callOK_3, rvO_o, rvD_d, rvD_o, eCatO_eq, eRepO_eq, repK_ok, aNil_eq, aCons_eq, oNo_eq, oYes_eq, oYK_int, mP_eq, mPT_eq, mPL_eq, mBin_eq, mAsB_eq, mAsBK_bool, mIf_eq, maNil_eq, maCons_eq, mTup_eq, mtupK_ok, sSetM_eq, sSetTM_eq, sIfM_eq, sParM_eq, parMK_2, sPar3M_eq, par3MK_3, so_val, noEx_val, ofO_some, rs_bind_val, rs_bind_exc, rs_bind_stk, rs_pure, List.map_cons, List.map_nil, List.length_cons, List.length_nil, List.length_map, List.length_set, List.replicate_succ, List.replicate_zero, List.cons_append, List.nil_append, List.getElem?_cons_zero, List.getElem?_cons_succ, List.set_cons_zero, List.set_cons_succ, List.zip_cons_cons, List.zip_nil_right, List.zip_nil_left, Nat.reduceAdd, Nat.reduceSub, Nat.reduceLT, Nat.reduceLeDiff, if_true, if_false, Bool.not_true, Bool.not_false, reduceCtorEq, and_true, true_and, LI, beq_self_eq_true, decide_true, decide_false, decide_eq_true_eq, Bool.false_eq_true, Bool.true_and, Bool.and_true, Bool.false_and, Bool.and_false, Bool.not_not, Bool.or_false, Bool.or_true, Bool.false_or, Bool.true_or, String.reduceBEq, dEq_LI, dNe_LI, dEq_int, dNe_int, dEq_bool, dNe_bool, dLt_int, dLe_int, dGt_int, dGe_int, dAdd_int, dSub_int, dLen_list, dLen_tup, dSum_LI, zipD_LI, eNow_eq, eGoal_eq, soG_fo, r_exch _ (show a.length ≤ 100 by rw [h.len]; omega), r_ag' hx g, agst_iv, lf, hc', appK_ok hll]
      · have hc' : ((((iv n (xr (k : Nat) a) b : Nat) : Int)) < ((iv n a b : Nat) : Int)) = False := eq_false (by omega)
        have e2 : NI (L ++ [k].filter fun k => decide (iv n (xr (k : Nat) a) b < iv n a b)) = NI L := by
          simp [hc]
        rw [e2]
        unfold bU
        simp (implicitDefEqProofs := false) only [run_eq, asQ_eq, asQK_list, asQK_tup, sFrz_eq', sFrzK_ow, sFrzK_fz, sFrzK_no, eRgD_eq, dAdd_q, dIs_true, dIs_false, runK_nx, runK_ret, runK_reto, runK_exc, sSeq_eq, seqK_nx, seqK_ret, seqK_reto, seqK_exc, sIf_eq, sSet_eq, sSetO_eq, setOK_ok, sFor_eq, sRet_eq, sRetO_eq, sRetV_eq, retVK_ow, retVK_fz, sRetN_eq, sDrop_eq, sExc_eq, sApp_eq, appJ_ow, sPut_eq, putK_ow, sPar_eq, parK_2, sNil_eq, sSetT_eq, sAug_eq, augK_fz, sAugL_eq, augLK_ow, sRem_eq, eVar_eq, varK_fz, eVarB_eq, varBK_fz, varBK_ow, eC_eq, eBin_eq, eChain_eq, chainK_bool, asB_eq, asBK_bool, bNot_eq, bAnd_eq, bOr_eq, bYes_eq, eNot_eq, eAnd_eq, eOr_eq, eIf_eq, eCB_eq, eCO_eq, eRg1_eq, rg1K_int, eRg2_eq, rg2K_int, eIsi_eq, isD_int, isD_bool, isD_list, isD_tup, isD_str, eCut_eq, cutK_list, eRev_eq, revK_list, eNeg_eq, negK_int, eTup_eq, tupK_ok, eLst_eq, lstK_ok, eFz_eq, eMt_eq, mtK_list, eLc_eq, eZip_eq, zipK_list, eEnum_eq, enumK_list, asL_eq, asLK_list, asT_eq, asTK_tup, tgN_eq, tgT_2, tgT_3, setE_nil, setE_cons, wipeE_nil, wipeE_cons, eCall_eq, callK_1, callK_2, callK_3, callK_4, eCallO_eq, callOK_1, callOK_2, callOK_3, rvO_o, rvD_d, rvD_o, eCatO_eq, eRepO_eq, repK_ok, aNil_eq, aCons_eq, oNo_eq, oYes_eq, oYK_int, mP_eq, mPT_eq, mPL_eq, mBin_eq, mAsB_eq, mAsBK_bool, mIf_eq, maNil_eq, maCons_eq, mTup_eq, mtupK_ok, sSetM_eq, sSetTM_eq, sIfM_eq, sParM_eq, parMK_2, sPar3M_eq, par3MK_3, so_val, noEx_val, ofO_some, rs_bind_val, rs_bind_exc, rs_bind_stk, rs_pure, List.map_cons, List.map_nil, List.length_cons, List.length_nil, List.length_map, List.length_set, List.replicate_succ, List.replicate_zero, List.cons_append, List.nil_append, List.getElem?_cons_zero, List.getElem?_cons_succ, List.set_cons_zero, List.set_cons_succ, List.zip_cons_cons, List.zip_nil_right, List.zip_nil_left, Nat.reduceAdd, Nat.reduceSub, Nat.reduceLT, Nat.reduceLeDiff, if_true, if_false, Bool.not_true, Bool.not_false, reduceCtorEq, and_true, true_and, LI, beq_self_eq_true, decide_true, decide_false, decide_eq_true_eq, Bool.false_eq_true, Bool.true_and, Bool.and_true, Bool.false_and, Bool.and_false, Bool.not_not, Bool.or_false, Bool.or_true, Bool.false_or, Bool.true_or, String.reduceBEq, dEq_LI, dNe_LI, dEq_int, dNe_int, dEq_bool, dNe_bool, dLt_int, dLe_int, dGt_int, dGe_int, dAdd_int, dSub_int, dLen_list, dLen_tup, dSum_LI, zipD_LI, eNow_eq, eGoal_eq, soG_fo, r_exch _ (show a.length ≤ 100 by rw [h.len]; omega), r_ag' hx g, agst_iv, lf, hc', appK_ok hll]) ⟨.no, rfl⟩
    exact ⟨x, e1⟩
  obtain ⟨x', hf⟩ := hf
  unfold d_m_useful
  unfold bU at hf
  simp (implicitDefEqProofs := false) only [run_eq, asQ_eq, asQK_list, asQK_tup, sFrz_eq', sFrzK_ow, sFrzK_fz, sFrzK_no, eRgD_eq, dAdd_q, dIs_true, dIs_false, runK_nx, runK_ret, runK_reto, runK_exc, sSeq_eq, seqK_nx, seqK_ret, seqK_reto, seqK_exc, sIf_eq, sSet_eq, sSetO_eq, setOK_ok, sFor_eq, sRet_eq, sRetO_eq, sRetV_eq, retVK_ow, retVK_fz, sRetN_eq, sDrop_eq, sExc_eq, sApp_eq, appJ_ow, sPut_eq, putK_ow, sPar_eq, parK_2, sNil_eq, sSetT_eq, sAug_eq, augK_fz, sAugL_eq, augLK_ow, sRem_eq, eVar_eq, varK_fz, eVarB_eq, varBK_fz, varBK_ow, eC_eq, eBin_eq, eChain_eq, chainK_bool, asB_eq, asBK_bool, bNot_eq, bAnd_eq, bOr_eq, bYes_eq, eNot_eq, eAnd_eq, eOr_eq, eIf_eq, eCB_eq, eCO_eq, eRg1_eq, rg1K_int, eRg2_eq, rg2K_int, eIsi_eq, isD_int, isD_bool, isD_list, isD_tup, isD_str, eCut_eq, cutK_list, eRev_eq, revK_list, eNeg_eq, negK_int, eTup_eq, tupK_ok, eLst_eq, lstK_ok, eFz_eq, eMt_eq, mtK_list, eLc_eq, eZip_eq, zipK_list, eEnum_eq, enumK_list, asL_eq, asLK_list, asT_eq, asTK_tup, tgN_eq, tgT_2, tgT_3, setE_nil, setE_cons, wipeE_nil, wipeE_cons, eCall_eq, callK_1, callK_2, callK_3, callK_4, eCallO_eq, callOK_1, callOK_2, callOK_3, rvO_o, rvD_d, rvD_o, eCatO_eq, eRepO_eq, repK_ok, aNil_eq, aCons_eq, oNo_eq, oYes_eq, oYK_int, mP_eq, mPT_eq, mPL_eq, mBin_eq, mAsB_eq, mAsBK_bool, mIf_eq, maNil_eq, maCons_eq, mTup_eq, mtupK_ok, sSetM_eq, sSetTM_eq, sIfM_eq, sParM_eq, parMK_2, sPar3M_eq, par3MK_3, so_val, noEx_val, ofO_some, rs_bind_val, rs_bind_exc, rs_bind_stk, rs_pure, List.map_cons, List.map_nil, List.length_cons, List.length_nil, List.length_map, List.length_set, List.replicate_succ, List.replicate_zero, List.cons_append, List.nil_append, List.getElem?_cons_zero, List.getElem?_cons_succ, List.set_cons_zero, List.set_cons_succ, List.zip_cons_cons, List.zip_nil_right, List.zip_nil_left, Nat.reduceAdd, Nat.reduceSub, Nat.reduceLT, Nat.reduceLeDiff, if_true, if_false, Bool.not_true, Bool.not_false, reduceCtorEq, and_true, true_and, LI, beq_self_eq_true, decide_true, decide_false, decide_eq_true_eq, Bool.false_eq_true, Bool.true_and, Bool.and_true, Bool.false_and, Bool.and_false, Bool.not_not, Bool.or_false, Bool.or_true, Bool.false_or, Bool.true_or, String.reduceBEq, dEq_LI, dNe_LI, dEq_int, dNe_int, dEq_bool, dNe_bool, dLt_int, dLe_int, dGt_int, dGe_int, dAdd_int, dSub_int, dLen_list, dLen_tup, dSum_LI, zipD_LI, runF_eq, eNow_eq, soG_fo, h.len, rg_from1 h1 h7, hf, runFK_reto]
/-! ### what the methods that write compute -/
variable (ms : List Int) (p p3 : Addr)
theorem dEq_LI0 (l : List Int) : dEq (.list (l.map .int)) (.list []) = .val (.bool (decide (l = []))) := dEq_LI l []
theorem dNe_LI0 (l : List Int) : dNe (.list (l.map .int)) (.list []) = .val (.bool (!decide (l = []))) := dNe_LI l []
theorem r_exchange {r : Int} (h : Rk n a) (g : Rk n b) (h1 : 1 ≤ r) (h2 : r + 1 ≤ n) (hm : ms.length ≤ 1000) : d_m_exchange CS p p3 (a.map .int) (b.map .int) (ms.map .int) [.int r] = .val (.int (iv n (xr r a) b : Nat), (xr r a).map .int, b.map .int, (ms ++ [r]).map .int) := by
  have h7 := h.hi
  have d1 : (1 ≤ r) = True := eq_true h1
  have d2 : (r ≤ (n : Int) - 1) = True := eq_true (by omega)
  have e : (ms ++ [r]).map PyData.int = ms.map .int ++ [.int r] := by simp
  have ma := madeAK_ok (CS := CS) (i := 0) (env := [.gx [p, p3] (.so CS ((xr r a).map .int) (b.map .int) (ms.map .int)), .fz (.int r)]) (d := .int r) (z := (p, p3, (xr r a).map .int, b.map .int, ms.map .int)) (by show (ms.map PyData.int).length < 100000; rw [List.length_map]; omega)
  rw [e]
  unfold d_m_exchange
  simp (implicitDefEqProofs := false) only [run_eq, asQ_eq, asQK_list, asQK_tup, sFrz_eq', sFrzK_ow, sFrzK_fz, sFrzK_no, eRgD_eq, dAdd_q, dIs_true, dIs_false, runK_nx, runK_ret, runK_reto, runK_exc, sSeq_eq, seqK_nx, seqK_ret, seqK_reto, seqK_exc, sIf_eq, sSet_eq, sSetO_eq, setOK_ok, sFor_eq, sRet_eq, sRetO_eq, sRetV_eq, retVK_ow, retVK_fz, sRetN_eq, sDrop_eq, sExc_eq, sApp_eq, appJ_ow, sPut_eq, putK_ow, sPar_eq, parK_2, sNil_eq, sSetT_eq, sAug_eq, augK_fz, sAugL_eq, augLK_ow, sRem_eq, eVar_eq, varK_fz, eVarB_eq, varBK_fz, varBK_ow, eC_eq, eBin_eq, eChain_eq, chainK_bool, asB_eq, asBK_bool, bNot_eq, bAnd_eq, bOr_eq, bYes_eq, eNot_eq, eAnd_eq, eOr_eq, eIf_eq, eCB_eq, eCO_eq, eRg1_eq, rg1K_int, eRg2_eq, rg2K_int, eIsi_eq, isD_int, isD_bool, isD_list, isD_tup, isD_str, eCut_eq, cutK_list, eRev_eq, revK_list, eNeg_eq, negK_int, eTup_eq, tupK_ok, eLst_eq, lstK_ok, eFz_eq, eMt_eq, mtK_list, eLc_eq, eZip_eq, zipK_list, eEnum_eq, enumK_list, asL_eq, asLK_list, asT_eq, asTK_tup, tgN_eq, tgT_2, tgT_3, setE_nil, setE_cons, wipeE_nil, wipeE_cons, eCall_eq, callK_1, callK_2, callK_3, callK_4, eCallO_eq, callOK_1, callOK_2, callOK_3, rvO_o, rvD_d, rvD_o, eCatO_eq, eRepO_eq, repK_ok, aNil_eq, aCons_eq, oNo_eq, oYes_eq, oYK_int, mP_eq, mPT_eq, mPL_eq, mBin_eq, mAsB_eq, mAsBK_bool, mIf_eq, maNil_eq, maCons_eq, mTup_eq, mtupK_ok, sSetM_eq, sSetTM_eq, sIfM_eq, sParM_eq, parMK_2, sPar3M_eq, par3MK_3, so_val, noEx_val, ofO_some, rs_bind_val, rs_bind_exc, rs_bind_stk, rs_pure, List.map_cons, List.map_nil, List.length_cons, List.length_nil, List.length_map, List.length_set, List.replicate_succ, List.replicate_zero, List.cons_append, List.nil_append, List.getElem?_cons_zero, List.getElem?_cons_succ, List.set_cons_zero, List.set_cons_succ, List.zip_cons_cons, List.zip_nil_right, List.zip_nil_left, Nat.reduceAdd, Nat.reduceSub, Nat.reduceLT, Nat.reduceLeDiff, if_true, if_false, Bool.not_true, Bool.not_false, reduceCtorEq, and_true, true_and, LI, beq_self_eq_true, decide_true, decide_false, decide_eq_true_eq, Bool.false_eq_true, Bool.true_and, Bool.and_true, Bool.false_and, Bool.and_false, Bool.not_not, Bool.or_false, Bool.or_true, Bool.false_or, Bool.true_or, String.reduceBEq, dEq_LI, dNe_LI, dEq_int, dNe_int, dEq_bool, dNe_bool, dLt_int, dLe_int, dGt_int, dGe_int, dAdd_int, dSub_int, dLen_list, dLen_tup, dSum_LI, zipD_LI, runX_eq, eCall0_eq, call0K_3, call0K_2, r_is_int, call0R_val, eNow_eq, soG_so, soW_so, h.len, d1, d2, sNowW_eq, r_exch r (show a.length ≤ 100 by rw [h.len]; omega), nowK_ok, sDropM_eq, mMadeA_eq, ma, eMF_eq, mfK_0, r_left CS _ (xr_rk h h1 h2) g, inG_int, soRt_ret, retS_so]
theorem r_exchange_no {r : Int} (h : Rk n a) (hr : ¬ (1 ≤ r ∧ r + 1 ≤ n)) : d_m_exchange CS p p3 (a.map .int) (b.map .int) (ms.map .int) [.int r] = .exc .numb := by
  have d : (decide (1 ≤ r) && decide (r ≤ (n : Int) - 1)) = false := by
    by_cases h1 : 1 ≤ r
    · rw [decide_eq_false (show ¬ r ≤ (n : Int) - 1 by omega), Bool.and_false]
    · rw [decide_eq_false h1, Bool.false_and]
  unfold d_m_exchange
  simp (implicitDefEqProofs := false) only [run_eq, asQ_eq, asQK_list, asQK_tup, sFrz_eq', sFrzK_ow, sFrzK_fz, sFrzK_no, eRgD_eq, dAdd_q, dIs_true, dIs_false, runK_nx, runK_ret, runK_reto, runK_exc, sSeq_eq, seqK_nx, seqK_ret, seqK_reto, seqK_exc, sIf_eq, sSet_eq, sSetO_eq, setOK_ok, sFor_eq, sRet_eq, sRetO_eq, sRetV_eq, retVK_ow, retVK_fz, sRetN_eq, sDrop_eq, sExc_eq, sApp_eq, appJ_ow, sPut_eq, putK_ow, sPar_eq, parK_2, sNil_eq, sSetT_eq, sAug_eq, augK_fz, sAugL_eq, augLK_ow, sRem_eq, eVar_eq, varK_fz, eVarB_eq, varBK_fz, varBK_ow, eC_eq, eBin_eq, eChain_eq, chainK_bool, asB_eq, asBK_bool, bNot_eq, bAnd_eq, bOr_eq, bYes_eq, eNot_eq, eAnd_eq, eOr_eq, eIf_eq, eCB_eq, eCO_eq, eRg1_eq, rg1K_int, eRg2_eq, rg2K_int, eIsi_eq, isD_int, isD_bool, isD_list, isD_tup, isD_str, eCut_eq, cutK_list, eRev_eq, revK_list, eNeg_eq, negK_int, eTup_eq, tupK_ok, eLst_eq, lstK_ok, eFz_eq, eMt_eq, mtK_list, eLc_eq, eZip_eq, zipK_list, eEnum_eq, enumK_list, asL_eq, asLK_list, asT_eq, asTK_tup, tgN_eq, tgT_2, tgT_3, setE_nil, setE_cons, wipeE_nil, wipeE_cons, eCall_eq, callK_1, callK_2, callK_3, callK_4, eCallO_eq, callOK_1, callOK_2, callOK_3, rvO_o, rvD_d, rvD_o, eCatO_eq, eRepO_eq, repK_ok, aNil_eq, aCons_eq, oNo_eq, oYes_eq, oYK_int, mP_eq, mPT_eq, mPL_eq, mBin_eq, mAsB_eq, mAsBK_bool, mIf_eq, maNil_eq, maCons_eq, mTup_eq, mtupK_ok, sSetM_eq, sSetTM_eq, sIfM_eq, sParM_eq, parMK_2, sPar3M_eq, par3MK_3, so_val, noEx_val, ofO_some, rs_bind_val, rs_bind_exc, rs_bind_stk, rs_pure, List.map_cons, List.map_nil, List.length_cons, List.length_nil, List.length_map, List.length_set, List.replicate_succ, List.replicate_zero, List.cons_append, List.nil_append, List.getElem?_cons_zero, List.getElem?_cons_succ, List.set_cons_zero, List.set_cons_succ, List.zip_cons_cons, List.zip_nil_right, List.zip_nil_left, Nat.reduceAdd, Nat.reduceSub, Nat.reduceLT, Nat.reduceLeDiff, if_true, if_false, Bool.not_true, Bool.not_false, reduceCtorEq, and_true, true_and, LI, beq_self_eq_true, decide_true, decide_false, decide_eq_true_eq, Bool.false_eq_true, Bool.true_and, Bool.and_true, Bool.false_and, Bool.and_false, Bool.not_not, Bool.or_false, Bool.or_true, Bool.false_or, Bool.true_or, String.reduceBEq, dEq_LI, dNe_LI, dEq_int, dNe_int, dEq_bool, dNe_bool, dLt_int, dLe_int, dGt_int, dGe_int, dAdd_int, dSub_int, dLen_list, dLen_tup, dSum_LI, zipD_LI, runX_eq, eCall0_eq, call0K_3, call0K_2, r_is_int, call0R_val, eNow_eq, soG_so, soW_so, h.len, d]
theorem r_undo {r : Int} (h : Rk n a) (h1 : 1 ≤ r) (h2 : r + 1 ≤ n) : d_m_undo CS p p3 (a.map .int) (b.map .int) ((ms ++ [r]).map .int) [] = .val (.int r, (xr r a).map .int, b.map .int, ms.map .int) := by
  have h7 := h.hi
  have e1 : ((ms ++ [r]).map PyData.int)[(ms ++ [r]).length - 1]? = some (.int r) := by simp
  have e2 : ((ms ++ [r]).map PyData.int).dropLast = ms.map .int := by simp
  have e3 : (ms ++ [r] = []) = False := eq_false (by simp)
  generalize ms ++ [r] = w at e1 e2 e3 ⊢
  unfold d_m_undo
  simp (implicitDefEqProofs := false) only [run_eq, asQ_eq, asQK_list, asQK_tup, sFrz_eq', sFrzK_ow, sFrzK_fz, sFrzK_no, eRgD_eq, dAdd_q, dIs_true, dIs_false, runK_nx, runK_ret, runK_reto, runK_exc, sSeq_eq, seqK_nx, seqK_ret, seqK_reto, seqK_exc, sIf_eq, sSet_eq, sSetO_eq, setOK_ok, sFor_eq, sRet_eq, sRetO_eq, sRetV_eq, retVK_ow, retVK_fz, sRetN_eq, sDrop_eq, sExc_eq, sApp_eq, appJ_ow, sPut_eq, putK_ow, sPar_eq, parK_2, sNil_eq, sSetT_eq, sAug_eq, augK_fz, sAugL_eq, augLK_ow, sRem_eq, eVar_eq, varK_fz, eVarB_eq, varBK_fz, varBK_ow, eC_eq, eBin_eq, eChain_eq, chainK_bool, asB_eq, asBK_bool, bNot_eq, bAnd_eq, bOr_eq, bYes_eq, eNot_eq, eAnd_eq, eOr_eq, eIf_eq, eCB_eq, eCO_eq, eRg1_eq, rg1K_int, eRg2_eq, rg2K_int, eIsi_eq, isD_int, isD_bool, isD_list, isD_tup, isD_str, eCut_eq, cutK_list, eRev_eq, revK_list, eNeg_eq, negK_int, eTup_eq, tupK_ok, eLst_eq, lstK_ok, eFz_eq, eMt_eq, mtK_list, eLc_eq, eZip_eq, zipK_list, eEnum_eq, enumK_list, asL_eq, asLK_list, asT_eq, asTK_tup, tgN_eq, tgT_2, tgT_3, setE_nil, setE_cons, wipeE_nil, wipeE_cons, eCall_eq, callK_1, callK_2, callK_3, callK_4, eCallO_eq, callOK_1, callOK_2, callOK_3, rvO_o, rvD_d, rvD_o, eCatO_eq, eRepO_eq, repK_ok, aNil_eq, aCons_eq, oNo_eq, oYes_eq, oYK_int, mP_eq, mPT_eq, mPL_eq, mBin_eq, mAsB_eq, mAsBK_bool, mIf_eq, maNil_eq, maCons_eq, mTup_eq, mtupK_ok, sSetM_eq, sSetTM_eq, sIfM_eq, sParM_eq, parMK_2, sPar3M_eq, par3MK_3, so_val, noEx_val, ofO_some, rs_bind_val, rs_bind_exc, rs_bind_stk, rs_pure, List.map_cons, List.map_nil, List.length_cons, List.length_nil, List.length_map, List.length_set, List.replicate_succ, List.replicate_zero, List.cons_append, List.nil_append, List.getElem?_cons_zero, List.getElem?_cons_succ, List.set_cons_zero, List.set_cons_succ, List.zip_cons_cons, List.zip_nil_right, List.zip_nil_left, Nat.reduceAdd, Nat.reduceSub, Nat.reduceLT, Nat.reduceLeDiff, if_true, if_false, Bool.not_true, Bool.not_false, reduceCtorEq, and_true, true_and, LI, beq_self_eq_true, decide_true, decide_false, decide_eq_true_eq, Bool.false_eq_true, Bool.true_and, Bool.and_true, Bool.false_and, Bool.and_false, Bool.not_not, Bool.or_false, Bool.or_true, Bool.false_or, Bool.true_or, String.reduceBEq, dEq_LI, dNe_LI, dEq_int, dNe_int, dEq_bool, dNe_bool, dLt_int, dLe_int, dGt_int, dGe_int, dAdd_int, dSub_int, dLen_list, dLen_tup, dSum_LI, zipD_LI, runX_eq, eCall0_eq, call0K_3, call0K_2, call0R_val, eMade_eq, eNow_eq, soG_so, soW_so, dEq_LI0, e3, mMadeP_eq, e1, e2, sNowW_eq, r_exch r (show a.length ≤ 100 by rw [h.len]; omega), nowK_ok, soRt_ret, retS_so]
theorem r_undo_no : d_m_undo CS p p3 (a.map .int) (b.map .int) [] [] = .exc .noth := by
  have e : dEq (.list []) (.list []) = .val (.bool true) := by
    have := dEq_LI0 []
    simpa using this
  unfold d_m_undo
  simp (implicitDefEqProofs := false) only [run_eq, asQ_eq, asQK_list, asQK_tup, sFrz_eq', sFrzK_ow, sFrzK_fz, sFrzK_no, eRgD_eq, dAdd_q, dIs_true, dIs_false, runK_nx, runK_ret, runK_reto, runK_exc, sSeq_eq, seqK_nx, seqK_ret, seqK_reto, seqK_exc, sIf_eq, sSet_eq, sSetO_eq, setOK_ok, sFor_eq, sRet_eq, sRetO_eq, sRetV_eq, retVK_ow, retVK_fz, sRetN_eq, sDrop_eq, sExc_eq, sApp_eq, appJ_ow, sPut_eq, putK_ow, sPar_eq, parK_2, sNil_eq, sSetT_eq, sAug_eq, augK_fz, sAugL_eq, augLK_ow, sRem_eq, eVar_eq, varK_fz, eVarB_eq, varBK_fz, varBK_ow, eC_eq, eBin_eq, eChain_eq, chainK_bool, asB_eq, asBK_bool, bNot_eq, bAnd_eq, bOr_eq, bYes_eq, eNot_eq, eAnd_eq, eOr_eq, eIf_eq, eCB_eq, eCO_eq, eRg1_eq, rg1K_int, eRg2_eq, rg2K_int, eIsi_eq, isD_int, isD_bool, isD_list, isD_tup, isD_str, eCut_eq, cutK_list, eRev_eq, revK_list, eNeg_eq, negK_int, eTup_eq, tupK_ok, eLst_eq, lstK_ok, eFz_eq, eMt_eq, mtK_list, eLc_eq, eZip_eq, zipK_list, eEnum_eq, enumK_list, asL_eq, asLK_list, asT_eq, asTK_tup, tgN_eq, tgT_2, tgT_3, setE_nil, setE_cons, wipeE_nil, wipeE_cons, eCall_eq, callK_1, callK_2, callK_3, callK_4, eCallO_eq, callOK_1, callOK_2, callOK_3, rvO_o, rvD_d, rvD_o, eCatO_eq, eRepO_eq, repK_ok, aNil_eq, aCons_eq, oNo_eq, oYes_eq, oYK_int, mP_eq, mPT_eq, mPL_eq, mBin_eq, mAsB_eq, mAsBK_bool, mIf_eq, maNil_eq, maCons_eq, mTup_eq, mtupK_ok, sSetM_eq, sSetTM_eq, sIfM_eq, sParM_eq, parMK_2, sPar3M_eq, par3MK_3, so_val, noEx_val, ofO_some, rs_bind_val, rs_bind_exc, rs_bind_stk, rs_pure, List.map_cons, List.map_nil, List.length_cons, List.length_nil, List.length_map, List.length_set, List.replicate_succ, List.replicate_zero, List.cons_append, List.nil_append, List.getElem?_cons_zero, List.getElem?_cons_succ, List.set_cons_zero, List.set_cons_succ, List.zip_cons_cons, List.zip_nil_right, List.zip_nil_left, Nat.reduceAdd, Nat.reduceSub, Nat.reduceLT, Nat.reduceLeDiff, if_true, if_false, Bool.not_true, Bool.not_false, reduceCtorEq, and_true, true_and, LI, beq_self_eq_true, decide_true, decide_false, decide_eq_true_eq, Bool.false_eq_true, Bool.true_and, Bool.and_true, Bool.false_and, Bool.and_false, Bool.not_not, Bool.or_false, Bool.or_true, Bool.false_or, Bool.true_or, String.reduceBEq, dEq_LI, dNe_LI, dEq_int, dNe_int, dEq_bool, dNe_bool, dLt_int, dLe_int, dGt_int, dGe_int, dAdd_int, dSub_int, dLen_list, dLen_tup, dSum_LI, zipD_LI, runX_eq, eMade_eq, soG_so, e]
variable (κ : Kp)
theorem r_call_ex {r : Int} (h : Rk n a) (g : Rk n b) (h1 : 1 ≤ r) (h2 : r + 1 ≤ n) (hm : ms.length ≤ 1000) : d__law_call κ CS p p3 (a.map .int) (b.map .int) (ms.map .int) [.int 0, .int r] = .val (.int (iv n (xr r a) b : Nat), (xr r a).map .int, b.map .int, (ms ++ [r]).map .int) := by
  have hx := r_exchange CS ms p p3 h g h1 h2 hm
  generalize (ms ++ [r]).map PyData.int = w at hx ⊢
  unfold d__law_call
  simp (implicitDefEqProofs := false) only [run_eq, asQ_eq, asQK_list, asQK_tup, sFrz_eq', sFrzK_ow, sFrzK_fz, sFrzK_no, eRgD_eq, dAdd_q, dIs_true, dIs_false, runK_nx, runK_ret, runK_reto, runK_exc, sSeq_eq, seqK_nx, seqK_ret, seqK_reto, seqK_exc, sIf_eq, sSet_eq, sSetO_eq, setOK_ok, sFor_eq, sRet_eq, sRetO_eq, sRetV_eq, retVK_ow, retVK_fz, sRetN_eq, sDrop_eq, sExc_eq, sApp_eq, appJ_ow, sPut_eq, putK_ow, sPar_eq, parK_2, sNil_eq, sSetT_eq, sAug_eq, augK_fz, sAugL_eq, augLK_ow, sRem_eq, eVar_eq, varK_fz, eVarB_eq, varBK_fz, varBK_ow, eC_eq, eBin_eq, eChain_eq, chainK_bool, asB_eq, asBK_bool, bNot_eq, bAnd_eq, bOr_eq, bYes_eq, eNot_eq, eAnd_eq, eOr_eq, eIf_eq, eCB_eq, eCO_eq, eRg1_eq, rg1K_int, eRg2_eq, rg2K_int, eIsi_eq, isD_int, isD_bool, isD_list, isD_tup, isD_str, eCut_eq, cutK_list, eRev_eq, revK_list, eNeg_eq, negK_int, eTup_eq, tupK_ok, eLst_eq, lstK_ok, eFz_eq, eMt_eq, mtK_list, eLc_eq, eZip_eq, zipK_list, eEnum_eq, enumK_list, asL_eq, asLK_list, asT_eq, asTK_tup, tgN_eq, tgT_2, tgT_3, setE_nil, setE_cons, wipeE_nil, wipeE_cons, eCall_eq, callK_1, callK_2, callK_3, callK_4, eCallO_eq, callOK_1, callOK_2, callOK_3, rvO_o, rvD_d, rvD_o, eCatO_eq, eRepO_eq, repK_ok, aNil_eq, aCons_eq, oNo_eq, oYes_eq, oYK_int, mP_eq, mPT_eq, mPL_eq, mBin_eq, mAsB_eq, mAsBK_bool, mIf_eq, maNil_eq, maCons_eq, mTup_eq, mtupK_ok, sSetM_eq, sSetTM_eq, sIfM_eq, sParM_eq, parMK_2, sPar3M_eq, par3MK_3, so_val, noEx_val, ofO_some, rs_bind_val, rs_bind_exc, rs_bind_stk, rs_pure, List.map_cons, List.map_nil, List.length_cons, List.length_nil, List.length_map, List.length_set, List.replicate_succ, List.replicate_zero, List.cons_append, List.nil_append, List.getElem?_cons_zero, List.getElem?_cons_succ, List.set_cons_zero, List.set_cons_succ, List.zip_cons_cons, List.zip_nil_right, List.zip_nil_left, Nat.reduceAdd, Nat.reduceSub, Nat.reduceLT, Nat.reduceLeDiff, if_true, if_false, Bool.not_true, Bool.not_false, reduceCtorEq, and_true, true_and, LI, beq_self_eq_true, decide_true, decide_false, decide_eq_true_eq, Bool.false_eq_true, Bool.true_and, Bool.and_true, Bool.false_and, Bool.and_false, Bool.not_not, Bool.or_false, Bool.or_true, Bool.false_or, Bool.true_or, String.reduceBEq, dEq_LI, dNe_LI, dEq_int, dNe_int, dEq_bool, dNe_bool, dLt_int, dLe_int, dGt_int, dGe_int, dAdd_int, dSub_int, dLen_list, dLen_tup, dSum_LI, zipD_LI, runS_eq, sTryX_eq, mIfX_eq, mSoV_eq, soW_so, soK_1, soK_0, hx, soOut_eq, tryXK_val, bIsN_eq, isNK_fz, isNon_non, soRt_ret, retS_so]
theorem r_call_no {r : Int} (h : Rk n a) (hr : ¬ (1 ≤ r ∧ r + 1 ≤ n)) : d__law_call κ CS p p3 (a.map .int) (b.map .int) (ms.map .int) [.int 0, .int r] = .val (.str "number", a.map .int, b.map .int, ms.map .int) := by
  have hx := r_exchange_no (b := b) CS ms p p3 h hr
  have ht : ∀ (s0 s1 s2 s3 s4 s5 : Sl), tryXK 3 4 5 κ [s0, s1, s2, s3, s4, s5] (.exc .numb) = .nx [s0, s1, s2, s3, .ob (ecN .numb) (exK κ .numb), .no] := fun _ _ _ _ _ _ => tryXK_exc (by decide : 5 < 6)
  unfold d__law_call
  simp (implicitDefEqProofs := false) only [run_eq, asQ_eq, asQK_list, asQK_tup, sFrz_eq', sFrzK_ow, sFrzK_fz, sFrzK_no, eRgD_eq, dAdd_q, dIs_true, dIs_false, runK_nx, runK_ret, runK_reto, runK_exc, sSeq_eq, seqK_nx, seqK_ret, seqK_reto, seqK_exc, sIf_eq, sSet_eq, sSetO_eq, setOK_ok, sFor_eq, sRet_eq, sRetO_eq, sRetV_eq, retVK_ow, retVK_fz, sRetN_eq, sDrop_eq, sExc_eq, sApp_eq, appJ_ow, sPut_eq, putK_ow, sPar_eq, parK_2, sNil_eq, sSetT_eq, sAug_eq, augK_fz, sAugL_eq, augLK_ow, sRem_eq, eVar_eq, varK_fz, eVarB_eq, varBK_fz, varBK_ow, eC_eq, eBin_eq, eChain_eq, chainK_bool, asB_eq, asBK_bool, bNot_eq, bAnd_eq, bOr_eq, bYes_eq, eNot_eq, eAnd_eq, eOr_eq, eIf_eq, eCB_eq, eCO_eq, eRg1_eq, rg1K_int, eRg2_eq, rg2K_int, eIsi_eq, isD_int, isD_bool, isD_list, isD_tup, isD_str, eCut_eq, cutK_list, eRev_eq, revK_list, eNeg_eq, negK_int, eTup_eq, tupK_ok, eLst_eq, lstK_ok, eFz_eq, eMt_eq, mtK_list, eLc_eq, eZip_eq, zipK_list, eEnum_eq, enumK_list, asL_eq, asLK_list, asT_eq, asTK_tup, tgN_eq, tgT_2, tgT_3, setE_nil, setE_cons, wipeE_nil, wipeE_cons, eCall_eq, callK_1, callK_2, callK_3, callK_4, eCallO_eq, callOK_1, callOK_2, callOK_3, rvO_o, rvD_d, rvD_o, eCatO_eq, eRepO_eq, repK_ok, aNil_eq, aCons_eq, oNo_eq, oYes_eq, oYK_int, mP_eq, mPT_eq, mPL_eq, mBin_eq, mAsB_eq, mAsBK_bool, mIf_eq, maNil_eq, maCons_eq, mTup_eq, mtupK_ok, sSetM_eq, sSetTM_eq, sIfM_eq, sParM_eq, parMK_2, sPar3M_eq, par3MK_3, so_val, noEx_val, ofO_some, rs_bind_val, rs_bind_exc, rs_bind_stk, rs_pure, List.map_cons, List.map_nil, List.length_cons, List.length_nil, List.length_map, List.length_set, List.replicate_succ, List.replicate_zero, List.cons_append, List.nil_append, List.getElem?_cons_zero, List.getElem?_cons_succ, List.set_cons_zero, List.set_cons_succ, List.zip_cons_cons, List.zip_nil_right, List.zip_nil_left, Nat.reduceAdd, Nat.reduceSub, Nat.reduceLT, Nat.reduceLeDiff, if_true, if_false, Bool.not_true, Bool.not_false, reduceCtorEq, and_true, true_and, LI, beq_self_eq_true, decide_true, decide_false, decide_eq_true_eq, Bool.false_eq_true, Bool.true_and, Bool.and_true, Bool.false_and, Bool.and_false, Bool.not_not, Bool.or_false, Bool.or_true, Bool.false_or, Bool.true_or, String.reduceBEq, dEq_LI, dNe_LI, dEq_int, dNe_int, dEq_bool, dNe_bool, dLt_int, dLe_int, dGt_int, dGe_int, dAdd_int, dSub_int, dLen_list, dLen_tup, dSum_LI, zipD_LI, runS_eq, sTryX_eq, mIfX_eq, mSoV_eq, soW_so, soK_1, soK_0, hx, ht, bIsN_eq, isNK_ob, eErr_eq, errK_ob, exKind, soRt_ret, retS_so]
theorem r_call_un {r : Int} (h : Rk n a) (h1 : 1 ≤ r) (h2 : r + 1 ≤ n) (z : D) : d__law_call κ CS p p3 (a.map .int) (b.map .int) ((ms ++ [r]).map .int) [.int 1, z] = .val (.int r, (xr r a).map .int, b.map .int, ms.map .int) := by
  have hx := r_undo (b := b) CS ms p p3 h h1 h2
  have e10 : ((1 : Int) = 0) = False := eq_false (by decide)
  generalize (ms ++ [r]).map PyData.int = w at hx ⊢
  unfold d__law_call
  simp (implicitDefEqProofs := false) only [run_eq, asQ_eq, asQK_list, asQK_tup, sFrz_eq', sFrzK_ow, sFrzK_fz, sFrzK_no, eRgD_eq, dAdd_q, dIs_true, dIs_false, runK_nx, runK_ret, runK_reto, runK_exc, sSeq_eq, seqK_nx, seqK_ret, seqK_reto, seqK_exc, sIf_eq, sSet_eq, sSetO_eq, setOK_ok, sFor_eq, sRet_eq, sRetO_eq, sRetV_eq, retVK_ow, retVK_fz, sRetN_eq, sDrop_eq, sExc_eq, sApp_eq, appJ_ow, sPut_eq, putK_ow, sPar_eq, parK_2, sNil_eq, sSetT_eq, sAug_eq, augK_fz, sAugL_eq, augLK_ow, sRem_eq, eVar_eq, varK_fz, eVarB_eq, varBK_fz, varBK_ow, eC_eq, eBin_eq, eChain_eq, chainK_bool, asB_eq, asBK_bool, bNot_eq, bAnd_eq, bOr_eq, bYes_eq, eNot_eq, eAnd_eq, eOr_eq, eIf_eq, eCB_eq, eCO_eq, eRg1_eq, rg1K_int, eRg2_eq, rg2K_int, eIsi_eq, isD_int, isD_bool, isD_list, isD_tup, isD_str, eCut_eq, cutK_list, eRev_eq, revK_list, eNeg_eq, negK_int, eTup_eq, tupK_ok, eLst_eq, lstK_ok, eFz_eq, eMt_eq, mtK_list, eLc_eq, eZip_eq, zipK_list, eEnum_eq, enumK_list, asL_eq, asLK_list, asT_eq, asTK_tup, tgN_eq, tgT_2, tgT_3, setE_nil, setE_cons, wipeE_nil, wipeE_cons, eCall_eq, callK_1, callK_2, callK_3, callK_4, eCallO_eq, callOK_1, callOK_2, callOK_3, rvO_o, rvD_d, rvD_o, eCatO_eq, eRepO_eq, repK_ok, aNil_eq, aCons_eq, oNo_eq, oYes_eq, oYK_int, mP_eq, mPT_eq, mPL_eq, mBin_eq, mAsB_eq, mAsBK_bool, mIf_eq, maNil_eq, maCons_eq, mTup_eq, mtupK_ok, sSetM_eq, sSetTM_eq, sIfM_eq, sParM_eq, parMK_2, sPar3M_eq, par3MK_3, so_val, noEx_val, ofO_some, rs_bind_val, rs_bind_exc, rs_bind_stk, rs_pure, List.map_cons, List.map_nil, List.length_cons, List.length_nil, List.length_map, List.length_set, List.replicate_succ, List.replicate_zero, List.cons_append, List.nil_append, List.getElem?_cons_zero, List.getElem?_cons_succ, List.set_cons_zero, List.set_cons_succ, List.zip_cons_cons, List.zip_nil_right, List.zip_nil_left, Nat.reduceAdd, Nat.reduceSub, Nat.reduceLT, Nat.reduceLeDiff, if_true, if_false, Bool.not_true, Bool.not_false, reduceCtorEq, and_true, true_and, LI, beq_self_eq_true, decide_true, decide_false, decide_eq_true_eq, Bool.false_eq_true, Bool.true_and, Bool.and_true, Bool.false_and, Bool.and_false, Bool.not_not, Bool.or_false, Bool.or_true, Bool.false_or, Bool.true_or, String.reduceBEq, dEq_LI, dNe_LI, dEq_int, dNe_int, dEq_bool, dNe_bool, dLt_int, dLe_int, dGt_int, dGe_int, dAdd_int, dSub_int, dLen_list, dLen_tup, dSum_LI, zipD_LI, runS_eq, sTryX_eq, mIfX_eq, mSoV_eq, soW_so, soK_1, soK_0, e10, hx, soOut_eq, tryXK_val, bIsN_eq, isNK_fz, isNon_non, soRt_ret, retS_so]
theorem r_call_un0 (z : D) : d__law_call κ CS p p3 (a.map .int) (b.map .int) [] [.int 1, z] = .val (.str "none", a.map .int, b.map .int, []) := by
  have hx := r_undo_no (a := a) (b := b) CS p p3
  have e10 : ((1 : Int) = 0) = False := eq_false (by decide)
  have ht : ∀ (s0 s1 s2 s3 s4 s5 : Sl), tryXK 3 4 5 κ [s0, s1, s2, s3, s4, s5] (.exc .noth) = .nx [s0, s1, s2, s3, .ob (ecN .noth) (exK κ .noth), .no] := fun _ _ _ _ _ _ => tryXK_exc (by decide : 5 < 6)
  unfold d__law_call
  simp (implicitDefEqProofs := false) only [run_eq, asQ_eq, asQK_list, asQK_tup, sFrz_eq', sFrzK_ow, sFrzK_fz, sFrzK_no, eRgD_eq, dAdd_q, dIs_true, dIs_false, runK_nx, runK_ret, runK_reto, runK_exc, sSeq_eq, seqK_nx, seqK_ret, seqK_reto, seqK_exc, sIf_eq, sSet_eq, sSetO_eq, setOK_ok, sFor_eq, sRet_eq, sRetO_eq, sRetV_eq, retVK_ow, retVK_fz, sRetN_eq, sDrop_eq, sExc_eq, sApp_eq, appJ_ow, sPut_eq, putK_ow, sPar_eq, parK_2, sNil_eq, sSetT_eq, sAug_eq, augK_fz, sAugL_eq, augLK_ow, sRem_eq, eVar_eq, varK_fz, eVarB_eq, varBK_fz, varBK_ow, eC_eq, eBin_eq, eChain_eq, chainK_bool, asB_eq, asBK_bool, bNot_eq, bAnd_eq, bOr_eq, bYes_eq, eNot_eq, eAnd_eq, eOr_eq, eIf_eq, eCB_eq, eCO_eq, eRg1_eq, rg1K_int, eRg2_eq, rg2K_int, eIsi_eq, isD_int, isD_bool, isD_list, isD_tup, isD_str, eCut_eq, cutK_list, eRev_eq, revK_list, eNeg_eq, negK_int, eTup_eq, tupK_ok, eLst_eq, lstK_ok, eFz_eq, eMt_eq, mtK_list, eLc_eq, eZip_eq, zipK_list, eEnum_eq, enumK_list, asL_eq, asLK_list, asT_eq, asTK_tup, tgN_eq, tgT_2, tgT_3, setE_nil, setE_cons, wipeE_nil, wipeE_cons, eCall_eq, callK_1, callK_2, callK_3, callK_4, eCallO_eq, callOK_1, callOK_2, callOK_3, rvO_o, rvD_d, rvD_o, eCatO_eq, eRepO_eq, repK_ok, aNil_eq, aCons_eq, oNo_eq, oYes_eq, oYK_int, mP_eq, mPT_eq, mPL_eq, mBin_eq, mAsB_eq, mAsBK_bool, mIf_eq, maNil_eq, maCons_eq, mTup_eq, mtupK_ok, sSetM_eq, sSetTM_eq, sIfM_eq, sParM_eq, parMK_2, sPar3M_eq, par3MK_3, so_val, noEx_val, ofO_some, rs_bind_val, rs_bind_exc, rs_bind_stk, rs_pure, List.map_cons, List.map_nil, List.length_cons, List.length_nil, List.length_map, List.length_set, List.replicate_succ, List.replicate_zero, List.cons_append, List.nil_append, List.getElem?_cons_zero, List.getElem?_cons_succ, List.set_cons_zero, List.set_cons_succ, List.zip_cons_cons, List.zip_nil_right, List.zip_nil_left, Nat.reduceAdd, Nat.reduceSub, Nat.reduceLT, Nat.reduceLeDiff, if_true, if_false, Bool.not_true, Bool.not_false, reduceCtorEq, and_true, true_and, LI, beq_self_eq_true, decide_true, decide_false, decide_eq_true_eq, Bool.false_eq_true, Bool.true_and, Bool.and_true, Bool.false_and, Bool.and_false, Bool.not_not, Bool.or_false, Bool.or_true, Bool.false_or, Bool.true_or, String.reduceBEq, dEq_LI, dNe_LI, dEq_int, dNe_int, dEq_bool, dNe_bool, dLt_int, dLe_int, dGt_int, dGe_int, dAdd_int, dSub_int, dLen_list, dLen_tup, dSum_LI, zipD_LI, runS_eq, sTryX_eq, mIfX_eq, mSoV_eq, soW_so, soK_1, soK_0, e10, hx, ht, bIsN_eq, isNK_ob, eErr_eq, errK_ob, exKind, soRt_ret, retS_so]
end
end Ag


namespace Ag
open PySem L2
noncomputable abbrev bP1 (κ : Kp) (CS : Addr) : SF := (sIfM (mAsB (mBin dGt (mDraw 1 (mP (eC (.int 4)))) (mP (eC (.int 0))))) (sSeq (sSetM 8 (mDraw 1 (mP (eBin dAdd (eVarB 2) (eC (.int 1)))))) (sSeq (sSetM 9 (mSo CS 2 (d__law_call κ CS) 5 (maCons (mP (eC (.int 0))) (maCons (mP (eVar 8)) maNil)))) (sIf (asB (eChain dLe dLt (eC (.int 1)) (eVarB 8) (eVarB 2))) (sSeq (sSet 3 (eCall 2 d__law_exchanged (aCons (eVar 3) (aCons (eVar 8) aNil)))) (sSeq (sSet 6 (eBin dAdd (eVarB 6) (eFz (eLst (aCons (eVar 8) aNil))))) (sIf (asB (eBin dNe (eVarB 9) (eCB dLen (aCons (eCall 2 d__law_against (aCons (eVar 3) (aCons (eVar 4) aNil))) aNil)))) (sRet (eC (.bool false))) sNil))) (sIf (asB (eBin dNe (eVarB 9) (eC (.str "number")))) (sRet (eC (.bool false))) sNil)))) (sSeq (sSetM 9 (mSo CS 2 (d__law_call κ CS) 5 (maCons (mP (eC (.int 1))) (maCons (mP (eC (.int 0))) maNil)))) (sSeq (sIf (asB (eBin dNe (eVarB 9) (eIf (asB (eBin dNe (eVarB 6) (eFz (eLst aNil)))) (eBin dIx (eVarB 6) (eNeg (eC (.int 1)))) (eC (.str "none"))))) (sRet (eC (.bool false))) sNil) (sIf (asB (eBin dNe (eVarB 6) (eFz (eLst aNil)))) (sSeq (sSet 3 (eCall 2 d__law_exchanged (aCons (eVar 3) (aCons (eBin dIx (eVarB 6) (eNeg (eC (.int 1)))) aNil)))) (sSet 6 (eFz (eCut (eVarB 6) oNo (oYes (eNeg (eC (.int 1)))))))) sNil))))
noncomputable abbrev bQ1 (κ : Kp) (CS : Addr) : SF := (sSet 10 (eCB dLen (aCons (eCall 2 d__law_against (aCons (eVar 3) (aCons (eVar 4) aNil))) aNil)))
noncomputable abbrev bQ2 (κ : Kp) (CS : Addr) : SF := (sSet 11 (eFz (eLc (eRg2 (eC (.int 1)) (eVarB 2)) (tgN 8) (asB (eBin dLt (eCB dLen (aCons (eCall 2 d__law_against (aCons (eCall 2 d__law_exchanged (aCons (eVar 3) (aCons (eVar 8) aNil))) (aCons (eVar 4) aNil))) aNil)) (eVarB 10))) (eVar 8) [8])))
noncomputable abbrev bQ3 (κ : Kp) (CS : Addr) : SF := (sIf (bOr (asB (eBin dNe (eMF CS 0 (d_m_ranking CS) 5 aNil) (eVarB 3))) (bOr (asB (eBin dNe (eMF CS 0 (d_m_left CS) 5 aNil) (eVarB 10))) (bOr (asB (eBin dNe (eLenS CS (d_m___len__ CS) 5) (eCB dLen (aCons (eVarB 6) aNil)))) (asB (eBin dNe (eMF CS 0 (d_m_useful CS) 5 aNil) (eVarB 11)))))) (sRet (eC (.bool false))) sNil)
noncomputable abbrev bQ4 (κ : Kp) (CS : Addr) : SF := (sIf (asB (eBin dNe (eBin dEq (eVarB 11) (eFz (eLst aNil))) (eBin dEq (eVarB 3) (eVarB 4)))) (sRet (eC (.bool false))) sNil)
noncomputable abbrev bL2 (κ : Kp) (CS : Addr) : SF := (sIfM (mAsB (mBin dNe (mSo CS 1 (d_m_exchange CS) 5 (maCons (mPick 1 (eMF CS 0 (d_m_useful CS) 5 aNil)) maNil)) (mP (eBin dSub (eBin dSub (eVarB 12) (eVarB 7)) (eC (.int 1)))))) (sRet (eC (.bool false))) sNil)
noncomputable abbrev bLoop (κ : Kp) (CS : Addr) : SF := sSeq (bP1 κ CS) (sSeq (bQ1 κ CS) (sSeq (bQ2 κ CS) (sSeq (bQ3 κ CS) (bQ4 κ CS))))

theorem dIx_snoc (ms : List Int) (r : Int) : dIx (.list ((ms ++ [r]).map .int)) (.int (-1)) = .val (.int r) := by
  have := dIx_last (l := ms ++ [r]) (by simp)
  rw [LI] at this
  rw [this, lst_snoc]
theorem cut_snoc (ms : List Int) (r : Int) : cutD ((ms ++ [r]).map PyData.int) none (some (-1)) = ms.map .int := by
  have hl : ((ms ++ [r]).map PyData.int).length = ms.length + 1 := by simp
  have e2 : HT.sIx ((ms ++ [r]).map PyData.int).length ((ms ++ [r]).map PyData.int).length (some (-1)) = ms.length := by
    rw [hl]
    show (if (-1 : Int) < 0 then ((-1 : Int) + ((ms.length + 1 : Nat) : Int)).toNat else min (-1 : Int).toNat (ms.length + 1)) = _
    rw [if_pos (show (-1 : Int) < 0 by decide)]
    omega
  have e1 : HT.sIx ((ms ++ [r]).map PyData.int).length 0 none = 0 := rfl
  unfold cutD
  rw [e2, e1, List.drop_zero, Nat.sub_zero, List.map_append, List.take_left' (by rw [List.length_map])]
theorem lay_number : PyData.canLay0 (.str "number") = true := by decide +kernel
theorem lay_none : PyData.canLay0 (.str "none") = true := by decide +kernel
section
variable {n : Nat} {row b ms ns : List Int} {c : Int} (κ : Kp) (CS A B p q : Addr) (x7 x8 x9 x10 x11 : Sl)
theorem p1_ok (h : Rk n row) (g : Rk n b) (hne : ns ≠ []) (hlen : ns.length ≤ 63) (hms : ∀ r ∈ ms, 1 ≤ r ∧ r + 1 ≤ (n : Int)) (hml : ms.length ≤ 500) :
    ∃ row' ms' ns' c' x8' x9', bP1 κ CS [.no, .dr p q ns c, .fz (.int n), .fz (.list (List.map PyData.int row)), .fz (.list (b.map .int)), .gx [A, B] (.so CS (List.map PyData.int row) (b.map .int) (List.map PyData.int ms)), .fz (.list (List.map PyData.int ms)), x7, x8, x9, x10, x11, .no] = .nx [.no, .dr p q ns' c', .fz (.int n), .fz (.list (List.map PyData.int row')), .fz (.list (b.map .int)), .gx [A, B] (.so CS (List.map PyData.int row') (b.map .int) (List.map PyData.int ms')), .fz (.list (List.map PyData.int ms')), x7, x8', x9', x10, x11, .no] ∧ Rk n row' ∧ ns' ≠ [] ∧ ns'.length ≤ 63 ∧ (∀ r ∈ ms', 1 ≤ r ∧ r + 1 ≤ (n : Int)) ∧ ms'.length ≤ ms.length + 1 := by
  have n7 := h.hi
  have n1 := h.lo
  have hrl : row.length ≤ 100 := by rw [h.len]; omega
  have hd := drOf_ok (env := [.no, .dr p q ns c, .fz (.int n), .fz (.list (List.map PyData.int row)), .fz (.list (b.map .int)), .gx [A, B] (.so CS (List.map PyData.int row) (b.map .int) (List.map PyData.int ms)), .fz (.list (List.map PyData.int ms)), x7, x8, x9, x10, x11, .no]) (i := 1) rfl hne hlen
  have hk := drawK_ok (lim := 4) hd (by decide) (by decide)
  have hne1 := drawN_ne hne c 4
  have hlen1 : (drawN ns c 4).length ≤ 63 := by rw [drawN_len]; exact hlen
  simp only [List.set_cons_succ, List.set_cons_zero] at hk
  generalize drawR ns c 4 = v at hk
  generalize drawN ns c 4 = ns1 at hk hne1 hlen1
  generalize c + 1 = c1 at hk
  by_cases hv : 0 < v
  · have hv1 : (0 < v) = True := eq_true hv
    have hd2 := drOf_ok (env := [.no, .dr p q ns1 c1, .fz (.int n), .fz (.list (List.map PyData.int row)), .fz (.list (b.map .int)), .gx [A, B] (.so CS (List.map PyData.int row) (b.map .int) (List.map PyData.int ms)), .fz (.list (List.map PyData.int ms)), x7, x8, x9, x10, x11, .no]) (i := 1) rfl hne1 hlen1
    have hk2 := drawK_ok (lim := (n : Int) + 1) hd2 (by omega) (by omega)
    obtain ⟨r0, r1⟩ := drawR_range ns1 c1 (lim := (n : Int) + 1) (by omega)
    have hne2 := drawN_ne hne1 c1 ((n : Int) + 1)
    have hlen2 : (drawN ns1 c1 ((n : Int) + 1)).length ≤ 63 := by rw [drawN_len]; exact hlen1
    simp only [List.set_cons_succ, List.set_cons_zero] at hk2
    generalize drawR ns1 c1 ((n : Int) + 1) = r at hk2 r0 r1
    generalize drawN ns1 c1 ((n : Int) + 1) = ns2 at hk2 hne2 hlen2
    generalize c1 + 1 = c2 at hk2
    by_cases hr : 1 ≤ r ∧ r + 1 ≤ (n : Int)
    · obtain ⟨hr1, hr2⟩ := hr
      have hx := xr_rk h hr1 hr2
      have hc := r_call_ex CS ms A B κ h g hr1 hr2 (by omega)
      have d1 : (1 ≤ r) = True := eq_true hr1
      have d2 : (r < (n : Int)) = True := eq_true (by omega)
      have hadd : dAdd (.list (ms.map .int)) (.list [.int r]) = .val (.list ((ms ++ [r]).map .int)) := by
        rw [dAdd_list (by rw [List.length_map]; simp; omega)]
        simp
      have hle := r_lexch r hrl
      have hag := r_law_ag' hx g
      refine ⟨xr r row, ms ++ [r], ns2, c2, .fz (.int r), .fz (.int (iv n (xr r row) b : Nat)), ?_, hx, hne2, hlen2, fun z hz => ?_, by simp⟩
      · generalize (ms ++ [r]).map PyData.int = w at hc hadd ⊢
        unfold bP1
        simp (implicitDefEqProofs := false) only [run_eq, asQ_eq, asQK_list, asQK_tup, sFrz_eq', sFrzK_ow, sFrzK_fz, sFrzK_no, eRgD_eq, dAdd_q, dIs_true, dIs_false, runK_nx, runK_ret, runK_reto, runK_exc, sSeq_eq, seqK_nx, seqK_ret, seqK_reto, seqK_exc, sIf_eq, sSet_eq, sSetO_eq, setOK_ok, sFor_eq, sRet_eq, sRetO_eq, sRetV_eq, retVK_ow, retVK_fz, sRetN_eq, sDrop_eq, sExc_eq, sApp_eq, appJ_ow, sPut_eq, putK_ow, sPar_eq, parK_2, sNil_eq, sSetT_eq, sAug_eq, augK_fz, sAugL_eq, augLK_ow, sRem_eq, eVar_eq, varK_fz, eVarB_eq, varBK_fz, varBK_ow, eC_eq, eBin_eq, eChain_eq, chainK_bool, asB_eq, asBK_bool, bNot_eq, bAnd_eq, bOr_eq, bYes_eq, eNot_eq, eAnd_eq, eOr_eq, eIf_eq, eCB_eq, eCO_eq, eRg1_eq, rg1K_int, eRg2_eq, rg2K_int, eIsi_eq, isD_int, isD_bool, isD_list, isD_tup, isD_str, eCut_eq, cutK_list, eRev_eq, revK_list, eNeg_eq, negK_int, eTup_eq, tupK_ok, eLst_eq, lstK_ok, eFz_eq, eMt_eq, mtK_list, eLc_eq, eZip_eq, zipK_list, eEnum_eq, enumK_list, asL_eq, asLK_list, asT_eq, asTK_tup, tgN_eq, tgT_2, tgT_3, setE_nil, setE_cons, wipeE_nil, wipeE_cons, eCall_eq, callK_1, callK_2, callK_3, callK_4, eCallO_eq, callOK_1, callOK_2, callOK_3, rvO_o, rvD_d, rvD_o, eCatO_eq, eRepO_eq, repK_ok, aNil_eq, aCons_eq, oNo_eq, oYes_eq, oYK_int, mP_eq, mPT_eq, mPL_eq, mBin_eq, mAsB_eq, mAsBK_bool, mIf_eq, maNil_eq, maCons_eq, mTup_eq, mtupK_ok, sSetM_eq, sSetTM_eq, sIfM_eq, sParM_eq, parMK_2, sPar3M_eq, par3MK_3, so_val, noEx_val, ofO_some, rs_bind_val, rs_bind_exc, rs_bind_stk, rs_pure, List.map_cons, List.map_nil, List.length_cons, List.length_nil, List.length_map, List.length_set, List.replicate_succ, List.replicate_zero, List.cons_append, List.nil_append, List.getElem?_cons_zero, List.getElem?_cons_succ, List.set_cons_zero, List.set_cons_succ, List.zip_cons_cons, List.zip_nil_right, List.zip_nil_left, Nat.reduceAdd, Nat.reduceSub, Nat.reduceLT, Nat.reduceLeDiff, if_true, if_false, Bool.not_true, Bool.not_false, reduceCtorEq, and_true, true_and, LI, beq_self_eq_true, decide_true, decide_false, decide_eq_true_eq, Bool.false_eq_true, Bool.true_and, Bool.and_true, Bool.false_and, Bool.and_false, Bool.not_not, Bool.or_false, Bool.or_true, Bool.false_or, Bool.true_or, String.reduceBEq, dEq_LI, dNe_LI, dEq_int, dNe_int, dEq_bool, dNe_bool, dLt_int, dLe_int, dGt_int, dGe_int, dAdd_int, dSub_int, dLen_list, dLen_tup, dSum_LI, zipD_LI, mDraw_eq, hd, hk, hv1, hd2, hk2, mSo_eq, soW_so, soK_2, hc, soOut_eq, d1, d2, hle, hadd, hag, agst_iv, eq_self]
      · rcases List.mem_append.mp hz with hz | hz
        · exact hms z hz
        · rw [List.mem_singleton.mp hz]
          exact ⟨hr1, hr2⟩
    · have hc := r_call_no (b := b) CS ms A B κ h hr
      have dd : (if (1 ≤ r) then Rs.val (PyData.bool (decide (r < (n : Int)))) else Rs.val (PyData.bool false)) = .val (.bool false) := by
        by_cases h1 : 1 ≤ r
        · rw [if_pos h1, decide_eq_false (by omega)]
        · rw [if_neg h1]
      refine ⟨row, ms, ns2, c2, .fz (.int r), .fz (.str "number"), ?_, h, hne2, hlen2, hms, by omega⟩
      unfold bP1
      simp (implicitDefEqProofs := false) only [run_eq, asQ_eq, asQK_list, asQK_tup, sFrz_eq', sFrzK_ow, sFrzK_fz, sFrzK_no, eRgD_eq, dAdd_q, dIs_true, dIs_false, runK_nx, runK_ret, runK_reto, runK_exc, sSeq_eq, seqK_nx, seqK_ret, seqK_reto, seqK_exc, sIf_eq, sSet_eq, sSetO_eq, setOK_ok, sFor_eq, sRet_eq, sRetO_eq, sRetV_eq, retVK_ow, retVK_fz, sRetN_eq, sDrop_eq, sExc_eq, sApp_eq, appJ_ow, sPut_eq, putK_ow, sPar_eq, parK_2, sNil_eq, sSetT_eq, sAug_eq, augK_fz, sAugL_eq, augLK_ow, sRem_eq, eVar_eq, varK_fz, eVarB_eq, varBK_fz, varBK_ow, eC_eq, eBin_eq, eChain_eq, chainK_bool, asB_eq, asBK_bool, bNot_eq, bAnd_eq, bOr_eq, bYes_eq, eNot_eq, eAnd_eq, eOr_eq, eIf_eq, eCB_eq, eCO_eq, eRg1_eq, rg1K_int, eRg2_eq, rg2K_int, eIsi_eq, isD_int, isD_bool, isD_list, isD_tup, isD_str, eCut_eq, cutK_list, eRev_eq, revK_list, eNeg_eq, negK_int, eTup_eq, tupK_ok, eLst_eq, lstK_ok, eFz_eq, eMt_eq, mtK_list, eLc_eq, eZip_eq, zipK_list, eEnum_eq, enumK_list, asL_eq, asLK_list, asT_eq, asTK_tup, tgN_eq, tgT_2, tgT_3, setE_nil, setE_cons, wipeE_nil, wipeE_cons, eCall_eq, callK_1, callK_2, callK_3, callK_4, eCallO_eq, callOK_1, callOK_2, callOK_3, rvO_o, rvD_d, rvD_o, eCatO_eq, eRepO_eq, repK_ok, aNil_eq, aCons_eq, oNo_eq, oYes_eq, oYK_int, mP_eq, mPT_eq, mPL_eq, mBin_eq, mAsB_eq, mAsBK_bool, mIf_eq, maNil_eq, maCons_eq, mTup_eq, mtupK_ok, sSetM_eq, sSetTM_eq, sIfM_eq, sParM_eq, parMK_2, sPar3M_eq, par3MK_3, so_val, noEx_val, ofO_some, rs_bind_val, rs_bind_exc, rs_bind_stk, rs_pure, List.map_cons, List.map_nil, List.length_cons, List.length_nil, List.length_map, List.length_set, List.replicate_succ, List.replicate_zero, List.cons_append, List.nil_append, List.getElem?_cons_zero, List.getElem?_cons_succ, List.set_cons_zero, List.set_cons_succ, List.zip_cons_cons, List.zip_nil_right, List.zip_nil_left, Nat.reduceAdd, Nat.reduceSub, Nat.reduceLT, Nat.reduceLeDiff, if_true, if_false, Bool.not_true, Bool.not_false, reduceCtorEq, and_true, true_and, LI, beq_self_eq_true, decide_true, decide_false, decide_eq_true_eq, Bool.false_eq_true, Bool.true_and, Bool.and_true, Bool.false_and, Bool.and_false, Bool.not_not, Bool.or_false, Bool.or_true, Bool.false_or, Bool.true_or, String.reduceBEq, dEq_LI, dNe_LI, dEq_int, dNe_int, dEq_bool, dNe_bool, dLt_int, dLe_int, dGt_int, dGe_int, dAdd_int, dSub_int, dLen_list, dLen_tup, dSum_LI, zipD_LI, mDraw_eq, hd, hk, hv1, hd2, hk2, mSo_eq, soW_so, soK_2, hc, soOut_eq, dd, dNe_strS lay_number]
  · have hv1 : (0 < v) = False := eq_false hv
    rcases List.eq_nil_or_concat ms with rfl | ⟨ms', r, rfl⟩
    · have hc := r_call_un0 (a := row) (b := b) CS A B κ (.int 0)
      refine ⟨row, [], ns1, c1, x8, .fz (.str "none"), ?_, h, hne1, hlen1, hms, by simp⟩
      have e0 : dNe (.list []) (.list []) = .val (.bool false) := by
        have := dNe_LI0 []
        simpa using this
      simp only [List.map_nil] at hd hk
      unfold bP1
      simp (implicitDefEqProofs := false) only [run_eq, asQ_eq, asQK_list, asQK_tup, sFrz_eq', sFrzK_ow, sFrzK_fz, sFrzK_no, eRgD_eq, dAdd_q, dIs_true, dIs_false, runK_nx, runK_ret, runK_reto, runK_exc, sSeq_eq, seqK_nx, seqK_ret, seqK_reto, seqK_exc, sIf_eq, sSet_eq, sSetO_eq, setOK_ok, sFor_eq, sRet_eq, sRetO_eq, sRetV_eq, retVK_ow, retVK_fz, sRetN_eq, sDrop_eq, sExc_eq, sApp_eq, appJ_ow, sPut_eq, putK_ow, sPar_eq, parK_2, sNil_eq, sSetT_eq, sAug_eq, augK_fz, sAugL_eq, augLK_ow, sRem_eq, eVar_eq, varK_fz, eVarB_eq, varBK_fz, varBK_ow, eC_eq, eBin_eq, eChain_eq, chainK_bool, asB_eq, asBK_bool, bNot_eq, bAnd_eq, bOr_eq, bYes_eq, eNot_eq, eAnd_eq, eOr_eq, eIf_eq, eCB_eq, eCO_eq, eRg1_eq, rg1K_int, eRg2_eq, rg2K_int, eIsi_eq, isD_int, isD_bool, isD_list, isD_tup, isD_str, eCut_eq, cutK_list, eRev_eq, revK_list, eNeg_eq, negK_int, eTup_eq, tupK_ok, eLst_eq, lstK_ok, eFz_eq, eMt_eq, mtK_list, eLc_eq, eZip_eq, zipK_list, eEnum_eq, enumK_list, asL_eq, asLK_list, asT_eq, asTK_tup, tgN_eq, tgT_2, tgT_3, setE_nil, setE_cons, wipeE_nil, wipeE_cons, eCall_eq, callK_1, callK_2, callK_3, callK_4, eCallO_eq, callOK_1, callOK_2, callOK_3, rvO_o, rvD_d, rvD_o, eCatO_eq, eRepO_eq, repK_ok, aNil_eq, aCons_eq, oNo_eq, oYes_eq, oYK_int, mP_eq, mPT_eq, mPL_eq, mBin_eq, mAsB_eq, mAsBK_bool, mIf_eq, maNil_eq, maCons_eq, mTup_eq, mtupK_ok, sSetM_eq, sSetTM_eq, sIfM_eq, sParM_eq, parMK_2, sPar3M_eq, par3MK_3, so_val, noEx_val, ofO_some, rs_bind_val, rs_bind_exc, rs_bind_stk, rs_pure, List.map_cons, List.map_nil, List.length_cons, List.length_nil, List.length_map, List.length_set, List.replicate_succ, List.replicate_zero, List.cons_append, List.nil_append, List.getElem?_cons_zero, List.getElem?_cons_succ, List.set_cons_zero, List.set_cons_succ, List.zip_cons_cons, List.zip_nil_right, List.zip_nil_left, Nat.reduceAdd, Nat.reduceSub, Nat.reduceLT, Nat.reduceLeDiff, if_true, if_false, Bool.not_true, Bool.not_false, reduceCtorEq, and_true, true_and, LI, beq_self_eq_true, decide_true, decide_false, decide_eq_true_eq, Bool.false_eq_true, Bool.true_and, Bool.and_true, Bool.false_and, Bool.and_false, Bool.not_not, Bool.or_false, Bool.or_true, Bool.false_or, Bool.true_or, String.reduceBEq, dEq_LI, dNe_LI, dEq_int, dNe_int, dEq_bool, dNe_bool, dLt_int, dLe_int, dGt_int, dGe_int, dAdd_int, dSub_int, dLen_list, dLen_tup, dSum_LI, zipD_LI, mDraw_eq, hd, hk, hv1, mSo_eq, soW_so, soK_2, hc, soOut_eq, e0, dNe_strS lay_none]
    · rw [List.concat_eq_append] at hms hml hd hk ⊢
      obtain ⟨hr1, hr2⟩ := hms r (by simp)
      have hc := r_call_un (b := b) CS ms' A B κ h hr1 hr2 (.int 0)
      have hix := dIx_snoc ms' r
      have hcut := cut_snoc ms' r
      have hle := r_lexch r hrl
      have e0 : dNe (.list ((ms' ++ [r]).map .int)) (.list []) = .val (.bool true) := by
        rw [dNe_LI0, decide_eq_false (by simp)]
        rfl
      refine ⟨xr r row, ms', ns1, c1, x8, .fz (.int r), ?_, xr_rk h hr1 hr2, hne1, hlen1, fun z hz => hms z (List.mem_append_left _ hz), by rw [List.length_append, List.length_singleton]; omega⟩
      generalize (ms' ++ [r]).map PyData.int = w at hc hix hcut e0 hd hk ⊢
      unfold bP1
      simp (implicitDefEqProofs := false) only [run_eq, asQ_eq, asQK_list, asQK_tup, sFrz_eq', sFrzK_ow, sFrzK_fz, sFrzK_no, eRgD_eq, dAdd_q, dIs_true, dIs_false, runK_nx, runK_ret, runK_reto, runK_exc, sSeq_eq, seqK_nx, seqK_ret, seqK_reto, seqK_exc, sIf_eq, sSet_eq, sSetO_eq, setOK_ok, sFor_eq, sRet_eq, sRetO_eq, sRetV_eq, retVK_ow, retVK_fz, sRetN_eq, sDrop_eq, sExc_eq, sApp_eq, appJ_ow, sPut_eq, putK_ow, sPar_eq, parK_2, sNil_eq, sSetT_eq, sAug_eq, augK_fz, sAugL_eq, augLK_ow, sRem_eq, eVar_eq, varK_fz, eVarB_eq, varBK_fz, varBK_ow, eC_eq, eBin_eq, eChain_eq, chainK_bool, asB_eq, asBK_bool, bNot_eq, bAnd_eq, bOr_eq, bYes_eq, eNot_eq, eAnd_eq, eOr_eq, eIf_eq, eCB_eq, eCO_eq, eRg1_eq, rg1K_int, eRg2_eq, rg2K_int, eIsi_eq, isD_int, isD_bool, isD_list, isD_tup, isD_str, eCut_eq, cutK_list, eRev_eq, revK_list, eNeg_eq, negK_int, eTup_eq, tupK_ok, eLst_eq, lstK_ok, eFz_eq, eMt_eq, mtK_list, eLc_eq, eZip_eq, zipK_list, eEnum_eq, enumK_list, asL_eq, asLK_list, asT_eq, asTK_tup, tgN_eq, tgT_2, tgT_3, setE_nil, setE_cons, wipeE_nil, wipeE_cons, eCall_eq, callK_1, callK_2, callK_3, callK_4, eCallO_eq, callOK_1, callOK_2, callOK_3, rvO_o, rvD_d, rvD_o, eCatO_eq, eRepO_eq, repK_ok, aNil_eq, aCons_eq, oNo_eq, oYes_eq, oYK_int, mP_eq, mPT_eq, mPL_eq, mBin_eq, mAsB_eq, mAsBK_bool, mIf_eq, maNil_eq, maCons_eq, mTup_eq, mtupK_ok, sSetM_eq, sSetTM_eq, sIfM_eq, sParM_eq, parMK_2, sPar3M_eq, par3MK_3, so_val, noEx_val, ofO_some, rs_bind_val, rs_bind_exc, rs_bind_stk, rs_pure, List.map_cons, List.map_nil, List.length_cons, List.length_nil, List.length_map, List.length_set, List.replicate_succ, List.replicate_zero, List.cons_append, List.nil_append, List.getElem?_cons_zero, List.getElem?_cons_succ, List.set_cons_zero, List.set_cons_succ, List.zip_cons_cons, List.zip_nil_right, List.zip_nil_left, Nat.reduceAdd, Nat.reduceSub, Nat.reduceLT, Nat.reduceLeDiff, if_true, if_false, Bool.not_true, Bool.not_false, reduceCtorEq, and_true, true_and, LI, beq_self_eq_true, decide_true, decide_false, decide_eq_true_eq, Bool.false_eq_true, Bool.true_and, Bool.and_true, Bool.false_and, Bool.and_false, Bool.not_not, Bool.or_false, Bool.or_true, Bool.false_or, Bool.true_or, String.reduceBEq, dEq_LI, dNe_LI, dEq_int, dNe_int, dEq_bool, dNe_bool, dLt_int, dLe_int, dGt_int, dGe_int, dAdd_int, dSub_int, dLen_list, dLen_tup, dSum_LI, zipD_LI, mDraw_eq, hd, hk, hv1, mSo_eq, soW_so, soK_2, hc, soOut_eq, e0, hix, hcut, hle, eq_self]
abbrev usI (n : Nat) (a b : List Int) : List Int := (usf n a b).map fun k => ((k : Nat) : Int)
theorem NI_LI (l : List Nat) : NI l = (l.map fun k : Nat => ((k : Nat) : Int)).map PyData.int := by
  rw [List.map_map]
  rfl
theorem r_useful' (m : List D) (h : Rk n row) (g : Rk n b) : d_m_useful CS CS (row.map .int) (b.map .int) m [] = .val (.o ((usI n row b).map .int)) := by
  rw [r_useful CS m h g, NI_LI]
theorem usI_nil (h : Rk n row) (g : Rk n b) : decide (usI n row b = []) = decide (row = b) := by
  rw [decide_eq_decide, List.map_eq_nil_iff]
  exact usf_nil h g
theorem q_ok (h : Rk n row) (g : Rk n b) (hml : ms.length ≤ 500) : sSeq (bQ1 κ CS) (sSeq (bQ2 κ CS) (sSeq (bQ3 κ CS) (bQ4 κ CS))) [.no, .dr p q ns c, .fz (.int n), .fz (.list (List.map PyData.int row)), .fz (.list (b.map .int)), .gx [A, B] (.so CS (List.map PyData.int row) (b.map .int) (List.map PyData.int ms)), .fz (.list (List.map PyData.int ms)), x7, x8, x9, x10, x11, .no] =
    .nx [.no, .dr p q ns c, .fz (.int n), .fz (.list (List.map PyData.int row)), .fz (.list (b.map .int)), .gx [A, B] (.so CS (List.map PyData.int row) (b.map .int) (List.map PyData.int ms)), .fz (.list (List.map PyData.int ms)), x7, x8, x9, .fz (.int (iv n row b : Nat)), .fz (.list (List.map PyData.int (usI n row b))), .no] := by
  have n7 := h.hi
  have n1 := h.lo
  have hrl : row.length ≤ 100 := by rw [h.len]; omega
  have hag := r_law_ag' h g
  have lc : lcK (tgN 8) (asB (eBin dLt (eCB dLen (aCons (eCall 2 d__law_against (aCons (eCall 2 d__law_exchanged (aCons (eVar 3) (aCons (eVar 8) aNil))) (aCons (eVar 4) aNil))) aNil)) (eVarB 10))) (eVar 8) [.no, .dr p q ns c, .fz (.int n), .fz (.list (List.map PyData.int row)), .fz (.list (b.map .int)), .gx [A, B] (.so CS (List.map PyData.int row) (b.map .int) (List.map PyData.int ms)), .fz (.list (List.map PyData.int ms)), x7, .no, x9, .fz (.int (iv n row b : Nat)), x11, .no] ((List.range' 1 (n - 1)).map fun i => PyData.int ((i : Nat) : Int))
      = .val ((usI n row b).map .int) := by
    rw [show (usI n row b).map PyData.int = NI (usf n row b) from (NI_LI _).symm]
    refine lcK_ok (by rw [List.length_map, List.length_range']; omega) (lcRun_map (fun i : Nat => PyData.int ((i : Nat) : Int)) (fun k => decide (iv n (xr (k : Nat) row) b < iv n row b)) (fun i : Nat => PyData.int ((i : Nat) : Int)) _ fun k hk => ⟨_, rfl, ?_, fun _ => ?_⟩)
    · rw [List.mem_range'_1] at hk
      have hx := xr_rk (r := (k : Nat)) h (by omega) (by omega)
      have hle := r_lexch (k : Nat) hrl
      have hag := r_law_ag' hx g
      have e : decide (((iv n (xr (k : Nat) row) b : Nat) : Int) < ((iv n row b : Nat) : Int)) = decide (iv n (xr (k : Nat) row) b < iv n row b) := decide_eq_decide.mpr (by omega)
      simp (implicitDefEqProofs := false) only [run_eq, asQ_eq, asQK_list, asQK_tup, sFrz_eq', sFrzK_ow, sFrzK_fz, sFrzK_no, eRgD_eq, dAdd_q, dIs_true, dIs_false, runK_nx, runK_ret, runK_reto, runK_exc, sSeq_eq, seqK_nx, seqK_ret, seqK_reto, seqK_exc, sIf_eq, sSet_eq, sSetO_eq, setOK_ok, sFor_eq, sRet_eq, sRetO_eq, sRetV_eq, retVK_ow, retVK_fz, sRetN_eq, sDrop_eq, sExc_eq, sApp_eq, appJ_ow, sPut_eq, putK_ow, sPar_eq, parK_2, sNil_eq, sSetT_eq, sAug_eq, augK_fz, sAugL_eq, augLK_ow, sRem_eq, eVar_eq, varK_fz, eVarB_eq, varBK_fz, varBK_ow, eC_eq, eBin_eq, eChain_eq, chainK_bool, asB_eq, asBK_bool, bNot_eq, bAnd_eq, bOr_eq, bYes_eq, eNot_eq, eAnd_eq, eOr_eq, eIf_eq, eCB_eq, eCO_eq, eRg1_eq, rg1K_int, eRg2_eq, rg2K_int, eIsi_eq, isD_int, isD_bool, isD_list, isD_tup, isD_str, eCut_eq, cutK_list, eRev_eq, revK_list, eNeg_eq, negK_int, eTup_eq, tupK_ok, eLst_eq, lstK_ok, eFz_eq, eMt_eq, mtK_list, eLc_eq, eZip_eq, zipK_list, eEnum_eq, enumK_list, asL_eq, asLK_list, asT_eq, asTK_tup, tgN_eq, tgT_2, tgT_3, setE_nil, setE_cons, wipeE_nil, wipeE_cons, eCall_eq, callK_1, callK_2, callK_3, callK_4, eCallO_eq, callOK_1, callOK_2, callOK_3, rvO_o, rvD_d, rvD_o, eCatO_eq, eRepO_eq, repK_ok, aNil_eq, aCons_eq, oNo_eq, oYes_eq, oYK_int, mP_eq, mPT_eq, mPL_eq, mBin_eq, mAsB_eq, mAsBK_bool, mIf_eq, maNil_eq, maCons_eq, mTup_eq, mtupK_ok, sSetM_eq, sSetTM_eq, sIfM_eq, sParM_eq, parMK_2, sPar3M_eq, par3MK_3, so_val, noEx_val, ofO_some, rs_bind_val, rs_bind_exc, rs_bind_stk, rs_pure, List.map_cons, List.map_nil, List.length_cons, List.length_nil, List.length_map, List.length_set, List.replicate_succ, List.replicate_zero, List.cons_append, List.nil_append, List.getElem?_cons_zero, List.getElem?_cons_succ, List.set_cons_zero, List.set_cons_succ, List.zip_cons_cons, List.zip_nil_right, List.zip_nil_left, Nat.reduceAdd, Nat.reduceSub, Nat.reduceLT, Nat.reduceLeDiff, if_true, if_false, Bool.not_true, Bool.not_false, reduceCtorEq, and_true, true_and, LI, beq_self_eq_true, decide_true, decide_false, decide_eq_true_eq, Bool.false_eq_true, Bool.true_and, Bool.and_true, Bool.false_and, Bool.and_false, Bool.not_not, Bool.or_false, Bool.or_true, Bool.false_or, Bool.true_or, String.reduceBEq, dEq_LI, dNe_LI, dEq_int, dNe_int, dEq_bool, dNe_bool, dLt_int, dLe_int, dGt_int, dGe_int, dAdd_int, dSub_int, dLen_list, dLen_tup, dSum_LI, zipD_LI, hle, hag, agst_iv, e]
    · simp (implicitDefEqProofs := false) only [run_eq, asQ_eq, asQK_list, asQK_tup, sFrz_eq', sFrzK_ow, sFrzK_fz, sFrzK_no, eRgD_eq, dAdd_q, dIs_true, dIs_false, runK_nx, runK_ret, runK_reto, runK_exc, sSeq_eq, seqK_nx, seqK_ret, seqK_reto, seqK_exc, sIf_eq, sSet_eq, sSetO_eq, setOK_ok, sFor_eq, sRet_eq, sRetO_eq, sRetV_eq, retVK_ow, retVK_fz, sRetN_eq, sDrop_eq, sExc_eq, sApp_eq, appJ_ow, sPut_eq, putK_ow, sPar_eq, parK_2, sNil_eq, sSetT_eq, sAug_eq, augK_fz, sAugL_eq, augLK_ow, sRem_eq, eVar_eq, varK_fz, eVarB_eq, varBK_fz, varBK_ow, eC_eq, eBin_eq, eChain_eq, chainK_bool, asB_eq, asBK_bool, bNot_eq, bAnd_eq, bOr_eq, bYes_eq, eNot_eq, eAnd_eq, eOr_eq, eIf_eq, eCB_eq, eCO_eq, eRg1_eq, rg1K_int, eRg2_eq, rg2K_int, eIsi_eq, isD_int, isD_bool, isD_list, isD_tup, isD_str, eCut_eq, cutK_list, eRev_eq, revK_list, eNeg_eq, negK_int, eTup_eq, tupK_ok, eLst_eq, lstK_ok, eFz_eq, eMt_eq, mtK_list, eLc_eq, eZip_eq, zipK_list, eEnum_eq, enumK_list, asL_eq, asLK_list, asT_eq, asTK_tup, tgN_eq, tgT_2, tgT_3, setE_nil, setE_cons, wipeE_nil, wipeE_cons, eCall_eq, callK_1, callK_2, callK_3, callK_4, eCallO_eq, callOK_1, callOK_2, callOK_3, rvO_o, rvD_d, rvD_o, eCatO_eq, eRepO_eq, repK_ok, aNil_eq, aCons_eq, oNo_eq, oYes_eq, oYK_int, mP_eq, mPT_eq, mPL_eq, mBin_eq, mAsB_eq, mAsBK_bool, mIf_eq, maNil_eq, maCons_eq, mTup_eq, mtupK_ok, sSetM_eq, sSetTM_eq, sIfM_eq, sParM_eq, parMK_2, sPar3M_eq, par3MK_3, so_val, noEx_val, ofO_some, rs_bind_val, rs_bind_exc, rs_bind_stk, rs_pure, List.map_cons, List.map_nil, List.length_cons, List.length_nil, List.length_map, List.length_set, List.replicate_succ, List.replicate_zero, List.cons_append, List.nil_append, List.getElem?_cons_zero, List.getElem?_cons_succ, List.set_cons_zero, List.set_cons_succ, List.zip_cons_cons, List.zip_nil_right, List.zip_nil_left, Nat.reduceAdd, Nat.reduceSub, Nat.reduceLT, Nat.reduceLeDiff, if_true, if_false, Bool.not_true, Bool.not_false, reduceCtorEq, and_true, true_and, LI, beq_self_eq_true, decide_true, decide_false, decide_eq_true_eq, Bool.false_eq_true, Bool.true_and, Bool.and_true, Bool.false_and, Bool.and_false, Bool.not_not, Bool.or_false, Bool.or_true, Bool.false_or, Bool.true_or, String.reduceBEq, dEq_LI, dNe_LI, dEq_int, dNe_int, dEq_bool, dNe_bool, dLt_int, dLe_int, dGt_int, dGe_int, dAdd_int, dSub_int, dLen_list, dLen_tup, dSum_LI, zipD_LI]
  have hR := inG_o (row)
  have hU := inG_o (usI n row b)
  have hu := usI_nil h g
  have hL := lenG_int (k := ((ms.length : Nat) : Int)) (by omega)
  have e0 := dEq_LI0 (usI n row b)
  have hb1 : decide (((ms.length : Nat) : Int) = ((ms.length : Nat) : Int)) = true := decide_eq_true rfl
  have ruse := r_useful' (b := b) CS (ms.map .int) h g
  generalize usI n row b = u at lc hU hu e0 ruse ⊢
  unfold bQ1 bQ2 bQ3 bQ4
  simp (implicitDefEqProofs := false) only [run_eq, asQ_eq, asQK_list, asQK_tup, sFrz_eq', sFrzK_ow, sFrzK_fz, sFrzK_no, eRgD_eq, dAdd_q, dIs_true, dIs_false, runK_nx, runK_ret, runK_reto, runK_exc, sSeq_eq, seqK_nx, seqK_ret, seqK_reto, seqK_exc, sIf_eq, sSet_eq, sSetO_eq, setOK_ok, sFor_eq, sRet_eq, sRetO_eq, sRetV_eq, retVK_ow, retVK_fz, sRetN_eq, sDrop_eq, sExc_eq, sApp_eq, appJ_ow, sPut_eq, putK_ow, sPar_eq, parK_2, sNil_eq, sSetT_eq, sAug_eq, augK_fz, sAugL_eq, augLK_ow, sRem_eq, eVar_eq, varK_fz, eVarB_eq, varBK_fz, varBK_ow, eC_eq, eBin_eq, eChain_eq, chainK_bool, asB_eq, asBK_bool, bNot_eq, bAnd_eq, bOr_eq, bYes_eq, eNot_eq, eAnd_eq, eOr_eq, eIf_eq, eCB_eq, eCO_eq, eRg1_eq, rg1K_int, eRg2_eq, rg2K_int, eIsi_eq, isD_int, isD_bool, isD_list, isD_tup, isD_str, eCut_eq, cutK_list, eRev_eq, revK_list, eNeg_eq, negK_int, eTup_eq, tupK_ok, eLst_eq, lstK_ok, eFz_eq, eMt_eq, mtK_list, eLc_eq, eZip_eq, zipK_list, eEnum_eq, enumK_list, asL_eq, asLK_list, asT_eq, asTK_tup, tgN_eq, tgT_2, tgT_3, setE_nil, setE_cons, wipeE_nil, wipeE_cons, eCall_eq, callK_1, callK_2, callK_3, callK_4, eCallO_eq, callOK_1, callOK_2, callOK_3, rvO_o, rvD_d, rvD_o, eCatO_eq, eRepO_eq, repK_ok, aNil_eq, aCons_eq, oNo_eq, oYes_eq, oYK_int, mP_eq, mPT_eq, mPL_eq, mBin_eq, mAsB_eq, mAsBK_bool, mIf_eq, maNil_eq, maCons_eq, mTup_eq, mtupK_ok, sSetM_eq, sSetTM_eq, sIfM_eq, sParM_eq, parMK_2, sPar3M_eq, par3MK_3, so_val, noEx_val, ofO_some, rs_bind_val, rs_bind_exc, rs_bind_stk, rs_pure, List.map_cons, List.map_nil, List.length_cons, List.length_nil, List.length_map, List.length_set, List.replicate_succ, List.replicate_zero, List.cons_append, List.nil_append, List.getElem?_cons_zero, List.getElem?_cons_succ, List.set_cons_zero, List.set_cons_succ, List.zip_cons_cons, List.zip_nil_right, List.zip_nil_left, Nat.reduceAdd, Nat.reduceSub, Nat.reduceLT, Nat.reduceLeDiff, if_true, if_false, Bool.not_true, Bool.not_false, reduceCtorEq, and_true, true_and, LI, beq_self_eq_true, decide_true, decide_false, decide_eq_true_eq, Bool.false_eq_true, Bool.true_and, Bool.and_true, Bool.false_and, Bool.and_false, Bool.not_not, Bool.or_false, Bool.or_true, Bool.false_or, Bool.true_or, String.reduceBEq, dEq_LI, dNe_LI, dEq_int, dNe_int, dEq_bool, dNe_bool, dLt_int, dLe_int, dGt_int, dGe_int, dAdd_int, dSub_int, dLen_list, dLen_tup, dSum_LI, zipD_LI, hag, agst_iv, rg_from1 n1 n7, lc, eMF_eq, soG_so, mfK_0, r_ranking, r_left CS _ h g, ruse, r_len, hR, hU, inG_int, eLenS_eq, hL, e0, hu, eq_self]
theorem loop_ok (h : Rk n row) (g : Rk n b) (hne : ns ≠ []) (hlen : ns.length ≤ 63) (hms : ∀ r ∈ ms, 1 ≤ r ∧ r + 1 ≤ (n : Int)) (hml : ms.length ≤ 400) :
    ∃ row' ms' ns' c' x8' x9' x10' x11', bLoop κ CS [.no, .dr p q ns c, .fz (.int n), .fz (.list (List.map PyData.int row)), .fz (.list (b.map .int)), .gx [A, B] (.so CS (List.map PyData.int row) (b.map .int) (List.map PyData.int ms)), .fz (.list (List.map PyData.int ms)), x7, x8, x9, x10, x11, .no] = .nx [.no, .dr p q ns' c', .fz (.int n), .fz (.list (List.map PyData.int row')), .fz (.list (b.map .int)), .gx [A, B] (.so CS (List.map PyData.int row') (b.map .int) (List.map PyData.int ms')), .fz (.list (List.map PyData.int ms')), x7, x8', x9', x10', x11', .no] ∧ Rk n row' ∧ ns' ≠ [] ∧ ns'.length ≤ 63 ∧ (∀ r ∈ ms', 1 ≤ r ∧ r + 1 ≤ (n : Int)) ∧ ms'.length ≤ ms.length + 1 := by
  obtain ⟨row', ms', ns', c', x8', x9', e, h', k1, k2, k3, k4⟩ := p1_ok (c := c) κ CS A B p q x7 x8 x9 x10 x11 h g hne hlen hms (by omega)
  have e2 := q_ok (ns := ns') (c := c') κ CS A B p q x7 x8' x9' x10 x11 (ms := ms') h' g (by omega)
  refine ⟨row', ms', ns', c', x8', x9', .fz (.int (iv n row' b : Nat)), .fz (.list (List.map PyData.int (usI n row' b))), ?_, h', k1, k2, k3, k4⟩
  unfold bLoop
  rw [sSeq_eq, e, seqK_nx]
  exact e2
end
end Ag


namespace Ag
open PySem L2
section
variable {n : Nat} {row a b ms ns : List Int} {c : Int} (κ : Kp) (CS A B p q : Addr) (x7 x8 x9 x10 x11 : Sl)
theorem new_ok (h : Rk n a) (g : Rk n b) : sNewP CS iniOk 5 6 (aCons (eVar 3) (aCons (eVar 4) aNil)) (eLst aNil) A B [.no, .dr p q ns c, .fz (.int n), .fz (.list (a.map .int)), .fz (.list (b.map .int)), .no, .no, .no, .no, .no, .no, .no, .no] = .nx [.no, .dr p q ns c, .fz (.int n), .fz (.list (List.map PyData.int a)), .fz (.list (b.map .int)), .gx [A, B] (.so CS (List.map PyData.int a) (b.map .int) (List.map PyData.int [])), .fz (.list (List.map PyData.int [])), .no, .no, .no, .no, .no, .no] := by
  have hc : d_check_both [.list (a.map .int), .list (b.map .int)] = .val (.d .none) := r_check_both h g
  have l1 : dList [.list (a.map .int)] = .val (a.map .int) := rfl
  have l2 : dList [.list (b.map .int)] = .val (b.map .int) := rfl
  have hok : iniOk (a.map .int) (b.map .int) := by
    unfold iniOk okI
    exact ⟨by simp (implicitDefEqProofs := false) only [run_eq, asQ_eq, asQK_list, asQK_tup, sFrz_eq', sFrzK_ow, sFrzK_fz, sFrzK_no, eRgD_eq, dAdd_q, dIs_true, dIs_false, runK_nx, runK_ret, runK_reto, runK_exc, sSeq_eq, seqK_nx, seqK_ret, seqK_reto, seqK_exc, sIf_eq, sSet_eq, sSetO_eq, setOK_ok, sFor_eq, sRet_eq, sRetO_eq, sRetV_eq, retVK_ow, retVK_fz, sRetN_eq, sDrop_eq, sExc_eq, sApp_eq, appJ_ow, sPut_eq, putK_ow, sPar_eq, parK_2, sNil_eq, sSetT_eq, sAug_eq, augK_fz, sAugL_eq, augLK_ow, sRem_eq, eVar_eq, varK_fz, eVarB_eq, varBK_fz, varBK_ow, eC_eq, eBin_eq, eChain_eq, chainK_bool, asB_eq, asBK_bool, bNot_eq, bAnd_eq, bOr_eq, bYes_eq, eNot_eq, eAnd_eq, eOr_eq, eIf_eq, eCB_eq, eCO_eq, eRg1_eq, rg1K_int, eRg2_eq, rg2K_int, eIsi_eq, isD_int, isD_bool, isD_list, isD_tup, isD_str, eCut_eq, cutK_list, eRev_eq, revK_list, eNeg_eq, negK_int, eTup_eq, tupK_ok, eLst_eq, lstK_ok, eFz_eq, eMt_eq, mtK_list, eLc_eq, eZip_eq, zipK_list, eEnum_eq, enumK_list, asL_eq, asLK_list, asT_eq, asTK_tup, tgN_eq, tgT_2, tgT_3, setE_nil, setE_cons, wipeE_nil, wipeE_cons, eCall_eq, callK_1, callK_2, callK_3, callK_4, eCallO_eq, callOK_1, callOK_2, callOK_3, rvO_o, rvD_d, rvD_o, eCatO_eq, eRepO_eq, repK_ok, aNil_eq, aCons_eq, oNo_eq, oYes_eq, oYK_int, mP_eq, mPT_eq, mPL_eq, mBin_eq, mAsB_eq, mAsBK_bool, mIf_eq, maNil_eq, maCons_eq, mTup_eq, mtupK_ok, sSetM_eq, sSetTM_eq, sIfM_eq, sParM_eq, parMK_2, sPar3M_eq, par3MK_3, so_val, noEx_val, ofO_some, rs_bind_val, rs_bind_exc, rs_bind_stk, rs_pure, List.map_cons, List.map_nil, List.length_cons, List.length_nil, List.length_map, List.length_set, List.replicate_succ, List.replicate_zero, List.cons_append, List.nil_append, List.getElem?_cons_zero, List.getElem?_cons_succ, List.set_cons_zero, List.set_cons_succ, List.zip_cons_cons, List.zip_nil_right, List.zip_nil_left, Nat.reduceAdd, Nat.reduceSub, Nat.reduceLT, Nat.reduceLeDiff, if_true, if_false, Bool.not_true, Bool.not_false, reduceCtorEq, and_true, true_and, LI, beq_self_eq_true, decide_true, decide_false, decide_eq_true_eq, Bool.false_eq_true, Bool.true_and, Bool.and_true, Bool.false_and, Bool.and_false, Bool.not_not, Bool.or_false, Bool.or_true, Bool.false_or, Bool.true_or, String.reduceBEq, dEq_LI, dNe_LI, dEq_int, dNe_int, dEq_bool, dNe_bool, dLt_int, dLe_int, dGt_int, dGe_int, dAdd_int, dSub_int, dLen_list, dLen_tup, dSum_LI, zipD_LI, hc], by simp (implicitDefEqProofs := false) only [run_eq, asQ_eq, asQK_list, asQK_tup, sFrz_eq', sFrzK_ow, sFrzK_fz, sFrzK_no, eRgD_eq, dAdd_q, dIs_true, dIs_false, runK_nx, runK_ret, runK_reto, runK_exc, sSeq_eq, seqK_nx, seqK_ret, seqK_reto, seqK_exc, sIf_eq, sSet_eq, sSetO_eq, setOK_ok, sFor_eq, sRet_eq, sRetO_eq, sRetV_eq, retVK_ow, retVK_fz, sRetN_eq, sDrop_eq, sExc_eq, sApp_eq, appJ_ow, sPut_eq, putK_ow, sPar_eq, parK_2, sNil_eq, sSetT_eq, sAug_eq, augK_fz, sAugL_eq, augLK_ow, sRem_eq, eVar_eq, varK_fz, eVarB_eq, varBK_fz, varBK_ow, eC_eq, eBin_eq, eChain_eq, chainK_bool, asB_eq, asBK_bool, bNot_eq, bAnd_eq, bOr_eq, bYes_eq, eNot_eq, eAnd_eq, eOr_eq, eIf_eq, eCB_eq, eCO_eq, eRg1_eq, rg1K_int, eRg2_eq, rg2K_int, eIsi_eq, isD_int, isD_bool, isD_list, isD_tup, isD_str, eCut_eq, cutK_list, eRev_eq, revK_list, eNeg_eq, negK_int, eTup_eq, tupK_ok, eLst_eq, lstK_ok, eFz_eq, eMt_eq, mtK_list, eLc_eq, eZip_eq, zipK_list, eEnum_eq, enumK_list, asL_eq, asLK_list, asT_eq, asTK_tup, tgN_eq, tgT_2, tgT_3, setE_nil, setE_cons, wipeE_nil, wipeE_cons, eCall_eq, callK_1, callK_2, callK_3, callK_4, eCallO_eq, callOK_1, callOK_2, callOK_3, rvO_o, rvD_d, rvD_o, eCatO_eq, eRepO_eq, repK_ok, aNil_eq, aCons_eq, oNo_eq, oYes_eq, oYK_int, mP_eq, mPT_eq, mPL_eq, mBin_eq, mAsB_eq, mAsBK_bool, mIf_eq, maNil_eq, maCons_eq, mTup_eq, mtupK_ok, sSetM_eq, sSetTM_eq, sIfM_eq, sParM_eq, parMK_2, sPar3M_eq, par3MK_3, so_val, noEx_val, ofO_some, rs_bind_val, rs_bind_exc, rs_bind_stk, rs_pure, List.map_cons, List.map_nil, List.length_cons, List.length_nil, List.length_map, List.length_set, List.replicate_succ, List.replicate_zero, List.cons_append, List.nil_append, List.getElem?_cons_zero, List.getElem?_cons_succ, List.set_cons_zero, List.set_cons_succ, List.zip_cons_cons, List.zip_nil_right, List.zip_nil_left, Nat.reduceAdd, Nat.reduceSub, Nat.reduceLT, Nat.reduceLeDiff, if_true, if_false, Bool.not_true, Bool.not_false, reduceCtorEq, and_true, true_and, LI, beq_self_eq_true, decide_true, decide_false, decide_eq_true_eq, Bool.false_eq_true, Bool.true_and, Bool.and_true, Bool.false_and, Bool.and_false, Bool.not_not, Bool.or_false, Bool.or_true, Bool.false_or, Bool.true_or, String.reduceBEq, dEq_LI, dNe_LI, dEq_int, dNe_int, dEq_bool, dNe_bool, dLt_int, dLe_int, dGt_int, dGe_int, dAdd_int, dSub_int, dLen_list, dLen_tup, dSum_LI, zipD_LI, l1], by simp (implicitDefEqProofs := false) only [run_eq, asQ_eq, asQK_list, asQK_tup, sFrz_eq', sFrzK_ow, sFrzK_fz, sFrzK_no, eRgD_eq, dAdd_q, dIs_true, dIs_false, runK_nx, runK_ret, runK_reto, runK_exc, sSeq_eq, seqK_nx, seqK_ret, seqK_reto, seqK_exc, sIf_eq, sSet_eq, sSetO_eq, setOK_ok, sFor_eq, sRet_eq, sRetO_eq, sRetV_eq, retVK_ow, retVK_fz, sRetN_eq, sDrop_eq, sExc_eq, sApp_eq, appJ_ow, sPut_eq, putK_ow, sPar_eq, parK_2, sNil_eq, sSetT_eq, sAug_eq, augK_fz, sAugL_eq, augLK_ow, sRem_eq, eVar_eq, varK_fz, eVarB_eq, varBK_fz, varBK_ow, eC_eq, eBin_eq, eChain_eq, chainK_bool, asB_eq, asBK_bool, bNot_eq, bAnd_eq, bOr_eq, bYes_eq, eNot_eq, eAnd_eq, eOr_eq, eIf_eq, eCB_eq, eCO_eq, eRg1_eq, rg1K_int, eRg2_eq, rg2K_int, eIsi_eq, isD_int, isD_bool, isD_list, isD_tup, isD_str, eCut_eq, cutK_list, eRev_eq, revK_list, eNeg_eq, negK_int, eTup_eq, tupK_ok, eLst_eq, lstK_ok, eFz_eq, eMt_eq, mtK_list, eLc_eq, eZip_eq, zipK_list, eEnum_eq, enumK_list, asL_eq, asLK_list, asT_eq, asTK_tup, tgN_eq, tgT_2, tgT_3, setE_nil, setE_cons, wipeE_nil, wipeE_cons, eCall_eq, callK_1, callK_2, callK_3, callK_4, eCallO_eq, callOK_1, callOK_2, callOK_3, rvO_o, rvD_d, rvD_o, eCatO_eq, eRepO_eq, repK_ok, aNil_eq, aCons_eq, oNo_eq, oYes_eq, oYK_int, mP_eq, mPT_eq, mPL_eq, mBin_eq, mAsB_eq, mAsBK_bool, mIf_eq, maNil_eq, maCons_eq, mTup_eq, mtupK_ok, sSetM_eq, sSetTM_eq, sIfM_eq, sParM_eq, parMK_2, sPar3M_eq, par3MK_3, so_val, noEx_val, ofO_some, rs_bind_val, rs_bind_exc, rs_bind_stk, rs_pure, List.map_cons, List.map_nil, List.length_cons, List.length_nil, List.length_map, List.length_set, List.replicate_succ, List.replicate_zero, List.cons_append, List.nil_append, List.getElem?_cons_zero, List.getElem?_cons_succ, List.set_cons_zero, List.set_cons_succ, List.zip_cons_cons, List.zip_nil_right, List.zip_nil_left, Nat.reduceAdd, Nat.reduceSub, Nat.reduceLT, Nat.reduceLeDiff, if_true, if_false, Bool.not_true, Bool.not_false, reduceCtorEq, and_true, true_and, LI, beq_self_eq_true, decide_true, decide_false, decide_eq_true_eq, Bool.false_eq_true, Bool.true_and, Bool.and_true, Bool.false_and, Bool.and_false, Bool.not_not, Bool.or_false, Bool.or_true, Bool.false_or, Bool.true_or, String.reduceBEq, dEq_LI, dNe_LI, dEq_int, dNe_int, dEq_bool, dNe_bool, dLt_int, dLe_int, dGt_int, dGe_int, dAdd_int, dSub_int, dLen_list, dLen_tup, dSum_LI, zipD_LI, l2], rfl⟩
  have e2 : aCons (eVar 3) (aCons (eVar 4) aNil) [.no, .dr p q ns c, .fz (.int n), .fz (.list (a.map .int)), .fz (.list (b.map .int)), .no, .no, .no, .no, .no, .no, .no, .no] = .val [.list (a.map .int), .list (b.map .int)] := rfl
  show sSeq (sNewS CS iniOk 5 (aCons (eVar 3) (aCons (eVar 4) aNil)) A B) (fun e => .nx (e.set 6 (.fz (.list [])))) _ = _
  rw [sSeq_eq]
  unfold sNewS
  rw [e2, so_val]
  unfold newK
  dsimp only
  rw [if_pos ⟨hok, show 5 < 13 by decide⟩]
  rfl
theorem l2_ok {k j : Nat} (r0 m0 : List Int) (h : Rk n row) (g : Rk n b) (hne : ns ≠ []) (hlen : ns.length ≤ 63) (hml : ms.length ≤ 400) (hk : iv n row b + j = k) (hj : j < k) :
    ∃ row' ms' ns' c', bL2 κ CS [.no, .dr p q ns c, .fz (.int n), .fz (.list (List.map PyData.int r0)), .fz (.list (b.map .int)), .gx [A, B] (.so CS (List.map PyData.int row) (b.map .int) (List.map PyData.int ms)), .fz (.list (List.map PyData.int m0)), .fz (.int (j : Nat)), x8, x9, x10, x11, .fz (.int (k : Nat))] = .nx [.no, .dr p q ns' c', .fz (.int n), .fz (.list (List.map PyData.int r0)), .fz (.list (b.map .int)), .gx [A, B] (.so CS (List.map PyData.int row') (b.map .int) (List.map PyData.int ms')), .fz (.list (List.map PyData.int m0)), .fz (.int (j : Nat)), x8, x9, x10, x11, .fz (.int (k : Nat))] ∧ Rk n row' ∧ ns' ≠ [] ∧ ns'.length ≤ 63 ∧ ms'.length ≤ ms.length + 1 ∧ iv n row' b + (j + 1) = k := by
  have n7 := h.hi
  have hd := drOf_ok (env := [.no, .dr p q ns c, .fz (.int n), .fz (.list (List.map PyData.int r0)), .fz (.list (b.map .int)), .gx [A, B] (.so CS (List.map PyData.int row) (b.map .int) (List.map PyData.int ms)), .fz (.list (List.map PyData.int m0)), .fz (.int (j : Nat)), x8, x9, x10, x11, .fz (.int (k : Nat))]) (i := 1) rfl hne hlen
  have hun : usf n row b ≠ [] := fun e => by
    have e2 := (usf_nil h g).mp e
    rw [e2] at hk
    unfold iv at hk
    rw [agst_self] at hk
    simp at hk
    omega
  have hul : (usI n row b).length ≤ 1000 := by
    rw [List.length_map]
    unfold usf
    have := List.length_filter_le (fun k : Nat => decide (iv n (xr (k : Nat) row) b < iv n row b)) (List.range' 1 (n - 1))
    rw [List.length_range'] at this
    omega
  obtain ⟨kk, z, k1, k2, k3, hpk⟩ := pickK_ok (i := 1) (env := [.no, .dr p q ns c, .fz (.int n), .fz (.list (List.map PyData.int r0)), .fz (.list (b.map .int)), .gx [A, B] (.so CS (List.map PyData.int row) (b.map .int) (List.map PyData.int ms)), .fz (.list (List.map PyData.int m0)), .fz (.int (j : Nat)), x8, x9, x10, x11, .fz (.int (k : Nat))]) (p := p) (q := q) (ns := ns) (c := c) (l := (usI n row b).map .int) (by simpa using hun) (by rw [List.length_map]; exact hul)
  have hne2 := drawN_ne hne c (((usI n row b).map PyData.int).length)
  have hlen2 : (drawN ns c (((usI n row b).map PyData.int).length)).length ≤ 63 := by rw [drawN_len]; exact hlen
  obtain ⟨t, ht, rfl⟩ : ∃ t : Nat, t ∈ usf n row b ∧ z = .int (t : Nat) := by
    have hm := List.mem_of_getElem? k2
    obtain ⟨y, hy, rfl⟩ := List.mem_map.mp hm
    obtain ⟨t, ht, rfl⟩ := List.mem_map.mp hy
    exact ⟨t, ht, rfl⟩
  obtain ⟨t1, t2, t3⟩ := usf_down h g ht
  have hx := r_exchange (r := (t : Nat)) CS ms A B h g (by omega) (by omega) (by omega)
  have ruse := r_useful' (b := b) CS (ms.map .int) h g
  have hU := inG_o (usI n row b)
  simp only [List.set_cons_succ, List.set_cons_zero] at hpk
  generalize drawN ns c (((usI n row b).map PyData.int).length) = ns2 at hpk hne2 hlen2
  generalize c + 1 = c2 at hpk
  have hq : decide (((iv n (xr (t : Nat) row) b : Nat) : Int) = (k : Int) - (j : Int) - 1) = true := decide_eq_true (by omega)
  refine ⟨xr (t : Nat) row, ms ++ [(t : Int)], ns2, c2, ?_, xr_rk h (by omega) (by omega), hne2, hlen2, by simp, by omega⟩
  generalize (ms ++ [((t : Nat) : Int)]).map PyData.int = w at hx ⊢
  generalize usI n row b = u at hpk hU ruse
  unfold bL2
  simp (implicitDefEqProofs := false) only [run_eq, asQ_eq, asQK_list, asQK_tup, sFrz_eq', sFrzK_ow, sFrzK_fz, sFrzK_no, eRgD_eq, dAdd_q, dIs_true, dIs_false, runK_nx, runK_ret, runK_reto, runK_exc, sSeq_eq, seqK_nx, seqK_ret, seqK_reto, seqK_exc, sIf_eq, sSet_eq, sSetO_eq, setOK_ok, sFor_eq, sRet_eq, sRetO_eq, sRetV_eq, retVK_ow, retVK_fz, sRetN_eq, sDrop_eq, sExc_eq, sApp_eq, appJ_ow, sPut_eq, putK_ow, sPar_eq, parK_2, sNil_eq, sSetT_eq, sAug_eq, augK_fz, sAugL_eq, augLK_ow, sRem_eq, eVar_eq, varK_fz, eVarB_eq, varBK_fz, varBK_ow, eC_eq, eBin_eq, eChain_eq, chainK_bool, asB_eq, asBK_bool, bNot_eq, bAnd_eq, bOr_eq, bYes_eq, eNot_eq, eAnd_eq, eOr_eq, eIf_eq, eCB_eq, eCO_eq, eRg1_eq, rg1K_int, eRg2_eq, rg2K_int, eIsi_eq, isD_int, isD_bool, isD_list, isD_tup, isD_str, eCut_eq, cutK_list, eRev_eq, revK_list, eNeg_eq, negK_int, eTup_eq, tupK_ok, eLst_eq, lstK_ok, eFz_eq, eMt_eq, mtK_list, eLc_eq, eZip_eq, zipK_list, eEnum_eq, enumK_list, asL_eq, asLK_list, asT_eq, asTK_tup, tgN_eq, tgT_2, tgT_3, setE_nil, setE_cons, wipeE_nil, wipeE_cons, eCall_eq, callK_1, callK_2, callK_3, callK_4, eCallO_eq, callOK_1, callOK_2, callOK_3, rvO_o, rvD_d, rvD_o, eCatO_eq, eRepO_eq, repK_ok, aNil_eq, aCons_eq, oNo_eq, oYes_eq, oYK_int, mP_eq, mPT_eq, mPL_eq, mBin_eq, mAsB_eq, mAsBK_bool, mIf_eq, maNil_eq, maCons_eq, mTup_eq, mtupK_ok, sSetM_eq, sSetTM_eq, sIfM_eq, sParM_eq, parMK_2, sPar3M_eq, par3MK_3, so_val, noEx_val, ofO_some, rs_bind_val, rs_bind_exc, rs_bind_stk, rs_pure, List.map_cons, List.map_nil, List.length_cons, List.length_nil, List.length_map, List.length_set, List.replicate_succ, List.replicate_zero, List.cons_append, List.nil_append, List.getElem?_cons_zero, List.getElem?_cons_succ, List.set_cons_zero, List.set_cons_succ, List.zip_cons_cons, List.zip_nil_right, List.zip_nil_left, Nat.reduceAdd, Nat.reduceSub, Nat.reduceLT, Nat.reduceLeDiff, if_true, if_false, Bool.not_true, Bool.not_false, reduceCtorEq, and_true, true_and, LI, beq_self_eq_true, decide_true, decide_false, decide_eq_true_eq, Bool.false_eq_true, Bool.true_and, Bool.and_true, Bool.false_and, Bool.and_false, Bool.not_not, Bool.or_false, Bool.or_true, Bool.false_or, Bool.true_or, String.reduceBEq, dEq_LI, dNe_LI, dEq_int, dNe_int, dEq_bool, dNe_bool, dLt_int, dLe_int, dGt_int, dGe_int, dAdd_int, dSub_int, dLen_list, dLen_tup, dSum_LI, zipD_LI, mSo_eq, soW_so, mPick_eq, hd, eMF_eq, soG_so, mfK_0, ruse, hU, pickQ_list, hpk, soK_1, hx, soOut_eq, hq]
end
theorem law_true (κ : Kp) (CS : Addr) : ∀ A B, LawTrue (g_law κ CS A B) n_law := by
  intro A B p q ns hne hlen
  obtain ⟨r0, r1⟩ := drawR_range ns 0 (lim := 7) (by decide)
  obtain ⟨n, hn⟩ : ∃ n : Nat, (n : Int) = 1 + drawR ns 0 7 := ⟨(1 + drawR ns 0 7).toNat, by omega⟩
  have n1 : 1 ≤ n := by omega
  have n7 : n ≤ 7 := by omega
  have hne1 := drawN_ne hne 0 7
  have hlen1 : (drawN ns 0 7).length ≤ 63 := by rw [drawN_len]; exact hlen
  unfold g_law n_law
  have hd := drOf_ok (env := [.no, .dr p q ns 0, .no, .no, .no, .no, .no, .no, .no, .no, .no, .no, .no]) (i := 1) rfl hne hlen
  refine seq_go ⟨_, by simp (implicitDefEqProofs := false) only [run_eq, asQ_eq, asQK_list, asQK_tup, sFrz_eq', sFrzK_ow, sFrzK_fz, sFrzK_no, eRgD_eq, dAdd_q, dIs_true, dIs_false, runK_nx, runK_ret, runK_reto, runK_exc, sSeq_eq, seqK_nx, seqK_ret, seqK_reto, seqK_exc, sIf_eq, sSet_eq, sSetO_eq, setOK_ok, sFor_eq, sRet_eq, sRetO_eq, sRetV_eq, retVK_ow, retVK_fz, sRetN_eq, sDrop_eq, sExc_eq, sApp_eq, appJ_ow, sPut_eq, putK_ow, sPar_eq, parK_2, sNil_eq, sSetT_eq, sAug_eq, augK_fz, sAugL_eq, augLK_ow, sRem_eq, eVar_eq, varK_fz, eVarB_eq, varBK_fz, varBK_ow, eC_eq, eBin_eq, eChain_eq, chainK_bool, asB_eq, asBK_bool, bNot_eq, bAnd_eq, bOr_eq, bYes_eq, eNot_eq, eAnd_eq, eOr_eq, eIf_eq, eCB_eq, eCO_eq, eRg1_eq, rg1K_int, eRg2_eq, rg2K_int, eIsi_eq, isD_int, isD_bool, isD_list, isD_tup, isD_str, eCut_eq, cutK_list, eRev_eq, revK_list, eNeg_eq, negK_int, eTup_eq, tupK_ok, eLst_eq, lstK_ok, eFz_eq, eMt_eq, mtK_list, eLc_eq, eZip_eq, zipK_list, eEnum_eq, enumK_list, asL_eq, asLK_list, asT_eq, asTK_tup, tgN_eq, tgT_2, tgT_3, setE_nil, setE_cons, wipeE_nil, wipeE_cons, eCall_eq, callK_1, callK_2, callK_3, callK_4, eCallO_eq, callOK_1, callOK_2, callOK_3, rvO_o, rvD_d, rvD_o, eCatO_eq, eRepO_eq, repK_ok, aNil_eq, aCons_eq, oNo_eq, oYes_eq, oYK_int, mP_eq, mPT_eq, mPL_eq, mBin_eq, mAsB_eq, mAsBK_bool, mIf_eq, maNil_eq, maCons_eq, mTup_eq, mtupK_ok, sSetM_eq, sSetTM_eq, sIfM_eq, sParM_eq, parMK_2, sPar3M_eq, par3MK_3, so_val, noEx_val, ofO_some, rs_bind_val, rs_bind_exc, rs_bind_stk, rs_pure, List.map_cons, List.map_nil, List.length_cons, List.length_nil, List.length_map, List.length_set, List.replicate_succ, List.replicate_zero, List.cons_append, List.nil_append, List.getElem?_cons_zero, List.getElem?_cons_succ, List.set_cons_zero, List.set_cons_succ, List.zip_cons_cons, List.zip_nil_right, List.zip_nil_left, Nat.reduceAdd, Nat.reduceSub, Nat.reduceLT, Nat.reduceLeDiff, if_true, if_false, Bool.not_true, Bool.not_false, reduceCtorEq, and_true, true_and, LI, beq_self_eq_true, decide_true, decide_false, decide_eq_true_eq, Bool.false_eq_true, Bool.true_and, Bool.and_true, Bool.false_and, Bool.and_false, Bool.not_not, Bool.or_false, Bool.or_true, Bool.false_or, Bool.true_or, String.reduceBEq, dEq_LI, dNe_LI, dEq_int, dNe_int, dEq_bool, dNe_bool, dLt_int, dLe_int, dGt_int, dGe_int, dAdd_int, dSub_int, dLen_list, dLen_tup, dSum_LI, zipD_LI, mDraw_eq, hd, drawK_ok (lim := 7) hd (by decide) (by decide), hn.symm] <;> exact rfl, ?_⟩
  generalize drawN ns 0 7 = ns1 at hne1 hlen1 ⊢
  generalize (0 : Int) + 1 = c1
  obtain ⟨a, ns2, c2, ha, hne2, hlen2, ra⟩ := mRank_ok (env := [.no, .dr p q ns1 c1, .fz (.int n), .no, .no, .no, .no, .no, .no, .no, .no, .no, .no]) (i := 1) (f := mP (eVar 2)) rfl hne1 hlen1 (by simp (implicitDefEqProofs := false) only [run_eq, asQ_eq, asQK_list, asQK_tup, sFrz_eq', sFrzK_ow, sFrzK_fz, sFrzK_no, eRgD_eq, dAdd_q, dIs_true, dIs_false, runK_nx, runK_ret, runK_reto, runK_exc, sSeq_eq, seqK_nx, seqK_ret, seqK_reto, seqK_exc, sIf_eq, sSet_eq, sSetO_eq, setOK_ok, sFor_eq, sRet_eq, sRetO_eq, sRetV_eq, retVK_ow, retVK_fz, sRetN_eq, sDrop_eq, sExc_eq, sApp_eq, appJ_ow, sPut_eq, putK_ow, sPar_eq, parK_2, sNil_eq, sSetT_eq, sAug_eq, augK_fz, sAugL_eq, augLK_ow, sRem_eq, eVar_eq, varK_fz, eVarB_eq, varBK_fz, varBK_ow, eC_eq, eBin_eq, eChain_eq, chainK_bool, asB_eq, asBK_bool, bNot_eq, bAnd_eq, bOr_eq, bYes_eq, eNot_eq, eAnd_eq, eOr_eq, eIf_eq, eCB_eq, eCO_eq, eRg1_eq, rg1K_int, eRg2_eq, rg2K_int, eIsi_eq, isD_int, isD_bool, isD_list, isD_tup, isD_str, eCut_eq, cutK_list, eRev_eq, revK_list, eNeg_eq, negK_int, eTup_eq, tupK_ok, eLst_eq, lstK_ok, eFz_eq, eMt_eq, mtK_list, eLc_eq, eZip_eq, zipK_list, eEnum_eq, enumK_list, asL_eq, asLK_list, asT_eq, asTK_tup, tgN_eq, tgT_2, tgT_3, setE_nil, setE_cons, wipeE_nil, wipeE_cons, eCall_eq, callK_1, callK_2, callK_3, callK_4, eCallO_eq, callOK_1, callOK_2, callOK_3, rvO_o, rvD_d, rvD_o, eCatO_eq, eRepO_eq, repK_ok, aNil_eq, aCons_eq, oNo_eq, oYes_eq, oYK_int, mP_eq, mPT_eq, mPL_eq, mBin_eq, mAsB_eq, mAsBK_bool, mIf_eq, maNil_eq, maCons_eq, mTup_eq, mtupK_ok, sSetM_eq, sSetTM_eq, sIfM_eq, sParM_eq, parMK_2, sPar3M_eq, par3MK_3, so_val, noEx_val, ofO_some, rs_bind_val, rs_bind_exc, rs_bind_stk, rs_pure, List.map_cons, List.map_nil, List.length_cons, List.length_nil, List.length_map, List.length_set, List.replicate_succ, List.replicate_zero, List.cons_append, List.nil_append, List.getElem?_cons_zero, List.getElem?_cons_succ, List.set_cons_zero, List.set_cons_succ, List.zip_cons_cons, List.zip_nil_right, List.zip_nil_left, Nat.reduceAdd, Nat.reduceSub, Nat.reduceLT, Nat.reduceLeDiff, if_true, if_false, Bool.not_true, Bool.not_false, reduceCtorEq, and_true, true_and, LI, beq_self_eq_true, decide_true, decide_false, decide_eq_true_eq, Bool.false_eq_true, Bool.true_and, Bool.and_true, Bool.false_and, Bool.and_false, Bool.not_not, Bool.or_false, Bool.or_true, Bool.false_or, Bool.true_or, String.reduceBEq, dEq_LI, dNe_LI, dEq_int, dNe_int, dEq_bool, dNe_bool, dLt_int, dLe_int, dGt_int, dGe_int, dAdd_int, dSub_int, dLen_list, dLen_tup, dSum_LI, zipD_LI]) n1 n7
  simp only [List.set_cons_succ, List.set_cons_zero] at ha
  obtain ⟨b, ns3, c3, hb, hne3, hlen3, rb⟩ := mRank_ok (env := [.no, .dr p q ns2 c2, .fz (.int n), .no, .no, .no, .no, .no, .no, .no, .no, .no, .no]) (i := 1) (f := mP (eVar 2)) rfl hne2 hlen2 (by simp (implicitDefEqProofs := false) only [run_eq, asQ_eq, asQK_list, asQK_tup, sFrz_eq', sFrzK_ow, sFrzK_fz, sFrzK_no, eRgD_eq, dAdd_q, dIs_true, dIs_false, runK_nx, runK_ret, runK_reto, runK_exc, sSeq_eq, seqK_nx, seqK_ret, seqK_reto, seqK_exc, sIf_eq, sSet_eq, sSetO_eq, setOK_ok, sFor_eq, sRet_eq, sRetO_eq, sRetV_eq, retVK_ow, retVK_fz, sRetN_eq, sDrop_eq, sExc_eq, sApp_eq, appJ_ow, sPut_eq, putK_ow, sPar_eq, parK_2, sNil_eq, sSetT_eq, sAug_eq, augK_fz, sAugL_eq, augLK_ow, sRem_eq, eVar_eq, varK_fz, eVarB_eq, varBK_fz, varBK_ow, eC_eq, eBin_eq, eChain_eq, chainK_bool, asB_eq, asBK_bool, bNot_eq, bAnd_eq, bOr_eq, bYes_eq, eNot_eq, eAnd_eq, eOr_eq, eIf_eq, eCB_eq, eCO_eq, eRg1_eq, rg1K_int, eRg2_eq, rg2K_int, eIsi_eq, isD_int, isD_bool, isD_list, isD_tup, isD_str, eCut_eq, cutK_list, eRev_eq, revK_list, eNeg_eq, negK_int, eTup_eq, tupK_ok, eLst_eq, lstK_ok, eFz_eq, eMt_eq, mtK_list, eLc_eq, eZip_eq, zipK_list, eEnum_eq, enumK_list, asL_eq, asLK_list, asT_eq, asTK_tup, tgN_eq, tgT_2, tgT_3, setE_nil, setE_cons, wipeE_nil, wipeE_cons, eCall_eq, callK_1, callK_2, callK_3, callK_4, eCallO_eq, callOK_1, callOK_2, callOK_3, rvO_o, rvD_d, rvD_o, eCatO_eq, eRepO_eq, repK_ok, aNil_eq, aCons_eq, oNo_eq, oYes_eq, oYK_int, mP_eq, mPT_eq, mPL_eq, mBin_eq, mAsB_eq, mAsBK_bool, mIf_eq, maNil_eq, maCons_eq, mTup_eq, mtupK_ok, sSetM_eq, sSetTM_eq, sIfM_eq, sParM_eq, parMK_2, sPar3M_eq, par3MK_3, so_val, noEx_val, ofO_some, rs_bind_val, rs_bind_exc, rs_bind_stk, rs_pure, List.map_cons, List.map_nil, List.length_cons, List.length_nil, List.length_map, List.length_set, List.replicate_succ, List.replicate_zero, List.cons_append, List.nil_append, List.getElem?_cons_zero, List.getElem?_cons_succ, List.set_cons_zero, List.set_cons_succ, List.zip_cons_cons, List.zip_nil_right, List.zip_nil_left, Nat.reduceAdd, Nat.reduceSub, Nat.reduceLT, Nat.reduceLeDiff, if_true, if_false, Bool.not_true, Bool.not_false, reduceCtorEq, and_true, true_and, LI, beq_self_eq_true, decide_true, decide_false, decide_eq_true_eq, Bool.false_eq_true, Bool.true_and, Bool.and_true, Bool.false_and, Bool.and_false, Bool.not_not, Bool.or_false, Bool.or_true, Bool.false_or, Bool.true_or, String.reduceBEq, dEq_LI, dNe_LI, dEq_int, dNe_int, dEq_bool, dNe_bool, dLt_int, dLe_int, dGt_int, dGe_int, dAdd_int, dSub_int, dLen_list, dLen_tup, dSum_LI, zipD_LI]) n1 n7
  simp only [List.set_cons_succ, List.set_cons_zero] at hb
  refine seq_go ⟨_, by simp (implicitDefEqProofs := false) only [run_eq, asQ_eq, asQK_list, asQK_tup, sFrz_eq', sFrzK_ow, sFrzK_fz, sFrzK_no, eRgD_eq, dAdd_q, dIs_true, dIs_false, runK_nx, runK_ret, runK_reto, runK_exc, sSeq_eq, seqK_nx, seqK_ret, seqK_reto, seqK_exc, sIf_eq, sSet_eq, sSetO_eq, setOK_ok, sFor_eq, sRet_eq, sRetO_eq, sRetV_eq, retVK_ow, retVK_fz, sRetN_eq, sDrop_eq, sExc_eq, sApp_eq, appJ_ow, sPut_eq, putK_ow, sPar_eq, parK_2, sNil_eq, sSetT_eq, sAug_eq, augK_fz, sAugL_eq, augLK_ow, sRem_eq, eVar_eq, varK_fz, eVarB_eq, varBK_fz, varBK_ow, eC_eq, eBin_eq, eChain_eq, chainK_bool, asB_eq, asBK_bool, bNot_eq, bAnd_eq, bOr_eq, bYes_eq, eNot_eq, eAnd_eq, eOr_eq, eIf_eq, eCB_eq, eCO_eq, eRg1_eq, rg1K_int, eRg2_eq, rg2K_int, eIsi_eq, isD_int, isD_bool, isD_list, isD_tup, isD_str, eCut_eq, cutK_list, eRev_eq, revK_list, eNeg_eq, negK_int, eTup_eq, tupK_ok, eLst_eq, lstK_ok, eFz_eq, eMt_eq, mtK_list, eLc_eq, eZip_eq, zipK_list, eEnum_eq, enumK_list, asL_eq, asLK_list, asT_eq, asTK_tup, tgN_eq, tgT_2, tgT_3, setE_nil, setE_cons, wipeE_nil, wipeE_cons, eCall_eq, callK_1, callK_2, callK_3, callK_4, eCallO_eq, callOK_1, callOK_2, callOK_3, rvO_o, rvD_d, rvD_o, eCatO_eq, eRepO_eq, repK_ok, aNil_eq, aCons_eq, oNo_eq, oYes_eq, oYK_int, mP_eq, mPT_eq, mPL_eq, mBin_eq, mAsB_eq, mAsBK_bool, mIf_eq, maNil_eq, maCons_eq, mTup_eq, mtupK_ok, sSetM_eq, sSetTM_eq, sIfM_eq, sParM_eq, parMK_2, sPar3M_eq, par3MK_3, so_val, noEx_val, ofO_some, rs_bind_val, rs_bind_exc, rs_bind_stk, rs_pure, List.map_cons, List.map_nil, List.length_cons, List.length_nil, List.length_map, List.length_set, List.replicate_succ, List.replicate_zero, List.cons_append, List.nil_append, List.getElem?_cons_zero, List.getElem?_cons_succ, List.set_cons_zero, List.set_cons_succ, List.zip_cons_cons, List.zip_nil_right, List.zip_nil_left, Nat.reduceAdd, Nat.reduceSub, Nat.reduceLT, Nat.reduceLeDiff, if_true, if_false, Bool.not_true, Bool.not_false, reduceCtorEq, and_true, true_and, LI, beq_self_eq_true, decide_true, decide_false, decide_eq_true_eq, Bool.false_eq_true, Bool.true_and, Bool.and_true, Bool.false_and, Bool.and_false, Bool.not_not, Bool.or_false, Bool.or_true, Bool.false_or, Bool.true_or, String.reduceBEq, dEq_LI, dNe_LI, dEq_int, dNe_int, dEq_bool, dNe_bool, dLt_int, dLe_int, dGt_int, dGe_int, dAdd_int, dSub_int, dLen_list, dLen_tup, dSum_LI, zipD_LI, ha, hb, tgT_2] <;> exact rfl, ?_⟩
  refine seq_go ⟨_, new_ok (n := n) CS A B p q ra rb, ?_⟩
  obtain ⟨env', hf, row, ms, ns4, c4, x7, x8, x9, x10, x11, rfl, hr, hne4, hlen4, hms, hml⟩ := forL_map (t := tgN 7) (body := bLoop κ CS) (fun i : Nat => PyData.int ((i : Nat) : Int)) (I := fun pre env => ∃ row ms ns c x7 x8 x9 x10 x11, env = [.no, .dr p q ns c, .fz (.int n), .fz (.list (List.map PyData.int row)), .fz (.list (b.map .int)), .gx [A, B] (.so CS (List.map PyData.int row) (b.map .int) (List.map PyData.int ms)), .fz (.list (List.map PyData.int ms)), x7, x8, x9, x10, x11, .no] ∧ Rk n row ∧ ns ≠ [] ∧ ns.length ≤ 63 ∧ (∀ r ∈ ms, 1 ≤ r ∧ r + 1 ≤ (n : Int)) ∧ ms.length ≤ pre.length) (List.range 12)
    (env := [.no, .dr p q ns3 c3, .fz (.int n), .fz (.list (List.map PyData.int a)), .fz (.list (b.map .int)), .gx [A, B] (.so CS (List.map PyData.int a) (b.map .int) (List.map PyData.int [])), .fz (.list (List.map PyData.int [])), .no, .no, .no, .no, .no, .no]) (fun pre k post env e ⟨row, ms, ns, c, x7, x8, x9, x10, x11, he, hr, h1, h2, h3, h4⟩ => by
      subst he
      have hpl : pre.length ≤ 12 := by
        have := congrArg List.length e
        rw [List.length_range, List.length_append] at this
        omega
      obtain ⟨row', ms', ns', c', x8', x9', x10', x11', e', hr', k1, k2, k3, k4⟩ := loop_ok (ns := ns) (c := c) κ CS A B p q (.fz (.int (k : Nat))) x8 x9 x10 x11 hr rb h1 h2 h3 (by omega)
      exact ⟨_, _, rfl, .inl e', row', ms', ns', c', _, x8', x9', x10', x11', rfl, hr', k1, k2, k3, by rw [List.length_append, List.length_singleton]; omega⟩)
    ⟨a, [], ns3, c3, .no, .no, .no, .no, .no, rfl, ra, hne3, hlen3, (fun r hr => by cases hr), Nat.le_refl _⟩
  rw [List.length_range] at hml
  have hfor : sFor (eRg1 (eC (.int 12))) (tgN 7) (bLoop κ CS) [.no, .dr p q ns3 c3, .fz (.int n), .fz (.list (List.map PyData.int a)), .fz (.list (b.map .int)), .gx [A, B] (.so CS (List.map PyData.int a) (b.map .int) (List.map PyData.int [])), .fz (.list (List.map PyData.int [])), .no, .no, .no, .no, .no, .no] = .nx [.no, .dr p q ns4 c4, .fz (.int n), .fz (.list (List.map PyData.int row)), .fz (.list (b.map .int)), .gx [A, B] (.so CS (List.map PyData.int row) (b.map .int) (List.map PyData.int ms)), .fz (.list (List.map PyData.int ms)), x7, x8, x9, x10, x11, .no] := by
    have e0 : rgL 0 12 = .val ((List.range 12).map fun i => PyData.int ((i : Nat) : Int)) := rg0' (n := 12) (by omega)
    rw [sFor_eq]
    simp (implicitDefEqProofs := false) only [run_eq, asQ_eq, asQK_list, asQK_tup, sFrz_eq', sFrzK_ow, sFrzK_fz, sFrzK_no, eRgD_eq, dAdd_q, dIs_true, dIs_false, runK_nx, runK_ret, runK_reto, runK_exc, sSeq_eq, seqK_nx, seqK_ret, seqK_reto, seqK_exc, sIf_eq, sSet_eq, sSetO_eq, setOK_ok, sFor_eq, sRet_eq, sRetO_eq, sRetV_eq, retVK_ow, retVK_fz, sRetN_eq, sDrop_eq, sExc_eq, sApp_eq, appJ_ow, sPut_eq, putK_ow, sPar_eq, parK_2, sNil_eq, sSetT_eq, sAug_eq, augK_fz, sAugL_eq, augLK_ow, sRem_eq, eVar_eq, varK_fz, eVarB_eq, varBK_fz, varBK_ow, eC_eq, eBin_eq, eChain_eq, chainK_bool, asB_eq, asBK_bool, bNot_eq, bAnd_eq, bOr_eq, bYes_eq, eNot_eq, eAnd_eq, eOr_eq, eIf_eq, eCB_eq, eCO_eq, eRg1_eq, rg1K_int, eRg2_eq, rg2K_int, eIsi_eq, isD_int, isD_bool, isD_list, isD_tup, isD_str, eCut_eq, cutK_list, eRev_eq, revK_list, eNeg_eq, negK_int, eTup_eq, tupK_ok, eLst_eq, lstK_ok, eFz_eq, eMt_eq, mtK_list, eLc_eq, eZip_eq, zipK_list, eEnum_eq, enumK_list, asL_eq, asLK_list, asT_eq, asTK_tup, tgN_eq, tgT_2, tgT_3, setE_nil, setE_cons, wipeE_nil, wipeE_cons, eCall_eq, callK_1, callK_2, callK_3, callK_4, eCallO_eq, callOK_1, callOK_2, callOK_3, rvO_o, rvD_d, rvD_o, eCatO_eq, eRepO_eq, repK_ok, aNil_eq, aCons_eq, oNo_eq, oYes_eq, oYK_int, mP_eq, mPT_eq, mPL_eq, mBin_eq, mAsB_eq, mAsBK_bool, mIf_eq, maNil_eq, maCons_eq, mTup_eq, mtupK_ok, sSetM_eq, sSetTM_eq, sIfM_eq, sParM_eq, parMK_2, sPar3M_eq, par3MK_3, so_val, noEx_val, ofO_some, rs_bind_val, rs_bind_exc, rs_bind_stk, rs_pure, List.map_cons, List.map_nil, List.length_cons, List.length_nil, List.length_map, List.length_set, List.replicate_succ, List.replicate_zero, List.cons_append, List.nil_append, List.getElem?_cons_zero, List.getElem?_cons_succ, List.set_cons_zero, List.set_cons_succ, List.zip_cons_cons, List.zip_nil_right, List.zip_nil_left, Nat.reduceAdd, Nat.reduceSub, Nat.reduceLT, Nat.reduceLeDiff, if_true, if_false, Bool.not_true, Bool.not_false, reduceCtorEq, and_true, true_and, LI, beq_self_eq_true, decide_true, decide_false, decide_eq_true_eq, Bool.false_eq_true, Bool.true_and, Bool.and_true, Bool.false_and, Bool.and_false, Bool.not_not, Bool.or_false, Bool.or_true, Bool.false_or, Bool.true_or, String.reduceBEq, dEq_LI, dNe_LI, dEq_int, dNe_int, dEq_bool, dNe_bool, dLt_int, dLe_int, dGt_int, dGe_int, dAdd_int, dSub_int, dLen_list, dLen_tup, dSum_LI, zipD_LI, e0]
    exact hf
  refine seq_go ⟨_, hfor, ?_⟩
  have hil := iv_lt (a := row) (b := b) n7
  generalize hk : iv n row b = k at hil
  refine seq_go ⟨[.no, .dr p q ns4 c4, .fz (.int n), .fz (.list (List.map PyData.int row)), .fz (.list (b.map .int)), .gx [A, B] (.so CS (List.map PyData.int row) (b.map .int) (List.map PyData.int ms)), .fz (.list (List.map PyData.int ms)), x7, x8, x9, x10, x11, .fz (.int (k : Nat))], ?_, ?_⟩
  · have := r_left CS (ms.map .int) hr rb
    rw [hk] at this
    simp (implicitDefEqProofs := false) only [run_eq, asQ_eq, asQK_list, asQK_tup, sFrz_eq', sFrzK_ow, sFrzK_fz, sFrzK_no, eRgD_eq, dAdd_q, dIs_true, dIs_false, runK_nx, runK_ret, runK_reto, runK_exc, sSeq_eq, seqK_nx, seqK_ret, seqK_reto, seqK_exc, sIf_eq, sSet_eq, sSetO_eq, setOK_ok, sFor_eq, sRet_eq, sRetO_eq, sRetV_eq, retVK_ow, retVK_fz, sRetN_eq, sDrop_eq, sExc_eq, sApp_eq, appJ_ow, sPut_eq, putK_ow, sPar_eq, parK_2, sNil_eq, sSetT_eq, sAug_eq, augK_fz, sAugL_eq, augLK_ow, sRem_eq, eVar_eq, varK_fz, eVarB_eq, varBK_fz, varBK_ow, eC_eq, eBin_eq, eChain_eq, chainK_bool, asB_eq, asBK_bool, bNot_eq, bAnd_eq, bOr_eq, bYes_eq, eNot_eq, eAnd_eq, eOr_eq, eIf_eq, eCB_eq, eCO_eq, eRg1_eq, rg1K_int, eRg2_eq, rg2K_int, eIsi_eq, isD_int, isD_bool, isD_list, isD_tup, isD_str, eCut_eq, cutK_list, eRev_eq, revK_list, eNeg_eq, negK_int, eTup_eq, tupK_ok, eLst_eq, lstK_ok, eFz_eq, eMt_eq, mtK_list, eLc_eq, eZip_eq, zipK_list, eEnum_eq, enumK_list, asL_eq, asLK_list, asT_eq, asTK_tup, tgN_eq, tgT_2, tgT_3, setE_nil, setE_cons, wipeE_nil, wipeE_cons, eCall_eq, callK_1, callK_2, callK_3, callK_4, eCallO_eq, callOK_1, callOK_2, callOK_3, rvO_o, rvD_d, rvD_o, eCatO_eq, eRepO_eq, repK_ok, aNil_eq, aCons_eq, oNo_eq, oYes_eq, oYK_int, mP_eq, mPT_eq, mPL_eq, mBin_eq, mAsB_eq, mAsBK_bool, mIf_eq, maNil_eq, maCons_eq, mTup_eq, mtupK_ok, sSetM_eq, sSetTM_eq, sIfM_eq, sParM_eq, parMK_2, sPar3M_eq, par3MK_3, so_val, noEx_val, ofO_some, rs_bind_val, rs_bind_exc, rs_bind_stk, rs_pure, List.map_cons, List.map_nil, List.length_cons, List.length_nil, List.length_map, List.length_set, List.replicate_succ, List.replicate_zero, List.cons_append, List.nil_append, List.getElem?_cons_zero, List.getElem?_cons_succ, List.set_cons_zero, List.set_cons_succ, List.zip_cons_cons, List.zip_nil_right, List.zip_nil_left, Nat.reduceAdd, Nat.reduceSub, Nat.reduceLT, Nat.reduceLeDiff, if_true, if_false, Bool.not_true, Bool.not_false, reduceCtorEq, and_true, true_and, LI, beq_self_eq_true, decide_true, decide_false, decide_eq_true_eq, Bool.false_eq_true, Bool.true_and, Bool.and_true, Bool.false_and, Bool.and_false, Bool.not_not, Bool.or_false, Bool.or_true, Bool.false_or, Bool.true_or, String.reduceBEq, dEq_LI, dNe_LI, dEq_int, dNe_int, dEq_bool, dNe_bool, dLt_int, dLe_int, dGt_int, dGe_int, dAdd_int, dSub_int, dLen_list, dLen_tup, dSum_LI, zipD_LI, eMF_eq, soG_so, mfK_0, this, inG_int]
  obtain ⟨env', hf2, row2, ms2, ns5, c5, y7, rfl, hr2, hne5, hlen5, hiv⟩ := forL_map (t := tgN 7) (body := bL2 κ CS) (fun i : Nat => PyData.int ((i : Nat) : Int)) (I := fun pre env => ∃ rw0 mw0 ns c x7, env = [.no, .dr p q ns c, .fz (.int n), .fz (.list (List.map PyData.int row)), .fz (.list (b.map .int)), .gx [A, B] (.so CS (List.map PyData.int rw0) (b.map .int) (List.map PyData.int mw0)), .fz (.list (List.map PyData.int ms)), x7, x8, x9, x10, x11, .fz (.int (k : Nat))] ∧ Rk n rw0 ∧ ns ≠ [] ∧ ns.length ≤ 63 ∧ iv n rw0 b + pre.length = k ∧ mw0.length ≤ 12 + pre.length) (List.range k)
    (env := [.no, .dr p q ns4 c4, .fz (.int n), .fz (.list (List.map PyData.int row)), .fz (.list (b.map .int)), .gx [A, B] (.so CS (List.map PyData.int row) (b.map .int) (List.map PyData.int ms)), .fz (.list (List.map PyData.int ms)), x7, x8, x9, x10, x11, .fz (.int (k : Nat))]) (fun pre j post env e ⟨rw0, mw0, ns, c, x7, he, hr, h1, h2, h3, h4⟩ => by
      subst he
      have hj : pre.length = j := by
        have h2 := congrArg (fun l => l[pre.length]?) e
        rw [List.getElem?_append_right (Nat.le_refl _), Nat.sub_self, List.getElem?_cons_zero] at h2
        obtain ⟨h4, h5⟩ := List.getElem?_eq_some_iff.mp h2
        rw [List.getElem_range] at h5
        exact h5
      have hjk : j < k := by
        have : j ∈ List.range k := by rw [e]; simp
        exact List.mem_range.mp this
      rw [hj] at h3
      obtain ⟨row', ms', ns', c', e', hr', k1, k2, k3, k4⟩ := l2_ok (ns := ns) (c := c) (ms := mw0) (j := j) (k := k) κ CS A B p q x8 x9 x10 x11 row ms hr rb h1 h2 (by omega) h3 hjk
      exact ⟨_, _, rfl, .inl e', row', ms', ns', c', _, rfl, hr', k1, k2, by rw [List.length_append, List.length_singleton]; omega, by rw [List.length_append, List.length_singleton]; omega⟩)
    ⟨row, ms, ns4, c4, x7, rfl, hr, hne4, hlen4, by rw [hk]; rfl, by simp; omega⟩
  obtain ⟨hiv, hml2⟩ := hiv
  rw [List.length_range] at hiv
  have hfor2 : sFor (eRg1 (eVarB 12)) (tgN 7) (bL2 κ CS) [.no, .dr p q ns4 c4, .fz (.int n), .fz (.list (List.map PyData.int row)), .fz (.list (b.map .int)), .gx [A, B] (.so CS (List.map PyData.int row) (b.map .int) (List.map PyData.int ms)), .fz (.list (List.map PyData.int ms)), x7, x8, x9, x10, x11, .fz (.int (k : Nat))] = .nx [.no, .dr p q ns5 c5, .fz (.int n), .fz (.list (List.map PyData.int row)), .fz (.list (b.map .int)), .gx [A, B] (.so CS (List.map PyData.int row2) (b.map .int) (List.map PyData.int ms2)), .fz (.list (List.map PyData.int ms)), y7, x8, x9, x10, x11, .fz (.int (k : Nat))] := by
    have e0 : rgL 0 (k : Int) = .val ((List.range k).map fun i => PyData.int ((i : Nat) : Int)) := rg0' (n := k) (by omega)
    rw [sFor_eq]
    simp (implicitDefEqProofs := false) only [run_eq, asQ_eq, asQK_list, asQK_tup, sFrz_eq', sFrzK_ow, sFrzK_fz, sFrzK_no, eRgD_eq, dAdd_q, dIs_true, dIs_false, runK_nx, runK_ret, runK_reto, runK_exc, sSeq_eq, seqK_nx, seqK_ret, seqK_reto, seqK_exc, sIf_eq, sSet_eq, sSetO_eq, setOK_ok, sFor_eq, sRet_eq, sRetO_eq, sRetV_eq, retVK_ow, retVK_fz, sRetN_eq, sDrop_eq, sExc_eq, sApp_eq, appJ_ow, sPut_eq, putK_ow, sPar_eq, parK_2, sNil_eq, sSetT_eq, sAug_eq, augK_fz, sAugL_eq, augLK_ow, sRem_eq, eVar_eq, varK_fz, eVarB_eq, varBK_fz, varBK_ow, eC_eq, eBin_eq, eChain_eq, chainK_bool, asB_eq, asBK_bool, bNot_eq, bAnd_eq, bOr_eq, bYes_eq, eNot_eq, eAnd_eq, eOr_eq, eIf_eq, eCB_eq, eCO_eq, eRg1_eq, rg1K_int, eRg2_eq, rg2K_int, eIsi_eq, isD_int, isD_bool, isD_list, isD_tup, isD_str, eCut_eq, cutK_list, eRev_eq, revK_list, eNeg_eq, negK_int, eTup_eq, tupK_ok, eLst_eq, lstK_ok, eFz_eq, eMt_eq, mtK_list, eLc_eq, eZip_eq, zipK_list, eEnum_eq, enumK_list, asL_eq, asLK_list, asT_eq, asTK_tup, tgN_eq, tgT_2, tgT_3, setE_nil, setE_cons, wipeE_nil, wipeE_cons, eCall_eq, callK_1, callK_2, callK_3, callK_4, eCallO_eq, callOK_1, callOK_2, callOK_3, rvO_o, rvD_d, rvD_o, eCatO_eq, eRepO_eq, repK_ok, aNil_eq, aCons_eq, oNo_eq, oYes_eq, oYK_int, mP_eq, mPT_eq, mPL_eq, mBin_eq, mAsB_eq, mAsBK_bool, mIf_eq, maNil_eq, maCons_eq, mTup_eq, mtupK_ok, sSetM_eq, sSetTM_eq, sIfM_eq, sParM_eq, parMK_2, sPar3M_eq, par3MK_3, so_val, noEx_val, ofO_some, rs_bind_val, rs_bind_exc, rs_bind_stk, rs_pure, List.map_cons, List.map_nil, List.length_cons, List.length_nil, List.length_map, List.length_set, List.replicate_succ, List.replicate_zero, List.cons_append, List.nil_append, List.getElem?_cons_zero, List.getElem?_cons_succ, List.set_cons_zero, List.set_cons_succ, List.zip_cons_cons, List.zip_nil_right, List.zip_nil_left, Nat.reduceAdd, Nat.reduceSub, Nat.reduceLT, Nat.reduceLeDiff, if_true, if_false, Bool.not_true, Bool.not_false, reduceCtorEq, and_true, true_and, LI, beq_self_eq_true, decide_true, decide_false, decide_eq_true_eq, Bool.false_eq_true, Bool.true_and, Bool.and_true, Bool.false_and, Bool.and_false, Bool.not_not, Bool.or_false, Bool.or_true, Bool.false_or, Bool.true_or, String.reduceBEq, dEq_LI, dNe_LI, dEq_int, dNe_int, dEq_bool, dNe_bool, dLt_int, dLe_int, dGt_int, dGe_int, dAdd_int, dSub_int, dLen_list, dLen_tup, dSum_LI, zipD_LI, e0]
    exact hf2
  refine seq_go ⟨_, hfor2, ?_⟩
  have hrow : row2 = b := iv_zero hr2 rb (by omega)
  have ruse := r_useful' (b := b) CS (ms2.map .int) rb rb
  have hu : usI n b b = [] := by
    show (usf n b b).map _ = []
    rw [(usf_nil rb rb).mpr rfl]
    rfl
  rw [hu] at ruse
  have hR := inG_o b
  have hU : inG (.val (.o (List.map PyData.int []))) = .val (.list []) := inG_o []
  simp only [List.map_nil] at ruse hU
  have hq : decide (b = b) = true := decide_eq_true rfl
  have e0 : dEq (.list []) (.list []) = .val (.bool true) := by
    have := dEq_LI0 []
    simpa using this
  refine ⟨_, by simp (implicitDefEqProofs := false) only [run_eq, asQ_eq, asQK_list, asQK_tup, sFrz_eq', sFrzK_ow, sFrzK_fz, sFrzK_no, eRgD_eq, dAdd_q, dIs_true, dIs_false, runK_nx, runK_ret, runK_reto, runK_exc, sSeq_eq, seqK_nx, seqK_ret, seqK_reto, seqK_exc, sIf_eq, sSet_eq, sSetO_eq, setOK_ok, sFor_eq, sRet_eq, sRetO_eq, sRetV_eq, retVK_ow, retVK_fz, sRetN_eq, sDrop_eq, sExc_eq, sApp_eq, appJ_ow, sPut_eq, putK_ow, sPar_eq, parK_2, sNil_eq, sSetT_eq, sAug_eq, augK_fz, sAugL_eq, augLK_ow, sRem_eq, eVar_eq, varK_fz, eVarB_eq, varBK_fz, varBK_ow, eC_eq, eBin_eq, eChain_eq, chainK_bool, asB_eq, asBK_bool, bNot_eq, bAnd_eq, bOr_eq, bYes_eq, eNot_eq, eAnd_eq, eOr_eq, eIf_eq, eCB_eq, eCO_eq, eRg1_eq, rg1K_int, eRg2_eq, rg2K_int, eIsi_eq, isD_int, isD_bool, isD_list, isD_tup, isD_str, eCut_eq, cutK_list, eRev_eq, revK_list, eNeg_eq, negK_int, eTup_eq, tupK_ok, eLst_eq, lstK_ok, eFz_eq, eMt_eq, mtK_list, eLc_eq, eZip_eq, zipK_list, eEnum_eq, enumK_list, asL_eq, asLK_list, asT_eq, asTK_tup, tgN_eq, tgT_2, tgT_3, setE_nil, setE_cons, wipeE_nil, wipeE_cons, eCall_eq, callK_1, callK_2, callK_3, callK_4, eCallO_eq, callOK_1, callOK_2, callOK_3, rvO_o, rvD_d, rvD_o, eCatO_eq, eRepO_eq, repK_ok, aNil_eq, aCons_eq, oNo_eq, oYes_eq, oYK_int, mP_eq, mPT_eq, mPL_eq, mBin_eq, mAsB_eq, mAsBK_bool, mIf_eq, maNil_eq, maCons_eq, mTup_eq, mtupK_ok, sSetM_eq, sSetTM_eq, sIfM_eq, sParM_eq, parMK_2, sPar3M_eq, par3MK_3, so_val, noEx_val, ofO_some, rs_bind_val, rs_bind_exc, rs_bind_stk, rs_pure, List.map_cons, List.map_nil, List.length_cons, List.length_nil, List.length_map, List.length_set, List.replicate_succ, List.replicate_zero, List.cons_append, List.nil_append, List.getElem?_cons_zero, List.getElem?_cons_succ, List.set_cons_zero, List.set_cons_succ, List.zip_cons_cons, List.zip_nil_right, List.zip_nil_left, Nat.reduceAdd, Nat.reduceSub, Nat.reduceLT, Nat.reduceLeDiff, if_true, if_false, Bool.not_true, Bool.not_false, reduceCtorEq, and_true, true_and, LI, beq_self_eq_true, decide_true, decide_false, decide_eq_true_eq, Bool.false_eq_true, Bool.true_and, Bool.and_true, Bool.false_and, Bool.and_false, Bool.not_not, Bool.or_false, Bool.or_true, Bool.false_or, Bool.true_or, String.reduceBEq, dEq_LI, dNe_LI, dEq_int, dNe_int, dEq_bool, dNe_bool, dLt_int, dLe_int, dGt_int, dGe_int, dAdd_int, dSub_int, dLen_list, dLen_tup, dSum_LI, zipD_LI, eMF_eq, soG_so, mfK_0, r_ranking, hR, ruse, hU, hq, e0, hrow] <;> exact rfl⟩
end Ag


namespace Ag
open PySem L2 PyProof.Rows
def topS (i : Nat) : Stmt := PySem.Challenge.pw_agreeranks_k11_whole_sorters.main.body.getD i (.Pass ⟨0, 0, 0, 0⟩)
def metS (j : Nat) : Stmt := match topS 15 with
  | .ClassDef _ _ _ body _ _ _ _ _ _ _ => body.getD j (.Pass ⟨0, 0, 0, 0⟩)
  | _ => .Pass ⟨0, 0, 0, 0⟩
structure Txt (K : PySem.W.Frag) (mg : Str → Option Value) (C : Ec → Addr) (R : Addr) (CS : Addr) (FM : Nat → Addr) : Prop where
  X : Xcl K mg C R
  S : SoC K CS
  gS : mg "Sorter" = some (.ref CS)
  Mk : Mk K CS (FM 0)
  L : LenC K CS (FM 6)
  n_all : mg "all" = none
  n_bool : mg "bool" = none
  n_int : mg "int" = none
  n_isinstance : mg "isinstance" = none
  n_len : mg "len" = none
  n_list : mg "list" = none
  n_range : mg "range" = none
  n_sorted : mg "sorted" = none
  c_MOST_THINGS : ∃ t, mg "MOST_THINGS" = some (.int 7 t)
  D_is_int : Dfn K mg "is_int" (topS 8) ["value", "low", "high"]
  D_is_ranking : Dfn K mg "is_ranking" (topS 9) ["value"]
  D_check_ranking : Dfn K mg "check_ranking" (topS 10) ["value"]
  D_check_both : Dfn K mg "check_both" (topS 11) ["one", "other"]
  D_against : Dfn K mg "against" (topS 13) ["one", "other"]
  M___init__ : MDfn K CS "__init__" "Sorter.__init__" (metS 0) ["self", "ranking", "goal"] (FM 0)
  D_exchanged : Dfn K mg "exchanged" (topS 16) ["ranking", "rank"]
  M_left : MDfn K CS "left" "Sorter.left" (metS 3) ["self"] (FM 3)
  M_exchange : MDfn K CS "exchange" "Sorter.exchange" (metS 1) ["self", "rank"] (FM 1)
  M_ranking : MDfn K CS "ranking" "Sorter.ranking" (metS 2) ["self"] (FM 2)
  M_useful : MDfn K CS "useful" "Sorter.useful" (metS 4) ["self"] (FM 4)
  M_undo : MDfn K CS "undo" "Sorter.undo" (metS 5) ["self"] (FM 5)
  M___len__ : MDfn K CS "__len__" "Sorter.__len__" (metS 6) ["self"] (FM 6)
  D__law_start : Dfn K mg "_law_start" (topS 18) ["_law_script"]
  D__law_draw : Dfn K mg "_law_draw" (topS 19) ["_law_draws", "_law_limit"]
  D__law_pick : Dfn K mg "_law_pick" (topS 20) ["_law_draws", "_law_choices"]
  D__law_error : Dfn K mg "_law_error" (topS 21) ["_law_caught"]
  D__law_ranking : Dfn K mg "_law_ranking" (topS 22) ["_law_draws", "_law_size"]
  D__law_against : Dfn K mg "_law_against" (topS 23) ["_law_one", "_law_other"]
  D__law_call : Dfn K mg "_law_call" (topS 24) ["_law_shown", "_law_kind", "_law_rank"]
  D__law_exchanged : Dfn K mg "_law_exchanged" (topS 25) ["_law_ranking_here", "_law_rank"]
  D_law : Dfn K mg "law" (topS 26) ["_law_script"]
section
variable {P : Program} {w : World} {K : PySem.W.Frag} {mg : Str → Option Value} {base : Heap} {C : Ec → Addr} {R : Addr} {CS : Addr} {FM : Nat → Addr}
theorem sc_is_int : FnScope ["value", "low", "high"] ["value", "low", "high"] (defScope (topS 8)) := ⟨rfl, rfl, rfl, by decide +kernel, rfl, by decide +kernel, by decide +kernel⟩
theorem ok_is_int (T : Txt K mg C R CS FM) : FnOk P w K mg base CX0 1 (adrOf mg "is_int") (fdOf K (adrOf mg "is_int")) ["value", "low", "high"] (spP 3 d_is_int) :=
  fn_ok T.D_is_int.F sc_is_int rfl (by decide) rfl fun cdv A outer s H E hr => ⟨_, (ss_one (s_ret (v_and ((v_isi "int" kit_int T.n_isinstance T.n_int (b_var 0))).bb (v_and ((v_not ((v_isi "bool" kit_bool T.n_isinstance T.n_bool (b_var 0))).bb)).bb (v_one (v_leLe (ha := (b_var 1)) (hb := (b_var 0)) (hc := (b_var 2))))))))⟩
theorem sc_is_ranking : FnScope ["value", "rank"] ["value"] (defScope (topS 9)) := ⟨rfl, rfl, rfl, by decide +kernel, rfl, by decide +kernel, by decide +kernel⟩
theorem ok_is_ranking (T : Txt K mg C R CS FM) : FnOk P w K mg base CX0 2 (adrOf mg "is_ranking") (fdOf K (adrOf mg "is_ranking")) ["value"] (spP 1 d_is_ranking) :=
  fn_ok T.D_is_ranking.F sc_is_ranking rfl (by decide) rfl fun cdv A outer s H E hr => ⟨_, (ss_cons (s_if (t_w (w_or (t_not (t_val ((v_isi "list" kit_list T.n_isinstance T.n_list (b_var 0))).bb)) (w_or1 (t_not (t_leLe (ha := (v_int).bb) (hb := ((v_len T.n_len (ab_cons (b_var 0) ab_nil))).bb) (hc := ((v_globI' (by rfl) T.c_MOST_THINGS)).bb)))))) (ss_one (s_ret v_bool)) ss_nil)
      (ss_cons (s_if (t_not (t_val ((v_all T.n_all (ab_cons (((o_lc (own := [("rank", 1)]) sc_is_ranking.nd (blkOk_by (by kernel_rfl)) (tgIn_N (by decide)) (ib_list (b_var 0)) (fun _ _ _ _ _ => (g_name (i := 1) sc_is_ranking.nd rfl)) (fun _ _ _ _ _ => ts_nil) (fun _ _ _ _ _ => (v_call (ok_is_int T) hr T.D_is_int.g T.D_is_int.F.kp T.D_is_int.b (a_cons (v_var 1) (a_cons v_int (a_cons (v_len T.n_len (ab_cons (b_var 0) ab_nil)) a_nil))))))).vv).bb ab_nil))).bb)) (ss_one (s_ret v_bool)) ss_nil)
      (ss_one (s_ret (v_eq (hr := hr) (ha := (((o_sorted T.n_sorted (ab_cons (b_var 0) ab_nil))).vv).bb) (hb := (((o_range2 T.n_list T.n_range (v_int).bb ((v_add (ha := ((v_len T.n_len (ab_cons (b_var 0) ab_nil))).bb) (hb := (v_int).bb))).bb)).vv).bb))))))⟩
theorem sc_check_ranking : FnScope ["value"] ["value"] (defScope (topS 10)) := ⟨rfl, rfl, rfl, by decide +kernel, rfl, by decide +kernel, by decide +kernel⟩
theorem ok_check_ranking (T : Txt K mg C R CS FM) : FnOk P w K mg base CX0 3 (adrOf mg "check_ranking") (fdOf K (adrOf mg "check_ranking")) ["value"] (spP 1 d_check_ranking) :=
  fn_ok T.D_check_ranking.F sc_check_ranking rfl (by decide) rfl fun cdv A outer s H E hr => ⟨_, (ss_one (s_if (t_not (t_val ((v_call (ok_is_ranking T) hr T.D_is_ranking.g T.D_is_ranking.F.kp T.D_is_ranking.b (a_cons (v_var 0) a_nil))).bb)) (ss_one (s_never .rank)) ss_nil))⟩
theorem sc_check_both : FnScope ["one", "other"] ["one", "other"] (defScope (topS 11)) := ⟨rfl, rfl, rfl, by decide +kernel, rfl, by decide +kernel, by decide +kernel⟩
theorem ok_check_both (T : Txt K mg C R CS FM) : FnOk P w K mg base CX0 4 (adrOf mg "check_both") (fdOf K (adrOf mg "check_both")) ["one", "other"] (spP 2 d_check_both) :=
  fn_ok T.D_check_both.F sc_check_both rfl (by decide) rfl fun cdv A outer s H E hr => ⟨_, (ss_cons (s_drop (v_call (ok_check_ranking T) hr T.D_check_ranking.g T.D_check_ranking.F.kp T.D_check_ranking.b (a_cons (v_var 0) a_nil)))
      (ss_cons (s_drop (v_call (ok_check_ranking T) hr T.D_check_ranking.g T.D_check_ranking.F.kp T.D_check_ranking.b (a_cons (v_var 1) a_nil)))
      (ss_one (s_if (t_ne (hr := hr) (ha := ((v_len T.n_len (ab_cons (b_var 0) ab_nil))).bb) (hb := ((v_len T.n_len (ab_cons (b_var 1) ab_nil))).bb)) (ss_one (s_never .rank)) ss_nil))))⟩
theorem sc_against : FnScope ["one", "other", "found", "k", "j"] ["one", "other"] (defScope (topS 13)) := ⟨rfl, rfl, rfl, by decide +kernel, rfl, by decide +kernel, by decide +kernel⟩
theorem ok_against (T : Txt K mg C R CS FM) : FnOk P w K mg base CX0 1 (adrOf mg "against") (fdOf K (adrOf mg "against")) ["one", "other"] (spP 2 d_against) :=
  fn_ok T.D_against.F sc_against rfl (by decide) rfl fun cdv A outer s H E hr => ⟨_, (ss_cons (s_seto (i := 2) sc_against.nd rfl (o_lst a_nil))
      (ss_cons (s_for PassesOwn.never (i_rng1 T.n_range ((v_len T.n_len (ab_cons (b_var 0) ab_nil))).bb) (g_name (i := 3) sc_against.nd rfl) (ss_one (s_for PassesOwn.never (i_rng2 T.n_range ((v_add (ha := (b_var 3)) (hb := (v_int).bb))).bb ((v_len T.n_len (ab_cons (b_var 0) ab_nil))).bb) (g_name (i := 4) sc_against.nd rfl) (ss_one (s_if (t_ne (hr := hr) (ha := ((v_lt (ha := ((v_ix (b_var 0) (b_var 3))).bb) (hb := ((v_ix (b_var 0) (b_var 4))).bb))).bb) (hb := ((v_lt (ha := ((v_ix (b_var 1) (b_var 3))).bb) (hb := ((v_ix (b_var 1) (b_var 4))).bb))).bb)) (ss_one (s_app (i := 2) rfl (v_tup (a_cons (v_var 3) (a_cons (v_var 4) a_nil))))) ss_nil)))))
      (ss_one (s_retv 2))))⟩
theorem sc_m___init__ : FnScope ["self", "ranking", "goal"] ["self", "ranking", "goal"] (defScope (metS 0)) := ⟨rfl, rfl, rfl, by decide +kernel, rfl, by decide +kernel, by decide +kernel⟩
theorem ok_m___init__ (T : Txt K mg C R CS FM) : FnOk P w K mg base CX0 5 (FM 0) (fdOf K (FM 0)) ["self", "ranking", "goal"] (spInit CS iniOk) := 
  fn_init T.S T.M___init__.F sc_m___init__ rfl rfl rfl fun cdv A outer s H E hr => ⟨_, _, _, _, iniB (v_call (ok_check_both T) hr T.D_check_both.g T.D_check_both.F.kp T.D_check_both.b (a_cons (v_var 1) (a_cons (v_var 2) a_nil))) (o_list T.n_list (ab_cons (b_var 1) ab_nil)) (o_list T.n_list (ab_cons (b_var 2) ab_nil)) (o_lst a_nil) (fun h => ps_expr h) (fun h => ps_fld (pv 0) h rfl) (fun h => ps_fld (pv 0) h rfl) (fun h => ps_fld (pv 0) h rfl)⟩
theorem sc_exchanged : FnScope ["ranking", "rank", "own"] ["ranking", "rank"] (defScope (topS 16)) := ⟨rfl, rfl, rfl, by decide +kernel, rfl, by decide +kernel, by decide +kernel⟩
theorem ok_exchanged (T : Txt K mg C R CS FM) : FnOk P w K mg base CX0 1 (adrOf mg "exchanged") (fdOf K (adrOf mg "exchanged")) ["ranking", "rank"] (spP 2 d_exchanged) :=
  fn_ok T.D_exchanged.F sc_exchanged rfl (by decide) rfl fun cdv A outer s H E hr => ⟨_, (ss_one (s_reto (o_lc (own := [("own", 2)]) sc_exchanged.nd (blkOk_by (by kernel_rfl)) (tgIn_N (by decide)) (ib_list (b_var 0)) (fun _ _ _ _ _ => (g_name (i := 2) sc_exchanged.nd rfl)) (fun _ _ _ _ _ => ts_nil) (fun _ _ _ _ _ => (v_if (t_eq (hr := hr) (ha := (b_var 2)) (hb := (b_var 1))) (v_add (ha := (b_var 1)) (hb := (v_int).bb)) (v_if (t_eq (hr := hr) (ha := (b_var 2)) (hb := ((v_add (ha := (b_var 1)) (hb := (v_int).bb))).bb)) (v_var 1) (v_var 2)))))))⟩
theorem sc_m_left : FnScope ["self"] ["self"] (defScope (metS 3)) := ⟨rfl, rfl, rfl, by decide +kernel, rfl, by decide +kernel, by decide +kernel⟩
theorem ok_m_left (T : Txt K mg C R CS FM) : FnOk P w K mg base CX0 2 (FM 3) (fdOf K (FM 3)) ["self"] (spF 0 (d_m_left CS)) := 
  fn_soF T.M_left.F sc_m_left rfl (by decide) rfl fun cdv A outer s H E hr => ⟨_, (ss_one (s_ret (v_len T.n_len (ab_cons ((v_call (ok_against T) hr T.D_against.g T.D_against.F.kp T.D_against.b (a_cons (v_now (i := 0) T.S rfl) (a_cons (v_goal (i := 0) T.S rfl) a_nil)))).bb ab_nil))))⟩
theorem sc_m_exchange : FnScope ["self", "rank"] ["self", "rank"] (defScope (metS 1)) := ⟨rfl, rfl, rfl, by decide +kernel, rfl, by decide +kernel, by decide +kernel⟩
theorem ok_m_exchange (T : Txt K mg C R CS FM) : FnOk P w K mg base (L2.CX P w) 3 (FM 1) (fdOf K (FM 1)) ["self", "rank"] (spS (kpOf C) CS 1 (d_m_exchange CS)) := 
  fn_soX T.M_exchange.F sc_m_exchange rfl (by decide) rfl rfl fun cdv A outer s H E hr => ⟨_, _, (t_not (t_val ((v_call0 (ok_is_int T) (hr.mono (by decide)) T.D_is_int.g T.D_is_int.F.kp T.D_is_int.b (a_cons (v_var 1) (a_cons v_int (a_cons (v_sub (ha := ((v_len T.n_len (ab_cons ((v_now (i := 0) T.S rfl)).bb ab_nil))).bb) (hb := (v_int).bb)) a_nil))))).bb)), (s_raiseC .numb T.X takes_cx).ps, (ss_cons (s_now (i := 0) T.S rfl (v_call0 (ok_exchanged T) (hr.mono (by decide)) T.D_exchanged.g T.D_exchanged.F.kp T.D_exchanged.b (a_cons (v_now (i := 0) T.S rfl) (a_cons (v_var 1) a_nil))))
      (ss_cons (s_dropM (m_madeA (i := 0) T.S rfl (v_var 1)))
      (ss_one (s_ret (v_mf0 (i := 0) T.S T.M_left (ok_m_left T) hr rfl)))))⟩
theorem sc_m_ranking : FnScope ["self"] ["self"] (defScope (metS 2)) := ⟨rfl, rfl, rfl, by decide +kernel, rfl, by decide +kernel, by decide +kernel⟩
theorem ok_m_ranking (T : Txt K mg C R CS FM) : FnOk P w K mg base CX0 1 (FM 2) (fdOf K (FM 2)) ["self"] (spF 0 (d_m_ranking CS)) := 
  fn_soF T.M_ranking.F sc_m_ranking rfl (by decide) rfl fun cdv A outer s H E hr => ⟨_, (ss_one (s_reto (o_list T.n_list (ab_cons ((v_now (i := 0) T.S rfl)).bb ab_nil))))⟩
theorem sc_m_useful : FnScope ["self", "found", "rank"] ["self"] (defScope (metS 4)) := ⟨rfl, rfl, rfl, by decide +kernel, rfl, by decide +kernel, by decide +kernel⟩
theorem ok_m_useful (T : Txt K mg C R CS FM) : FnOk P w K mg base CX0 3 (FM 4) (fdOf K (FM 4)) ["self"] (spF 0 (d_m_useful CS)) := 
  fn_soF T.M_useful.F sc_m_useful rfl (by decide) rfl fun cdv A outer s H E hr => ⟨_, (ss_cons (s_seto (i := 1) sc_m_useful.nd rfl (o_lst a_nil))
      (ss_cons (s_for PassesOwn.never (i_rng2 T.n_range (v_int).bb ((v_len T.n_len (ab_cons ((v_now (i := 0) T.S rfl)).bb ab_nil))).bb) (g_name (i := 2) sc_m_useful.nd rfl) (ss_one (s_if (t_lt (ha := ((v_len T.n_len (ab_cons ((v_call (ok_against T) (hr.mono (by decide)) T.D_against.g T.D_against.F.kp T.D_against.b (a_cons (v_call (ok_exchanged T) (hr.mono (by decide)) T.D_exchanged.g T.D_exchanged.F.kp T.D_exchanged.b (a_cons (v_now (i := 0) T.S rfl) (a_cons (v_var 2) a_nil))) (a_cons (v_goal (i := 0) T.S rfl) a_nil)))).bb ab_nil))).bb) (hb := ((v_mf0 (i := 0) T.S T.M_left (ok_m_left T) hr rfl)).bb)) (ss_one (s_app (i := 1) rfl (v_var 2))) ss_nil)))
      (ss_one (s_retv 1))))⟩
theorem sc_m_undo : FnScope ["self", "rank"] ["self"] (defScope (metS 5)) := ⟨rfl, rfl, rfl, by decide +kernel, rfl, by decide +kernel, by decide +kernel⟩
theorem ok_m_undo (T : Txt K mg C R CS FM) : FnOk P w K mg base (L2.CX P w) 2 (FM 5) (fdOf K (FM 5)) ["self"] (spS (kpOf C) CS 0 (d_m_undo CS)) := 
  fn_soX T.M_undo.F sc_m_undo rfl (by decide) rfl rfl fun cdv A outer s H E hr => ⟨_, _, (t_eq (hr := hr) (ha := (b_made (i := 0) T.S rfl)) (hb := (((o_lst a_nil)).vv).bb)), (s_raiseC .noth T.X takes_cx).ps, (ss_cons (s_setM (i := 1) sc_m_undo.nd rfl (m_madeP (i := 0) T.S rfl))
      (ss_cons (s_now (i := 0) T.S rfl (v_call0 (ok_exchanged T) hr T.D_exchanged.g T.D_exchanged.F.kp T.D_exchanged.b (a_cons (v_now (i := 0) T.S rfl) (a_cons (v_var 1) a_nil))))
      (ss_one (s_ret (v_var 1)))))⟩
theorem sc_m___len__ : FnScope ["self"] ["self"] (defScope (metS 6)) := ⟨rfl, rfl, rfl, by decide +kernel, rfl, by decide +kernel, by decide +kernel⟩
theorem ok_m___len__ (T : Txt K mg C R CS FM) : FnOk P w K mg base CX0 1 (FM 6) (fdOf K (FM 6)) ["self"] (spF 0 (d_m___len__ CS)) := 
  fn_soF T.M___len__.F sc_m___len__ rfl (by decide) rfl fun cdv A outer s H E hr => ⟨_, (ss_one (s_ret (v_len T.n_len (ab_cons (b_made (i := 0) T.S rfl) ab_nil))))⟩
theorem sc__law_start : FnScope ["_law_script"] ["_law_script"] (defScope (topS 18)) := ⟨rfl, rfl, rfl, by decide +kernel, rfl, by decide +kernel, by decide +kernel⟩
theorem ok__law_start (T : Txt K mg C R CS FM) : FnOk P w K mg base CX0 1 (adrOf mg "_law_start") (fdOf K (adrOf mg "_law_start")) ["_law_script"] (spStart K) := by
  refine T.D__law_start.F.ok sc__law_start (fun vs H Q E h => ?_) (fun cdv A outer s H vs Q E hr h => ⟨tStart K, pss_one (ps_ret (pe_lst (pa_cons (pe_ifExp (pt_cmpR (op_neD (room64 hr)) (pv 0) (pe_lst pa_nil) (nomark _)) (pe_callTy call_list_of (by rfl) T.n_list boot_list' (pa_cons (pv 0) pa_nil)) (pe_lst (pa_cons pe_int pa_nil))) (pa_cons pe_int pa_nil)))), read_start h⟩)
  obtain ⟨a, ns, rfl, _⟩ := h
  rfl
theorem sc__law_draw : FnScope ["_law_draws", "_law_limit", "_law_numbers", "_law_at", "_law_cell", "_law_mixed"] ["_law_draws", "_law_limit"] (defScope (topS 19)) := ⟨rfl, rfl, rfl, by decide +kernel, rfl, by decide +kernel, by decide +kernel⟩
theorem ok__law_draw (T : Txt K mg C R CS FM) : FnOk P w K mg base CX0 1 (adrOf mg "_law_draw") (fdOf K (adrOf mg "_law_draw")) ["_law_draws", "_law_limit"] (spDraw) := by
  refine T.D__law_draw.F.ok sc__law_draw (fun vs H Q E h => ?_) (fun cdv A outer s H vs Q E hr h => ⟨tDraw K, pss_cons (ps_set (i := 2) sc__law_draw.nd rfl (Or.inl rfl) (pe_ix ix_list (pv 0) pe_int (fun _ _ => rfl)))
    (pss_cons (ps_asg (pe_op op_add (pe_ix ix_list (pv 0) pe_int (fun _ _ => rfl)) pe_int) (pg_sub (pv 0) pe_int set_list))
    (pss_cons (ps_set (i := 3) sc__law_draw.nd rfl (Or.inl rfl) (pe_op op_modN (pe_ix ix_list (pv 0) pe_int (fun _ _ => rfl)) (pe_callB call_len_seq (by rfl) T.n_len PySem.boot_len (pa_cons (pv 2) pa_nil))))
    (pss_cons (ps_set (i := 4) sc__law_draw.nd rfl (Or.inl rfl) (pe_ix ix_list (pv 2) (pv 3) (fun _ _ => rfl)))
    (pss_cons (ps_if (pt_cmpR op_ge (pv 4) pe_int (nomark _)) (pss_cons (ps_asg (pe_op op_fdivN (pv 4) (pv 1)) (pg_sub (pv 2) (pv 3) set_list)) (pss_one (ps_ret (pe_op op_modN (pv 4) (pv 1))))) pss_nil)
    (pss_cons (ps_set (i := 5) sc__law_draw.nd rfl (Or.inl rfl) (pe_op op_modN (pe_op op_add (pv 4) (pe_op op_mul pe_int (pe_ix ix_list (pv 0) pe_int (fun _ _ => rfl)))) pe_int))
    (pss_cons (ps_set (i := 5) sc__law_draw.nd rfl (Or.inl rfl) (pe_op op_modN (pe_op op_pow (pv 5) pe_int) pe_int))
    (pss_one (ps_ret (pe_op op_modN (pe_op op_fdivN (pe_op op_modN (pe_op op_add (pe_op op_mul (pe_op op_fdivN (pv 5) pe_int) pe_int) (pv 5)) pe_int) pe_int) (pv 1)))))))))), read_draw h⟩)
  obtain ⟨p, q, ns, c, lim, rfl, _⟩ := h
  rfl
theorem sc__law_pick : FnScope ["_law_draws", "_law_choices"] ["_law_draws", "_law_choices"] (defScope (topS 20)) := ⟨rfl, rfl, rfl, by decide +kernel, rfl, by decide +kernel, by decide +kernel⟩
theorem ok__law_pick (T : Txt K mg C R CS FM) : FnOk P w K mg base CX0 2 (adrOf mg "_law_pick") (fdOf K (adrOf mg "_law_pick")) ["_law_draws", "_law_choices"] (spPick) := by
  refine T.D__law_pick.F.ok sc__law_pick (fun vs H Q E h => ?_) (fun cdv A outer s H vs Q E hr h => ⟨tPick K, pss_one (ps_ret (pe_ix ix_list (pv 1) (pe_call (ok__law_draw T) hr (by rfl) T.D__law_draw.g T.D__law_draw.F.kp T.D__law_draw.b .nil pass0 (pa_cons (pv 0) (pa_cons (pe_callB call_len_seq (by rfl) T.n_len PySem.boot_len (pa_cons (pv 1) pa_nil)) pa_nil))) (fun _ _ => rfl))), read_pick h⟩)
  obtain ⟨p, q, ns, c, b, ws, rfl, _⟩ := h
  rfl
theorem sc__law_error : FnScope ["_law_caught", "_law_kinds"] ["_law_caught"] (defScope (topS 21)) := ⟨rfl, rfl, rfl, by decide +kernel, rfl, by decide +kernel, by decide +kernel⟩
theorem ok__law_error (T : Txt K mg C R CS FM) : FnOk P w K mg base CX0 1 (adrOf mg "_law_error") (fdOf K (adrOf mg "_law_error")) ["_law_caught"] (spErr (kpOf C) exKind) :=
  fn_err T.D__law_error.F sc__law_error rfl (fun cdv A outer s H E hr => ⟨_, (ss_cons (s_set (i := 1) sc__law_error.nd rfl ((o_lst (a_cons (v_isC .rank T.X T.n_isinstance rfl) (a_cons (v_isC .scor T.X T.n_isinstance rfl) (a_cons (v_isC .numb T.X T.n_isinstance rfl) a_nil))))).vv)
      (ss_cons (s_set (i := 1) sc__law_error.nd rfl (v_add (ha := (b_var 1)) (hb := (((o_lst (a_cons (v_isC .text T.X T.n_isinstance rfl) (a_cons (v_isC .noth T.X T.n_isinstance rfl) a_nil)))).vv).bb)))
      (ss_cons (s_if (t_w (w_or (t_ne (hr := hr) (ha := ((v_countB (b_var 1) (v_bool).bb)).bb) (hb := (v_int).bb)) (w_or (t_not (t_val ((v_isR T.X T.n_isinstance rfl)).bb)) (w_or1 (t_not (t_val ((v_isV T.X T.n_isinstance rfl)).bb)))))) (ss_one (s_ret v_str)) ss_nil)
      (ss_one (s_ret (v_ix (((o_lst (a_cons v_str (a_cons v_str (a_cons v_str (a_cons v_str (a_cons v_str a_nil))))))).vv).bb ((v_index (hr := hr) (ha := (b_var 1)) (hb := (v_bool).bb))).bb))))))⟩) (r_err (kpOf C))
theorem sc__law_ranking : FnScope ["_law_draws", "_law_size", "_law_left", "_law_found", "_law_rank"] ["_law_draws", "_law_size"] (defScope (topS 22)) := ⟨rfl, rfl, rfl, by decide +kernel, rfl, by decide +kernel, by decide +kernel⟩
theorem ok__law_ranking (T : Txt K mg C R CS FM) : FnOk P w K mg base CX0 3 (adrOf mg "_law_ranking") (fdOf K (adrOf mg "_law_ranking")) ["_law_draws", "_law_size"] (spRank g__law_ranking 3) := 
  fn_rank T.D__law_ranking.F sc__law_ranking rfl rfl fun cdv A outer s H E hr => ⟨_, (ss_cons (s_seto (i := 2) sc__law_ranking.nd rfl (o_range2 T.n_list T.n_range (v_int).bb ((v_add (ha := (b_var 1)) (hb := (v_int).bb))).bb))
      (ss_cons (s_seto (i := 3) sc__law_ranking.nd rfl (o_lst a_nil))
      (ss_cons (s_while fuel PassesOwn.never (t_ne (hr := hr) (ha := (b_var 2)) (hb := (((o_lst a_nil)).vv).bb)) (ss_cons (s_setM (i := 4) sc__law_ranking.nd rfl (m_if (mt_eq hr (m_draw (i := 0) (ok__law_draw T) (hr.mono (by decide)) T.D__law_draw.g T.D__law_draw.F.kp T.D__law_draw.b rfl (m_p v_int)) (m_p v_int)) (m_p (v_ix (b_var 2) (v_int).bb)) (m_pickV (i := 0) (j := 2) (ok__law_pick T) hr T.D__law_pick.g T.D__law_pick.F.kp T.D__law_pick.b rfl rfl)))
      (ss_cons (s_rem (i := 2) rfl (b_var 4))
      (ss_one (s_app (i := 3) rfl (v_var 4))))))
      (ss_one (s_retv 3)))))⟩
theorem sc__law_against : FnScope ["_law_one", "_law_other", "_law_found", "_law_k", "_law_j"] ["_law_one", "_law_other"] (defScope (topS 23)) := ⟨rfl, rfl, rfl, by decide +kernel, rfl, by decide +kernel, by decide +kernel⟩
theorem ok__law_against (T : Txt K mg C R CS FM) : FnOk P w K mg base CX0 1 (adrOf mg "_law_against") (fdOf K (adrOf mg "_law_against")) ["_law_one", "_law_other"] (spP 2 d__law_against) :=
  fn_ok T.D__law_against.F sc__law_against rfl (by decide) rfl fun cdv A outer s H E hr => ⟨_, (ss_cons (s_seto (i := 2) sc__law_against.nd rfl (o_lst a_nil))
      (ss_cons (s_for PassesOwn.never (i_rng1 T.n_range ((v_len T.n_len (ab_cons (b_var 0) ab_nil))).bb) (g_name (i := 3) sc__law_against.nd rfl) (ss_one (s_for PassesOwn.never (i_rng2 T.n_range ((v_add (ha := (b_var 3)) (hb := (v_int).bb))).bb ((v_len T.n_len (ab_cons (b_var 0) ab_nil))).bb) (g_name (i := 4) sc__law_against.nd rfl) (ss_one (s_if (t_lt (ha := ((v_mul (ha := ((v_sub (ha := ((v_ix (b_var 0) (b_var 3))).bb) (hb := ((v_ix (b_var 0) (b_var 4))).bb))).bb) (hb := ((v_sub (ha := ((v_ix (b_var 1) (b_var 3))).bb) (hb := ((v_ix (b_var 1) (b_var 4))).bb))).bb))).bb) (hb := (v_int).bb)) (ss_one (s_app (i := 2) rfl (v_tup (a_cons (v_var 3) (a_cons (v_var 4) a_nil))))) ss_nil)))))
      (ss_one (s_retv 2))))⟩
theorem sc__law_call : FnScope ["_law_shown", "_law_kind", "_law_rank", "_law_found", "_law_caught", "e"] ["_law_shown", "_law_kind", "_law_rank"] (defScope (topS 24)) := ⟨rfl, rfl, rfl, by decide +kernel, rfl, by decide +kernel, by decide +kernel⟩
theorem ok__law_call (T : Txt K mg C R CS FM) : FnOk P w K mg base CX0 4 (adrOf mg "_law_call") (fdOf K (adrOf mg "_law_call")) ["_law_shown", "_law_kind", "_law_rank"] (spS (kpOf C) CS 2 (d__law_call (kpOf C) CS)) :=
  fn_soC T.D__law_call.F sc__law_call rfl (by decide) rfl fun cdv A outer s H E hr => ⟨_, (ss_cons (s_set (i := 3) sc__law_call.nd rfl v_none)
      (ss_cons (s_set (i := 4) sc__law_call.nd rfl v_none)
      (ss_cons (s_tryX rfl rfl sc__law_call.nd rfl rfl rfl (by decide) rfl ⟨rfl, by decide, Or.inl T.X.gR⟩ T.X.exm (fun W pn xe tk => (x_if (t_eq (hr := hr) (ha := (b_var 1)) (hb := (v_int).bb)) (x_so (i := 0) (takes_tr tk) T.S T.M_exchange (ok_m_exchange T) hr rfl (a_cons (v_var 2) a_nil)) (x_so0 (i := 0) (takes_tr tk) T.S T.M_undo (ok_m_undo T) (hr.mono (by decide)) rfl))) (fun pn xe t ht => ps_set sc__law_call.nd rfl (Or.inl rfl) ht) (fun a pn => ps_set sc__law_call.nd rfl (Or.inl rfl) (pv 5)))
      (ss_one (s_ret (v_if (t_isN rfl v_none) (v_var 3) (v_err (ok__law_error T) (hr.mono (by decide)) T.D__law_error.g T.D__law_error.F.kp T.D__law_error.b rfl)))))))⟩
theorem sc__law_exchanged : FnScope ["_law_ranking_here", "_law_rank", "_law_own"] ["_law_ranking_here", "_law_rank"] (defScope (topS 25)) := ⟨rfl, rfl, rfl, by decide +kernel, rfl, by decide +kernel, by decide +kernel⟩
theorem ok__law_exchanged (T : Txt K mg C R CS FM) : FnOk P w K mg base CX0 1 (adrOf mg "_law_exchanged") (fdOf K (adrOf mg "_law_exchanged")) ["_law_ranking_here", "_law_rank"] (spP 2 d__law_exchanged) :=
  fn_ok T.D__law_exchanged.F sc__law_exchanged rfl (by decide) rfl fun cdv A outer s H E hr => ⟨_, (ss_one (s_reto (o_lc (own := [("_law_own", 2)]) sc__law_exchanged.nd (blkOk_by (by kernel_rfl)) (tgIn_N (by decide)) (ib_list (b_var 0)) (fun _ _ _ _ _ => (g_name (i := 2) sc__law_exchanged.nd rfl)) (fun _ _ _ _ _ => ts_nil) (fun _ _ _ _ _ => (v_if (t_eq (hr := hr) (ha := (b_var 2)) (hb := (b_var 1))) (v_add (ha := (b_var 1)) (hb := (v_int).bb)) (v_if (t_eq (hr := hr) (ha := (b_var 2)) (hb := ((v_add (ha := (b_var 1)) (hb := (v_int).bb))).bb)) (v_var 1) (v_var 2)))))))⟩
theorem sc_law : FnScope ["_law_script", "_law_draws", "_law_size", "_law_row", "_law_goal", "_law_shown", "_law_made", "_law_turn", "_law_rank", "_law_told", "_law_left", "_law_useful", "_law_many"] ["_law_script"] (defScope (topS 26)) := ⟨rfl, rfl, rfl, by decide +kernel, rfl, by decide +kernel, by decide +kernel⟩
theorem ok_law (T : Txt K mg C R CS FM) (hl : ∀ a b, LawTrue (g_law (kpOf C) CS a b) n_law) : FnOk P w K mg base CX0 7 (adrOf mg "law") (fdOf K (adrOf mg "law")) ["_law_script"] (spLaw K) :=
  fn_lawF (g := fun a b => g_law (kpOf C) CS a b) T.D_law.F sc_law rfl rfl rfl (fun cdv A outer s H E hr => ⟨ps_set (i := 1) sc_law.nd rfl (by first | exact Or.inl rfl | exact Or.inr rfl) (pe_call (ok__law_start T) (hr.mono (by decide)) (by rfl) T.D__law_start.g T.D__law_start.F.kp T.D__law_start.b .nil pass0 (pa_cons (pv 0) pa_nil)), _, (ss_consF (s_setM (i := 2) sc_law.nd rfl (m_add (m_p v_int) (m_draw (i := 1) (ok__law_draw T) (hr.mono (by decide)) T.D__law_draw.g T.D__law_draw.F.kp T.D__law_draw.b rfl (m_p v_int))))
      (ss_consF (s_setTM (m_tup (ma_cons (m_rank (i := 1) (ok__law_ranking T) (hr.mono (by decide)) T.D__law_ranking.g T.D__law_ranking.F.kp T.D__law_ranking.b rfl (m_p (v_var 2))) (ma_cons (m_rank (i := 1) (ok__law_ranking T) (hr.mono (by decide)) T.D__law_ranking.g T.D__law_ranking.F.kp T.D__law_ranking.b rfl (m_p (v_var 2))) ma_nil))) (g_tup (gs_cons (i := 3) sc_law.nd rfl (gs_cons (i := 4) sc_law.nd rfl gs_nil))))
      (ss_newF (s_newP (i := 5) (j := 6) sc_law.nd rfl rfl (by decide) rfl rfl T.Mk (ok_m___init__ T) hr T.gS T.M___init__.b (a_cons (v_var 3) (a_cons (v_var 4) a_nil)) (o_lst a_nil))
      (ss_cons (s_for PassesOwn.never (i_rng1 T.n_range (v_int).bb) (g_name (i := 7) sc_law.nd rfl) (ss_cons (s_ifM (mt_gt (m_draw (i := 1) (ok__law_draw T) (hr.mono (by decide)) T.D__law_draw.g T.D__law_draw.F.kp T.D__law_draw.b rfl (m_p v_int)) (m_p v_int)) (ss_cons (s_setM (i := 8) sc_law.nd rfl (m_draw (i := 1) (ok__law_draw T) (hr.mono (by decide)) T.D__law_draw.g T.D__law_draw.F.kp T.D__law_draw.b rfl (m_p (v_add (ha := (b_var 2)) (hb := (v_int).bb)))))
      (ss_cons (s_setM (i := 9) sc_law.nd rfl (m_soC (i := 5) (ok__law_call T) (hr.mono (by decide)) T.D__law_call.g T.D__law_call.F.kp T.D__law_call.b rfl (ma_cons (m_p v_int) (ma_cons (m_p (v_var 8)) ma_nil))))
      (ss_one (s_if (t_leLt (ha := (v_int).bb) (hb := (b_var 8)) (hc := (b_var 2))) (ss_cons (s_set (i := 3) sc_law.nd rfl (v_call (ok__law_exchanged T) (hr.mono (by decide)) T.D__law_exchanged.g T.D__law_exchanged.F.kp T.D__law_exchanged.b (a_cons (v_var 3) (a_cons (v_var 8) a_nil))))
      (ss_cons (s_set (i := 6) sc_law.nd rfl (v_add (ha := (b_var 6)) (hb := (((o_lst (a_cons (v_var 8) a_nil))).vv).bb)))
      (ss_one (s_if (t_ne (hr := hr) (ha := (b_var 9)) (hb := ((v_len T.n_len (ab_cons ((v_call (ok__law_against T) (hr.mono (by decide)) T.D__law_against.g T.D__law_against.F.kp T.D__law_against.b (a_cons (v_var 3) (a_cons (v_var 4) a_nil)))).bb ab_nil))).bb)) (ss_one (s_ret v_bool)) ss_nil)))) (ss_one (s_if (t_ne (hr := hr) (ha := (b_var 9)) (hb := (v_str).bb)) (ss_one (s_ret v_bool)) ss_nil)))))) (ss_cons (s_setM (i := 9) sc_law.nd rfl (m_soC (i := 5) (ok__law_call T) (hr.mono (by decide)) T.D__law_call.g T.D__law_call.F.kp T.D__law_call.b rfl (ma_cons (m_p v_int) (ma_cons (m_p v_int) ma_nil))))
      (ss_cons (s_if (t_ne (hr := hr) (ha := (b_var 9)) (hb := ((v_if (t_ne (hr := hr) (ha := (b_var 6)) (hb := (((o_lst a_nil)).vv).bb)) (v_ix (b_var 6) ((v_neg (v_int).bb)).bb) v_str)).bb)) (ss_one (s_ret v_bool)) ss_nil)
      (ss_one (s_if (t_ne (hr := hr) (ha := (b_var 6)) (hb := (((o_lst a_nil)).vv).bb)) (ss_cons (s_set (i := 3) sc_law.nd rfl (v_call (ok__law_exchanged T) (hr.mono (by decide)) T.D__law_exchanged.g T.D__law_exchanged.F.kp T.D__law_exchanged.b (a_cons (v_var 3) (a_cons (v_ix (b_var 6) ((v_neg (v_int).bb)).bb) a_nil))))
      (ss_one (s_set (i := 6) sc_law.nd rfl ((o_cut (b_var 6) po_no (po_yes ((v_neg (v_int).bb)).bb))).vv))) ss_nil)))))
      (ss_cons (s_set (i := 10) sc_law.nd rfl (v_len T.n_len (ab_cons ((v_call (ok__law_against T) (hr.mono (by decide)) T.D__law_against.g T.D__law_against.F.kp T.D__law_against.b (a_cons (v_var 3) (a_cons (v_var 4) a_nil)))).bb ab_nil)))
      (ss_cons (s_setLc (i := 11) sc_law.nd rfl rfl (sw_true rfl rfl rfl (by kernel_rfl)) (own := [("_law_rank", 8)]) (blkOk_by (by kernel_rfl)) (tgIn_N (by decide)) (i_rng2 T.n_range (v_int).bb (b_var 2)).bb (fun _ _ _ _ _ => (g_name (i := 8) sc_law.nd rfl)) (fun _ _ _ _ _ => (ts_one (t_lt (ha := ((v_len T.n_len (ab_cons ((v_call (ok__law_against T) (hr.mono (by decide)) T.D__law_against.g T.D__law_against.F.kp T.D__law_against.b (a_cons (v_call (ok__law_exchanged T) (hr.mono (by decide)) T.D__law_exchanged.g T.D__law_exchanged.F.kp T.D__law_exchanged.b (a_cons (v_var 3) (a_cons (v_var 8) a_nil))) (a_cons (v_var 4) a_nil)))).bb ab_nil))).bb) (hb := (b_var 10))))) (fun _ _ _ _ _ => (v_var 8)))
      (ss_cons (s_if (t_w (w_or (t_ne (hr := hr) (ha := ((v_mf0 (i := 5) T.S T.M_ranking (ok_m_ranking T) (hr.mono (by decide)) rfl)).bb) (hb := (b_var 3))) (w_or (t_ne (hr := hr) (ha := ((v_mf0 (i := 5) T.S T.M_left (ok_m_left T) (hr.mono (by decide)) rfl)).bb) (hb := (b_var 10))) (w_or (t_ne (hr := hr) (ha := ((v_lenS (i := 5) T.n_len T.L T.M___len__ (ok_m___len__ T) (hr.mono (by decide)) rfl)).bb) (hb := ((v_len T.n_len (ab_cons (b_var 6) ab_nil))).bb)) (w_or1 (t_ne (hr := hr) (ha := ((v_mf0 (i := 5) T.S T.M_useful (ok_m_useful T) (hr.mono (by decide)) rfl)).bb) (hb := (b_var 11)))))))) (ss_one (s_ret v_bool)) ss_nil)
      (ss_one (s_if (t_ne (hr := hr) (ha := ((v_eq (hr := hr) (ha := (b_var 11)) (hb := (((o_lst a_nil)).vv).bb))).bb) (hb := ((v_eq (hr := hr) (ha := (b_var 3)) (hb := (b_var 4)))).bb)) (ss_one (s_ret v_bool)) ss_nil)))))))
      (ss_cons (s_set (i := 12) sc_law.nd rfl (v_mf0 (i := 5) T.S T.M_left (ok_m_left T) (hr.mono (by decide)) rfl))
      (ss_cons (s_for PassesOwn.never (i_rng1 T.n_range (b_var 12)) (g_name (i := 7) sc_law.nd rfl) (ss_one (s_ifM (mt_ne hr (m_so (i := 5) T.S T.M_exchange (ok_m_exchange T) (hr.mono (by decide)) rfl (ma_cons (m_pick (i := 1) (ok__law_pick T) (hr.mono (by decide)) T.D__law_pick.g T.D__law_pick.F.kp T.D__law_pick.b rfl (v_mf0 (i := 5) T.S T.M_useful (ok_m_useful T) (hr.mono (by decide)) rfl)) ma_nil)) (m_p (v_sub (ha := ((v_sub (ha := (b_var 12)) (hb := (b_var 7)))).bb) (hb := (v_int).bb)))) (ss_one (s_ret v_bool)) ss_nil)))
      (ss_one (s_ret (v_and ((v_eq (hr := hr) (ha := ((v_mf0 (i := 5) T.S T.M_ranking (ok_m_ranking T) (hr.mono (by decide)) rfl)).bb) (hb := (b_var 4)))).bb (v_one (v_eq (hr := hr) (ha := ((v_mf0 (i := 5) T.S T.M_useful (ok_m_useful T) (hr.mono (by decide)) rfl)).bb) (hb := (((o_lst a_nil)).vv).bb))))))))))))⟩) hl
end
end Ag


namespace Ag
open PySem L2 PyProof.Rows
theorem txt_mk {K : PySem.W.Frag} {h : Heap} {mg : Str → Option Value} (X : K.In h) (G : h.Ns mainGlobals mg)
    {c0 c1 c2 c3 c4 cR : Addr} {t_MOST_THINGS : Tok} {CS : Addr} {e0 : Addr} {ocm0 : Value} {odm0 anm0 : Option Addr} {slm0 : Array (Option Value)} {kVm0 dcm0 pmm0 cdm0 ctm0 : Value} {e1 : Addr} {ocm1 : Value} {odm1 anm1 : Option Addr} {slm1 : Array (Option Value)} {kVm1 dcm1 pmm1 cdm1 ctm1 : Value} {e2 : Addr} {ocm2 : Value} {odm2 anm2 : Option Addr} {slm2 : Array (Option Value)} {kVm2 dcm2 pmm2 cdm2 ctm2 : Value} {e3 : Addr} {ocm3 : Value} {odm3 anm3 : Option Addr} {slm3 : Array (Option Value)} {kVm3 dcm3 pmm3 cdm3 ctm3 : Value} {e4 : Addr} {ocm4 : Value} {odm4 anm4 : Option Addr} {slm4 : Array (Option Value)} {kVm4 dcm4 pmm4 cdm4 ctm4 : Value} {e5 : Addr} {ocm5 : Value} {odm5 anm5 : Option Addr} {slm5 : Array (Option Value)} {kVm5 dcm5 pmm5 cdm5 ctm5 : Value} {e6 : Addr} {ocm6 : Value} {odm6 anm6 : Option Addr} {slm6 : Array (Option Value)} {kVm6 dcm6 pmm6 cdm6 ctm6 : Value} {f8 : Addr} {oc8 : Value} {od8 an8 : Option Addr} {sl8 : Array (Option Value)} {kV8 dc8 pm8 cd8 ct8 : Value} {f9 : Addr} {oc9 : Value} {od9 an9 : Option Addr} {sl9 : Array (Option Value)} {kV9 dc9 pm9 cd9 ct9 : Value} {f10 : Addr} {oc10 : Value} {od10 an10 : Option Addr} {sl10 : Array (Option Value)} {kV10 dc10 pm10 cd10 ct10 : Value} {f11 : Addr} {oc11 : Value} {od11 an11 : Option Addr} {sl11 : Array (Option Value)} {kV11 dc11 pm11 cd11 ct11 : Value} {f13 : Addr} {oc13 : Value} {od13 an13 : Option Addr} {sl13 : Array (Option Value)} {kV13 dc13 pm13 cd13 ct13 : Value} {f16 : Addr} {oc16 : Value} {od16 an16 : Option Addr} {sl16 : Array (Option Value)} {kV16 dc16 pm16 cd16 ct16 : Value} {f18 : Addr} {oc18 : Value} {od18 an18 : Option Addr} {sl18 : Array (Option Value)} {kV18 dc18 pm18 cd18 ct18 : Value} {f19 : Addr} {oc19 : Value} {od19 an19 : Option Addr} {sl19 : Array (Option Value)} {kV19 dc19 pm19 cd19 ct19 : Value} {f20 : Addr} {oc20 : Value} {od20 an20 : Option Addr} {sl20 : Array (Option Value)} {kV20 dc20 pm20 cd20 ct20 : Value} {f21 : Addr} {oc21 : Value} {od21 an21 : Option Addr} {sl21 : Array (Option Value)} {kV21 dc21 pm21 cd21 ct21 : Value} {f22 : Addr} {oc22 : Value} {od22 an22 : Option Addr} {sl22 : Array (Option Value)} {kV22 dc22 pm22 cd22 ct22 : Value} {f23 : Addr} {oc23 : Value} {od23 an23 : Option Addr} {sl23 : Array (Option Value)} {kV23 dc23 pm23 cd23 ct23 : Value} {f24 : Addr} {oc24 : Value} {od24 an24 : Option Addr} {sl24 : Array (Option Value)} {kV24 dc24 pm24 cd24 ct24 : Value} {f25 : Addr} {oc25 : Value} {od25 an25 : Option Addr} {sl25 : Array (Option Value)} {kV25 dc25 pm25 cd25 ct25 : Value} {f26 : Addr} {oc26 : Value} {od26 an26 : Option Addr} {sl26 : Array (Option Value)} {kV26 dc26 pm26 cd26 ct26 : Value}
    (xg0 : PySem.W.nsIn K mainGlobals "BadRanking" = some (some (.ref c0)))
    (xg1 : PySem.W.nsIn K mainGlobals "BadScores" = some (some (.ref c1)))
    (xg2 : PySem.W.nsIn K mainGlobals "BadNumber" = some (some (.ref c2)))
    (xg3 : PySem.W.nsIn K mainGlobals "BadText" = some (some (.ref c3)))
    (xg4 : PySem.W.nsIn K mainGlobals "NotFound" = some (some (.ref c4)))
    (xgR : PySem.W.nsIn K mainGlobals "RankError" = some (some (.ref cR)))
    (xvE : PySem.W.nsIn K mainGlobals "ValueError" = some none)
    (xsn : PySem.W.specialIn K (.builtin "object.__class__") "__get__" = some (some (.builtin "getset_descriptor.__get__")))
    (xst : PySem.W.takesIn K (.builtin "object.__class__") = some true)
    (xk0 : PySem.W.keepIn K (.ref c0) = true)
    (xe0 : PySem.W.excIn K c0 [.type "ValueError", .type "Exception", .type "BaseException", .type "object"] "ValueError.__new__" = true)
    (xt0 : PySem.W.typeIn K (.ref c0) = some (.type "type"))
    (xa0 : PySem.W.findIn K (.ref c0) "__getattribute__" = some (some (.builtin "BaseException.__getattribute__")))
    (xb0 : PySem.W.findIn K (.ref c0) "__getattr__" = some none)
    (xs0 : PySem.W.subIn K (.ref c0) (.type "BaseException") = some true)
    (xd0 : PySem.W.hasDictIn K c0 = true)
    (xc0 : PySem.W.findIn K (.ref c0) "__class__" = some (some (.builtin "object.__class__")))
    (xm0 : PySem.W.mroIn K c0 (.type "object") = some true)
    (xR0 : PySem.W.subIn K (.ref c0) (.ref cR) = some true)
    (xV0 : PySem.W.subIn K (.ref c0) (.type "ValueError") = some true)
    (x00 : PySem.W.subIn K (.ref c0) (.ref c0) = some true)
    (x01 : PySem.W.subIn K (.ref c0) (.ref c1) = some false)
    (x02 : PySem.W.subIn K (.ref c0) (.ref c2) = some false)
    (x03 : PySem.W.subIn K (.ref c0) (.ref c3) = some false)
    (x04 : PySem.W.subIn K (.ref c0) (.ref c4) = some false)
    (xk1 : PySem.W.keepIn K (.ref c1) = true)
    (xe1 : PySem.W.excIn K c1 [.type "ValueError", .type "Exception", .type "BaseException", .type "object"] "ValueError.__new__" = true)
    (xt1 : PySem.W.typeIn K (.ref c1) = some (.type "type"))
    (xa1 : PySem.W.findIn K (.ref c1) "__getattribute__" = some (some (.builtin "BaseException.__getattribute__")))
    (xb1 : PySem.W.findIn K (.ref c1) "__getattr__" = some none)
    (xs1 : PySem.W.subIn K (.ref c1) (.type "BaseException") = some true)
    (xd1 : PySem.W.hasDictIn K c1 = true)
    (xc1 : PySem.W.findIn K (.ref c1) "__class__" = some (some (.builtin "object.__class__")))
    (xm1 : PySem.W.mroIn K c1 (.type "object") = some true)
    (xR1 : PySem.W.subIn K (.ref c1) (.ref cR) = some true)
    (xV1 : PySem.W.subIn K (.ref c1) (.type "ValueError") = some true)
    (x10 : PySem.W.subIn K (.ref c1) (.ref c0) = some false)
    (x11 : PySem.W.subIn K (.ref c1) (.ref c1) = some true)
    (x12 : PySem.W.subIn K (.ref c1) (.ref c2) = some false)
    (x13 : PySem.W.subIn K (.ref c1) (.ref c3) = some false)
    (x14 : PySem.W.subIn K (.ref c1) (.ref c4) = some false)
    (xk2 : PySem.W.keepIn K (.ref c2) = true)
    (xe2 : PySem.W.excIn K c2 [.type "ValueError", .type "Exception", .type "BaseException", .type "object"] "ValueError.__new__" = true)
    (xt2 : PySem.W.typeIn K (.ref c2) = some (.type "type"))
    (xa2 : PySem.W.findIn K (.ref c2) "__getattribute__" = some (some (.builtin "BaseException.__getattribute__")))
    (xb2 : PySem.W.findIn K (.ref c2) "__getattr__" = some none)
    (xs2 : PySem.W.subIn K (.ref c2) (.type "BaseException") = some true)
    (xd2 : PySem.W.hasDictIn K c2 = true)
    (xc2 : PySem.W.findIn K (.ref c2) "__class__" = some (some (.builtin "object.__class__")))
    (xm2 : PySem.W.mroIn K c2 (.type "object") = some true)
    (xR2 : PySem.W.subIn K (.ref c2) (.ref cR) = some true)
    (xV2 : PySem.W.subIn K (.ref c2) (.type "ValueError") = some true)
    (x20 : PySem.W.subIn K (.ref c2) (.ref c0) = some false)
    (x21 : PySem.W.subIn K (.ref c2) (.ref c1) = some false)
    (x22 : PySem.W.subIn K (.ref c2) (.ref c2) = some true)
    (x23 : PySem.W.subIn K (.ref c2) (.ref c3) = some false)
    (x24 : PySem.W.subIn K (.ref c2) (.ref c4) = some false)
    (xk3 : PySem.W.keepIn K (.ref c3) = true)
    (xe3 : PySem.W.excIn K c3 [.type "ValueError", .type "Exception", .type "BaseException", .type "object"] "ValueError.__new__" = true)
    (xt3 : PySem.W.typeIn K (.ref c3) = some (.type "type"))
    (xa3 : PySem.W.findIn K (.ref c3) "__getattribute__" = some (some (.builtin "BaseException.__getattribute__")))
    (xb3 : PySem.W.findIn K (.ref c3) "__getattr__" = some none)
    (xs3 : PySem.W.subIn K (.ref c3) (.type "BaseException") = some true)
    (xd3 : PySem.W.hasDictIn K c3 = true)
    (xc3 : PySem.W.findIn K (.ref c3) "__class__" = some (some (.builtin "object.__class__")))
    (xm3 : PySem.W.mroIn K c3 (.type "object") = some true)
    (xR3 : PySem.W.subIn K (.ref c3) (.ref cR) = some true)
    (xV3 : PySem.W.subIn K (.ref c3) (.type "ValueError") = some true)
    (x30 : PySem.W.subIn K (.ref c3) (.ref c0) = some false)
    (x31 : PySem.W.subIn K (.ref c3) (.ref c1) = some false)
    (x32 : PySem.W.subIn K (.ref c3) (.ref c2) = some false)
    (x33 : PySem.W.subIn K (.ref c3) (.ref c3) = some true)
    (x34 : PySem.W.subIn K (.ref c3) (.ref c4) = some false)
    (xk4 : PySem.W.keepIn K (.ref c4) = true)
    (xe4 : PySem.W.excIn K c4 [.type "ValueError", .type "Exception", .type "BaseException", .type "object"] "ValueError.__new__" = true)
    (xt4 : PySem.W.typeIn K (.ref c4) = some (.type "type"))
    (xa4 : PySem.W.findIn K (.ref c4) "__getattribute__" = some (some (.builtin "BaseException.__getattribute__")))
    (xb4 : PySem.W.findIn K (.ref c4) "__getattr__" = some none)
    (xs4 : PySem.W.subIn K (.ref c4) (.type "BaseException") = some true)
    (xd4 : PySem.W.hasDictIn K c4 = true)
    (xc4 : PySem.W.findIn K (.ref c4) "__class__" = some (some (.builtin "object.__class__")))
    (xm4 : PySem.W.mroIn K c4 (.type "object") = some true)
    (xR4 : PySem.W.subIn K (.ref c4) (.ref cR) = some true)
    (xV4 : PySem.W.subIn K (.ref c4) (.type "ValueError") = some true)
    (x40 : PySem.W.subIn K (.ref c4) (.ref c0) = some false)
    (x41 : PySem.W.subIn K (.ref c4) (.ref c1) = some false)
    (x42 : PySem.W.subIn K (.ref c4) (.ref c2) = some false)
    (x43 : PySem.W.subIn K (.ref c4) (.ref c3) = some false)
    (x44 : PySem.W.subIn K (.ref c4) (.ref c4) = some true)
    (xRb : PySem.W.subIn K (.ref cR) (.type "BaseException") = some true)
    (xRd : PySem.W.hasDictIn K cR = true)
    (xRt : PySem.W.typeIn K (.ref cR) = some (.type "type"))
    (z_all : PySem.W.nsIn K mainGlobals "all" = some none)
    (z_bool : PySem.W.nsIn K mainGlobals "bool" = some none)
    (z_int : PySem.W.nsIn K mainGlobals "int" = some none)
    (z_isinstance : PySem.W.nsIn K mainGlobals "isinstance" = some none)
    (z_len : PySem.W.nsIn K mainGlobals "len" = some none)
    (z_list : PySem.W.nsIn K mainGlobals "list" = some none)
    (z_range : PySem.W.nsIn K mainGlobals "range" = some none)
    (z_sorted : PySem.W.nsIn K mainGlobals "sorted" = some none)
    (y_MOST_THINGS : PySem.W.nsIn K mainGlobals "MOST_THINGS" = some (some (.int 7 t_MOST_THINGS)))
    (sg : PySem.W.nsIn K mainGlobals "Sorter" = some (some (.ref CS)))
    (spg : PySem.W.plainGet K CS Str.empty = true)
    (shd : PySem.W.hasDictIn K CS = true)
    (spo : PySem.W.plainOver K CS = true)
    (ssa : PySem.W.findIn K (.ref CS) "__setattr__" = some (some (.builtin "object.__setattr__")))
    (smk : PySem.W.makesIn K CS = true)
    (skc : PySem.W.keepIn K (.ref CS) = true)
    (sn1 : PySem.W.findIn K (.ref CS) "now" = some none)
    (sn2 : PySem.W.findIn K (.ref CS) "goal" = some none)
    (sn3 : PySem.W.findIn K (.ref CS) "made" = some none)
    (ea0 : PySem.W.findIn K (.ref CS) "__init__" = some (some (.ref e0)))
    (ei0 : PySem.W.isFn K (.ref e0) = true)
    (el0 : K.lookup e0 = some ⟨ocm0, odm0, .func (PySem.W.fnOf "__init__" "Sorter.__init__" (defArgs (metS 0)) (defBody (metS 0)) (defScope (metS 0)) .none kVm0 dcm0 pmm0 anm0 cdm0 ctm0), slm0⟩)
    (ec0 : PySem.W.codeIn K cdm0 "Sorter.__init__" = true)
    (ek0 : PySem.W.keepIn K (.ref e0) = true)
    (ea1 : PySem.W.findIn K (.ref CS) "exchange" = some (some (.ref e1)))
    (ei1 : PySem.W.isFn K (.ref e1) = true)
    (el1 : K.lookup e1 = some ⟨ocm1, odm1, .func (PySem.W.fnOf "exchange" "Sorter.exchange" (defArgs (metS 1)) (defBody (metS 1)) (defScope (metS 1)) .none kVm1 dcm1 pmm1 anm1 cdm1 ctm1), slm1⟩)
    (ec1 : PySem.W.codeIn K cdm1 "Sorter.exchange" = true)
    (ek1 : PySem.W.keepIn K (.ref e1) = true)
    (ea2 : PySem.W.findIn K (.ref CS) "ranking" = some (some (.ref e2)))
    (ei2 : PySem.W.isFn K (.ref e2) = true)
    (el2 : K.lookup e2 = some ⟨ocm2, odm2, .func (PySem.W.fnOf "ranking" "Sorter.ranking" (defArgs (metS 2)) (defBody (metS 2)) (defScope (metS 2)) .none kVm2 dcm2 pmm2 anm2 cdm2 ctm2), slm2⟩)
    (ec2 : PySem.W.codeIn K cdm2 "Sorter.ranking" = true)
    (ek2 : PySem.W.keepIn K (.ref e2) = true)
    (ea3 : PySem.W.findIn K (.ref CS) "left" = some (some (.ref e3)))
    (ei3 : PySem.W.isFn K (.ref e3) = true)
    (el3 : K.lookup e3 = some ⟨ocm3, odm3, .func (PySem.W.fnOf "left" "Sorter.left" (defArgs (metS 3)) (defBody (metS 3)) (defScope (metS 3)) .none kVm3 dcm3 pmm3 anm3 cdm3 ctm3), slm3⟩)
    (ec3 : PySem.W.codeIn K cdm3 "Sorter.left" = true)
    (ek3 : PySem.W.keepIn K (.ref e3) = true)
    (ea4 : PySem.W.findIn K (.ref CS) "useful" = some (some (.ref e4)))
    (ei4 : PySem.W.isFn K (.ref e4) = true)
    (el4 : K.lookup e4 = some ⟨ocm4, odm4, .func (PySem.W.fnOf "useful" "Sorter.useful" (defArgs (metS 4)) (defBody (metS 4)) (defScope (metS 4)) .none kVm4 dcm4 pmm4 anm4 cdm4 ctm4), slm4⟩)
    (ec4 : PySem.W.codeIn K cdm4 "Sorter.useful" = true)
    (ek4 : PySem.W.keepIn K (.ref e4) = true)
    (ea5 : PySem.W.findIn K (.ref CS) "undo" = some (some (.ref e5)))
    (ei5 : PySem.W.isFn K (.ref e5) = true)
    (el5 : K.lookup e5 = some ⟨ocm5, odm5, .func (PySem.W.fnOf "undo" "Sorter.undo" (defArgs (metS 5)) (defBody (metS 5)) (defScope (metS 5)) .none kVm5 dcm5 pmm5 anm5 cdm5 ctm5), slm5⟩)
    (ec5 : PySem.W.codeIn K cdm5 "Sorter.undo" = true)
    (ek5 : PySem.W.keepIn K (.ref e5) = true)
    (ea6 : PySem.W.findIn K (.ref CS) "__len__" = some (some (.ref e6)))
    (ei6 : PySem.W.isFn K (.ref e6) = true)
    (el6 : K.lookup e6 = some ⟨ocm6, odm6, .func (PySem.W.fnOf "__len__" "Sorter.__len__" (defArgs (metS 6)) (defBody (metS 6)) (defScope (metS 6)) .none kVm6 dcm6 pmm6 anm6 cdm6 ctm6), slm6⟩)
    (ec6 : PySem.W.codeIn K cdm6 "Sorter.__len__" = true)
    (ek6 : PySem.W.keepIn K (.ref e6) = true)
    (a8 : PySem.W.nsIn K mainGlobals "is_int" = some (some (.ref f8)))
    (l8 : K.lookup f8 = some ⟨oc8, od8, .func (PySem.W.fnOf "is_int" "is_int" (defArgs (topS 8)) (defBody (topS 8)) (defScope (topS 8)) .none kV8 dc8 pm8 an8 cd8 ct8), sl8⟩)
    (c8 : PySem.W.codeIn K cd8 "is_int" = true)
    (k8 : PySem.W.keepIn K (.ref f8) = true)
    (a9 : PySem.W.nsIn K mainGlobals "is_ranking" = some (some (.ref f9)))
    (l9 : K.lookup f9 = some ⟨oc9, od9, .func (PySem.W.fnOf "is_ranking" "is_ranking" (defArgs (topS 9)) (defBody (topS 9)) (defScope (topS 9)) .none kV9 dc9 pm9 an9 cd9 ct9), sl9⟩)
    (c9 : PySem.W.codeIn K cd9 "is_ranking" = true)
    (k9 : PySem.W.keepIn K (.ref f9) = true)
    (a10 : PySem.W.nsIn K mainGlobals "check_ranking" = some (some (.ref f10)))
    (l10 : K.lookup f10 = some ⟨oc10, od10, .func (PySem.W.fnOf "check_ranking" "check_ranking" (defArgs (topS 10)) (defBody (topS 10)) (defScope (topS 10)) .none kV10 dc10 pm10 an10 cd10 ct10), sl10⟩)
    (c10 : PySem.W.codeIn K cd10 "check_ranking" = true)
    (k10 : PySem.W.keepIn K (.ref f10) = true)
    (a11 : PySem.W.nsIn K mainGlobals "check_both" = some (some (.ref f11)))
    (l11 : K.lookup f11 = some ⟨oc11, od11, .func (PySem.W.fnOf "check_both" "check_both" (defArgs (topS 11)) (defBody (topS 11)) (defScope (topS 11)) .none kV11 dc11 pm11 an11 cd11 ct11), sl11⟩)
    (c11 : PySem.W.codeIn K cd11 "check_both" = true)
    (k11 : PySem.W.keepIn K (.ref f11) = true)
    (a13 : PySem.W.nsIn K mainGlobals "against" = some (some (.ref f13)))
    (l13 : K.lookup f13 = some ⟨oc13, od13, .func (PySem.W.fnOf "against" "against" (defArgs (topS 13)) (defBody (topS 13)) (defScope (topS 13)) .none kV13 dc13 pm13 an13 cd13 ct13), sl13⟩)
    (c13 : PySem.W.codeIn K cd13 "against" = true)
    (k13 : PySem.W.keepIn K (.ref f13) = true)
    (a16 : PySem.W.nsIn K mainGlobals "exchanged" = some (some (.ref f16)))
    (l16 : K.lookup f16 = some ⟨oc16, od16, .func (PySem.W.fnOf "exchanged" "exchanged" (defArgs (topS 16)) (defBody (topS 16)) (defScope (topS 16)) .none kV16 dc16 pm16 an16 cd16 ct16), sl16⟩)
    (c16 : PySem.W.codeIn K cd16 "exchanged" = true)
    (k16 : PySem.W.keepIn K (.ref f16) = true)
    (a18 : PySem.W.nsIn K mainGlobals "_law_start" = some (some (.ref f18)))
    (l18 : K.lookup f18 = some ⟨oc18, od18, .func (PySem.W.fnOf "_law_start" "_law_start" (defArgs (topS 18)) (defBody (topS 18)) (defScope (topS 18)) .none kV18 dc18 pm18 an18 cd18 ct18), sl18⟩)
    (c18 : PySem.W.codeIn K cd18 "_law_start" = true)
    (k18 : PySem.W.keepIn K (.ref f18) = true)
    (a19 : PySem.W.nsIn K mainGlobals "_law_draw" = some (some (.ref f19)))
    (l19 : K.lookup f19 = some ⟨oc19, od19, .func (PySem.W.fnOf "_law_draw" "_law_draw" (defArgs (topS 19)) (defBody (topS 19)) (defScope (topS 19)) .none kV19 dc19 pm19 an19 cd19 ct19), sl19⟩)
    (c19 : PySem.W.codeIn K cd19 "_law_draw" = true)
    (k19 : PySem.W.keepIn K (.ref f19) = true)
    (a20 : PySem.W.nsIn K mainGlobals "_law_pick" = some (some (.ref f20)))
    (l20 : K.lookup f20 = some ⟨oc20, od20, .func (PySem.W.fnOf "_law_pick" "_law_pick" (defArgs (topS 20)) (defBody (topS 20)) (defScope (topS 20)) .none kV20 dc20 pm20 an20 cd20 ct20), sl20⟩)
    (c20 : PySem.W.codeIn K cd20 "_law_pick" = true)
    (k20 : PySem.W.keepIn K (.ref f20) = true)
    (a21 : PySem.W.nsIn K mainGlobals "_law_error" = some (some (.ref f21)))
    (l21 : K.lookup f21 = some ⟨oc21, od21, .func (PySem.W.fnOf "_law_error" "_law_error" (defArgs (topS 21)) (defBody (topS 21)) (defScope (topS 21)) .none kV21 dc21 pm21 an21 cd21 ct21), sl21⟩)
    (c21 : PySem.W.codeIn K cd21 "_law_error" = true)
    (k21 : PySem.W.keepIn K (.ref f21) = true)
    (a22 : PySem.W.nsIn K mainGlobals "_law_ranking" = some (some (.ref f22)))
    (l22 : K.lookup f22 = some ⟨oc22, od22, .func (PySem.W.fnOf "_law_ranking" "_law_ranking" (defArgs (topS 22)) (defBody (topS 22)) (defScope (topS 22)) .none kV22 dc22 pm22 an22 cd22 ct22), sl22⟩)
    (c22 : PySem.W.codeIn K cd22 "_law_ranking" = true)
    (k22 : PySem.W.keepIn K (.ref f22) = true)
    (a23 : PySem.W.nsIn K mainGlobals "_law_against" = some (some (.ref f23)))
    (l23 : K.lookup f23 = some ⟨oc23, od23, .func (PySem.W.fnOf "_law_against" "_law_against" (defArgs (topS 23)) (defBody (topS 23)) (defScope (topS 23)) .none kV23 dc23 pm23 an23 cd23 ct23), sl23⟩)
    (c23 : PySem.W.codeIn K cd23 "_law_against" = true)
    (k23 : PySem.W.keepIn K (.ref f23) = true)
    (a24 : PySem.W.nsIn K mainGlobals "_law_call" = some (some (.ref f24)))
    (l24 : K.lookup f24 = some ⟨oc24, od24, .func (PySem.W.fnOf "_law_call" "_law_call" (defArgs (topS 24)) (defBody (topS 24)) (defScope (topS 24)) .none kV24 dc24 pm24 an24 cd24 ct24), sl24⟩)
    (c24 : PySem.W.codeIn K cd24 "_law_call" = true)
    (k24 : PySem.W.keepIn K (.ref f24) = true)
    (a25 : PySem.W.nsIn K mainGlobals "_law_exchanged" = some (some (.ref f25)))
    (l25 : K.lookup f25 = some ⟨oc25, od25, .func (PySem.W.fnOf "_law_exchanged" "_law_exchanged" (defArgs (topS 25)) (defBody (topS 25)) (defScope (topS 25)) .none kV25 dc25 pm25 an25 cd25 ct25), sl25⟩)
    (c25 : PySem.W.codeIn K cd25 "_law_exchanged" = true)
    (k25 : PySem.W.keepIn K (.ref f25) = true)
    (a26 : PySem.W.nsIn K mainGlobals "law" = some (some (.ref f26)))
    (l26 : K.lookup f26 = some ⟨oc26, od26, .func (PySem.W.fnOf "law" "law" (defArgs (topS 26)) (defBody (topS 26)) (defScope (topS 26)) .none kV26 dc26 pm26 an26 cd26 ct26), sl26⟩)
    (c26 : PySem.W.codeIn K cd26 "law" = true)
    (k26 : PySem.W.keepIn K (.ref f26) = true) : Txt K mg (fun c => match c with | .rank => c0 | .scor => c1 | .numb => c2 | .text => c3 | .noth => c4) cR CS (fun j => match j with | 0 => e0 | 1 => e1 | 2 => e2 | 3 => e3 | 4 => e4 | 5 => e5 | 6 => e6 | _ => 0) :=
  { X := xcl_mk (fun c => match c with | .rank => ⟨PySem.W.mg_of X G xg0, xk0, xe0, xt0, ⟨xa0, xb0, xs0, xd0, xc0, xsn, xst, xm0⟩⟩ | .scor => ⟨PySem.W.mg_of X G xg1, xk1, xe1, xt1, ⟨xa1, xb1, xs1, xd1, xc1, xsn, xst, xm1⟩⟩ | .numb => ⟨PySem.W.mg_of X G xg2, xk2, xe2, xt2, ⟨xa2, xb2, xs2, xd2, xc2, xsn, xst, xm2⟩⟩ | .text => ⟨PySem.W.mg_of X G xg3, xk3, xe3, xt3, ⟨xa3, xb3, xs3, xd3, xc3, xsn, xst, xm3⟩⟩ | .noth => ⟨PySem.W.mg_of X G xg4, xk4, xe4, xt4, ⟨xa4, xb4, xs4, xd4, xc4, xsn, xst, xm4⟩⟩) (PySem.W.mg_of X G xgR) (PySem.W.mg_none_of X G xvE) (fun c c' => match c, c' with | .rank, .rank => x00 | .rank, .scor => x01 | .rank, .numb => x02 | .rank, .text => x03 | .rank, .noth => x04 | .scor, .rank => x10 | .scor, .scor => x11 | .scor, .numb => x12 | .scor, .text => x13 | .scor, .noth => x14 | .numb, .rank => x20 | .numb, .scor => x21 | .numb, .numb => x22 | .numb, .text => x23 | .numb, .noth => x24 | .text, .rank => x30 | .text, .scor => x31 | .text, .numb => x32 | .text, .text => x33 | .text, .noth => x34 | .noth, .rank => x40 | .noth, .scor => x41 | .noth, .numb => x42 | .noth, .text => x43 | .noth, .noth => x44) (fun c => match c with | .rank => xR0 | .scor => xR1 | .numb => xR2 | .text => xR3 | .noth => xR4) (fun c => match c with | .rank => xV0 | .scor => xV1 | .numb => xV2 | .text => xV3 | .noth => xV4) xRb xRd xRt,
    n_all := PySem.W.mg_none_of X G z_all,
    n_bool := PySem.W.mg_none_of X G z_bool,
    n_int := PySem.W.mg_none_of X G z_int,
    n_isinstance := PySem.W.mg_none_of X G z_isinstance,
    n_len := PySem.W.mg_none_of X G z_len,
    n_list := PySem.W.mg_none_of X G z_list,
    n_range := PySem.W.mg_none_of X G z_range,
    n_sorted := PySem.W.mg_none_of X G z_sorted,
    c_MOST_THINGS := ⟨_, PySem.W.mg_of X G y_MOST_THINGS⟩,
    S := ⟨⟨spg, shd, spo, ssa⟩, sn1, sn2, sn3⟩,
    gS := PySem.W.mg_of X G sg,
    Mk := ⟨smk, ea0, ei0, skc⟩,
    L := ⟨ea6, ei6⟩,
    M___init__ := mdfn_mk ⟨ea0, ei0, ek0⟩ el0 ec0 fun _ _ _ _ _ _ us hl => match us, hl with | [_, _, _], _ => rfl,
    M_exchange := mdfn_mk ⟨ea1, ei1, ek1⟩ el1 ec1 fun _ _ _ _ _ _ us hl => match us, hl with | [_, _], _ => rfl,
    M_ranking := mdfn_mk ⟨ea2, ei2, ek2⟩ el2 ec2 fun _ _ _ _ _ _ us hl => match us, hl with | [_], _ => rfl,
    M_left := mdfn_mk ⟨ea3, ei3, ek3⟩ el3 ec3 fun _ _ _ _ _ _ us hl => match us, hl with | [_], _ => rfl,
    M_useful := mdfn_mk ⟨ea4, ei4, ek4⟩ el4 ec4 fun _ _ _ _ _ _ us hl => match us, hl with | [_], _ => rfl,
    M_undo := mdfn_mk ⟨ea5, ei5, ek5⟩ el5 ec5 fun _ _ _ _ _ _ us hl => match us, hl with | [_], _ => rfl,
    M___len__ := mdfn_mk ⟨ea6, ei6, ek6⟩ el6 ec6 fun _ _ _ _ _ _ us hl => match us, hl with | [_], _ => rfl,
    D_is_int := dfn_mk X G a8 l8 c8 k8 fun _ _ _ _ _ _ us hl => match us, hl with | [_, _, _], _ => rfl,
    D_is_ranking := dfn_mk X G a9 l9 c9 k9 fun _ _ _ _ _ _ us hl => match us, hl with | [_], _ => rfl,
    D_check_ranking := dfn_mk X G a10 l10 c10 k10 fun _ _ _ _ _ _ us hl => match us, hl with | [_], _ => rfl,
    D_check_both := dfn_mk X G a11 l11 c11 k11 fun _ _ _ _ _ _ us hl => match us, hl with | [_, _], _ => rfl,
    D_against := dfn_mk X G a13 l13 c13 k13 fun _ _ _ _ _ _ us hl => match us, hl with | [_, _], _ => rfl,
    D_exchanged := dfn_mk X G a16 l16 c16 k16 fun _ _ _ _ _ _ us hl => match us, hl with | [_, _], _ => rfl,
    D__law_start := dfn_mk X G a18 l18 c18 k18 fun _ _ _ _ _ _ us hl => match us, hl with | [_], _ => rfl,
    D__law_draw := dfn_mk X G a19 l19 c19 k19 fun _ _ _ _ _ _ us hl => match us, hl with | [_, _], _ => rfl,
    D__law_pick := dfn_mk X G a20 l20 c20 k20 fun _ _ _ _ _ _ us hl => match us, hl with | [_, _], _ => rfl,
    D__law_error := dfn_mk X G a21 l21 c21 k21 fun _ _ _ _ _ _ us hl => match us, hl with | [_], _ => rfl,
    D__law_ranking := dfn_mk X G a22 l22 c22 k22 fun _ _ _ _ _ _ us hl => match us, hl with | [_, _], _ => rfl,
    D__law_against := dfn_mk X G a23 l23 c23 k23 fun _ _ _ _ _ _ us hl => match us, hl with | [_, _], _ => rfl,
    D__law_call := dfn_mk X G a24 l24 c24 k24 fun _ _ _ _ _ _ us hl => match us, hl with | [_, _, _], _ => rfl,
    D__law_exchanged := dfn_mk X G a25 l25 c25 k25 fun _ _ _ _ _ _ us hl => match us, hl with | [_, _], _ => rfl,
    D_law := dfn_mk X G a26 l26 c26 k26 fun _ _ _ _ _ _ us hl => match us, hl with | [_], _ => rfl }
theorem fin_mk {P : Program} {w : World} {K : PySem.W.Frag} {h : Heap} {mg : Str → Option Value} {C : Ec → Addr} {R : Addr} {CS : Addr} {FM : Nat → Addr} {fa : Addr} (X : K.In h) (G : h.Ns mainGlobals mg) (hmg : mg "law" = some (.ref fa)) (T : Txt K mg C R CS FM) :
    ∃ fd : FuncData, (∀ (s : Shared) (v : Value), BindsTo s fd ⟨[v], []⟩ [("_law_script", v)]) ∧ ∀ base : Heap, K.In base → base.Ns mainGlobals mg → FnOk P w K mg base CX0 7 fa fd ["_law_script"] (spLaw K) :=
  law_mk T.D_law hmg fun base _ _ => ok_law T (law_true (kpOf C) CS)
end Ag
open PySem PySem.W PyProof.Rows in
set_option maxRecDepth 100000 in
set_option maxHeartbeats 0 in
theorem PySem.Challenge.cw_agreeranks_k11_whole_sorters_holds : PySem.Challenge.rw_agreeranks_k11_whole_sorters.Holds := by
  w_on; o_law; k_head; (case hw => w_witness2)
  k_fill
  refine L2.walk_of (l := PySem.Challenge.rw_agreeranks_k11_whole_sorters) (n := 63) (k := 7) (x := "_law_script") (CX := fun _ => L2.CX0) (sp := fun w => Ag.spLaw _) rfl (by decide) rfl ⟨rfl, by decide, by decide⟩ (fun w h Y => PySem.W.kIn_of Y) ?F (fun _ _ a ns hl _ hS => ⟨a, ns, rfl, hS, hl, fun _ => rfl⟩) (fun _ _ _ _ _ h => h)
  case F =>
    intro w mg fa h KX G hmg
    refine' Ag.fin_mk KX G hmg (Ag.txt_mk KX G ?xg0 ?xg1 ?xg2 ?xg3 ?xg4 ?xgR ?xvE ?xsn ?xst ?xk0 ?xe0 ?xt0 ?xa0 ?xb0 ?xs0 ?xd0 ?xc0 ?xm0 ?xR0 ?xV0 ?x00 ?x01 ?x02 ?x03 ?x04 ?xk1 ?xe1 ?xt1 ?xa1 ?xb1 ?xs1 ?xd1 ?xc1 ?xm1 ?xR1 ?xV1 ?x10 ?x11 ?x12 ?x13 ?x14 ?xk2 ?xe2 ?xt2 ?xa2 ?xb2 ?xs2 ?xd2 ?xc2 ?xm2 ?xR2 ?xV2 ?x20 ?x21 ?x22 ?x23 ?x24 ?xk3 ?xe3 ?xt3 ?xa3 ?xb3 ?xs3 ?xd3 ?xc3 ?xm3 ?xR3 ?xV3 ?x30 ?x31 ?x32 ?x33 ?x34 ?xk4 ?xe4 ?xt4 ?xa4 ?xb4 ?xs4 ?xd4 ?xc4 ?xm4 ?xR4 ?xV4 ?x40 ?x41 ?x42 ?x43 ?x44 ?xRb ?xRd ?xRt ?z_all ?z_bool ?z_int ?z_isinstance ?z_len ?z_list ?z_range ?z_sorted ?y_MOST_THINGS ?sg ?spg ?shd ?spo ?ssa ?smk ?skc ?sn1 ?sn2 ?sn3 ?ea0 ?ei0 ?el0 ?ec0 ?ek0 ?ea1 ?ei1 ?el1 ?ec1 ?ek1 ?ea2 ?ei2 ?el2 ?ec2 ?ek2 ?ea3 ?ei3 ?el3 ?ec3 ?ek3 ?ea4 ?ei4 ?el4 ?ec4 ?ek4 ?ea5 ?ei5 ?el5 ?ec5 ?ek5 ?ea6 ?ei6 ?el6 ?ec6 ?ek6 ?a8 ?l8 ?c8 ?k8 ?a9 ?l9 ?c9 ?k9 ?a10 ?l10 ?c10 ?k10 ?a11 ?l11 ?c11 ?k11 ?a13 ?l13 ?c13 ?k13 ?a16 ?l16 ?c16 ?k16 ?a18 ?l18 ?c18 ?k18 ?a19 ?l19 ?c19 ?k19 ?a20 ?l20 ?c20 ?k20 ?a21 ?l21 ?c21 ?k21 ?a22 ?l22 ?c22 ?k22 ?a23 ?l23 ?c23 ?k23 ?a24 ?l24 ?c24 ?k24 ?a25 ?l25 ?c25 ?k25 ?a26 ?l26 ?c26 ?k26)
    (case xg0 => k_is)
    (case xg1 => k_is)
    (case xg2 => k_is)
    (case xg3 => k_is)
    (case xg4 => k_is)
    (case xgR => k_is)
    (case xvE => k_is)
    (case xsn => k_is)
    (case xst => k_is)
    (case xk0 => k_is)
    (case xe0 => k_exc)
    (case xt0 => k_is)
    (case xa0 => k_is)
    (case xb0 => k_is)
    (case xs0 => k_is)
    (case xd0 => k_is)
    (case xc0 => k_is)
    (case xm0 => k_is)
    (case xR0 => k_is)
    (case xV0 => k_is)
    (case x00 => k_is)
    (case x01 => k_is)
    (case x02 => k_is)
    (case x03 => k_is)
    (case x04 => k_is)
    (case xk1 => k_is)
    (case xe1 => k_exc)
    (case xt1 => k_is)
    (case xa1 => k_is)
    (case xb1 => k_is)
    (case xs1 => k_is)
    (case xd1 => k_is)
    (case xc1 => k_is)
    (case xm1 => k_is)
    (case xR1 => k_is)
    (case xV1 => k_is)
    (case x10 => k_is)
    (case x11 => k_is)
    (case x12 => k_is)
    (case x13 => k_is)
    (case x14 => k_is)
    (case xk2 => k_is)
    (case xe2 => k_exc)
    (case xt2 => k_is)
    (case xa2 => k_is)
    (case xb2 => k_is)
    (case xs2 => k_is)
    (case xd2 => k_is)
    (case xc2 => k_is)
    (case xm2 => k_is)
    (case xR2 => k_is)
    (case xV2 => k_is)
    (case x20 => k_is)
    (case x21 => k_is)
    (case x22 => k_is)
    (case x23 => k_is)
    (case x24 => k_is)
    (case xk3 => k_is)
    (case xe3 => k_exc)
    (case xt3 => k_is)
    (case xa3 => k_is)
    (case xb3 => k_is)
    (case xs3 => k_is)
    (case xd3 => k_is)
    (case xc3 => k_is)
    (case xm3 => k_is)
    (case xR3 => k_is)
    (case xV3 => k_is)
    (case x30 => k_is)
    (case x31 => k_is)
    (case x32 => k_is)
    (case x33 => k_is)
    (case x34 => k_is)
    (case xk4 => k_is)
    (case xe4 => k_exc)
    (case xt4 => k_is)
    (case xa4 => k_is)
    (case xb4 => k_is)
    (case xs4 => k_is)
    (case xd4 => k_is)
    (case xc4 => k_is)
    (case xm4 => k_is)
    (case xR4 => k_is)
    (case xV4 => k_is)
    (case x40 => k_is)
    (case x41 => k_is)
    (case x42 => k_is)
    (case x43 => k_is)
    (case x44 => k_is)
    (case xRb => k_is)
    (case xRd => k_is)
    (case xRt => k_is)
    (case z_all => k_is)
    (case z_bool => k_is)
    (case z_int => k_is)
    (case z_isinstance => k_is)
    (case z_len => k_is)
    (case z_list => k_is)
    (case z_range => k_is)
    (case z_sorted => k_is)
    (case y_MOST_THINGS => k_is)
    (case sg => k_is)
    (case spg => k_is)
    (case shd => k_is)
    (case spo => k_is)
    (case ssa => k_is)
    (case smk => k_is)
    (case skc => k_is)
    (case sn1 => k_is)
    (case sn2 => k_is)
    (case sn3 => k_is)
    (case ea0 => k_is)
    (case ei0 => k_is)
    (case el0 => k_is)
    (case ec0 => k_is)
    (case ek0 => k_is)
    (case ea1 => k_is)
    (case ei1 => k_is)
    (case el1 => k_is)
    (case ec1 => k_is)
    (case ek1 => k_is)
    (case ea2 => k_is)
    (case ei2 => k_is)
    (case el2 => k_is)
    (case ec2 => k_is)
    (case ek2 => k_is)
    (case ea3 => k_is)
    (case ei3 => k_is)
    (case el3 => k_is)
    (case ec3 => k_is)
    (case ek3 => k_is)
    (case ea4 => k_is)
    (case ei4 => k_is)
    (case el4 => k_is)
    (case ec4 => k_is)
    (case ek4 => k_is)
    (case ea5 => k_is)
    (case ei5 => k_is)
    (case el5 => k_is)
    (case ec5 => k_is)
    (case ek5 => k_is)
    (case ea6 => k_is)
    (case ei6 => k_is)
    (case el6 => k_is)
    (case ec6 => k_is)
    (case ek6 => k_is)
    (case a8 => k_is)
    (case l8 => k_is)
    (case c8 => k_is)
    (case k8 => k_is)
    (case a9 => k_is)
    (case l9 => k_is)
    (case c9 => k_is)
    (case k9 => k_is)
    (case a10 => k_is)
    (case l10 => k_is)
    (case c10 => k_is)
    (case k10 => k_is)
    (case a11 => k_is)
    (case l11 => k_is)
    (case c11 => k_is)
    (case k11 => k_is)
    (case a13 => k_is)
    (case l13 => k_is)
    (case c13 => k_is)
    (case k13 => k_is)
    (case a16 => k_is)
    (case l16 => k_is)
    (case c16 => k_is)
    (case k16 => k_is)
    (case a18 => k_is)
    (case l18 => k_is)
    (case c18 => k_is)
    (case k18 => k_is)
    (case a19 => k_is)
    (case l19 => k_is)
    (case c19 => k_is)
    (case k19 => k_is)
    (case a20 => k_is)
    (case l20 => k_is)
    (case c20 => k_is)
    (case k20 => k_is)
    (case a21 => k_is)
    (case l21 => k_is)
    (case c21 => k_is)
    (case k21 => k_is)
    (case a22 => k_is)
    (case l22 => k_is)
    (case c22 => k_is)
    (case k22 => k_is)
    (case a23 => k_is)
    (case l23 => k_is)
    (case c23 => k_is)
    (case k23 => k_is)
    (case a24 => k_is)
    (case l24 => k_is)
    (case c24 => k_is)
    (case k24 => k_is)
    (case a25 => k_is)
    (case l25 => k_is)
    (case c25 => k_is)
    (case k25 => k_is)
    (case a26 => k_is)
    (case l26 => k_is)
    (case c26 => k_is)
    (case k26 => k_is)

