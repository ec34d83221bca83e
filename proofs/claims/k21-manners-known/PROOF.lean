import PyProof.Rows.All
import Wide.All
import OpenK.AllK
import Wide.FinOn
import HandS.ForExc
import HandS.ForMost
import HandS.Deep
import HandS.Lambda
import HandS.TupAny
import HandS.TupLe
import HandS.TupMul
import HandS.Style
import KE.KxIndex
import HandS.IsInst
import HandS.RaiseMore
import HandS.Flow
import HandS.Zip
import HandS.WordsDict
import KE.SortData
import KE.GoesEnum
import HandS.GenList
import HandS.GenYield
import PyProof.GenComp
import HandS.SetFor
import HandS.SetTxt0
import PyProof.Rows.StrFin3
import PyProof.Rows.RegReprOcc
import PyProof.ListStr
import PyProof.TupleOfStr
import HandS.More
import HandS.HotCalls
import HandS.ExcIs
import HandS.EndTab
import PySem.Challenge.RW_saydigits_k21_manners_known
set_option Elab.async false
set_option linter.all false
set_option maxRecDepth 100000
set_option maxHeartbeats 4000000

namespace M
open PySem PySem.Spec PyProof.Rows L2

/-! ### what a value denotes, read in a frozen part of the heap -/
mutual
inductive Dn (K : PySem.W.Frag) (F : Hp) : V → PyData → Prop
  | non : Dn K F .non .none
  | bl (b : Bool) : Dn K F (.bl b) (.bool b)
  | int (i : Int) : Dn K F (.int i) (.int i)
  | str (x : Str) (h : PyData.strOk x = true) : Dn K F (.str x) (.str x)
  | lst {a : Addr} {xs : List V} {ds : List PyData} : SqL K F a xs → DnAll K F xs ds → Dn K F (.ref a) (.list ds)
  | tup {a : Addr} {xs : List V} {ds : List PyData} : SqT K F a xs → DnAll K F xs ds → Dn K F (.ref a) (.tuple ds)
  | dic {a : Addr} {kvs : List (Key × V)} {ds : List (PyData × PyData)} : F a = some (.dK kvs) → DnKv K F kvs ds → Dn K F (.ref a) (.dict ds)
inductive DnAll (K : PySem.W.Frag) (F : Hp) : List V → List PyData → Prop
  | nil : DnAll K F [] []
  | cons {v : V} {vs : List V} {d : PyData} {ds : List PyData} : Dn K F v d → DnAll K F vs ds → DnAll K F (v :: vs) (d :: ds)
inductive DnKv (K : PySem.W.Frag) (F : Hp) : List (Key × V) → List (PyData × PyData) → Prop
  | nil : DnKv K F [] []
  | cons {k : Key} {v : V} {vs : List (Key × V)} {e d : PyData} {ds : List (PyData × PyData)} : Dn K F (kV k) e → Dn K F v d → DnKv K F vs ds → DnKv K F ((k, v) :: vs) ((e, d) :: ds)
end

/-! ### tables of code objects: in the frozen part a mark with the name that the lambdas bear -/
def isTbl : HO → Bool
  | .tbl _ => true
  | _ => false
def Mk (q : Str) : HO := .tbl #[.str q 0]
/-- all but tables stay -/
def SameN (H H' : Hp) : Prop := ∀ b o, H b = some o → isTbl o = false → H' b = some o
theorem SameN.refl (H : Hp) : SameN H H := fun _ _ h _ => h
theorem SameN.trans {H H1 H2 : Hp} (a : SameN H H1) (b : SameN H1 H2) : SameN H H2 := fun c o h n => b c o (a c o h n) n
theorem same_n {H H' : Hp} (e : Same H H') : SameN H H' := fun b o h _ => e b o h
/-- the frozen part lies in the heap -/
structure Lies (F H : Hp) : Prop where
  e : SameN F H
  t : ∀ P q, F P = some (Mk q) → LamX.TabS H P q
  m : ∀ P ps, F P = some (.tbl ps) → ∃ q : Str, ps = #[.str q 0]
theorem Lies.free {F H : Hp} (s : Lies F H) {p : Addr} (h : H p = none) : F p = none := by
  cases e : F p with
  | none => rfl
  | some o =>
    cases z : isTbl o with
    | false => rw [s.e p o e z] at h; cases h
    | true =>
      cases o <;> first | cases z | skip
      rename_i ps
      obtain ⟨q, rfl⟩ := s.m p ps e
      obtain ⟨ps', h1, _⟩ := s.t p q e
      rw [h1] at h; cases h
/-- F grows to F', H to H': what stood stands (tables may grow), and what is newly frozen was not there -/
structure Step (F H F' H' : Hp) : Prop where
  f : Same F F'
  h0 : SameN H H'
  fr : ∀ b, H' b = none → H b = none
  s : Lies F' H'
  n0 : ∀ p, H p ≠ none → F p = none → F' p = none
section
variable {K : PySem.W.Frag} {F F' F'' H H' H'' : Hp}
theorem Step.refl (s : Lies F H) : Step F H F H := ⟨Same.refl _, SameN.refl _, fun _ h => h, s, fun _ _ h => h⟩
theorem Step.trans (a : Step F H F' H') (b : Step F' H' F'' H'') : Step F H F'' H'' :=
  ⟨a.f.trans b.f, a.h0.trans b.h0, fun p h => a.fr p (b.fr p h), b.s, fun p h1 h2 => b.n0 p (fun z => h1 (a.fr p z)) (a.n0 p h1 h2)⟩
theorem Step.h (a : Step F H F' H') : ∀ b o, H b = some o → (z : isTbl o = false := by rfl) → H' b = some o := fun b o h z => a.h0 b o h z
theorem Step.n (a : Step F H F' H') : ∀ p o, H p = some o → F p = none → F' p = none := fun p o h k => a.n0 p (by rw [h]; exact Option.some_ne_none o) k
theorem Rd.same {a : Addr} {u : HO} (z : isTbl u = false) (e : SameN F F') (h : Rd F a u) : Rd F' a u := by
  rcases h with h | ⟨o, h⟩
  · exact .inl (e _ _ h z)
  · exact .inr ⟨o, e _ _ h rfl⟩
theorem seqTN {a : Addr} {xs : List V} (e : SameN F F') (h : SqT K F a xs) : SqT K F' a xs := by
  rcases h with h | h
  · exact .inl (Rd.same rfl e h)
  · exact .inr h
theorem seqLN {a : Addr} {xs : List V} (e : SameN F F') (h : SqL K F a xs) : SqL K F' a xs := by
  rcases h with h | h
  · exact .inl (Rd.same rfl e h)
  · exact .inr h
theorem seqT {a : Addr} {xs : List V} (e : Lies F F') (h : SqT K F a xs) : SqT K F' a xs := seqTN e.e h
theorem seqL {a : Addr} {xs : List V} (e : Lies F F') (h : SqL K F a xs) : SqL K F' a xs := seqLN e.e h
mutual
theorem Dn.same (e : SameN F F') : ∀ (d : PyData) (v : V), Dn K F v d → Dn K F' v d
  | .none, _, h => by cases h; exact .non
  | .bool b, _, h => by cases h; exact .bl b
  | .int i, _, h => by cases h; exact .int i
  | .str x, _, h => by cases h with | str _ hx => exact .str x hx
  | .list ds, _, h => by cases h with | lst a b => exact .lst (seqLN e a) (DnAll.same e ds _ b)
  | .tuple ds, _, h => by cases h with | tup a b => exact .tup (seqTN e a) (DnAll.same e ds _ b)
  | .dict ds, _, h => by cases h with | dic a b => exact .dic (e _ _ a rfl) (DnKv.same e ds _ b)
theorem DnAll.same (e : SameN F F') : ∀ (ds : List PyData) (vs : List V), DnAll K F vs ds → DnAll K F' vs ds
  | [], _, h => by cases h; exact .nil
  | d :: ds, _, h => by cases h with | cons a b => exact .cons (Dn.same e d _ a) (DnAll.same e ds _ b)
theorem DnKv.same (e : SameN F F') : ∀ (ds : List (PyData × PyData)) (vs : List (Key × V)), DnKv K F vs ds → DnKv K F' vs ds
  | [], _, h => by cases h; exact .nil
  | (e1, d) :: ds, _, h => by cases h with | cons a b c => exact .cons (Dn.same e e1 _ a) (Dn.same e d _ b) (DnKv.same e ds _ c)
end
theorem Dn.mv {v : V} {d : PyData} (e : Same F F') (h : Dn K F v d) : Dn K F' v d := Dn.same (same_n e) d v h
theorem DnAll.mv {v : List V} {d : List PyData} (e : Same F F') (h : DnAll K F v d) : DnAll K F' v d := DnAll.same (same_n e) d v h
theorem DnKv.mv {v : List (Key × V)} {d : List (PyData × PyData)} (e : Same F F') (h : DnKv K F v d) : DnKv K F' v d := DnKv.same (same_n e) d v h
theorem Dn.lv {v : V} {d : PyData} (e : Lies F F') (h : Dn K F v d) : Dn K F' v d := Dn.same e.e d v h
theorem DnAll.lv {v : List V} {d : List PyData} (e : Lies F F') (h : DnAll K F v d) : DnAll K F' v d := DnAll.same e.e d v h
theorem DnKv.lv {v : List (Key × V)} {d : List (PyData × PyData)} (e : Lies F F') (h : DnKv K F v d) : DnKv K F' v d := DnKv.same e.e d v h
theorem DnAll.length : ∀ {vs : List V} {ds : List PyData}, DnAll K F vs ds → vs.length = ds.length
  | _, _, .nil => rfl
  | _, _, .cons _ t => by simp [DnAll.length t]
theorem DnAll.get : ∀ {vs : List V} {ds : List PyData} {i : Nat} {d : PyData}, DnAll K F vs ds → ds[i]? = some d → ∃ v, vs[i]? = some v ∧ Dn K F v d
  | _, _, _, _, .nil, e => by simp at e
  | _, _, 0, _, .cons r _, e => by simp at e; subst e; exact ⟨_, rfl, r⟩
  | _, _, i + 1, x, .cons _ t, e => by
    obtain ⟨u, h1, h2⟩ := DnAll.get (i := i) (d := x) t (by simpa using e)
    exact ⟨u, by simpa using h1, h2⟩
theorem DnAll.getV : ∀ {vs : List V} {ds : List PyData} {i : Nat} {v : V}, DnAll K F vs ds → vs[i]? = some v → ∃ d, ds[i]? = some d ∧ Dn K F v d
  | _, _, _, _, .nil, e => by simp at e
  | _, _, 0, _, .cons r _, e => by simp at e; subst e; exact ⟨_, rfl, r⟩
  | _, _, i + 1, x, .cons _ t, e => by
    obtain ⟨u, h1, h2⟩ := DnAll.getV (i := i) (v := x) t (by simpa using e)
    exact ⟨u, by simpa using h1, h2⟩
theorem DnAll.append : ∀ {xs ys : List V} {us ws : List PyData}, DnAll K F xs us → DnAll K F ys ws → DnAll K F (xs ++ ys) (us ++ ws)
  | _, _, _, _, .nil, s => s
  | _, _, _, _, .cons r t, s => .cons r (DnAll.append t s)
theorem DnAll.take : ∀ {xs : List V} {us : List PyData} (n : Nat), DnAll K F xs us → DnAll K F (xs.take n) (us.take n)
  | _, _, 0, _ => by simp only [List.take_zero]; exact .nil
  | _, _, _ + 1, .nil => by simp only [List.take_nil]; exact .nil
  | _, _, n + 1, .cons r t => .cons r (DnAll.take n t)
theorem DnAll.drop : ∀ {xs : List V} {us : List PyData} (n : Nat), DnAll K F xs us → DnAll K F (xs.drop n) (us.drop n)
  | _, _, 0, r => r
  | _, _, n + 1, .nil => by simp only [List.drop_nil]; exact .nil
  | _, _, n + 1, .cons _ t => DnAll.drop n t
theorem DnAll.set {x : V} {u : PyData} (r : Dn K F x u) : ∀ {xs : List V} {us : List PyData} (i : Nat), DnAll K F xs us → DnAll K F (xs.set i x) (us.set i u)
  | _, _, _, .nil => .nil
  | _, _, 0, .cons _ t => .cons r t
  | _, _, i + 1, .cons q t => .cons q (DnAll.set r i t)
theorem DnAll.one {x : V} {u : PyData} (r : Dn K F x u) : DnAll K F [x] [u] := .cons r .nil
theorem DnAll.rev : ∀ {xs : List V} {us : List PyData}, DnAll K F xs us → DnAll K F xs.reverse us.reverse
  | _, _, .nil => .nil
  | _, _, .cons q t => by
    rw [List.reverse_cons, List.reverse_cons]
    exact DnAll.append (DnAll.rev t) (.one q)

/-- no dict within, not deeper than n -/
def okD : Nat → PyData → Bool
  | _, .none => true
  | _, .bool _ => true
  | _, .int _ => true
  | _, .str _ => true
  | n + 1, .list xs => xs.attach.all fun x => okD n x.1
  | n + 1, .tuple xs => xs.attach.all fun x => okD n x.1
  | _, _ => false
@[simp] theorem okD_none (n : Nat) : okD n .none = true := by unfold okD; rfl
@[simp] theorem okD_bool (n : Nat) (b : Bool) : okD n (.bool b) = true := by unfold okD; rfl
@[simp] theorem okD_int (n : Nat) (i : Int) : okD n (.int i) = true := by unfold okD; rfl
@[simp] theorem okD_str (n : Nat) (x : Str) : okD n (.str x) = true := by unfold okD; rfl
@[simp] theorem okD_list (n : Nat) (xs : List PyData) : okD (n + 1) (.list xs) = xs.all (okD n) := by
  conv => lhs; unfold okD
  rw [Bool.eq_iff_iff]
  simp [List.all_eq_true]
@[simp] theorem okD_tuple (n : Nat) (xs : List PyData) : okD (n + 1) (.tuple xs) = xs.all (okD n) := by
  conv => lhs; unfold okD
  rw [Bool.eq_iff_iff]
  simp [List.all_eq_true]
@[simp] theorem okD_dict (n : Nat) (xs : List (PyData × PyData)) : okD n (.dict xs) = false := by unfold okD; cases n <;> rfl
theorem okD_zl (xs : List PyData) : okD 0 (.list xs) = false := by unfold okD; rfl
theorem okD_zt (xs : List PyData) : okD 0 (.tuple xs) = false := by unfold okD; rfl
end
section
variable {K : PySem.W.Frag} {F : Hp}
mutual
theorem Dn.dp : ∀ (d : PyData) (v : V) (n : Nat), Dn K F v d → okD n d = true → Dp K F v d ∧ d.canLay0 = true ∧ d.depth ≤ n
  | .none, _, _, h, _ => by cases h; exact ⟨.non, by unfold PyData.canLay0; rfl, by unfold PyData.depth; omega⟩
  | .bool b, _, _, h, _ => by cases h; exact ⟨.bl b, by unfold PyData.canLay0; rfl, by unfold PyData.depth; omega⟩
  | .int i, _, _, h, _ => by cases h; exact ⟨.int i, by unfold PyData.canLay0; rfl, by unfold PyData.depth; omega⟩
  | .str x, _, _, h, _ => by cases h with | str _ hx => exact ⟨.str x, by unfold PyData.canLay0; exact hx, by unfold PyData.depth; omega⟩
  | .list ds, _, 0, h, o => by rw [okD_zl] at o; cases o
  | .tuple ds, _, 0, h, o => by rw [okD_zt] at o; cases o
  | .list ds, _, n + 1, h, o => by
    rw [okD_list] at o
    cases h with | lst a b =>
      obtain ⟨x, y, z⟩ := DnAll.dp ds _ n b (List.all_eq_true.mp o)
      exact ⟨.lst a x, by unfold PyData.canLay0; exact y, by unfold PyData.depth; omega⟩
  | .tuple ds, _, n + 1, h, o => by
    rw [okD_tuple] at o
    cases h with | tup a b =>
      obtain ⟨x, y, z⟩ := DnAll.dp ds _ n b (List.all_eq_true.mp o)
      exact ⟨.tup a x, by unfold PyData.canLay0; exact y, by unfold PyData.depth; omega⟩
  | .dict ds, _, n, h, o => by rw [okD_dict] at o; cases o
theorem DnAll.dp : ∀ (ds : List PyData) (vs : List V) (n : Nat), DnAll K F vs ds → (∀ d ∈ ds, okD n d = true) → DpAll K F vs ds ∧ PyData.canLayAll0 ds = true ∧ PyData.depthAll ds ≤ n
  | [], _, n, h, _ => by cases h; exact ⟨.nil, by unfold PyData.canLayAll0; rfl, by unfold PyData.depthAll; omega⟩
  | d :: ds, _, n, h, o => by
    cases h with | cons a b =>
      obtain ⟨x, y, z⟩ := Dn.dp d _ n a (o d List.mem_cons_self)
      obtain ⟨x', y', z'⟩ := DnAll.dp ds _ n b (fun e he => o e (List.mem_cons_of_mem _ he))
      exact ⟨.cons x x', by unfold PyData.canLayAll0; rw [y, y']; rfl, by unfold PyData.depthAll; omega⟩
end
end
end M


namespace M
open PySem PySem.Spec PyProof.Rows L2

/-! ### slots -/
inductive Slot where
  /-- a value that stands still -/
  | f (d : PyData)
  /-- a list of this def's own -/
  | o (ds : List PyData)
  /-- a dict of this def's own -/
  | od (kvs : List (PyData × PyData))
  /-- a raw value -/
  | v (x : V)
  /-- a caller's list that this def may change: where it lies, its items -/
  | oa (p : Addr) (ds : List PyData)
  /-- a value that stands still, and tables that are marked -/
  | tf (d : PyData) (T : List (Addr × Str))
abbrev En := List (Option Slot)

def SlotR (K : PySem.W.Frag) (F H : Hp) (x : V) : Slot → Prop
  | .f d => Dn K F x d
  | .o ds => ∃ p vs, x = .ref p ∧ H p = some (.lst vs) ∧ F p = none ∧ DnAll K F vs ds
  | .od ds => ∃ p vs, x = .ref p ∧ H p = some (.dK vs) ∧ F p = none ∧ DnKv K F vs ds
  | .v y => x = y
  | .oa p ds => ∃ vs, x = .ref p ∧ H p = some (.lst vs) ∧ F p = none ∧ DnAll K F vs ds
  | .tf d T => Dn K F x d ∧ ∀ p ∈ T, F p.1 = some (Mk p.2)
def Slot.own : Slot → Bool
  | .o _ => true
  | .od _ => true
  | .oa _ _ => true
  | _ => false

structure RelE (K : PySem.W.Frag) (F H : Hp) (ε : En) (σ : L2.St) : Prop where
  sub : Lies F H
  len : ε.length = σ.length
  sl : ∀ (i : Nat) (s : Slot), ε[i]? = some (some s) → ∃ v : V, σ[i]? = some (some v) ∧ SlotR K F H v s

section
variable {K : PySem.W.Frag} {F F' H H' : Hp} {ε : En} {σ : L2.St}
theorem SlotR.step {x : V} {s : Slot} (e : Step F H F' H') (h : SlotR K F H x s) : SlotR K F' H' x s := by
  cases s with
  | f d => exact Dn.mv e.f h
  | o ds =>
    obtain ⟨p, vs, rfl, h1, h2, h3⟩ := h
    exact ⟨p, vs, rfl, e.h _ _ h1, e.n _ _ h1 h2, h3.mv e.f⟩
  | od ds =>
    obtain ⟨p, vs, rfl, h1, h2, h3⟩ := h
    exact ⟨p, vs, rfl, e.h _ _ h1, e.n _ _ h1 h2, h3.mv e.f⟩
  | v y => exact h
  | oa p ds =>
    obtain ⟨vs, rfl, h1, h2, h3⟩ := h
    exact ⟨vs, rfl, e.h _ _ h1, e.n _ _ h1 h2, h3.mv e.f⟩
  | tf d T => exact ⟨Dn.mv e.f h.1, fun p hp => e.f _ _ (h.2 p hp)⟩
theorem RelE.step (e : Step F H F' H') (r : RelE K F H ε σ) : RelE K F' H' ε σ :=
  ⟨e.s, r.len, fun i s h => let ⟨v, a, b⟩ := r.sl i s h; ⟨v, a, b.step e⟩⟩

/-! ### reading judgements (no program in them) -/
/-- borrowed: frozen, or an own list | dict with frozen items -/
def Bd (K : PySem.W.Frag) (F H : Hp) (v : V) (d : PyData) : Prop := Dn K F v d ∨
  (∃ p vs ds, v = .ref p ∧ H p = some (.lst vs) ∧ F p = none ∧ DnAll K F vs ds ∧ d = .list ds) ∨
  (∃ p vs ds, v = .ref p ∧ H p = some (.dK vs) ∧ F p = none ∧ DnKv K F vs ds ∧ d = .dict ds)
theorem Bd.step {v : V} {d : PyData} (e : Step F H F' H') (h : Bd K F H v d) : Bd K F' H' v d := by
  rcases h with h | ⟨p, vs, ds, rfl, h1, h2, h3, rfl⟩ | ⟨p, vs, ds, rfl, h1, h2, h3, rfl⟩
  · exact .inl (h.mv e.f)
  · exact .inr (.inl ⟨p, vs, ds, rfl, e.h _ _ h1, e.n _ _ h1 h2, h3.mv e.f, rfl⟩)
  · exact .inr (.inr ⟨p, vs, ds, rfl, e.h _ _ h1, e.n _ _ h1 h2, h3.mv e.f, rfl⟩)
/-- as it lies in the whole heap -/
theorem Bd.full {v : V} {d : PyData} (s : Lies F H) (h : Bd K F H v d) : Dn K H v d := by
  rcases h with h | ⟨p, vs, ds, rfl, h1, h2, h3, rfl⟩ | ⟨p, vs, ds, rfl, h1, h2, h3, rfl⟩
  · exact h.lv s
  · exact .lst (.inl (.inl h1)) (h3.lv s)
  · exact .dic h1 (h3.lv s)
/-- the items of a list or tuple -/
theorem Bd.items {v : V} {ds : List PyData} (s : Lies F H) (h : Bd K F H v (.list ds)) : ∃ p vs, v = .ref p ∧ SqL K H p vs ∧ DnAll K F vs ds := by
  rcases h with h | ⟨p, vs, ds', rfl, h1, h2, h3, e⟩ | ⟨p, vs, ds', rfl, h1, h2, h3, e⟩
  · cases h with | lst a b => exact ⟨_, _, rfl, seqL s a, b⟩
  · cases e; exact ⟨p, vs, rfl, .inl (.inl h1), h3⟩
  · cases e
theorem Bd.itemsT {v : V} {ds : List PyData} (s : Lies F H) (h : Bd K F H v (.tuple ds)) : ∃ p vs, v = .ref p ∧ SqT K F p vs ∧ SqT K H p vs ∧ DnAll K F vs ds := by
  rcases h with h | ⟨p, vs, ds', rfl, h1, h2, h3, e⟩ | ⟨p, vs, ds', rfl, h1, h2, h3, e⟩
  · cases h with | tup a b => exact ⟨_, _, rfl, a, seqT s a, b⟩
  · cases e
  · cases e
theorem Bd.entries {v : V} {ds : List (PyData × PyData)} (s : Lies F H) (h : Bd K F H v (.dict ds)) : ∃ p vs, v = .ref p ∧ H p = some (.dK vs) ∧ DnKv K F vs ds := by
  rcases h with h | ⟨p, vs, ds', rfl, h1, h2, h3, e⟩ | ⟨p, vs, ds', rfl, h1, h2, h3, e⟩
  · cases h with | dic a b => exact ⟨_, _, rfl, s.e _ _ a rfl, b⟩
  · cases e
  · cases e; exact ⟨p, vs, rfl, h1, h3⟩
theorem Bd.str {v : V} {x : Str} (h : Bd K F H v (.str x)) : v = .str x ∧ PyData.strOk x = true := by
  rcases h with h | ⟨p, vs, ds', rfl, h1, h2, h3, e⟩ | ⟨p, vs, ds', rfl, h1, h2, h3, e⟩
  · cases h with | str _ hx => exact ⟨rfl, hx⟩
  · cases e
  · cases e
theorem Bd.int {v : V} {x : Int} (h : Bd K F H v (.int x)) : v = .int x := by
  rcases h with h | ⟨p, vs, ds', rfl, h1, h2, h3, e⟩ | ⟨p, vs, ds', rfl, h1, h2, h3, e⟩
  · cases h; rfl
  · cases e
  · cases e
theorem Bd.bool {v : V} {x : Bool} (h : Bd K F H v (.bool x)) : v = .bl x := by
  rcases h with h | ⟨p, vs, ds', rfl, h1, h2, h3, e⟩ | ⟨p, vs, ds', rfl, h1, h2, h3, e⟩
  · cases h; rfl
  · cases e
  · cases e
theorem Bd.none {v : V} (h : Bd K F H v .none) : v = .non := by
  rcases h with h | ⟨p, vs, ds', rfl, h1, h2, h3, e⟩ | ⟨p, vs, ds', rfl, h1, h2, h3, e⟩
  · cases h; rfl
  · cases e
  · cases e
end

/-- value mode | borrowed mode | fresh list mode | tests | arguments -/
def RE (K : PySem.W.Frag) (t : TE) (f : En → Option PyData) : Prop := ∀ (F H : Hp) (ε : En) (σ : L2.St) (d : PyData) (Q : VK), RelE K F H ε σ → f ε = some d →
  (∀ v F' H', Step F H F' H' → Dn K F' v d → Q v H') → t σ H Q
def RB (K : PySem.W.Frag) (t : TE) (f : En → Option PyData) : Prop := ∀ (F H : Hp) (ε : En) (σ : L2.St) (d : PyData) (Q : VK), RelE K F H ε σ → f ε = some d →
  (∀ v F' H', Step F H F' H' → Bd K F' H' v d → Q v H') → t σ H Q
def RL (K : PySem.W.Frag) (t : TE) (f : En → Option (List PyData)) : Prop := ∀ (F H : Hp) (ε : En) (σ : L2.St) (ds : List PyData) (Q : VK), RelE K F H ε σ → f ε = some ds →
  (∀ p vs F' H', Step F H F' H' → H p = none → F' p = none → H' p = some (.lst vs) → DnAll K F' vs ds → Q (.ref p) H') → t σ H Q
def RT (K : PySem.W.Frag) (t : TT) (f : En → Option Bool) : Prop := ∀ (F H : Hp) (ε : En) (σ : L2.St) (b : Bool) (Q : Bool → Hp → Prop), RelE K F H ε σ → f ε = some b →
  (∀ F' H', Step F H F' H' → Q b H') → t σ H Q
def RA (K : PySem.W.Frag) (t : TA) (f : En → Option (List PyData)) : Prop := ∀ (F H : Hp) (ε : En) (σ : L2.St) (ds : List PyData) (Q : List V → Hp → Prop), RelE K F H ε σ → f ε = some ds →
  (∀ vs F' H', Step F H F' H' → DnAll K F' vs ds → Q vs H') → t σ H Q
/-- borrowed arguments -/
def BdAll (K : PySem.W.Frag) (F H : Hp) : List V → List PyData → Prop
  | [], [] => True
  | v :: vs, d :: ds => Bd K F H v d ∧ BdAll K F H vs ds
  | _, _ => False
def RAB (K : PySem.W.Frag) (t : TA) (f : En → Option (List PyData)) : Prop := ∀ (F H : Hp) (ε : En) (σ : L2.St) (ds : List PyData) (Q : List V → Hp → Prop), RelE K F H ε σ → f ε = some ds →
  (∀ vs F' H', Step F H F' H' → BdAll K F' H' vs ds → Q vs H') → t σ H Q
theorem BdAll.step {K : PySem.W.Frag} {F F' H H' : Hp} (e : Step F H F' H') : ∀ {vs : List V} {ds : List PyData}, BdAll K F H vs ds → BdAll K F' H' vs ds
  | [], [], h => trivial
  | v :: vs, d :: ds, h => ⟨h.1.step e, BdAll.step e h.2⟩
  | [], _ :: _, h => h.elim
  | _ :: _, [], h => h.elim

section
variable {K : PySem.W.Frag}
theorem RE.b {t : TE} {f : En → Option PyData} (h : RE K t f) : RB K t f := fun F H ε σ d Q r e k => h F H ε σ d Q r e fun v F' H' s x => k v F' H' s (.inl x)
/-- neither a table nor a code object -/
def okO : HO → Bool
  | .tbl _ => false
  | .ext _ => false
  | _ => true
/-- a cell changes that is of no table's -/
theorem tab_upd {H : Hp} {p P : Addr} {o : HO} {q : Str} (n : ∀ u, H p = some u → okO u = true) (t : LamX.TabS H P q) : LamX.TabS (upd H p o) P q := by
  obtain ⟨ps, h1, h2, h3⟩ := t
  refine ⟨ps, ?_, h2, fun pos cv hc => ?_⟩
  · rw [upd_ne (fun z => ?_)]
    · exact h1
    · rw [z] at h1
      exact absurd (n _ h1) (by unfold okO; exact Bool.false_ne_true)
  · obtain ⟨c, e1, e2⟩ := h3 pos cv hc
    refine ⟨c, e1, ?_⟩
    rw [upd_ne (fun z => ?_)]
    · exact e2
    · rw [z] at e2
      exact absurd (n _ e2) (by unfold LamX.CodeO okO; exact Bool.false_ne_true)
theorem lies_upd {F H : Hp} {p : Addr} {o : HO} (s : Lies F H) (hF : F p = none) (n : ∀ u, H p = some u → okO u = true) : Lies F (upd H p o) :=
  ⟨fun b u q z => by rw [upd_ne (ne_of_none q hF)]; exact s.e _ _ q z, fun P q e => tab_upd n (s.t P q e), s.m⟩
theorem lies_new {F H : Hp} {p : Addr} {o : HO} (s : Lies F H) (h : H p = none) : Lies F (upd H p o) := lies_upd s (s.free h) fun u e => by rw [h] at e; cases e
theorem same_frz {F : Hp} {p : Addr} {o : HO} (hF : F p = none) : Same F (upd F p o) := fun b u q => by rw [upd_ne (ne_of_none q hF)]; exact q
/-- a cell is frozen -/
theorem lies_frz {F H : Hp} {p : Addr} {o : HO} (s : Lies F H) (z : isTbl o = false) (h : H p = some o) : Lies (upd F p o) H := by
  refine ⟨fun b u q z' => ?_, fun P q e => ?_, fun P ps e => ?_⟩
  · by_cases hb : b = p
    · subst hb; rw [upd_same] at q; cases q; exact h
    · rw [upd_ne hb] at q; exact s.e _ _ q z'
  · by_cases hb : P = p
    · subst hb; rw [upd_same] at e; cases e; cases z
    · rw [upd_ne hb] at e; exact s.t P q e
  · by_cases hb : P = p
    · subst hb; rw [upd_same] at e; cases e; cases z
    · rw [upd_ne hb] at e; exact s.m P ps e
theorem upd_some {H : Hp} {p b : Addr} {o : HO} (h : upd H p o b = none) : H b = none := by
  by_cases hb : b = p
  · subst hb; rw [upd_same] at h; cases h
  · rwa [upd_ne hb] at h
theorem Step.chg {F H F' H' : Hp} {D : Addr} {u o : HO} (s : Step F H F' H') (h : H D = none) (nf : F' D = none) (hd : H' D = some u) (ok : okO u = true) : Step F H F' (upd H' D o) :=
  ⟨s.f, fun b w q z => by rw [upd_ne (ne_of_none q h)]; exact s.h0 _ _ q z, fun b q => s.fr b (upd_some q), lies_upd s.s nf (fun w e => by rw [hd] at e; cases e; exact ok), s.n0⟩
/-- freezing a new list -/
theorem frz_step {F H F' H' : Hp} {p : Addr} {o : HO} (s : Step F H F' H') (n : H p = none) (z : isTbl o = false) (h : H' p = some o) (nf : F' p = none) : Step F H (upd F' p o) H' :=
  ⟨s.f.trans (same_frz nf), s.h0, s.fr, lies_frz s.s z h, fun b q1 q2 => by rw [upd_ne (fun e => q1 (by rw [e]; exact n))]; exact s.n0 b q1 q2⟩
theorem frz_new {F H F' H' : Hp} {p : Addr} {vs : List V} {ds : List PyData} (s : Step F H F' H') (n : H p = none) (nf : F' p = none) (h : H' p = some (.lst vs)) (a : DnAll K F' vs ds) :
    Step F H (upd F' p (.lst vs)) H' ∧ Dn K (upd F' p (.lst vs)) (.ref p) (.list ds) :=
  ⟨frz_step s n rfl h nf, .lst (.inl (.inl upd_same)) (a.mv (same_frz nf))⟩
theorem RL.e {t : TE} {f : En → Option (List PyData)} (h : RL K t f) : RE K t (fun ε => (f ε).map .list) := fun F H ε σ d Q r e k => by
  obtain ⟨ds, e1, rfl⟩ := Option.map_eq_some_iff.mp e
  refine h F H ε σ ds Q r e1 fun p vs F' H' s n nf hp a => ?_
  obtain ⟨s', d'⟩ := frz_new s n nf hp a
  exact k _ _ _ s' d'

def getF (i : Nat) (ε : En) : Option PyData := match ε[i]? with
  | some (some (.f d)) => some d
  | some (some (.tf d _)) => some d
  | _ => none
def getB (i : Nat) (ε : En) : Option PyData := match ε[i]? with
  | some (some (.f d)) => some d
  | some (some (.o ds)) => some (.list ds)
  | some (some (.od ds)) => some (.dict ds)
  | some (some (.oa _ ds)) => some (.list ds)
  | some (some (.tf d _)) => some d
  | _ => none
theorem re_var {i : Nat} : RE K (tVar i) (getF i) := fun F H ε σ d Q r e k => by
  unfold getF at e
  split at e
  · rename_i d' h
    cases e
    obtain ⟨v, h1, h2⟩ := r.sl _ _ h
    exact ⟨v, h1, k v F H (.refl r.sub) h2⟩
  · rename_i d' T h
    cases e
    obtain ⟨v, h1, h2⟩ := r.sl _ _ h
    exact ⟨v, h1, k v F H (.refl r.sub) h2.1⟩
  · cases e
theorem rb_var {i : Nat} : RB K (tVar i) (getB i) := fun F H ε σ d Q r e k => by
  unfold getB at e
  split at e
  · rename_i d' h
    cases e
    obtain ⟨v, h1, h2⟩ := r.sl _ _ h
    exact ⟨v, h1, k v F H (.refl r.sub) (.inl h2)⟩
  · rename_i d' h
    cases e
    obtain ⟨v, h1, p, vs, h2, h3, h4, h5⟩ := r.sl _ _ h
    exact ⟨v, h1, k v F H (.refl r.sub) (.inr (.inl ⟨p, vs, _, h2, h3, h4, h5, rfl⟩))⟩
  · rename_i d' h
    cases e
    obtain ⟨v, h1, p, vs, h2, h3, h4, h5⟩ := r.sl _ _ h
    exact ⟨v, h1, k v F H (.refl r.sub) (.inr (.inr ⟨p, vs, _, h2, h3, h4, h5, rfl⟩))⟩
  · rename_i p d' h
    cases e
    obtain ⟨v, h1, vs, h2, h3, h4, h5⟩ := r.sl _ _ h
    exact ⟨v, h1, k v F H (.refl r.sub) (.inr (.inl ⟨p, vs, _, h2, h3, h4, h5, rfl⟩))⟩
  · rename_i d' T h
    cases e
    obtain ⟨v, h1, h2⟩ := r.sl _ _ h
    exact ⟨v, h1, k v F H (.refl r.sub) (.inl h2.1)⟩
  · cases e
theorem re_int {i : Int} : RE K (tC (.int i)) (fun _ => some (.int i)) := fun F H ε σ d Q r e k => by cases e; exact k _ F H (.refl r.sub) (.int i)
theorem re_bl {i : Bool} : RE K (tC (.bl i)) (fun _ => some (.bool i)) := fun F H ε σ d Q r e k => by cases e; exact k _ F H (.refl r.sub) (.bl i)
theorem re_non : RE K (tC .non) (fun _ => some .none) := fun F H ε σ d Q r e k => by cases e; exact k _ F H (.refl r.sub) .non
theorem re_str {x : Str} (h : PyData.strOk x = true := by decide +kernel) : RE K (tC (.str x)) (fun _ => some (.str x)) := fun F H ε σ d Q r e k => by cases e; exact k _ F H (.refl r.sub) (.str x h)

/-! ### operators by values -/
abbrev G2 := PyData → PyData → Option PyData
/-- r does on borrowed values what g says of the data -/
def Op2 (K : PySem.W.Frag) (r : R2) (g : G2) : Prop := ∀ (F H : Hp) (x y : V) (a b d : PyData) (Q : VK), Lies F H → Bd K F H x a → Bd K F H y b → g a b = some d →
  (∀ v F' H', Step F H F' H' → Dn K F' v d → Q v H') → r x y H Q
@[simp] def dOp (g : G2) (f₁ f₂ : En → Option PyData) : En → Option PyData := fun ε => (f₁ ε).bind fun a => (f₂ ε).bind fun b => g a b
theorem re_op {r : R2} {g : G2} {ta tb : TE} {fa fb : En → Option PyData} (ho : Op2 K r g) (ha : RB K ta fa) (hb : RB K tb fb) : RE K (tOp r ta tb) (dOp g fa fb) := fun F H ε σ d Q rel e k => by
  obtain ⟨a, e1, e2⟩ := Option.bind_eq_some_iff.mp e
  obtain ⟨b, e3, e4⟩ := Option.bind_eq_some_iff.mp e2
  refine ha F H ε σ a _ rel e1 fun x F1 H1 s1 d1 => ?_
  refine hb F1 H1 ε σ b _ (rel.step s1) e3 fun y F2 H2 s2 d2 => ?_
  exact ho F2 H2 x y a b d Q s2.s (d1.step s2) d2 e4 fun v F' H' s3 d3 => k v F' H' (s1.trans (s2.trans s3)) d3
/-- fresh list results -/
def Op2L (K : PySem.W.Frag) (r : R2) (g : PyData → PyData → Option (List PyData)) : Prop := ∀ (F H : Hp) (x y : V) (a b : PyData) (ds : List PyData) (Q : VK), Lies F H → Bd K F H x a → Bd K F H y b → g a b = some ds →
  (∀ p vs F' H', Step F H F' H' → H p = none → F' p = none → H' p = some (.lst vs) → DnAll K F' vs ds → Q (.ref p) H') → r x y H Q
@[simp] def dOpL (g : PyData → PyData → Option (List PyData)) (f₁ f₂ : En → Option PyData) : En → Option (List PyData) := fun ε => (f₁ ε).bind fun a => (f₂ ε).bind fun b => g a b
theorem new_trans {F H F1 H1 : Hp} {p : Addr} (s : Step F H F1 H1) (n : H1 p = none) : H p = none := s.fr _ n
theorem rl_op {r : R2} {g : PyData → PyData → Option (List PyData)} {ta tb : TE} {fa fb : En → Option PyData} (ho : Op2L K r g) (ha : RB K ta fa) (hb : RB K tb fb) : RL K (tOp r ta tb) (dOpL g fa fb) := fun F H ε σ ds Q rel e k => by
  obtain ⟨a, e1, e2⟩ := Option.bind_eq_some_iff.mp e
  obtain ⟨b, e3, e4⟩ := Option.bind_eq_some_iff.mp e2
  refine ha F H ε σ a _ rel e1 fun x F1 H1 s1 d1 => ?_
  refine hb F1 H1 ε σ b _ (rel.step s1) e3 fun y F2 H2 s2 d2 => ?_
  refine ho F2 H2 x y a b ds Q s2.s (d1.step s2) d2 e4 fun p vs F' H' s3 n nf hp d3 => k p vs F' H' (s1.trans (s2.trans s3)) (new_trans s1 (new_trans s2 n)) nf hp d3
/-- a new tuple -/
theorem step_new {F H : Hp} {p : Addr} {o : HO} (s : Lies F H) (n : H p = none) : Step F H F (upd H p o) :=
  ⟨Same.refl _, fun b u q _ => by rw [upd_ne (ne_of_none q n)]; exact q, fun b h => upd_some h, lies_new s n, fun _ _ h => h⟩
theorem new_tup {F H : Hp} {p : Addr} {vs : List V} {ds : List PyData} (s : Lies F H) (n : H p = none) (a : DnAll K F vs ds) :
    Step F H (upd F p (.tup vs)) (upd H p (.tup vs)) ∧ Dn K (upd F p (.tup vs)) (.ref p) (.tuple ds) :=
  ⟨frz_step (step_new s n) n rfl upd_same (s.free n), .tup (.inl (.inl upd_same)) (a.mv (same_frz (s.free n)))⟩
theorem new_lst {F H : Hp} {p : Addr} {vs : List V} (s : Lies F H) (n : H p = none) :
    Step F H F (upd H p (.lst vs)) ∧ F p = none ∧ (upd H p (.lst vs)) p = some (.lst vs) := ⟨step_new s n, s.free n, upd_same⟩
/-- either of two rules -/
theorem Op2.or {r r' : R2} {g g' : G2} (h : Op2 K r g) (h' : Op2 K r' g') : Op2 K (fun x y H Q => r x y H Q ∨ r' x y H Q) (fun a b => (g a b).or (g' a b)) := fun F H x y a b d Q s h1 h2 e k => by
  have e' : (g a b).or (g' a b) = some d := e
  cases q : g a b with
  | none => rw [q] at e'; exact .inr (h' F H x y a b d Q s h1 h2 e' k)
  | some z => rw [q] at e'; cases e'; exact .inl (h F H x y a b d Q s h1 h2 q k)
end
theorem OpRor {X : Cx} {f : Value → Value → Sem Value} {r r' : R2} (h : OpR X f r) (h' : OpR X f r') : OpR X f (fun x y H Q => r x y H Q ∨ r' x y H Q) := by
  intro pins s σ H x y v u Q I rx ry q
  rcases q with q | q
  · exact h pins s σ H x y v u Q I rx ry q
  · exact h' pins s σ H x y v u Q I rx ry q
end M


namespace M
open PySem PySem.Spec PyProof.Rows L2

/-- what a rule by data asks of two values -/
def rG (K : PySem.W.Frag) (g : G2) : R2 := fun x y H Q => ∃ F a b d, Lies F H ∧ Bd K F H x a ∧ Bd K F H y b ∧ g a b = some d ∧ ∀ v F' H', Step F H F' H' → Dn K F' v d → Q v H'
theorem op2G {K : PySem.W.Frag} {g : G2} : Op2 K (rG K g) g := fun F H x y a b d Q s h1 h2 e k => ⟨F, a, b, d, s, h1, h2, e, k⟩
def rGL (K : PySem.W.Frag) (g : PyData → PyData → Option (List PyData)) : R2 := fun x y H Q => ∃ F a b ds, Lies F H ∧ Bd K F H x a ∧ Bd K F H y b ∧ g a b = some ds ∧
  ∀ p vs F' H', Step F H F' H' → H p = none → F' p = none → H' p = some (.lst vs) → DnAll K F' vs ds → Q (.ref p) H'
theorem op2GL {K : PySem.W.Frag} {g : PyData → PyData → Option (List PyData)} : Op2L K (rGL K g) g := fun F H x y a b d Q s h1 h2 e k => ⟨F, a, b, d, s, h1, h2, e, k⟩
theorem op2of {K : PySem.W.Frag} {X : Cx} {f : Value → Value → Sem Value} {r : R2} {g : G2} (h : OpR X f r) (hr : Op2 X.K r g) : OpR X f (rG X.K g) := by
  intro pins s σ H x y v u Q I rx ry ⟨F, a, b, d, s1, h1, h2, e, k⟩
  exact h pins s σ H x y v u Q I rx ry (hr F H x y a b d Q s1 h1 h2 e k)

/-- signs of a text -/
theorem strOk_app {x y : Str} (h : PyData.strOk x = true) (h' : PyData.strOk y = true) : PyData.strOk (x ++ y) = true := by
  unfold PyData.strOk at *
  show (x.cps ++ y.cps).all _ = true
  rw [Array.all_append, h, h']; rfl
theorem strOk_iff {x : Str} : PyData.strOk x = true ↔ ∀ c ∈ x.cps.toList, c < 0x110000 := by
  unfold PyData.strOk
  rw [← Array.all_toList, List.all_eq_true]
  simp
def mkS (l : List Nat) : Str := ⟨l.toArray⟩
theorem strOk_mk {l : List Nat} (h : ∀ c ∈ l, c < 0x110000) : PyData.strOk (mkS l) = true := strOk_iff.mpr (by simpa [mkS] using h)
def repS (x : Str) (n : Int) : Str := ⟨(List.replicate n.toNat x.cps.toList).flatten.toArray⟩
theorem foldl_rep (a : Array Nat) : ∀ (l : List (Array Nat)), l.foldl (· ++ ·) a = a ++ (l.map (·.toList)).flatten.toArray
  | [] => by simp
  | b :: l => by
    rw [List.foldl_cons, foldl_rep (a ++ b) l]
    apply Array.ext'
    simp
theorem mul_repS (x : Str) (n : Int) : Txt.mul x n = repS x n := by
  unfold Txt.mul repS
  by_cases h : n < 1
  · rw [if_pos h]
    have : n.toNat = 0 := by omega
    rw [this]; rfl
  · rw [if_neg h]
    split
    · rename_i hc
      simp only [Bool.or_eq_true, beq_iff_eq] at hc
      rcases hc with hc | hc
      · subst hc
        obtain ⟨c⟩ := x
        simp
      · obtain ⟨c⟩ := x
        have e : c.toList = [] := List.length_eq_zero_iff.mp (by simpa [Str.length] using hc)
        have e2 : c = #[] := Array.toList_inj.mp e
        subst e2
        simp
    · rw [foldl_rep]
      congr 1
      simp
theorem strOk_rep {x : Str} {n : Int} (h : PyData.strOk x = true) : PyData.strOk (repS x n) = true := by
  rw [strOk_iff] at *
  intro c hc
  have hc' : c ∈ (List.replicate n.toNat x.cps.toList).flatten := by simpa [repS] using hc
  simp only [List.mem_flatten, List.mem_replicate] at hc'
  obtain ⟨l, ⟨_, rfl⟩, hm⟩ := hc'
  exact h c hm
theorem op_mul_str {X : Cx} : OpR X (binaryOp .Mult) (fun x y H Q => ∃ i n, x = .str i ∧ y = .int n ∧ i.length ≤ 4096 ∧ 0 ≤ n ∧ n ≤ 1000 ∧ Q (.str (repS i n)) H) := by
  intro pins s σ H x y v u Q I rx ry h
  obtain ⟨i, n, rfl, rfl, hz, h0, h1, q⟩ := h
  obtain ⟨t, rfl⟩ := rx
  obtain ⟨t', rfl⟩ := ry
  refine SB.mul (mulOk_of 4096 1000 hz (by omega) (by omega) (by decide) (by decide)) fun t' k => ?_
  rw [mul_repS]
  exact ⟨.str _, H, I.tok _, ⟨_, rfl⟩, q⟩

/-! ### + -/
@[simp] def addD : G2
  | .int i, .int j => some (.int (i + j))
  | .str x, .str y => if x.length + y.length ≤ sizeLine then some (.str (x ++ y)) else none
  | .tuple a, .tuple b => if a.length + b.length ≤ sizeLine then some (.tuple (a ++ b)) else none
  | _, _ => none
@[simp] def catL : PyData → PyData → Option (List PyData)
  | .list a, .list b => if a.length + b.length ≤ sizeLine then some (a ++ b) else none
  | _, _ => none
@[simp] def addA : G2
  | .list a, .list b => if a.length + b.length ≤ sizeLine then some (.list (a ++ b)) else none
  | a, b => addD a b
end M
namespace M
open PySem PySem.Spec PyProof.Rows L2
section
variable {X : Cx}
/-- + of two lists that may lie in the written part too -/
theorem op_catS : OpR X (binaryOp .Add) (fun x y H Q => ∃ l b xs zs, x = .ref l ∧ y = .ref b ∧ SqL X.K H l xs ∧ SqL X.K H b zs ∧ xs.length + zs.length ≤ sizeLine ∧ ∀ p, H p = none → Q (.ref p) (upd H p (.lst (xs ++ zs)))) := by
  intro pins s σ H x y v u Q I rx ry h
  obtain ⟨l, b, xs, zs, rfl, rfl, hx, hz, hl, q⟩ := h
  cases rx
  cases ry
  obtain ⟨its, r, ⟨⟨cls, dd, data, sl⟩, n, ho, hc, hdn, hd⟩, _⟩ := I.list hx
  obtain ⟨its2, r2, ⟨⟨cls2, dd2, data2, sl2⟩, n2, ho2, hc2, hdn2, hd2⟩, _⟩ := I.list hz
  simp only at hc hd hc2 hd2
  subst hc hd hc2 hd2
  have h1 := r.length
  have h2 := r2.length
  refine concat_meets ⟨_, ho, rfl⟩ ⟨_, ho2, rfl⟩ noFill_list_add seq_list_add PySem.F.slot_list_add PySem.F.entry_list_add (PySem.F.args_list_add_2 _ _) (list_addW l b its.toArray its2.toArray n n2 dd dd2 sl sl2 (by rw [List.size_toArray, List.size_toArray]; omega)) ⟨ho, ho2, ?_⟩
  have ea : its.toArray ++ its2.toArray = (its ++ its2).toArray := by simp
  rw [ea]
  exact ⟨.ref _, _, I.lnew (t' := s.toks) (r.append r2) (by rw [List.length_append]; omega), rfl, q _ I.fresh⟩
theorem opl_cat : OpR X (binaryOp .Add) (rGL X.K catL) := by
  intro pins s σ H x y v u Q I rx ry ⟨F, a, b, ds, s1, h1, h2, e, k⟩
  unfold catL at e
  split at e
  · rename_i as bs
    split at e
    · rename_i hl
      cases e
      obtain ⟨l, vs, rfl, hv, av⟩ := h1.items s1
      obtain ⟨l', vs', rfl, hv', av'⟩ := h2.items s1
      refine op_catS pins s σ H _ _ v u Q I rx ry ⟨l, l', vs, vs', rfl, rfl, hv, hv', by rw [av.length, av'.length]; exact hl, fun p hp => ?_⟩
      obtain ⟨st, nf, hp'⟩ := new_lst (vs := vs ++ vs') s1 hp
      exact k p _ F _ st hp nf hp' (av.append av')
    · cases e
  · cases e
theorem opr_addD : OpR X (binaryOp .Add) (rG X.K addD) := by
  intro pins s σ H x y v u Q I rx ry ⟨F, a, b, d, s1, h1, h2, e, k⟩
  unfold addD at e
  split at e
  · cases e
    obtain rfl := h1.int
    obtain rfl := h2.int
    exact op_add pins s σ H _ _ v u Q I rx ry ⟨_, _, rfl, rfl, k _ F H (.refl s1) (.int _)⟩
  · split at e
    · rename_i hl
      cases e
      obtain ⟨rfl, o1⟩ := h1.str
      obtain ⟨rfl, o2⟩ := h2.str
      exact op_add_str pins s σ H _ _ v u Q I rx ry ⟨_, _, rfl, rfl, hl, k _ F H (.refl s1) (.str _ (strOk_app o1 o2))⟩
    · cases e
  · split at e
    · rename_i hl
      cases e
      obtain ⟨l, vs, rfl, hf, hv, av⟩ := h1.itemsT s1
      obtain ⟨l', vs', rfl, hf', hv', av'⟩ := h2.itemsT s1
      refine op_catA pins s σ H _ _ v u Q I rx ry ⟨l, l', vs, vs', rfl, rfl, hv, hv', by rw [av.length, av'.length]; exact hl, fun z => ?_, fun _ z => ?_, fun _ _ p hp => ?_⟩
      · subst z
        cases av
        exact k _ F H (.refl s1) (.tup hf' av')
      · subst z
        cases av'
        exact k _ F H (.refl s1) (.tup hf (by simpa using av))
      · obtain ⟨st, dn⟩ := new_tup s1 hp (av.append av')
        exact k _ _ _ st dn
    · cases e
  · cases e
theorem opr_addA : OpR X (binaryOp .Add) (rG X.K addA) := by
  intro pins s σ H x y v u Q I rx ry ⟨F, a, b, d, s1, h1, h2, e, k⟩
  unfold addA at e
  split at e
  · rename_i as bs
    refine opl_cat pins s σ H x y v u Q I rx ry ⟨F, .list as, .list bs, as ++ bs, s1, h1, h2, ?_, fun p vs F' H' st n nf hp a => ?_⟩
    · split at e
      · rename_i hl; show (if _ then _ else _) = _; rw [if_pos hl]
      · cases e
    · split at e
      · cases e
        obtain ⟨s', d'⟩ := frz_new st n nf hp a
        exact k _ _ _ s' d'
      · cases e
  · exact opr_addD pins s σ H x y v u Q I rx ry ⟨F, _, _, d, s1, h1, h2, e, k⟩

/-! ### ints -/
@[simp] def subD : G2
  | .int i, .int j => some (.int (i - j))
  | _, _ => none
theorem opr_sub : OpR X (binaryOp .Sub) (rG X.K subD) := by
  intro pins s σ H x y v u Q I rx ry ⟨F, a, b, d, s1, h1, h2, e, k⟩
  unfold subD at e
  split at e
  · cases e
    obtain rfl := h1.int
    obtain rfl := h2.int
    exact op_sub pins s σ H _ _ v u Q I rx ry ⟨_, _, rfl, rfl, k _ F H (.refl s1) (.int _)⟩
  · cases e
instance (i j : Int) : Decidable (CMul i j) := by unfold CMul; infer_instance
instance (i j : Int) : Decidable (CDiv i j) := by unfold CDiv; infer_instance
instance (i j : Int) : Decidable (CPow i j) := by unfold CPow; infer_instance
@[simp] def mulD : G2
  | .int i, .int j => if CMul i j then some (.int (i * j)) else none
  | .str x, .int n => if x.length ≤ 4096 ∧ 0 ≤ n ∧ n ≤ 1000 then some (.str (repS x n)) else none
  | .tuple xs, .int n => if xs ≠ [] ∧ 2 ≤ n ∧ n ≤ 1000 ∧ xs.length ≤ 1000 then some (.tuple (List.replicate n.toNat xs).flatten) else none
  | _, _ => none
theorem DnAll.rep {K : PySem.W.Frag} {F : Hp} {vs : List V} {ds : List PyData} (h : DnAll K F vs ds) : ∀ n : Nat, DnAll K F (List.replicate n vs).flatten (List.replicate n ds).flatten
  | 0 => .nil
  | n + 1 => by
    rw [List.replicate_succ, List.replicate_succ, List.flatten_cons, List.flatten_cons]
    exact h.append (DnAll.rep h n)
theorem opr_mul : OpR X (binaryOp .Mult) (rG X.K mulD) := by
  intro pins s σ H x y v u Q I rx ry ⟨F, a, b, d, s1, h1, h2, e, k⟩
  unfold mulD at e
  split at e
  · split at e
    · rename_i hc
      cases e
      obtain rfl := h1.int
      obtain rfl := h2.int
      exact op_mul pins s σ H _ _ v u Q I rx ry ⟨_, _, rfl, rfl, hc, k _ F H (.refl s1) (.int _)⟩
    · cases e
  · split at e
    · rename_i hc
      cases e
      obtain ⟨rfl, o1⟩ := h1.str
      obtain rfl := h2.int
      exact op_mul_str pins s σ H _ _ v u Q I rx ry ⟨_, _, rfl, rfl, hc.1, hc.2.1, hc.2.2, k _ F H (.refl s1) (.str _ (strOk_rep o1))⟩
    · cases e
  · split at e
    · rename_i hc
      cases e
      obtain ⟨l, vs, rfl, hf, hv, av⟩ := h1.itemsT s1
      obtain rfl := h2.int
      have hl := av.length
      refine op_repT pins s σ H _ _ v u Q I rx ry ⟨_, _, vs, rfl, rfl, hv, fun z => ?_, hc.2.1, hc.2.2.1, by rw [hl]; exact hc.2.2.2, fun p hp => ?_⟩
      · subst z
        cases av
        exact hc.1 rfl
      · obtain ⟨st, dn⟩ := new_tup s1 hp (av.rep _)
        exact k _ _ _ st dn
    · cases e
  · cases e
@[simp] def repL : PyData → PyData → Option (List PyData)
  | .list xs, .int n => if 0 ≤ n ∧ n < 2 ^ 63 ∧ xs.length * n.toNat ≤ sizeLine then some (List.replicate n.toNat xs).flatten else none
  | _, _ => none
@[simp] def modD : G2
  | .int i, .int j => if 0 < j then some (.int (i % j)) else none
  | _, _ => none
theorem opr_mod : OpR X (binaryOp .Mod) (rG X.K modD) := by
  intro pins s σ H x y v u Q I rx ry ⟨F, a, b, d, s1, h1, h2, e, k⟩
  unfold modD at e
  split at e
  · split at e
    · rename_i hc
      cases e
      obtain rfl := h1.int
      obtain rfl := h2.int
      exact op_mod pins s σ H _ _ v u Q I rx ry ⟨_, _, rfl, rfl, hc, k _ F H (.refl s1) (.int _)⟩
    · cases e
  · cases e
@[simp] def fdivD : G2
  | .int i, .int j => if CDiv i j then some (.int (i / j)) else none
  | _, _ => none
theorem opr_fdiv : OpR X (binaryOp .FloorDiv) (rG X.K fdivD) := by
  intro pins s σ H x y v u Q I rx ry ⟨F, a, b, d, s1, h1, h2, e, k⟩
  unfold fdivD at e
  split at e
  · split at e
    · rename_i hc
      cases e
      obtain rfl := h1.int
      obtain rfl := h2.int
      exact op_fdiv pins s σ H _ _ v u Q I rx ry ⟨_, _, rfl, rfl, hc, k _ F H (.refl s1) (.int _)⟩
    · cases e
  · cases e
@[simp] def powD : G2
  | .int i, .int j => if CPow i j then some (.int (i ^ j.toNat)) else none
  | _, _ => none
theorem opr_pow : OpR X (binaryOp .Pow) (rG X.K powD) := by
  intro pins s σ H x y v u Q I rx ry ⟨F, a, b, d, s1, h1, h2, e, k⟩
  unfold powD at e
  split at e
  · split at e
    · rename_i hc
      cases e
      obtain rfl := h1.int
      obtain rfl := h2.int
      exact op_pow pins s σ H _ _ v u Q I rx ry ⟨_, _, rfl, rfl, hc, k _ F H (.refl s1) (.int _)⟩
    · cases e
  · cases e

/-! ### comparisons -/
@[simp] def eqD : G2 := fun a b => if okD 60 a && okD 60 b then some (.bool (PyData.eqv a b)) else none
@[simp] def neD : G2 := fun a b => if okD 60 a && okD 60 b then some (.bool (!PyData.eqv a b)) else none
theorem shaped_of {d : PyData} (h1 : d.canLay0 = true) (h2 : d.depth ≤ 60) : SeqAt.shaped d = true := by
  unfold SeqAt.shaped
  rw [h1, decide_eq_true (by omega)]; rfl
theorem opr_eq (hu : X.A.units + 64 < cLine) : OpR X (compareOp .Eq) (rG X.K eqD) := by
  intro pins s σ H x y v u Q I rx ry ⟨F, a, b, d, s1, h1, h2, e, k⟩
  unfold eqD at e
  split at e
  · rename_i hc
    cases e
    obtain ⟨c1, c2⟩ := Bool.and_eq_true_iff.mp hc
    obtain ⟨p1, q1, r1⟩ := Dn.dp a x 60 (h1.full s1) c1
    obtain ⟨p2, q2, r2⟩ := Dn.dp b y 60 (h2.full s1) c2
    exact op_eqD hu pins s σ H _ _ v u Q I rx ry ⟨a, b, p1, p2, shaped_of q1 r1, shaped_of q2 r2, k _ F H (.refl s1) (.bl _)⟩
  · cases e
theorem opr_ne (hu : X.A.units + 64 < cLine) : OpR X (compareOp .NotEq) (rG X.K neD) := by
  intro pins s σ H x y v u Q I rx ry ⟨F, a, b, d, s1, h1, h2, e, k⟩
  unfold neD at e
  split at e
  · rename_i hc
    cases e
    obtain ⟨c1, c2⟩ := Bool.and_eq_true_iff.mp hc
    obtain ⟨p1, q1, r1⟩ := Dn.dp a x 60 (h1.full s1) c1
    obtain ⟨p2, q2, r2⟩ := Dn.dp b y 60 (h2.full s1) c2
    exact op_neD hu pins s σ H _ _ v u Q I rx ry ⟨a, b, p1, p2, shaped_of q1 r1, shaped_of q2 r2, k _ F H (.refl s1) (.bl _)⟩
  · cases e
@[simp] def ltD : G2
  | .int i, .int j => some (.bool (decide (i < j)))
  | .str i, .str j => some (.bool (decide (i.cps.toList < j.cps.toList)))
  | _, _ => none
theorem opr_lt : OpR X (compareOp .Lt) (rG X.K ltD) := by
  intro pins s σ H x y v u Q I rx ry ⟨F, a, b, d, s1, h1, h2, e, k⟩
  unfold ltD at e
  split at e
  · cases e
    obtain rfl := h1.int
    obtain rfl := h2.int
    exact op_lt pins s σ H _ _ v u Q I rx ry ⟨_, _, rfl, rfl, k _ F H (.refl s1) (.bl _)⟩
  · cases e
    obtain ⟨rfl, o1⟩ := h1.str
    obtain ⟨rfl, o2⟩ := h2.str
    exact op_lt_str pins s σ H _ _ v u Q I rx ry ⟨_, _, rfl, rfl, k _ F H (.refl s1) (.bl _)⟩
  · cases e
@[simp] def leD : G2
  | .int i, .int j => some (.bool (decide (i ≤ j)))
  | _, _ => none
theorem opr_le : OpR X (compareOp .LtE) (rG X.K leD) := by
  intro pins s σ H x y v u Q I rx ry ⟨F, a, b, d, s1, h1, h2, e, k⟩
  unfold leD at e
  split at e
  · cases e
    obtain rfl := h1.int
    obtain rfl := h2.int
    exact op_le pins s σ H _ _ v u Q I rx ry ⟨_, _, rfl, rfl, k _ F H (.refl s1) (.bl _)⟩
  · cases e
@[simp] def gtD : G2
  | .int i, .int j => some (.bool (decide (j < i)))
  | _, _ => none
theorem opr_gt : OpR X (compareOp .Gt) (rG X.K gtD) := by
  intro pins s σ H x y v u Q I rx ry ⟨F, a, b, d, s1, h1, h2, e, k⟩
  unfold gtD at e
  split at e
  · cases e
    obtain rfl := h1.int
    obtain rfl := h2.int
    exact op_gt pins s σ H _ _ v u Q I rx ry ⟨_, _, rfl, rfl, k _ F H (.refl s1) (.bl _)⟩
  · cases e
@[simp] def geD : G2
  | .int i, .int j => some (.bool (decide (j ≤ i)))
  | _, _ => none
theorem opr_ge : OpR X (compareOp .GtE) (rG X.K geD) := by
  intro pins s σ H x y v u Q I rx ry ⟨F, a, b, d, s1, h1, h2, e, k⟩
  unfold geD at e
  split at e
  · cases e
    obtain rfl := h1.int
    obtain rfl := h2.int
    exact op_ge pins s σ H _ _ v u Q I rx ry ⟨_, _, rfl, rfl, k _ F H (.refl s1) (.bl _)⟩
  · cases e
@[simp] def isNone : PyData → Bool
  | .none => true
  | _ => false
@[simp] def isnD : G2
  | a, .none => some (.bool (isNone a))
  | .bool a, .bool b => some (.bool (a == b))
  | _, _ => none
theorem Bd.ne_non {K : PySem.W.Frag} {F H : Hp} {v : V} {d : PyData} (h : Bd K F H v d) : decide (v = .non) = isNone d := by
  cases d with
  | none => rw [h.none]; rfl
  | _ =>
    refine decide_eq_false fun z => ?_
    subst z
    rcases h with h | ⟨p, vs, ds', e1, h1, h2, h3, e⟩ | ⟨p, vs, ds', e1, h1, h2, h3, e⟩
    · cases h
    · cases e1
    · cases e1
theorem opr_is : OpR X (compareOp .Is) (rG X.K isnD) := by
  intro pins s σ H x y v u Q I rx ry ⟨F, a, b, d, s1, h1, h2, e, k⟩
  unfold isnD at e
  split at e
  · cases e
    obtain rfl := h2.none
    refine op_isN pins s σ H _ _ v u Q I rx ry ⟨rfl, ?_⟩
    rw [h1.ne_non]
    exact k _ F H (.refl s1) (.bl _)
  · cases e
    obtain rfl := h1.bool
    obtain rfl := h2.bool
    exact op_is_bl pins s σ H _ _ v u Q I rx ry ⟨_, _, rfl, rfl, k _ F H (.refl s1) (.bl _)⟩
  · cases e
@[simp] def isntD : G2
  | a, .none => some (.bool (!isNone a))
  | .bool a, .bool b => some (.bool (!(a == b)))
  | _, _ => none
theorem opr_isnt : OpR X (compareOp .IsNot) (rG X.K isntD) := by
  intro pins s σ H x y v u Q I rx ry ⟨F, a, b, d, s1, h1, h2, e, k⟩
  unfold isntD at e
  split at e
  · cases e
    obtain rfl := h2.none
    refine op_notN pins s σ H _ _ v u Q I rx ry ⟨rfl, ?_⟩
    rw [h1.ne_non]
    exact k _ F H (.refl s1) (.bl _)
  · cases e
    obtain rfl := h1.bool
    obtain rfl := h2.bool
    exact op_isnot_bl pins s σ H _ _ v u Q I rx ry ⟨_, _, rfl, rfl, k _ F H (.refl s1) (.bl _)⟩
  · cases e

/-! ### in -/
def inB (d : PyData) (ds : List PyData) : Bool := ds.any fun z => PyData.eqv z d
def sign1 (x : Str) : Option Nat := match x.cps.toList with | [c] => some c | _ => none
@[simp] def inD : G2
  | d, .list ds => if okD 60 d && ds.all (okD 59) then some (.bool (inB d ds)) else none
  | d, .tuple ds => if okD 60 d && ds.all (okD 59) then some (.bool (inB d ds)) else none
  | .str x, .str z => (sign1 x).map fun c => .bool (decide (c ∈ z.cps.toList))
  | _, _ => none
@[simp] def notInD : G2 := fun a b => (inD a b).bind fun d => match d with | .bool k => some (.bool (!k)) | _ => none
theorem opr_in (hu : X.A.units + 65 < cLine) : OpR X (compareOp .In) (rG X.K inD) := by
  intro pins s σ H x y v u Q I rx ry ⟨F, a, b, d, s1, h1, h2, e, k⟩
  unfold inD at e
  split at e
  · rename_i ds
    split at e
    · rename_i hc
      cases e
      obtain ⟨c1, c2⟩ := Bool.and_eq_true_iff.mp hc
      obtain ⟨p1, q1, r1⟩ := Dn.dp a x 60 (h1.full s1) c1
      obtain ⟨p2, q2, r2⟩ := Dn.dp (.list ds) y 60 (h2.full s1) (by rw [okD_list]; exact c2)
      exact op_inD hu pins s σ H _ _ v u Q I rx ry ⟨a, ds, p1, p2, shaped_of q1 r1, shaped_of q2 r2, k _ F H (.refl s1) (.bl _)⟩
    · cases e
  · rename_i ds
    split at e
    · rename_i hc
      cases e
      obtain ⟨c1, c2⟩ := Bool.and_eq_true_iff.mp hc
      obtain ⟨p1, q1, r1⟩ := Dn.dp a x 60 (h1.full s1) c1
      obtain ⟨p2, q2, r2⟩ := Dn.dp (.tuple ds) y 60 (h2.full s1) (by rw [okD_tuple]; exact c2)
      obtain ⟨as, g1⟩ := Dp.reads I a x v p1 rx
      obtain ⟨bs, g2⟩ := Dp.reads I (.tuple ds) y u p2 ry
      unfold PyData.canLay0 at q2
      refine SeqAt.in_tuple_reads g2 g1 q2 q1 ?_ ⟨.bl _, H, I, rfl, k _ F H (.refl s1) (.bl _)⟩
      have : min (PyData.depthAll ds) a.depth ≤ a.depth := Nat.min_le_right _ _
      omega
    · cases e
  · rename_i x' z
    obtain ⟨c, e1, e2⟩ := Option.map_eq_some_iff.mp e
    subst e2
    obtain ⟨rfl, o1⟩ := h1.str
    obtain ⟨rfl, o2⟩ := h2.str
    have hx : x' = ⟨#[c]⟩ := by
      unfold sign1 at e1
      split at e1
      · rename_i c' hc'
        cases e1
        obtain ⟨xc⟩ := x'
        congr 1
        exact Array.toList_inj.mp hc'
      · cases e1
    subst hx
    exact op_in_sign pins s σ H _ _ v u Q I rx ry ⟨c, z, rfl, rfl, k _ F H (.refl s1) (.bl _)⟩
  · cases e
theorem opr_notin (hu : X.A.units + 65 < cLine) : OpR X (compareOp .NotIn) (rG X.K notInD) := by
  intro pins s σ H x y v u Q I rx ry ⟨F, a, b, d, s1, h1, h2, e0, k⟩
  obtain ⟨d0, e, e3⟩ := Option.bind_eq_some_iff.mp e0
  unfold inD at e
  split at e
  · rename_i ds
    split at e
    · rename_i hc
      cases e
      cases e3
      obtain ⟨c1, c2⟩ := Bool.and_eq_true_iff.mp hc
      obtain ⟨p1, q1, r1⟩ := Dn.dp a x 60 (h1.full s1) c1
      obtain ⟨p2, q2, r2⟩ := Dn.dp (.list ds) y 60 (h2.full s1) (by rw [okD_list]; exact c2)
      exact op_notInD hu pins s σ H _ _ v u Q I rx ry ⟨a, ds, p1, p2, shaped_of q1 r1, shaped_of q2 r2, k _ F H (.refl s1) (.bl _)⟩
    · cases e
  · rename_i ds
    split at e
    · rename_i hc
      cases e
      cases e3
      obtain ⟨c1, c2⟩ := Bool.and_eq_true_iff.mp hc
      obtain ⟨p1, q1, r1⟩ := Dn.dp a x 60 (h1.full s1) c1
      obtain ⟨p2, q2, r2⟩ := Dn.dp (.tuple ds) y 60 (h2.full s1) (by rw [okD_tuple]; exact c2)
      obtain ⟨as, g1⟩ := Dp.reads I a x v p1 rx
      obtain ⟨bs, g2⟩ := Dp.reads I (.tuple ds) y u p2 ry
      unfold PyData.canLay0 at q2
      refine SeqAt.notIn_tuple_reads g2 g1 q2 q1 ?_ ⟨.bl _, H, I, rfl, k _ F H (.refl s1) (.bl _)⟩
      have : min (PyData.depthAll ds) a.depth ≤ a.depth := Nat.min_le_right _ _
      omega
    · cases e
  · rename_i x' z
    obtain ⟨c, e1, e2⟩ := Option.map_eq_some_iff.mp e
    subst e2
    cases e3
    obtain ⟨rfl, o1⟩ := h1.str
    obtain ⟨rfl, o2⟩ := h2.str
    have hx : x' = ⟨#[c]⟩ := by
      unfold sign1 at e1
      split at e1
      · rename_i c' hc'
        cases e1
        obtain ⟨xc⟩ := x'
        congr 1
        exact Array.toList_inj.mp hc'
      · cases e1
    subst hx
    exact op_notIn_sign pins s σ H _ _ v u Q I rx ry ⟨c, z, rfl, rfl, k _ F H (.refl s1) (.bl _)⟩
  · cases e
end
end M


namespace M
open PySem PySem.Spec PyProof.Rows L2

structure DE (X : Cx) (e : Expr) (t : TE) (f : En → Option PyData) : Prop where
  p : PE X e t
  r : RE X.K t f
structure DB (X : Cx) (e : Expr) (t : TE) (f : En → Option PyData) : Prop where
  p : PE X e t
  r : RB X.K t f
structure DL (X : Cx) (e : Expr) (t : TE) (f : En → Option (List PyData)) : Prop where
  p : PE X e t
  r : RL X.K t f
structure DT (X : Cx) (e : Expr) (t : TT) (f : En → Option Bool) : Prop where
  p : PT X e t
  r : RT X.K t f
structure DW (X : Cx) (e : Expr) (t : TT) (f : En → Option Bool) : Prop where
  p : PW X e t
  r : RT X.K t f
structure DA (X : Cx) (es : List Expr) (t : TA) (f : En → Option (List PyData)) : Prop where
  p : PA X es t
  r : RA X.K t f
structure DAB (X : Cx) (es : List Expr) (t : TA) (f : En → Option (List PyData)) : Prop where
  p : PA X es t
  r : RAB X.K t f
section
variable {X : Cx} {a b c e : Expr} {es : List Expr} {ta tb tc te : TE} {fa fb fc fe : En → Option PyData} {pos : Pos}
theorem DE.toB (h : DE X e te fe) : DB X e te fe := ⟨h.p, h.r.b⟩
theorem DL.toE {f : En → Option (List PyData)} (h : DL X e te f) : DE X e te (fun ε => (f ε).map .list) := ⟨h.p, h.r.e⟩
theorem de_var (i : Nat) {x : Str} (hN : X.N[i]? = some x := by rfl) (hv : Vis X.env.scope x := by first | exact Or.inl rfl | exact Or.inr (Or.inl rfl) | exact Or.inr (Or.inr rfl)) (hd : (x == ("__debug__" : Str)) = false := by decide)
    (hcd : (x == ("__classdict__" : Str)) = false := by decide) : DE X (.Name x pos) (tVar i) (getF i) := ⟨pe_var hN hv hd hcd, re_var⟩
theorem db_var (i : Nat) {x : Str} (hN : X.N[i]? = some x := by rfl) (hv : Vis X.env.scope x := by first | exact Or.inl rfl | exact Or.inr (Or.inl rfl) | exact Or.inr (Or.inr rfl)) (hd : (x == ("__debug__" : Str)) = false := by decide)
    (hcd : (x == ("__classdict__" : Str)) = false := by decide) : DB X (.Name x pos) (tVar i) (getB i) := ⟨pe_var hN hv hd hcd, rb_var⟩
theorem de_int {i : Int} {j} : DE X (.Constant (.int i) j pos) (tC (.int i)) (fun _ => some (.int i)) := ⟨pe_int, re_int⟩
theorem de_bl {i : Bool} {j} : DE X (.Constant (.bool i) j pos) (tC (.bl i)) (fun _ => some (.bool i)) := ⟨pe_bl, re_bl⟩
theorem de_non {j} : DE X (.Constant .none j pos) (tC .non) (fun _ => some .none) := ⟨pe_non, re_non⟩
theorem de_str {x : Str} {j} (h : PyData.strOk x = true := by decide +kernel) : DE X (.Constant (.str x) j pos) (tC (.str x)) (fun _ => some (.str x)) := ⟨pe_str, re_str h⟩
/-- a module's constant text -/
theorem de_gstr {x z : Str} {tk : Tok} (hg : Gl X x) (hm : X.mg x = some (.str z tk)) (h : PyData.strOk z = true := by decide +kernel) (hd : (x == ("__debug__" : Str)) = false := by decide) : DE X (.Name x pos) (tC (.str z)) (fun _ => some (.str z)) := ⟨pe_glob hg hm ⟨_, rfl⟩ hd, re_str h⟩

/-! ### operators -/
theorem de_op {op : Operator} {g : G2} (ho : OpR X (binaryOp op) (rG X.K g)) (ha : DB X a ta fa) (hb : DB X b tb fb) : DE X (.BinOp a op b pos) (tOp (rG X.K g) ta tb) (dOp g fa fb) :=
  ⟨pe_op ho ha.p hb.p, re_op op2G ha.r hb.r⟩
theorem dl_op {op : Operator} {g : PyData → PyData → Option (List PyData)} (ho : OpR X (binaryOp op) (rGL X.K g)) (ha : DB X a ta fa) (hb : DB X b tb fb) : DL X (.BinOp a op b pos) (tOp (rGL X.K g) ta tb) (dOpL g fa fb) :=
  ⟨pe_op ho ha.p hb.p, rl_op op2GL ha.r hb.r⟩
theorem de_cmp {op : CmpOp} {g : G2} (ho : OpR X (compareOp op) (rG X.K g)) (ha : DB X a ta fa) (hb : DB X b tb fb) (hm : behindInMarks op b = false) : DE X (.Compare a [op] [b] pos) (tOp (rG X.K g) ta tb) (dOp g fa fb) :=
  ⟨pe_cmpR ho ha.p hb.p hm, re_op op2G ha.r hb.r⟩
@[simp] def boolOf : Option PyData → Option Bool
  | some (.bool k) => some k
  | _ => none
theorem boolOf_some {o : Option PyData} {k : Bool} (h : boolOf o = some k) : o = some (.bool k) := by
  unfold boolOf at h
  split at h
  · cases h; rfl
  · cases h
theorem dn_bool {K : PySem.W.Frag} {F : Hp} {v : V} {k : Bool} (h : Dn K F v (.bool k)) : v = .bl k := by cases h; rfl
theorem dn_int {K : PySem.W.Frag} {F : Hp} {v : V} {k : Int} (h : Dn K F v (.int k)) : v = .int k := by cases h; rfl
theorem dt_cmp {op : CmpOp} {g : G2} (ho : OpR X (compareOp op) (rG X.K g)) (ha : DB X a ta fa) (hb : DB X b tb fb) (hm : behindInMarks op b = false) : DT X (.Compare a [op] [b] pos) (tTest (tOp (rG X.K g) ta tb)) (fun ε => boolOf (dOp g fa fb ε)) :=
  ⟨pt_cmpR ho ha.p hb.p hm, fun F H ε σ k Q r e q => re_op op2G ha.r hb.r F H ε σ (.bool k) _ r (boolOf_some e) fun v F' H' s d => ⟨k, dn_bool d, q F' H' s⟩⟩
/-- a op b op' c -/
@[simp] def dChain (g g' : G2) (fa fb fc : En → Option PyData) : En → Option PyData := fun ε => (fa ε).bind fun a => (fb ε).bind fun b => (boolOf (g a b)).bind fun k =>
  if k then (fc ε).bind fun c => g' b c else some (.bool false)
theorem re_chain {K : PySem.W.Frag} {g g' : G2} (ha : RB K ta fa) (hb : RB K tb fb) (hc : RB K tc fc) : RE K (tChain (rG K g) (rG K g') ta tb tc) (dChain g g' fa fb fc) := fun F H ε σ d Q rel e k => by
  obtain ⟨a, e1, e2⟩ := Option.bind_eq_some_iff.mp e
  obtain ⟨b, e3, e4⟩ := Option.bind_eq_some_iff.mp e2
  obtain ⟨j, e5, e6⟩ := Option.bind_eq_some_iff.mp e4
  refine ha F H ε σ a _ rel e1 fun x F1 H1 s1 d1 => ?_
  refine hb F1 H1 ε σ b _ (rel.step s1) e3 fun y F2 H2 s2 d2 => ?_
  refine ⟨F2, a, b, .bool j, s2.s, d1.step s2, d2, boolOf_some e5, fun v F3 H3 s3 d3 => ⟨j, dn_bool d3, ?_⟩⟩
  cases j with
  | true =>
    obtain ⟨c, e7, e8⟩ := Option.bind_eq_some_iff.mp e6
    refine iteT (hc F3 H3 ε σ c _ (((rel.step s1).step s2).step s3) e7 fun z F4 H4 s4 d4 => ?_)
    exact ⟨F4, b, c, d, s4.s, (d2.step s3).step s4, d4, e8, fun v F5 H5 s5 d5 => k v F5 H5 (s1.trans (s2.trans (s3.trans (s4.trans s5)))) d5⟩
  | false =>
    cases e6
    exact iteF (k _ F3 H3 (s1.trans (s2.trans s3)) (.bl false))
theorem de_chain {op op' : CmpOp} {g g' : G2} (ho : OpR X (compareOp op) (rG X.K g)) (ho' : OpR X (compareOp op') (rG X.K g')) (ha : DB X a ta fa) (hb : DB X b tb fb) (hc : DB X c tc fc)
    (hm : lastMarks [op, op'] [b, c] = false := by with_unfolding_all rfl) : DE X (.Compare a [op, op'] [b, c] pos) (tChain (rG X.K g) (rG X.K g') ta tb tc) (dChain g g' fa fb fc) :=
  ⟨pe_chain ho ho' ha.p hb.p hc.p hm, re_chain ha.r hb.r hc.r⟩
theorem dt_chain {op op' : CmpOp} {g g' : G2} (ho : OpR X (compareOp op) (rG X.K g)) (ho' : OpR X (compareOp op') (rG X.K g')) (ha : DB X a ta fa) (hb : DB X b tb fb) (hc : DB X c tc fc)
    (hm : lastMarks [op, op'] [b, c] = false := by with_unfolding_all rfl) : DT X (.Compare a [op, op'] [b, c] pos) (tTest (tChain (rG X.K g) (rG X.K g') ta tb tc)) (fun ε => boolOf (dChain g g' fa fb fc ε)) :=
  ⟨pt_chain ho ho' ha.p hb.p hc.p hm, fun F H ε σ k Q r e q => re_chain ha.r hb.r hc.r F H ε σ (.bool k) _ r (boolOf_some e) fun v F' H' s d => ⟨k, dn_bool d, q F' H' s⟩⟩
@[simp] def negD : PyData → Option PyData
  | .int i => some (.int (-i))
  | _ => none
theorem de_neg (ha : DE X a ta fa) : DE X (.UnaryOp .USub a pos) (tUn (rU fun i => .int (-i)) ta) (fun ε => (fa ε).bind negD) :=
  ⟨pe_un un_neg ha.p, fun F H ε σ d Q r e q => by
    obtain ⟨x, e1, e2⟩ := Option.bind_eq_some_iff.mp e
    unfold negD at e2
    split at e2
    · cases e2
      exact ha.r F H ε σ _ _ r e1 fun v F' H' s d => ⟨_, dn_int d, q _ F' H' s (.int _)⟩
    · cases e2⟩

/-! ### truth -/
@[simp] def truD : PyData → Option Bool
  | .none => some false
  | .bool b => some b
  | .int i => some (i != 0)
  | .str x => if x.length ≤ sizeLine then some ((x.length : Int) != 0) else none
  | .list xs => some (!xs.isEmpty)
  | .tuple xs => some (!xs.isEmpty)
  | .dict xs => some (!xs.isEmpty)
theorem DnKv.length {K : PySem.W.Frag} {F : Hp} : ∀ {vs : List (Key × V)} {ds : List (PyData × PyData)}, DnKv K F vs ds → vs.length = ds.length
  | _, _, .nil => rfl
  | _, _, .cons _ _ t => by simp [DnKv.length t]
theorem DnAll.empty {K : PySem.W.Frag} {F : Hp} {vs : List V} {ds : List PyData} (h : DnAll K F vs ds) : vs.isEmpty = ds.isEmpty := by cases h <;> rfl
theorem DnKv.empty {K : PySem.W.Frag} {F : Hp} {vs : List (Key × V)} {ds : List (PyData × PyData)} (h : DnKv K F vs ds) : vs.isEmpty = ds.isEmpty := by cases h <;> rfl
theorem tru_of {K : PySem.W.Frag} {F H : Hp} {v : V} {d : PyData} {k : Bool} (s : Lies F H) (h : Bd K F H v d) (e : truD d = some k) : TruV K v H k := by
  cases d with
  | none => rw [h.none]; cases e; rfl
  | bool b => rw [h.bool]; cases e; rfl
  | int b => rw [h.int]; cases e; rfl
  | str b =>
    obtain ⟨rfl, _⟩ := h.str
    unfold truD at e
    simp only at e
    split at e
    · cases e; exact ⟨by assumption, rfl⟩
    · cases e
  | list b =>
    obtain ⟨p, vs, rfl, h1, h2⟩ := h.items s
    cases e
    exact .inl ⟨vs, h1, by rw [h2.empty]⟩
  | tuple b =>
    obtain ⟨p, vs, rfl, _, h1, h2⟩ := h.itemsT s
    cases e
    exact .inr (.inl ⟨vs, h1, by rw [h2.empty]⟩)
  | dict b =>
    obtain ⟨p, vs, rfl, h1, h2⟩ := h.entries s
    cases e
    exact .inr (.inr ⟨vs, h1, by rw [h2.empty]⟩)
theorem dt_tru (ha : DB X a ta fa) (he : ∀ whole, isTrue a X.env whole = (do let v ← whole; standAt a.pos; holding [v] (truthy v)) := by intro _; rfl) :
    DT X a (fun σ H Q => ta σ H fun x H' => ∃ k, TruV X.K x H' k ∧ Q k H') (fun ε => (fa ε).bind truD) :=
  ⟨pt_truth ha.p he, fun F H ε σ k Q r e q => by
    obtain ⟨d, e1, e2⟩ := Option.bind_eq_some_iff.mp e
    exact ha.r F H ε σ d _ r e1 fun v F' H' s h => ⟨k, tru_of s.s h e2, q F' H' s⟩⟩
variable {tA tB' : TT} {ga gb : En → Option Bool} {rest : List Expr}
theorem dw_and1 (ha : DT X a tA ga) : DW X (.BoolOp .And [a] pos) tA ga := ⟨pw_and1 ha.p, ha.r⟩
theorem dw_or1 (ha : DT X a tA ga) : DW X (.BoolOp .Or [a] pos) tA ga := ⟨pw_or1 ha.p, ha.r⟩
@[simp] def dAnd (ga gb : En → Option Bool) : En → Option Bool := fun ε => (ga ε).bind fun k => if k then gb ε else some false
@[simp] def dOr (ga gb : En → Option Bool) : En → Option Bool := fun ε => (ga ε).bind fun k => if k then some true else gb ε
theorem dw_and (ha : DT X a tA ga) (hb : DW X (.BoolOp .And (b :: rest) pos) tB' gb) : DW X (.BoolOp .And (a :: b :: rest) pos) (tAnd tA tB') (dAnd ga gb) :=
  ⟨pw_and ha.p hb.p, fun F H ε σ k Q r e q => by
    obtain ⟨j, e1, e2⟩ := Option.bind_eq_some_iff.mp e
    refine ha.r F H ε σ j _ r e1 fun F1 H1 s1 => ?_
    cases j with
    | true => exact iteT (hb.r F1 H1 ε σ k _ (r.step s1) e2 fun F2 H2 s2 => q F2 H2 (s1.trans s2))
    | false => cases e2; exact iteF (q F1 H1 s1)⟩
theorem dw_or (ha : DT X a tA ga) (hb : DW X (.BoolOp .Or (b :: rest) pos) tB' gb) : DW X (.BoolOp .Or (a :: b :: rest) pos) (tOr tA tB') (dOr ga gb) :=
  ⟨pw_or ha.p hb.p, fun F H ε σ k Q r e q => by
    obtain ⟨j, e1, e2⟩ := Option.bind_eq_some_iff.mp e
    refine ha.r F H ε σ j _ r e1 fun F1 H1 s1 => ?_
    cases j with
    | true => cases e2; exact iteT (q F1 H1 s1)
    | false => exact iteF (hb.r F1 H1 ε σ k _ (r.step s1) e2 fun F2 H2 s2 => q F2 H2 (s1.trans s2))⟩
theorem DW.t (h : DW X a tA ga) : DT X a tA ga := ⟨h.p.pt, h.r⟩
theorem dt_not (ha : DT X a tA ga) : DT X (.UnaryOp .Not a pos) (tNot tA) (fun ε => (ga ε).map not) :=
  ⟨pt_not ha.p, fun F H ε σ k Q r e q => by
    obtain ⟨j, e1, rfl⟩ := Option.map_eq_some_iff.mp e
    exact ha.r F H ε σ j _ r e1 fun F1 H1 s1 => q F1 H1 s1⟩
/-- and, or, not as values -/
theorem de_one {op} (h : DE X a ta fa) : DE X (.BoolOp op [a] pos) ta fa := ⟨pe_one h.p, h.r⟩
@[simp] def dAndV (fa fb : En → Option PyData) : En → Option PyData := fun ε => (boolOf (fa ε)).bind fun k => if k then fb ε else some (.bool false)
@[simp] def dOrV (fa fb : En → Option PyData) : En → Option PyData := fun ε => (boolOf (fa ε)).bind fun k => if k then some (.bool true) else fb ε
theorem de_and (ha : DE X a ta fa) (hb : DE X (.BoolOp .And (b :: rest) pos) tb fb) : DE X (.BoolOp .And (a :: b :: rest) pos) (tAndV ta tb) (dAndV fa fb) :=
  ⟨pe_and ha.p hb.p, fun F H ε σ d Q r e q => by
    obtain ⟨j, e1, e2⟩ := Option.bind_eq_some_iff.mp e
    refine ha.r F H ε σ _ _ r (boolOf_some e1) fun v F1 H1 s1 d1 => ⟨j, dn_bool d1, ?_⟩
    cases j with
    | true => exact iteT (hb.r F1 H1 ε σ d _ (r.step s1) e2 fun v F2 H2 s2 d2 => q v F2 H2 (s1.trans s2) d2)
    | false => cases e2; exact iteF (q _ F1 H1 s1 (.bl false))⟩
theorem de_or (ha : DE X a ta fa) (hb : DE X (.BoolOp .Or (b :: rest) pos) tb fb) : DE X (.BoolOp .Or (a :: b :: rest) pos) (tOrV ta tb) (dOrV fa fb) :=
  ⟨pe_or ha.p hb.p, fun F H ε σ d Q r e q => by
    obtain ⟨j, e1, e2⟩ := Option.bind_eq_some_iff.mp e
    refine ha.r F H ε σ _ _ r (boolOf_some e1) fun v F1 H1 s1 d1 => ⟨j, dn_bool d1, ?_⟩
    cases j with
    | true => cases e2; exact iteT (q _ F1 H1 s1 (.bl true))
    | false => exact iteF (hb.r F1 H1 ε σ d _ (r.step s1) e2 fun v F2 H2 s2 d2 => q v F2 H2 (s1.trans s2) d2)⟩
theorem de_not (ha : DE X a ta fa) : DE X (.UnaryOp .Not a pos) (tNotV ta) (fun ε => (boolOf (fa ε)).map fun k => .bool (!k)) :=
  ⟨pe_not ha.p, fun F H ε σ d Q r e q => by
    obtain ⟨j, e1, rfl⟩ := Option.map_eq_some_iff.mp e
    exact ha.r F H ε σ _ _ r (boolOf_some e1) fun v F1 H1 s1 d1 => ⟨j, dn_bool d1, q _ F1 H1 s1 (.bl _)⟩⟩
@[simp] def dIfE (g : En → Option Bool) (fa fb : En → Option PyData) : En → Option PyData := fun ε => (g ε).bind fun k => if k then fa ε else fb ε
theorem de_ifE (hc : DT X c tA ga) (ha : DE X a ta fa) (hb : DE X b tb fb) : DE X (.IfExp c a b pos) (tIf tA ta tb) (dIfE ga fa fb) :=
  ⟨pe_ifExp hc.p ha.p hb.p, fun F H ε σ d Q r e q => by
    obtain ⟨j, e1, e2⟩ := Option.bind_eq_some_iff.mp e
    refine hc.r F H ε σ j _ r e1 fun F1 H1 s1 => ?_
    cases j with
    | true => exact iteT (ha.r F1 H1 ε σ d _ (r.step s1) e2 fun v F2 H2 s2 d2 => q v F2 H2 (s1.trans s2) d2)
    | false => exact iteF (hb.r F1 H1 ε σ d _ (r.step s1) e2 fun v F2 H2 s2 d2 => q v F2 H2 (s1.trans s2) d2)⟩

/-! ### arguments, displays -/
variable {t : TA} {f : En → Option (List PyData)}
theorem da_nil : DA X [] tNil (fun _ => some []) := ⟨pa_nil, fun F H ε σ d Q r e q => by cases e; exact q _ F H (.refl r.sub) .nil⟩
@[simp] def dCons (fe : En → Option PyData) (f : En → Option (List PyData)) : En → Option (List PyData) := fun ε => (fe ε).bind fun d => (f ε).map (d :: ·)
theorem da_cons (ha : DE X e te fe) (hr : DA X es t f) (hs : starEach (e :: es) X.env = (false, eval e X.env) :: starEach es X.env := by rfl) : DA X (e :: es) (tCons te t) (dCons fe f) :=
  ⟨pa_cons ha.p hr.p hs, fun F H ε σ ds Q r e q => by
    obtain ⟨d, e1, e2⟩ := Option.bind_eq_some_iff.mp e
    obtain ⟨ds', e3, rfl⟩ := Option.map_eq_some_iff.mp e2
    refine ha.r F H ε σ d _ r e1 fun v F1 H1 s1 d1 => ?_
    refine hr.r F1 H1 ε σ ds' _ (r.step s1) e3 fun vs F2 H2 s2 d2 => ?_
    exact q _ F2 H2 (s1.trans s2) (.cons (d1.mv s2.f) d2)⟩
theorem dab_nil : DAB X [] tNil (fun _ => some []) := ⟨pa_nil, fun F H ε σ d Q r e q => by cases e; exact q _ F H (.refl r.sub) trivial⟩
theorem dab_cons (ha : DB X e te fe) (hr : DAB X es t f) (hs : starEach (e :: es) X.env = (false, eval e X.env) :: starEach es X.env := by rfl) : DAB X (e :: es) (tCons te t) (dCons fe f) :=
  ⟨pa_cons ha.p hr.p hs, fun F H ε σ ds Q r e q => by
    obtain ⟨d, e1, e2⟩ := Option.bind_eq_some_iff.mp e
    obtain ⟨ds', e3, rfl⟩ := Option.map_eq_some_iff.mp e2
    refine ha.r F H ε σ d _ r e1 fun v F1 H1 s1 d1 => ?_
    refine hr.r F1 H1 ε σ ds' _ (r.step s1) e3 fun vs F2 H2 s2 d2 => ?_
    exact q _ F2 H2 (s1.trans s2) ⟨d1.step s2, d2⟩⟩
@[simp] def limL (o : Option (List PyData)) : Option (List PyData) := o.bind fun ds => if ds.length ≤ sizeLine then some ds else none
theorem dl_lst (h : DA X es t f) : DL X (.List es pos) (tLst t) (fun ε => limL (f ε)) :=
  ⟨pe_lst h.p, fun F H ε σ ds Q r e q => by
    obtain ⟨ds', e1, e2⟩ := Option.bind_eq_some_iff.mp e
    split at e2
    · cases e2
      refine h.r F H ε σ _ _ r e1 fun vs F1 H1 s1 d1 => ⟨by rw [d1.length]; assumption, fun p hp => ?_⟩
      obtain ⟨st, nf, hp'⟩ := new_lst (vs := vs) s1.s hp
      exact q p vs F1 _ (s1.trans st) (s1.fr _ hp) nf hp' d1
    · cases e2⟩
theorem de_tup {k} (h : DA X es t f) : DE X (.Tuple es k pos) (tTup t) (fun ε => (limL (f ε)).map .tuple) :=
  ⟨pe_tup h.p, fun F H ε σ d Q r e q => by
    obtain ⟨ds, e0, rfl⟩ := Option.map_eq_some_iff.mp e
    obtain ⟨ds', e1, e2⟩ := Option.bind_eq_some_iff.mp e0
    split at e2
    · cases e2
      refine h.r F H ε σ _ _ r e1 fun vs F1 H1 s1 d1 => ⟨by rw [d1.length]; assumption, fun p hp => ?_⟩
      obtain ⟨st, dn⟩ := new_tup s1.s hp d1
      exact q _ _ _ (s1.trans st) dn
    · cases e2⟩

/-! ### items, slices -/
def atD (ds : List PyData) (i : Int) : Option PyData := atI ds i
@[simp] def ixD : G2
  | .list ds, .int i => atI ds i
  | .tuple ds, .int i => atI ds i
  | .str z, .int i => if z.length ≤ sizeLine then (atI z.cps.toList i).map fun c => .str ⟨#[c]⟩ else none
  | _, _ => none
theorem atI_get {K : PySem.W.Frag} {F : Hp} {vs : List V} {ds : List PyData} {i : Int} {d : PyData} (h : DnAll K F vs ds) (e : atI ds i = some d) : ∃ v, atI vs i = some v ∧ Dn K F v d := by
  unfold atI at *
  obtain ⟨j, e1, e2⟩ := Option.bind_eq_some_iff.mp e
  obtain ⟨v, h1, h2⟩ := h.get e2
  exact ⟨v, by rw [h.length, e1]; exact h1, h2⟩
theorem atI_mem {α : Type} {xs : List α} {i : Int} {c : α} (e : atI xs i = some c) : c ∈ xs := by
  unfold atI at e
  obtain ⟨j, e1, e2⟩ := Option.bind_eq_some_iff.mp e
  exact List.mem_of_getElem? e2
theorem op_ixD {K : PySem.W.Frag} : Op2 K (rIx K) ixD := fun F H x y a b d Q s h1 h2 e k => by
  unfold ixD at e
  split at e
  · obtain ⟨p, vs, rfl, hv, av⟩ := h1.items s
    obtain rfl := h2.int
    obtain ⟨v, e1, d1⟩ := atI_get av e
    exact .inl ⟨p, vs, _, v, rfl, rfl, hv, e1, k v F H (.refl s) d1⟩
  · obtain ⟨p, vs, rfl, _, hv, av⟩ := h1.itemsT s
    obtain rfl := h2.int
    obtain ⟨v, e1, d1⟩ := atI_get av e
    exact .inr (.inl ⟨p, vs, _, v, rfl, rfl, hv, e1, k v F H (.refl s) d1⟩)
  · split at e
    · rename_i hz
      obtain ⟨c, e1, rfl⟩ := Option.map_eq_some_iff.mp e
      obtain ⟨rfl, o⟩ := h1.str
      obtain rfl := h2.int
      refine .inr (.inr ⟨_, _, c, rfl, rfl, hz, e1, k _ F H (.refl s) (.str _ ?_)⟩)
      have := strOk_iff.mp o c (atI_mem e1)
      exact strOk_iff.mpr (by simpa using this)
    · cases e
  · cases e
theorem de_ix (ha : DB X a ta fa) (hb : DB X b tb fb) (hs : PlainIx b := by exact fun _ _ => rfl) : DE X (.Subscript a b pos) (tOp (rIx X.K) ta tb) (dOp ixD fa fb) :=
  ⟨pe_ix ix_seq ha.p hb.p hs, re_op op_ixD ha.r hb.r⟩
/-- the parts of a slice -/
structure DO (X : Cx) (e : Option Expr) (t : TO) (f : En → Option (Option Int)) : Prop where
  p : PO X e t
  r : ∀ (F H : Hp) (ε : En) (σ : L2.St) (o : Option Int) (Q : Option Int → Hp → Prop), RelE X.K F H ε σ → f ε = some o → (∀ F' H', Step F H F' H' → Q o H') → t σ H Q
theorem do_none : DO X none tNoPart (fun _ => some none) := ⟨po_none, fun F H ε σ o Q r e q => by cases e; exact q F H (.refl r.sub)⟩
@[simp] def intOf : Option PyData → Option (Option Int)
  | some (.int i) => some (some i)
  | _ => none
theorem do_some (h : DB X e te fe) : DO X (some e) (tPart te) (fun ε => intOf (fe ε)) := ⟨po_some h.p, fun F H ε σ o Q r e q => by
  unfold intOf at e
  split at e
  · rename_i i he
    cases e
    exact h.r F H ε σ _ _ r he fun v F' H' s d => ⟨i, d.int, q F' H' s⟩
  · cases e⟩
def cutD {α : Type} (xs : List α) (lo hi : Option Int) : List α := (xs.drop (HT.sIx xs.length 0 lo)).take (HT.sIx xs.length xs.length hi - HT.sIx xs.length 0 lo)
@[simp] def slD : PyData → Option Int → Option Int → Option PyData
  | .list ds, lo, hi => some (.list (cutD ds lo hi))
  | .tuple ds, lo, hi => some (.tuple (cutD ds lo hi))
  | .str z, lo, hi => if z.length ≤ sizeLine then some (.str ⟨(cutD z.cps.toList lo hi).toArray⟩) else none
  | _, _, _ => none
theorem DnAll.cut {K : PySem.W.Frag} {F : Hp} {vs : List V} {ds : List PyData} (h : DnAll K F vs ds) (lo hi : Option Int) : DnAll K F (cutV vs lo hi) (cutD ds lo hi) := by
  unfold cutV cutD
  rw [h.length]
  exact (h.drop _).take _
theorem cut_mem {α : Type} {xs : List α} {lo hi : Option Int} {c : α} (h : c ∈ cutD xs lo hi) : c ∈ xs := List.mem_of_mem_drop (List.mem_of_mem_take h)
theorem cut_full {α : Type} {xs : List α} {lo hi : Option Int} (h : HT.sIx xs.length 0 lo = 0 ∧ HT.sIx xs.length xs.length hi = xs.length) : cutD xs lo hi = xs := by
  unfold cutD
  rw [h.1, h.2]
  simp
theorem cutS_eq (z : Str) (lo hi : Option Int) : cutS z lo hi = ⟨(cutD z.cps.toList lo hi).toArray⟩ := by
  unfold cutS cutD
  have e : z.length = z.cps.toList.length := by simp [Str.length]
  rw [e]
def rSlAll (K : PySem.W.Frag) : V → Option Int → Option Int → Hp → VK → Prop := fun x lo hi H Q => rSlL K x lo hi H Q ∨ rSlA K x lo hi H Q ∨ rSlS x lo hi H Q
theorem sl_all : SlR X (rSlAll X.K) := sl_list.or (sl_tupA.or sl_str)
@[simp] def dSl (fe : En → Option PyData) (fl fh : En → Option (Option Int)) : En → Option PyData := fun ε => (fe ε).bind fun d => (fl ε).bind fun lo => (fh ε).bind fun hi => slD d lo hi
variable {lo hi : Option Expr} {tl th : TO} {fl fh : En → Option (Option Int)} {p2 : Pos}
theorem de_sl (he : DB X e te fe) (hl : DO X lo tl fl) (hu : DO X hi th fh) : DE X (.Subscript e (.Slice lo hi none p2) pos) (tSl (rSlAll X.K) te tl th) (dSl fe fl fh) :=
  ⟨pe_slice sl_all he.p hl.p hu.p, fun F H ε σ d Q r e q => by
    obtain ⟨d0, e1, e'⟩ := Option.bind_eq_some_iff.mp e
    obtain ⟨l, e2, e''⟩ := Option.bind_eq_some_iff.mp e'
    obtain ⟨h, e3, e4⟩ := Option.bind_eq_some_iff.mp e''
    refine he.r F H ε σ d0 _ r e1 fun v F1 H1 s1 d1 => ?_
    refine hl.r F1 H1 ε σ l _ (r.step s1) e2 fun F2 H2 s2 => ?_
    refine hu.r F2 H2 ε σ h _ ((r.step s1).step s2) e3 fun F3 H3 s3 => ?_
    have d3 := (d1.step s2).step s3
    have s := s1.trans (s2.trans s3)
    unfold slD at e4
    split at e4
    · cases e4
      obtain ⟨p, vs, rfl, hv, av⟩ := d3.items s3.s
      refine .inl ⟨p, vs, rfl, hv, fun p' hp => ?_⟩
      obtain ⟨st, nf, hp'⟩ := new_lst (vs := cutV vs l h) s3.s hp
      obtain ⟨s', d'⟩ := frz_new st hp nf hp' (av.cut l h)
      exact q _ _ _ (s.trans s') d'
    · cases e4
      obtain ⟨p, vs, rfl, hf, hv, av⟩ := d3.itemsT s3.s
      refine .inr (.inl ⟨p, vs, rfl, hv, fun z => ?_, fun _ p' hp => ?_⟩)
      · rw [av.length] at z
        rw [cut_full z] at q
        exact q _ _ _ s (.tup hf av)
      · obtain ⟨st, dn⟩ := new_tup s3.s hp (av.cut l h)
        exact q _ _ _ (s.trans st) dn
    · split at e4
      · rename_i hz
        cases e4
        obtain ⟨rfl, o⟩ := d3.str
        refine .inr (.inr ⟨_, rfl, hz, ?_⟩)
        rw [cutS_eq]
        exact q _ _ _ s (.str _ (strOk_iff.mpr fun c hc => strOk_iff.mp o c (cut_mem (by simpa using hc))))
      · cases e4
    · cases e4⟩
@[simp] def slL : PyData → Option Int → Option Int → Option (List PyData)
  | .list ds, lo, hi => some (cutD ds lo hi)
  | _, _, _ => none
@[simp] def dSlL (fe : En → Option PyData) (fl fh : En → Option (Option Int)) : En → Option (List PyData) := fun ε => (fe ε).bind fun d => (fl ε).bind fun lo => (fh ε).bind fun hi => slL d lo hi
theorem dl_sl (he : DB X e te fe) (hl : DO X lo tl fl) (hu : DO X hi th fh) : DL X (.Subscript e (.Slice lo hi none p2) pos) (tSl (rSlL X.K) te tl th) (dSlL fe fl fh) :=
  ⟨pe_slice sl_list he.p hl.p hu.p, fun F H ε σ d Q r e q => by
    obtain ⟨d0, e1, e'⟩ := Option.bind_eq_some_iff.mp e
    obtain ⟨l, e2, e''⟩ := Option.bind_eq_some_iff.mp e'
    obtain ⟨h, e3, e4⟩ := Option.bind_eq_some_iff.mp e''
    refine he.r F H ε σ d0 _ r e1 fun v F1 H1 s1 d1 => ?_
    refine hl.r F1 H1 ε σ l _ (r.step s1) e2 fun F2 H2 s2 => ?_
    refine hu.r F2 H2 ε σ h _ ((r.step s1).step s2) e3 fun F3 H3 s3 => ?_
    have d3 := (d1.step s2).step s3
    have s := s1.trans (s2.trans s3)
    unfold slL at e4
    split at e4
    · cases e4
      obtain ⟨p, vs, rfl, hv, av⟩ := d3.items s3.s
      refine ⟨p, vs, rfl, hv, fun p' hp => ?_⟩
      obtain ⟨st, nf, hp'⟩ := new_lst (vs := cutV vs l h) s3.s hp
      exact q _ _ _ _ (s.trans st) (s.fr _ hp) nf hp' (av.cut l h)
    · cases e4⟩

/-! ### calls of built-ins -/
def rGC (K : PySem.W.Frag) (g : List PyData → Option PyData) : List V → Hp → VK → Prop := fun vs H Q => ∃ F ds d, Lies F H ∧ BdAll K F H vs ds ∧ g ds = some d ∧ ∀ v F' H', Step F H F' H' → Dn K F' v d → Q v H'
def rGCL (K : PySem.W.Frag) (g : List PyData → Option (List PyData)) : List V → Hp → VK → Prop := fun vs H Q => ∃ F ds d, Lies F H ∧ BdAll K F H vs ds ∧ g ds = some d ∧
  ∀ p vs F' H', Step F H F' H' → H p = none → F' p = none → H' p = some (.lst vs) → DnAll K F' vs d → Q (.ref p) H'
variable {x : Str} {p : Pos}
theorem re_call {K : PySem.W.Frag} {g : List PyData → Option PyData} (ha : RAB K t f) : RE K (tCB (rGC K g) t) (fun ε => (f ε).bind g) := fun F H ε σ d Q r e q => by
  obtain ⟨ds, e1, e2⟩ := Option.bind_eq_some_iff.mp e
  exact ha F H ε σ ds _ r e1 fun vs F1 H1 s1 d1 => ⟨F1, ds, d, s1.s, d1, e2, fun v F' H' s' d' => q v F' H' (s1.trans s') d'⟩
theorem rl_call {K : PySem.W.Frag} {g : List PyData → Option (List PyData)} (ha : RAB K t f) : RL K (tCB (rGCL K g) t) (fun ε => (f ε).bind g) := fun F H ε σ d Q r e q => by
  obtain ⟨ds, e1, e2⟩ := Option.bind_eq_some_iff.mp e
  exact ha F H ε σ ds _ r e1 fun vs F1 H1 s1 d1 => ⟨F1, ds, d, s1.s, d1, e2, fun p vs F' H' s' n nf hp d' => q p vs F' H' (s1.trans s') (s1.fr _ n) nf hp d'⟩
theorem de_callB {id : String} {g : List PyData → Option PyData} (hc : CallR X (.builtin id) (rGC X.K g)) (hg : Gl X x) (hm : X.mg x = none) (hv : bootBuiltins x = some (.builtin id)) (ha : DAB X (e :: es) t f) (hn : x ≠ "__name__" := by decide) (hdb : (x == ("__debug__" : Str)) = false := by decide)
    (he : starEach (e :: es) X.env = (false, eval e X.env) :: starEach es X.env := by rfl) (hpl : (backTo pos (starEach es X.env)).any (·.1) = false := by rfl) : DE X (.Call (.Name x p) (e :: es) [] pos) (tCB (rGC X.K g) t) (fun ε => (f ε).bind g) :=
  ⟨pe_callB hc hg hm hv ha.p hn hdb he hpl, re_call ha.r⟩
theorem de_callTy {T : String} {g : List PyData → Option PyData} (hc : CallR X (.type T) (rGC X.K g)) (hg : Gl X x) (hm : X.mg x = none) (hv : bootBuiltins x = some (.type T)) (ha : DAB X (e :: es) t f) (hn : x ≠ "__name__" := by decide) (hdb : (x == ("__debug__" : Str)) = false := by decide)
    (he : starEach (e :: es) X.env = (false, eval e X.env) :: starEach es X.env := by rfl) (hpl : (backTo pos (starEach es X.env)).any (·.1) = false := by rfl) : DE X (.Call (.Name x p) (e :: es) [] pos) (tCB (rGC X.K g) t) (fun ε => (f ε).bind g) :=
  ⟨pe_callTy hc hg hm hv ha.p hn hdb he hpl, re_call ha.r⟩
theorem dl_callB {id : String} {g : List PyData → Option (List PyData)} (hc : CallR X (.builtin id) (rGCL X.K g)) (hg : Gl X x) (hm : X.mg x = none) (hv : bootBuiltins x = some (.builtin id)) (ha : DAB X (e :: es) t f) (hn : x ≠ "__name__" := by decide) (hdb : (x == ("__debug__" : Str)) = false := by decide)
    (he : starEach (e :: es) X.env = (false, eval e X.env) :: starEach es X.env := by rfl) (hpl : (backTo pos (starEach es X.env)).any (·.1) = false := by rfl) : DL X (.Call (.Name x p) (e :: es) [] pos) (tCB (rGCL X.K g) t) (fun ε => (f ε).bind g) :=
  ⟨pe_callB hc hg hm hv ha.p hn hdb he hpl, rl_call ha.r⟩
theorem dl_callTy {T : String} {g : List PyData → Option (List PyData)} (hc : CallR X (.type T) (rGCL X.K g)) (hg : Gl X x) (hm : X.mg x = none) (hv : bootBuiltins x = some (.type T)) (ha : DAB X (e :: es) t f) (hn : x ≠ "__name__" := by decide) (hdb : (x == ("__debug__" : Str)) = false := by decide)
    (he : starEach (e :: es) X.env = (false, eval e X.env) :: starEach es X.env := by rfl) (hpl : (backTo pos (starEach es X.env)).any (·.1) = false := by rfl) : DL X (.Call (.Name x p) (e :: es) [] pos) (tCB (rGCL X.K g) t) (fun ε => (f ε).bind g) :=
  ⟨pe_callTy hc hg hm hv ha.p hn hdb he hpl, rl_call ha.r⟩
/-- calls of defs -/
def PSp (K : PySem.W.Frag) (g : List PyData → Option PyData) : Sp := fun vs H Q _ => ∃ F ds d, Lies F H ∧ DnAll K F vs ds ∧ g ds = some d ∧ ∀ v F' H', Step F H F' H' → Dn K F' v d → Q v H'
def LSp (K : PySem.W.Frag) (g : List PyData → Option (List PyData)) : Sp := fun vs H Q _ => ∃ F ds d, Lies F H ∧ DnAll K F vs ds ∧ g ds = some d ∧
  ∀ p vs F' H', Step F H F' H' → H p = none → F' p = none → H' p = some (.lst vs) → DnAll K F' vs d → Q (.ref p) H'
theorem LSp.toP {P : Program} {w : World} {K : PySem.W.Frag} {mg : Str → Option Value} {base : Heap} {CX : CXT} {k : Nat} {fa : Addr} {fd : FuncData} {ps : List Str} {g : List PyData → Option (List PyData)} (F : FnOk P w K mg base CX k fa fd ps (LSp K g)) : FnOk P w K mg base CX k fa fd ps (PSp K fun ds => (g ds).map .list) :=
  F.imp fun vs H Q E ⟨F, ds, d, s, a, e, q⟩ => by
    obtain ⟨d', e1, rfl⟩ := Option.map_eq_some_iff.mp e
    refine ⟨F, ds, d', s, a, e1, fun p vs F' H' st n nf hp av => ?_⟩
    obtain ⟨s', d''⟩ := frz_new st n nf hp av
    exact q _ _ _ s' d''
variable {k : Nat} {fa : Addr} {fd : FuncData} {ps : List Str}
theorem re_fn {K : PySem.W.Frag} {g : List PyData → Option PyData} {E : XK} (ha : RA K t f) : RE K (tCall (PSp K g) [] E t) (fun ε => (f ε).bind g) := fun F H ε σ d Q r e q => by
  obtain ⟨ds, e1, e2⟩ := Option.bind_eq_some_iff.mp e
  exact ha F H ε σ ds _ r e1 fun vs F1 H1 s1 d1 => ⟨F1, ds, d, s1.s, by rw [List.append_nil]; exact d1, e2, fun v F' H' s' d' => q v F' H' (s1.trans s') d'⟩
theorem rl_fn {K : PySem.W.Frag} {g : List PyData → Option (List PyData)} {E : XK} (ha : RA K t f) : RL K (tCall (LSp K g) [] E t) (fun ε => (f ε).bind g) := fun F H ε σ d Q r e q => by
  obtain ⟨ds, e1, e2⟩ := Option.bind_eq_some_iff.mp e
  exact ha F H ε σ ds _ r e1 fun vs F1 H1 s1 d1 => ⟨F1, ds, d, s1.s, by rw [List.append_nil]; exact d1, e2, fun p vs F' H' s' n nf hp d' => q p vs F' H' (s1.trans s') (s1.fr _ n) nf hp d'⟩
theorem de_fn {g : List PyData → Option PyData} (G : FnOk X.prog X.w X.K X.mg X.base CX0 k fa fd ps (PSp X.K g)) (hr : Room k X.A) (hg : Gl X x) (hm : X.mg x = some (.ref fa)) (hk : PySem.W.keepIn X.K (.ref fa) = true) (hb : Binds X.K fd ps [])
    (ha : DA X (e :: es) t f) (hdb : (x == ("__debug__" : Str)) = false := by decide) (he : starEach (e :: es) X.env = (false, eval e X.env) :: starEach es X.env := by rfl) (hpl : (backTo pos (starEach es X.env)).any (·.1) = false := by rfl) :
    DE X (.Call (.Name x p) (e :: es) [] pos) (tCall (PSp X.K g) [] E0 t) (fun ε => (f ε).bind g) := ⟨pe_call G hr hg hm hk hb .nil pass0 ha.p hdb he hpl, re_fn ha.r⟩
theorem dl_fn {g : List PyData → Option (List PyData)} (G : FnOk X.prog X.w X.K X.mg X.base CX0 k fa fd ps (LSp X.K g)) (hr : Room k X.A) (hg : Gl X x) (hm : X.mg x = some (.ref fa)) (hk : PySem.W.keepIn X.K (.ref fa) = true) (hb : Binds X.K fd ps [])
    (ha : DA X (e :: es) t f) (hdb : (x == ("__debug__" : Str)) = false := by decide) (he : starEach (e :: es) X.env = (false, eval e X.env) :: starEach es X.env := by rfl) (hpl : (backTo pos (starEach es X.env)).any (·.1) = false := by rfl) :
    DL X (.Call (.Name x p) (e :: es) [] pos) (tCall (LSp X.K g) [] E0 t) (fun ε => (f ε).bind g) := ⟨pe_call G hr hg hm hk hb .nil pass0 ha.p hdb he hpl, rl_fn ha.r⟩
theorem de_fn0 {g : List PyData → Option PyData} (G : FnOk X.prog X.w X.K X.mg X.base CX0 k fa fd ps (PSp X.K g)) (hr : Room k X.A) (hg : Gl X x) (hm : X.mg x = some (.ref fa)) (hk : PySem.W.keepIn X.K (.ref fa) = true) (hb : Binds X.K fd ps [])
    (hdb : (x == ("__debug__" : Str)) = false := by decide) : DE X (.Call (.Name x p) [] [] pos) (tCall (PSp X.K g) [] E0 tNil) (fun ε => (some []).bind g) :=
  ⟨pe_call0 G hr hg hm hk hb .nil pass0 hdb, re_fn (f := fun _ => some []) da_nil.r⟩
theorem dl_fn0 {g : List PyData → Option (List PyData)} (G : FnOk X.prog X.w X.K X.mg X.base CX0 k fa fd ps (LSp X.K g)) (hr : Room k X.A) (hg : Gl X x) (hm : X.mg x = some (.ref fa)) (hk : PySem.W.keepIn X.K (.ref fa) = true) (hb : Binds X.K fd ps [])
    (hdb : (x == ("__debug__" : Str)) = false := by decide) : DL X (.Call (.Name x p) [] [] pos) (tCall (LSp X.K g) [] E0 tNil) (fun ε => (some []).bind g) :=
  ⟨pe_call0 G hr hg hm hk hb .nil pass0 hdb, rl_fn (f := fun _ => some []) da_nil.r⟩
end
end M


namespace M
open PySem PySem.Spec PyProof.Rows L2

structure DEnds where
  nx : En → Prop
  rt : Slot → Prop
  bk : En → Prop := fun _ => False
  ct : En → Prop := fun _ => False
  /-- an error of the program's, by its class's name -/
  er : Str → Prop := fun _ => False
abbrev TD := DEnds → En → Prop

def OwnAt (ε : En) (σ : L2.St) (i : Nat) (p : Addr) : Prop := ∃ s : Slot, ε[i]? = some (some s) ∧ s.own = true ∧ σ[i]? = some (some (.ref p))
structure Rel (K : PySem.W.Frag) (F0 H0 F H : Hp) (ε : En) (σ : L2.St) : Prop where
  e : RelE K F H ε σ
  st : Step F0 H0 F H
  own : ∀ i p, OwnAt ε σ i p → H0 p = none
  sep : ∀ i j p, OwnAt ε σ i p → OwnAt ε σ j p → i = j
/-- a slot's value made by an expression: new where it is owned -/
def SlotN (K : PySem.W.Frag) (F' H' H : Hp) (v : V) (s : Slot) : Prop := SlotR K F' H' v s ∧ ∀ p, s.own = true → v = .ref p → H p = none
def RetR (K : PySem.W.Frag) (F0 H0 : Hp) (s : Slot) (v : V) (H' : Hp) : Prop := ∃ F', Step F0 H0 F' H' ∧ SlotR K F' H' v s ∧ ∀ p, s.own = true → v = .ref p → H0 p = none
structure Cor (K : PySem.W.Frag) (F0 H0 Fs : Hp) (R : DEnds) (D : Ends) : Prop where
  nx : ∀ ε σ F H, Rel K F0 H0 F H ε σ → Same Fs F → R.nx ε → D.nx σ H
  rt : ∀ s v H, RetR K F0 H0 s v H → R.rt s → D.rt v H
  bk : ∀ ε σ F H, Rel K F0 H0 F H ε σ → Same Fs F → R.bk ε → D.bk σ H
  ct : ∀ ε σ F H, Rel K F0 H0 F H ε σ → Same Fs F → R.ct ε → D.ct σ H
theorem Cor.mono {K : PySem.W.Frag} {F0 H0 Fs Fs' : Hp} {R : DEnds} {D : Ends} (c : Cor K F0 H0 Fs R D) (s : Same Fs Fs') : Cor K F0 H0 Fs' R D :=
  ⟨fun ε σ F H r z h => c.nx ε σ F H r (s.trans z) h, c.rt, fun ε σ F H r z h => c.bk ε σ F H r (s.trans z) h, fun ε σ F H r z h => c.ct ε σ F H r (s.trans z) h⟩
def RS (K : PySem.W.Frag) (t : TS) (T : TD) : Prop := ∀ (F0 H0 F H : Hp) (ε : En) (σ : L2.St) (R : DEnds) (D : Ends), Rel K F0 H0 F H ε σ → T R ε → Cor K F0 H0 F R D → t D σ H
def RX (K : PySem.W.Frag) (t : TE) (f : En → Option Slot) : Prop := ∀ (F H : Hp) (ε : En) (σ : L2.St) (s : Slot) (Q : VK), RelE K F H ε σ → f ε = some s →
  (∀ v F' H', Step F H F' H' → SlotN K F' H' H v s → Q v H') → t σ H Q
section
variable {K : PySem.W.Frag} {F0 H0 F H F' H' : Hp} {ε : En} {σ : L2.St}
theorem Rel.step (r : Rel K F0 H0 F H ε σ) (s : Step F H F' H') : Rel K F0 H0 F' H' ε σ := ⟨r.e.step s, r.st.trans s, r.own, r.sep⟩
theorem OwnAt.cell {i : Nat} {p : Addr} (e : RelE K F H ε σ) (h : OwnAt ε σ i p) : ∃ o, H p = some o ∧ okO o = true ∧ F p = none := by
  obtain ⟨s, h1, h2, h3⟩ := h
  obtain ⟨v, e1, e2⟩ := e.sl _ _ h1
  rw [h3] at e1
  cases e1
  cases s with
  | f d => cases h2
  | o ds => obtain ⟨p', vs, e3, e4, e5, _⟩ := e2; cases e3; exact ⟨_, e4, rfl, e5⟩
  | od ds => obtain ⟨p', vs, e3, e4, e5, _⟩ := e2; cases e3; exact ⟨_, e4, rfl, e5⟩
  | v y => cases h2
  | oa p' ds => obtain ⟨vs, e3, e4, e5, _⟩ := e2; cases e3; exact ⟨_, e4, rfl, e5⟩
  | tf d T => cases h2
theorem OwnAt.addr {i : Nat} {p : Addr} (e : RelE K F H ε σ) (h : OwnAt ε σ i p) : (∃ o, H p = some o) ∧ F p = none :=
  let ⟨o, h1, _, h2⟩ := h.cell e
  ⟨⟨o, h1⟩, h2⟩
theorem OwnAt.set {i j : Nat} {p : Addr} {s : Option Slot} {v : Option V} (hl : ε.length = σ.length) (h : OwnAt (ε.set i s) (σ.set i v) j p) : (j = i ∧ ∃ s', s = some s' ∧ s'.own = true ∧ v = some (.ref p)) ∨ (j ≠ i ∧ OwnAt ε σ j p) := by
  obtain ⟨s', h1, h2, h3⟩ := h
  by_cases hj : i = j
  · subst hj
    by_cases hi : i < ε.length
    · rw [List.getElem?_set_self hi] at h1
      rw [List.getElem?_set_self (by omega)] at h3
      exact .inl ⟨rfl, s', Option.some.inj h1, h2, Option.some.inj h3⟩
    · rw [List.getElem?_eq_none (by simpa using hi)] at h1; cases h1
  · rw [List.getElem?_set_ne hj] at h1 h3
    exact .inr ⟨fun e => hj e.symm, s', h1, h2, h3⟩
theorem RelE.set {i : Nat} {v : V} {s : Slot} (r : RelE K F H ε σ) (h : SlotR K F H v s) : RelE K F H (ε.set i (some s)) (σ.set i (some v)) := by
  refine ⟨r.sub, by rw [List.length_set, List.length_set]; exact r.len, fun j s' e => ?_⟩
  by_cases hj : i = j
  · subst hj
    by_cases hi : i < ε.length
    · rw [List.getElem?_set_self hi] at e
      cases e
      exact ⟨v, by rw [List.getElem?_set_self (by rw [← r.len]; exact hi)], h⟩
    · rw [List.getElem?_eq_none (by simpa using hi)] at e; cases e
  · rw [List.getElem?_set_ne hj] at e ⊢
    exact r.sl j s' e
theorem Rel.set {i : Nat} {v : V} {s : Slot} (r : Rel K F0 H0 F H ε σ) (st : Step F H F' H') (h : SlotN K F' H' H v s) : Rel K F0 H0 F' H' (ε.set i (some s)) (σ.set i (some v)) := by
  have r' := r.step st
  have fr : ∀ p, s.own = true → v = .ref p → ∀ j, ¬ OwnAt ε σ j p := fun p h1 h2 j hj => by
    obtain ⟨⟨o, e⟩, _⟩ := hj.addr r.e
    rw [h.2 p h1 h2] at e
    cases e
  refine ⟨r'.e.set h.1, r'.st, fun j p hj => ?_, fun j k p hj hk => ?_⟩
  · rcases OwnAt.set r.e.len hj with ⟨_, s', e1, e2, e3⟩ | ⟨_, hj⟩
    · cases e1; cases e3
      exact r.st.fr _ (h.2 p e2 rfl)
    · exact r.own j p hj
  · rcases OwnAt.set r.e.len hj with ⟨rfl, s', e1, e2, e3⟩ | ⟨_, hj2⟩
    · rcases OwnAt.set r.e.len hk with ⟨rfl, _⟩ | ⟨_, hk2⟩
      · rfl
      · cases e1; cases e3
        exact absurd hk2 (fr p e2 rfl k)
    · rcases OwnAt.set r.e.len hk with ⟨rfl, s', e1, e2, e3⟩ | ⟨_, hk2⟩
      · cases e1; cases e3
        exact absurd hj2 (fr p e2 rfl j)
      · exact r.sep j k p hj2 hk2
theorem Rel.setF {i : Nat} {v : V} {d : PyData} (r : Rel K F0 H0 F H ε σ) (st : Step F H F' H') (h : Dn K F' v d) : Rel K F0 H0 F' H' (ε.set i (some (.f d))) (σ.set i (some v)) := r.set st ⟨h, fun p e => by cases e⟩
theorem SlotR.updH {x : V} {s : Slot} {p : Addr} {o : HO} (h : SlotR K F H x s) (ne : s.own = true → ∀ q, x = .ref q → q ≠ p) : SlotR K F (upd H p o) x s := by
  cases s with
  | f d => exact h
  | o ds =>
    obtain ⟨q, vs, rfl, h1, h2, h3⟩ := h
    exact ⟨q, vs, rfl, by rw [upd_ne (ne rfl q rfl)]; exact h1, h2, h3⟩
  | od ds =>
    obtain ⟨q, vs, rfl, h1, h2, h3⟩ := h
    exact ⟨q, vs, rfl, by rw [upd_ne (ne rfl q rfl)]; exact h1, h2, h3⟩
  | v y => exact h
  | oa q ds =>
    obtain ⟨vs, rfl, h1, h2, h3⟩ := h
    exact ⟨vs, rfl, by rw [upd_ne (ne rfl q rfl)]; exact h1, h2, h3⟩
  | tf d T => exact h
theorem SlotR.frzF {x : V} {s : Slot} {p : Addr} {u : HO} (h : SlotR K F H x s) (hF : F p = none) (ne : s.own = true → ∀ q, x = .ref q → q ≠ p) : SlotR K (upd F p u) H x s := by
  have sF : Same F (upd F p u) := same_frz hF
  cases s with
  | f d => exact Dn.mv sF h
  | o ds =>
    obtain ⟨q, vs, rfl, h1, h2, h3⟩ := h
    exact ⟨q, vs, rfl, h1, by rw [upd_ne (ne rfl q rfl)]; exact h2, h3.mv sF⟩
  | od ds =>
    obtain ⟨q, vs, rfl, h1, h2, h3⟩ := h
    exact ⟨q, vs, rfl, h1, by rw [upd_ne (ne rfl q rfl)]; exact h2, h3.mv sF⟩
  | v y => exact h
  | oa q ds =>
    obtain ⟨vs, rfl, h1, h2, h3⟩ := h
    exact ⟨vs, rfl, h1, by rw [upd_ne (ne rfl q rfl)]; exact h2, h3.mv sF⟩
  | tf d T => exact ⟨Dn.mv sF h.1, fun p hp => sF _ _ (h.2 p hp)⟩
theorem set_same {i : Nat} {v : V} (h : σ[i]? = some (some v)) : σ.set i (some v) = σ := List.ext_getElem? fun j => by
  by_cases hj : i = j
  · subst hj
    rw [List.getElem?_set_self (List.getElem?_eq_some_iff.mp h).1, h]
  · rw [List.getElem?_set_ne hj]
/-- an own list | dict changes -/
theorem Rel.put {i : Nat} {p : Addr} {o : HO} {s s' : Slot} (r : Rel K F0 H0 F H ε σ) (hs : ε[i]? = some (some s)) (hp : σ[i]? = some (some (.ref p))) (ho : s.own = true) (ho' : s'.own = true) (h : SlotR K F (upd H p o) (.ref p) s') : Rel K F0 H0 F (upd H p o) (ε.set i (some s')) σ := by
  have own : OwnAt ε σ i p := ⟨s, hs, ho, hp⟩
  obtain ⟨u, hu, hk, hF⟩ := own.cell r.e
  have h0 := r.own i p own
  have hσ := set_same hp
  have key : ∀ j q, OwnAt (ε.set i (some s')) σ j q → OwnAt ε σ j q := fun j q hj => by
    rw [← hσ] at hj
    rcases OwnAt.set r.e.len hj with ⟨rfl, s'', e1, e2, e3⟩ | ⟨_, hj⟩
    · cases e3; exact own
    · exact hj
  have L : Lies F (upd H p o) := lies_upd r.e.sub hF fun u' e => by rw [hu] at e; cases e; exact hk
  refine ⟨⟨L, by rw [List.length_set]; exact r.e.len, fun j s'' e => ?_⟩, ⟨r.st.f, fun b u' q z => ?_, fun b q => r.st.fr b (upd_some q), L, r.st.n0⟩, fun j q hj => r.own j q (key j q hj), fun j k q hj hk => r.sep j k q (key j q hj) (key k q hk)⟩
  · by_cases hj : i = j
    · subst hj
      rw [List.getElem?_set_self (List.getElem?_eq_some_iff.mp hs).1] at e
      cases e
      exact ⟨_, hp, h⟩
    · rw [List.getElem?_set_ne hj] at e
      obtain ⟨v, e1, e2⟩ := r.e.sl j s'' e
      refine ⟨v, e1, e2.updH fun h1 q h2 h3 => ?_⟩
      subst h3; subst h2
      exact hj (r.sep i j q own ⟨s'', e, h1, e1⟩)
  · rw [upd_ne (ne_of_none q h0)]; exact r.st.h0 _ _ q z
/-- freezing an own slot -/
@[simp] def Slot.frz : Slot → Slot
  | .o ds => .f (.list ds)
  | .od ds => .f (.dict ds)
  | .oa _ ds => .f (.list ds)
  | s => s
def frzE (i : Nat) (ε : En) : En := match ε[i]? with
  | some (some s) => ε.set i (some s.frz)
  | _ => ε
theorem Rel.frzAt {i : Nat} (r : Rel K F0 H0 F H ε σ) : ∃ F', Rel K F0 H0 F' H (frzE i ε) σ ∧ Same F F' := by
  unfold frzE
  split
  · rename_i s hs
    obtain ⟨v, e1, e2⟩ := r.e.sl _ _ hs
    have hσ := set_same e1
    cases hso : s.own with
    | false =>
      have e : s.frz = s := by cases s <;> first | rfl | cases hso
      rw [e]
      have hε : ε.set i (some s) = ε := List.ext_getElem? fun j => by
        by_cases hj : i = j
        · subst hj
          rw [List.getElem?_set_self (List.getElem?_eq_some_iff.mp hs).1, hs]
        · rw [List.getElem?_set_ne hj]
      rw [hε]
      exact ⟨F, r, Same.refl _⟩
    | true =>
      -- the cell
      obtain ⟨p, u, rfl, hp, hk, hF, dn⟩ : ∃ p u, v = .ref p ∧ H p = some u ∧ isTbl u = false ∧ F p = none ∧ SlotR K (upd F p u) H (.ref p) s.frz := by
        cases s with
        | f d => cases hso
        | o ds => obtain ⟨p, vs, h1, h2, h3, h4⟩ := e2; exact ⟨p, _, h1, h2, rfl, h3, .lst (.inl (.inl upd_same)) (h4.mv (same_frz h3))⟩
        | od ds => obtain ⟨p, vs, h1, h2, h3, h4⟩ := e2; exact ⟨p, _, h1, h2, rfl, h3, .dic upd_same (h4.mv (same_frz h3))⟩
        | v y => cases hso
        | oa p ds => obtain ⟨vs, h1, h2, h3, h4⟩ := e2; exact ⟨p, _, h1, h2, rfl, h3, .lst (.inl (.inl upd_same)) (h4.mv (same_frz h3))⟩
        | tf d T => cases hso
      have own : OwnAt ε σ i p := ⟨s, hs, hso, e1⟩
      have h0 := r.own i p own
      have sF : Same F (upd F p u) := same_frz hF
      have L : Lies (upd F p u) H := lies_frz r.e.sub hk hp
      have nown : s.frz.own = false := by cases s <;> rfl
      have key : ∀ j q, OwnAt (ε.set i (some s.frz)) σ j q → OwnAt ε σ j q ∧ j ≠ i := fun j q hj => by
        rw [← hσ] at hj
        rcases OwnAt.set r.e.len hj with ⟨rfl, s'', e1, e2, e3⟩ | ⟨h1, hj⟩
        · cases e1; rw [nown] at e2; cases e2
        · exact ⟨hj, h1⟩
      refine ⟨upd F p u, ⟨⟨L, by rw [List.length_set]; exact r.e.len, fun j s'' e => ?_⟩, ⟨r.st.f.trans sF, r.st.h0, r.st.fr, L, fun b q1 q2 => ?_⟩, fun j q hj => r.own j q (key j q hj).1, fun j k q hj hk => r.sep j k q (key j q hj).1 (key k q hk).1⟩, sF⟩
      · by_cases hj : i = j
        · subst hj
          rw [List.getElem?_set_self (List.getElem?_eq_some_iff.mp hs).1] at e
          cases e
          exact ⟨_, e1, dn⟩
        · rw [List.getElem?_set_ne hj] at e
          obtain ⟨v, g1, g2⟩ := r.e.sl j s'' e
          refine ⟨v, g1, g2.frzF hF fun h1 q h2 h3 => ?_⟩
          subst h3; subst h2
          exact hj (r.sep i j q own ⟨s'', e, h1, g1⟩)
      · rw [upd_ne (fun z => q1 (by rw [z]; exact h0))]; exact r.st.n0 _ q1 q2
  · exact ⟨F, r, Same.refl _⟩
end
end M


namespace M
open PySem PySem.Spec PyProof.Rows L2

structure DX (X : Cx) (e : Expr) (t : TE) (f : En → Option Slot) : Prop where
  p : PE X e t
  r : RX X.K t f
structure DS (X : Cx) (st : Stmt) (t : TS) (T : TD) : Prop where
  p : PS X st t
  r : RS X.K t T
structure DSs (X : Cx) (st : List Stmt) (t : TS) (T : TD) : Prop where
  p : PSs X st t
  r : RS X.K t T
section
variable {X : Cx} {e a b : Expr} {es : List Expr} {te ta tb : TE} {fe fa fb : En → Option PyData} {pos : Pos} {st : Stmt} {sts : List Stmt} {t u : TS} {T U : TD}
theorem DE.x (h : DE X e te fe) : DX X e te (fun ε => (fe ε).map .f) := ⟨h.p, fun F H ε σ s Q r e k => by
  obtain ⟨d, e1, rfl⟩ := Option.map_eq_some_iff.mp e
  exact h.r F H ε σ d Q r e1 fun v F' H' s d' => k v F' H' s ⟨d', fun p z => by cases z⟩⟩
theorem DL.x {f : En → Option (List PyData)} (h : DL X e te f) : DX X e te (fun ε => (f ε).map .o) := ⟨h.p, fun F H ε σ s Q r e k => by
  obtain ⟨d, e1, rfl⟩ := Option.map_eq_some_iff.mp e
  exact h.r F H ε σ d Q r e1 fun p vs F' H' s n nf hp d' => k _ F' H' s ⟨⟨p, vs, rfl, hp, nf, d'⟩, fun p' _ z => by cases z; exact n⟩⟩
/-! ### blocks -/
def dSeq (T U : TD) : TD := fun R ε => T { R with nx := U R } ε
def dNext : TD := fun R ε => R.nx ε
theorem ds_nil : DSs X [] tNext dNext := ⟨pss_nil, fun F0 H0 F H ε σ R D r h c => c.nx _ _ _ _ r (Same.refl _) h⟩
theorem ds_cons (h1 : DS X st t T) (h2 : DSs X sts u U) : DSs X (st :: sts) (tSeq t u) (dSeq T U) := ⟨pss_cons h1.p h2.p, fun F0 H0 F H ε σ R D r h c =>
  h1.r F0 H0 F H ε σ { R with nx := U R } { D with nx := u D } r h ⟨fun ε σ F H r' z h' => h2.r F0 H0 F H ε σ R D r' h' (c.mono z), c.rt, c.bk, c.ct⟩⟩
theorem ds_one (h1 : DS X st t T) : DSs X [st] t T := ⟨pss_one h1.p, h1.r⟩
def dFrz (i : Nat) (T : TD) : TD := fun R ε => T R (frzE i ε)
theorem ds_frz (i : Nat) (h : DS X st t T) : DS X st t (dFrz i T) := ⟨h.p, fun F0 H0 F H ε σ R D r h' c => by
  obtain ⟨F', r', z⟩ := r.frzAt (i := i)
  exact h.r F0 H0 F' H _ σ R D r' h' (c.mono z)⟩
def dPass : TD := fun R ε => R.nx ε
def dBreak : TD := fun R ε => R.bk ε
def dCont : TD := fun R ε => R.ct ε
theorem ds_pass : DS X (.Pass pos) tNext dPass := ⟨ps_pass, fun F0 H0 F H ε σ R D r h c => c.nx _ _ _ _ r (Same.refl _) h⟩
theorem ds_break : DS X (.Break pos) tBreak dBreak := ⟨ps_break, fun F0 H0 F H ε σ R D r h c => c.bk _ _ _ _ r (Same.refl _) h⟩
theorem ds_continue : DS X (.Continue pos) tCont dCont := ⟨ps_continue, fun F0 H0 F H ε σ R D r h c => c.ct _ _ _ _ r (Same.refl _) h⟩
theorem ds_doc {x j pos'} : DS X (.Expr (.Constant (.str x) j pos) pos') tNext dPass := ⟨ps_doc, fun F0 H0 F H ε σ R D r h c => c.nx _ _ _ _ r (Same.refl _) h⟩

/-! ### names -/
def dAsg (i : Nat) (f : En → Option Slot) : TD := fun R ε => ∃ s, f ε = some s ∧ R.nx (ε.set i (some s))
theorem rs_asg {K : PySem.W.Frag} {i : Nat} {f : En → Option Slot} (h : RX K te f) : RS K (tAsg te (gName i)) (dAsg i f) := fun F0 H0 F H ε σ R D r ⟨s, e, h'⟩ c =>
  h F H ε σ s _ r.e e fun v F' H' st sn => c.nx _ _ _ _ (r.set st sn) st.f h'
theorem ds_set (i : Nat) {x : Str} {f : En → Option Slot} {pos' : Pos} (hN : X.N.Nodup) (he : DX X e te f) (hi : X.N[i]? = some x := by rfl) (hx : Loc X.env.scope x := by first | exact Or.inl rfl | exact Or.inr rfl) (hs : swapsWith e (some (.Name x pos')) pos.line X.env = pure false := by rfl)
    (hf : X.fn x = true ∨ X.env.scope.names.lookup x = some .local := by first | exact .inl rfl | exact .inr rfl | assumption) : DS X (.Assign [.Name x pos'] e pos) (tAsg te (gName i)) (dAsg i f) := ⟨ps_set hN hi hx he.p hs hf, rs_asg he.r⟩
def augI (i : Nat) (g : Int → Int → Int) (f : En → Option PyData) : TD := fun R ε => ∃ a b, getF i ε = some (.int a) ∧ f ε = some (.int b) ∧ R.nx (ε.set i (some (.f (.int (g a b)))))
theorem ds_augI (i : Nat) {x : Str} {op : Operator} {g : Int → Int → Int} {pos' : Pos} (ho : PIp X op (ipI g)) (hN : X.N.Nodup) (he : DE X e te fe) (hi : X.N[i]? = some x := by rfl) (hx : Loc X.env.scope x := by first | exact Or.inl rfl | exact Or.inr rfl)
    (hf : X.fn x = true ∨ X.env.scope.names.lookup x = some .local := by first | exact .inl rfl | exact .inr rfl | assumption)
    : DS X (.AugAssign (.Name x pos') op e pos) (tAug i te (ipI g)) (augI i g fe) :=
  ⟨ps_aug hN hi hx he.p ho hf, fun F0 H0 F H ε σ R D r ⟨a, b, e1, e2, h'⟩ c => by
    unfold getF at e1
    split at e1
    · rename_i d hd
      cases e1
      obtain ⟨v, h1, h2⟩ := r.e.sl _ _ hd
      cases dn_int h2
      refine ⟨_, h1, he.r F H ε σ _ _ r.e e2 fun v F' H' s d' => ?_⟩
      exact ⟨a, b, rfl, dn_int d', c.nx _ _ _ _ (r.setF s (.int _)) s.f h'⟩
    · rename_i d T hd
      cases e1
      obtain ⟨v, h1, h2⟩ := r.e.sl _ _ hd
      cases dn_int h2.1
      refine ⟨_, h1, he.r F H ε σ _ _ r.e e2 fun v F' H' s d' => ?_⟩
      exact ⟨a, b, rfl, dn_int d', c.nx _ _ _ _ (r.setF s (.int _)) s.f h'⟩
    · cases e1⟩

/-! ### return, expressions, tests -/
def dRet (f : En → Option Slot) : TD := fun R ε => ∃ s, f ε = some s ∧ R.rt s
theorem ds_ret {f : En → Option Slot} (he : DX X e te f) : DS X (.Return (some e) pos) (tRet te) (dRet f) := ⟨ps_ret he.p, fun F0 H0 F H ε σ R D r ⟨s, e1, h'⟩ c =>
  he.r F H ε σ s _ r.e e1 fun v F' H' st sn => c.rt _ _ _ ⟨F', r.st.trans st, sn.1, fun p h1 h2 => r.st.fr _ (sn.2 p h1 h2)⟩ h'⟩
def dRetV (i : Nat) : TD := fun R ε => ∃ s, ε[i]? = some (some s) ∧ R.rt s
theorem ds_retV (i : Nat) {x : Str} {pos' : Pos} (hN : X.N[i]? = some x := by rfl) (hv : Vis X.env.scope x := by first | exact Or.inl rfl | exact Or.inr (Or.inl rfl) | exact Or.inr (Or.inr rfl)) (hd : (x == ("__debug__" : Str)) = false := by decide)
    (hcd : (x == ("__classdict__" : Str)) = false := by decide) : DS X (.Return (some (.Name x pos')) pos) (tRet (tVar i)) (dRetV i) := ⟨ps_ret (pe_var hN hv hd hcd), fun F0 H0 F H ε σ R D r ⟨s, e1, h'⟩ c => by
  obtain ⟨v, h1, h2⟩ := r.e.sl _ _ e1
  exact ⟨v, h1, c.rt _ _ _ ⟨F, r.st, h2, fun p h3 h4 => r.own i p ⟨s, e1, h3, by rw [h1, h4]⟩⟩ h'⟩⟩
def dRetN : TD := fun R _ => R.rt (.f .none)
theorem ds_retN : DS X (.Return none pos) tRetN dRetN := ⟨ps_retN, fun F0 H0 F H ε σ R D r h c => c.rt _ _ _ ⟨F, r.st, (show SlotR X.K F H .non (.f .none) from Dn.non), fun p z => by cases z⟩ h⟩
def dDrop (f : En → Option PyData) : TD := fun R ε => ∃ d, f ε = some d ∧ R.nx ε
theorem ds_expr (he : DE X e te fe) (hs : swapsWith e none pos.line X.env = pure false := by rfl) : DS X (.Expr e pos) (tDrop te) (dDrop fe) := ⟨ps_expr he.p hs, fun F0 H0 F H ε σ R D r ⟨d, e1, h'⟩ c =>
  he.r F H ε σ d _ r.e e1 fun v F' H' st _ => c.nx _ _ _ _ (r.step st) st.f h'⟩
def dIf (g : En → Option Bool) (T U : TD) : TD := fun R ε => ∃ k, g ε = some k ∧ if k = true then T R ε else U R ε
theorem ds_if {c : Expr} {sa sb : List Stmt} {tc : TT} {g : En → Option Bool} (hc : DT X c tc g) (ha : DSs X sa t T) (hb : DSs X sb u U) : DS X (.If c sa sb pos) (tIfS tc t u) (dIf g T U) := ⟨ps_if hc.p ha.p hb.p, fun F0 H0 F H ε σ R D r ⟨k, e1, h'⟩ c =>
  hc.r F H ε σ k _ r.e e1 fun F' H' s => by
    cases k with
    | true => exact iteT (ha.r F0 H0 F' H' ε σ R D (r.step s) (by simpa using h') (c.mono s.f))
    | false => exact iteF (hb.r F0 H0 F' H' ε σ R D (r.step s) (by simpa using h') (c.mono s.f))⟩

/-! ### targets -/
inductive Tg where
  | nm (i : Nat)
  | tp (is : List Nat)
@[simp] def putAll : List Nat → List PyData → En → En
  | i :: is, d :: ds, ε => putAll is ds (ε.set i (some (.f d)))
  | _, _, ε => ε
@[simp] def Tg.put : Tg → PyData → En → Option En
  | .nm i, d, ε => some (ε.set i (some (.f d)))
  | .tp is, .tuple ds, ε => if ds.length = is.length then some (putAll is ds ε) else none
  | .tp _, _, _ => none
@[simp] def Tg.ix : Tg → List Nat
  | .nm i => [i]
  | .tp is => is
def RG (K : PySem.W.Frag) (g : TG) (T : Tg) : Prop := ∀ (F0 H0 F H : Hp) (ε : En) (σ : L2.St) (v : V) (d : PyData) (ε' : En) (Q : L2.St → Hp → Prop), Rel K F0 H0 F H ε σ → Dn K F v d → T.put d ε = some ε' →
  (∀ σ', Rel K F0 H0 F H ε' σ' → Q σ' H) → g v σ H Q
def RGE (K : PySem.W.Frag) (g : TG) (T : Tg) : Prop := ∀ (F H : Hp) (ε : En) (σ : L2.St) (v : V) (d : PyData) (ε' : En) (Q : L2.St → Hp → Prop), RelE K F H ε σ → Dn K F v d → T.put d ε = some ε' →
  (∀ σ', RelE K F H ε' σ' → σ'.length = σ.length → (∀ j, j ∉ T.ix → σ'[j]? = σ[j]?) → Q σ' H) → g v σ H Q
structure DG (X : Cx) (tg : Expr) (g : TG) (T : Tg) : Prop where
  p : PG X tg g
  r : RG X.K g T
  re : RGE X.K g T
def gNames : List Nat → TGs
  | [] => gNil
  | i :: is => gCons (gName i) (gNames is)
structure DGs (X : Cx) (tg : List Expr) (is : List Nat) : Prop where
  p : PGs X tg (gNames is)
  l : tg.length = is.length
theorem dg_name (i : Nat) {x : Str} (hN : X.N.Nodup) (hi : X.N[i]? = some x := by rfl) (hx : Loc X.env.scope x := by first | exact Or.inl rfl | exact Or.inr rfl)
    (hf : X.fn x = true ∨ X.env.scope.names.lookup x = some .local := by first | exact .inl rfl | exact .inr rfl | assumption) : DG X (.Name x pos) (gName i) (.nm i) :=
  ⟨pg_name hN hi hx hf, fun F0 H0 F H ε σ v d ε' Q r h e k => by cases e; exact k _ (r.setF (.refl r.e.sub) h),
   fun F H ε σ v d ε' Q r h e k => by
    cases e
    refine k _ (r.set h) (by rw [List.length_set]) fun j hj => List.getElem?_set_ne fun z => hj (by simp [Tg.ix, z])⟩
theorem dgs_nil : DGs X [] [] := ⟨pgs_nil, rfl⟩
theorem dgs_cons (i : Nat) {is : List Nat} {x : Str} {es : List Expr} (hN : X.N.Nodup) (h2 : DGs X es is) (hi : X.N[i]? = some x := by rfl) (hx : Loc X.env.scope x := by first | exact Or.inl rfl | exact Or.inr rfl)
    (hf : X.fn x = true ∨ X.env.scope.names.lookup x = some .local := by first | exact .inl rfl | exact .inr rfl | assumption) : DGs X (.Name x pos :: es) (i :: is) :=
  ⟨pgs_cons (pg_name hN hi hx hf) h2.p, by simp [h2.l]⟩
theorem putAll_rel {K : PySem.W.Frag} {F0 H0 F H : Hp} : ∀ {is : List Nat} {ds : List PyData} {vs : List V} {ε : En} {σ : L2.St} {Q : L2.St → Hp → Prop}, Rel K F0 H0 F H ε σ → DnAll K F vs ds → ds.length = is.length →
    (∀ σ', Rel K F0 H0 F H (putAll is ds ε) σ' → Q σ' H) → gNames is vs σ H Q
  | [], [], _, ε, σ, Q, r, h, _, k => by cases h; exact ⟨rfl, k σ r⟩
  | i :: is, d :: ds, _, ε, σ, Q, r, h, l, k => by
    cases h with
    | cons a b => exact ⟨_, _, rfl, putAll_rel (r.setF (.refl r.e.sub) a) b (by simpa using l) k⟩
  | [], _ :: _, _, _, _, _, _, _, l, _ => by cases l
  | _ :: _, [], _, _, _, _, _, _, l, _ => by cases l
theorem putAll_relE {K : PySem.W.Frag} {F H : Hp} : ∀ {is : List Nat} {ds : List PyData} {vs : List V} {ε : En} {σ : L2.St} {Q : L2.St → Hp → Prop}, RelE K F H ε σ → DnAll K F vs ds → ds.length = is.length →
    (∀ σ', RelE K F H (putAll is ds ε) σ' → σ'.length = σ.length → (∀ j, j ∉ is → σ'[j]? = σ[j]?) → Q σ' H) → gNames is vs σ H Q
  | [], [], _, ε, σ, Q, r, h, _, k => by cases h; exact ⟨rfl, k σ r rfl fun _ _ => rfl⟩
  | i :: is, d :: ds, _, ε, σ, Q, r, h, l, k => by
    cases h with
    | cons a b =>
      refine ⟨_, _, rfl, putAll_relE (r.set (s := .f d) a) b (by simpa using l) fun σ' r' hl hj => k σ' r' (by rw [hl, List.length_set]) fun j hj' => ?_⟩
      rw [hj j (fun z => hj' (List.mem_cons_of_mem _ z))]
      exact List.getElem?_set_ne fun z => hj' (by simp [z])
  | [], _ :: _, _, _, _, _, _, _, l, _ => by cases l
  | _ :: _, [], _, _, _, _, _, _, l, _ => by cases l
theorem put_tp {is : List Nat} {d : PyData} {ε ε' : En} (h : (Tg.tp is).put d ε = some ε') : ∃ ds, d = .tuple ds ∧ ds.length = is.length ∧ ε' = putAll is ds ε := by
  cases d <;> simp only [Tg.put] at h <;> first
    | cases h
    | (split at h
       · rename_i hl; cases h; exact ⟨_, rfl, hl, rfl⟩
       · cases h)
theorem dg_tup {is : List Nat} {k : Nat} (hc : X.calm = true) (h : DGs X es is) (hn : es.length = is.length := by rfl) (h1 : (assignEach es X.env).length = es.length := by rfl) (h2 : (assignEach es X.env).findIdx? (fun x => x.1) = none := by rfl) : DG X (.Tuple es k pos) (gTup X.K es.length (gNames is)) (.tp is) := by
  refine ⟨pg_tup hc h.p (hn := h1) (hst := h2), fun F0 H0 F H ε σ v d ε' Q r dn e k => ?_, fun F H ε σ v d ε' Q r dn e k => ?_⟩
  · obtain ⟨ds, rfl, hl, rfl⟩ := put_tp e
    cases dn with
    | tup sq al => exact ⟨_, _, rfl, seqT r.e.sub sq, by rw [al.length, hl, hn], putAll_rel r al hl k⟩
  · obtain ⟨ds, rfl, hl, rfl⟩ := put_tp e
    cases dn with
    | tup sq al => exact ⟨_, _, rfl, seqT r.sub sq, by rw [al.length, hl, hn], putAll_relE r al hl k⟩
/-- a target takes a value -/
def dTg (T : Tg) (f : En → Option PyData) : TD := fun R ε => ∃ d ε', f ε = some d ∧ T.put d ε = some ε' ∧ R.nx ε'
theorem ds_tg {tg : Expr} {g : TG} {T : Tg} (he : DE X e te fe) (hg : DG X tg g T) (hs : swapsWithSole [tg] e pos.line X.env = pure false := by rfl) (hw : swappedStores [tg] e X.env = pure none := by rfl) (h1 : (assignEach [tg] X.env).map (·.2) = [assign tg X.env] := by rfl) : DS X (.Assign [tg] e pos) (tAsg te g) (dTg T fe) :=
  ⟨ps_asg he.p hg.p hs hw h1, fun F0 H0 F H ε σ R D r ⟨d, ε', e1, e2, h'⟩ c =>
    he.r F H ε σ d _ r.e e1 fun v F' H' s dn => hg.r F0 H0 F' H' ε σ v d ε' _ (r.step s) dn e2 fun σ' r' => c.nx _ _ _ _ r' s.f h'⟩

/-! ### loops -/
/-- J walks the data ds, while F1 and H1 only grow -/
def Walks (K : PySem.W.Frag) (J : It) (F1 : Hp) (ds : List PyData) : Prop := ∀ (i : Nat) (F H : Hp), Same F1 F → Lies F H →
  (∀ d, ds[i]? = some d → J.go i H ∧ ∀ x H2, J.yld i H x H2 → ∃ F2, Step F H F2 H2 ∧ Dn K F2 x d) ∧ (ds.length = i → J.stop i H)
def RI (K : PySem.W.Frag) (wi : TI) (f : En → Option (List PyData)) : Prop := ∀ (F H : Hp) (ε : En) (σ : L2.St) (ds : List PyData) (R : It → Hp → Prop), RelE K F H ε σ → f ε = some ds →
  (∀ J F' H', Step F H F' H' → Walks K J F' ds → R J H') → wi σ H R
structure DI (X : Cx) (tg iter : Expr) (wi : TI) (f : En → Option (List PyData)) : Prop where
  p : PI X tg iter wi
  r : RI X.K wi f
def forT (T : Tg) (B : TD) : List PyData → TD
  | [] => fun R ε => R.nx ε
  | d :: ds => fun R ε => ∃ ε', T.put d ε = some ε' ∧ B { R with nx := forT T B ds R, ct := forT T B ds R, bk := R.nx } ε'
def dFor (f : En → Option (List PyData)) (T : Tg) (B : TD) : TD := fun R ε => ∃ ds, f ε = some ds ∧ forT T B ds R ε
theorem rs_for {K : PySem.W.Frag} {wi : TI} {g : TG} {tb : TS} {f : En → Option (List PyData)} {T : Tg} {B : TD} (hi : RI K wi f) (hg : RG K g T) (hb : RS K tb B) : RS K (tFor wi g tb) (dFor f T B) := fun F0 H0 F H ε σ R D r ⟨ds, e, h⟩ c => by
  refine hi F H ε σ ds _ r.e e fun J F1 H1 s1 W => ?_
  refine ⟨fun i m σ H => m = ds.length - i ∧ i ≤ ds.length ∧ ∃ F ε, Rel K F0 H0 F H ε σ ∧ Same F1 F ∧ forT T B (ds.drop i) R ε, ⟨_, rfl, Nat.zero_le _, F1, ε, r.step s1, Same.refl _, h⟩, ?_⟩
  rintro i m σ2 H2 ⟨rfl, hi, F2, ε2, r2, sm, h2⟩
  obtain ⟨w1, w2⟩ := W i F2 H2 sm r2.e.sub
  by_cases hlt : i < ds.length
  · have hd : ds.drop i = ds[i] :: ds.drop (i + 1) := List.drop_eq_getElem_cons hlt
    rw [hd] at h2
    obtain ⟨ε3, e3, h3⟩ := h2
    obtain ⟨g1, g2⟩ := w1 ds[i] (List.getElem?_eq_getElem hlt)
    refine .inr ⟨g1, fun σ' H' => ∃ F ε, Rel K F0 H0 F H' ε σ' ∧ Same F1 F ∧ forT T B (ds.drop (i + 1)) R ε, fun σ' H' ⟨F', ε', a, b, c'⟩ => ⟨ds.length - (i + 1), by omega, rfl, hlt, F', ε', a, b, c'⟩, fun x H3 y => ?_⟩
    obtain ⟨F3, s3, d3⟩ := g2 x H3 y
    refine hg F0 H0 F3 H3 ε2 σ2 x _ ε3 _ (r2.step s3) d3 e3 fun σ4 r4 => ?_
    -- the body keeps F1's facts: run it with F1 frozen below
    exact hb F0 H0 F3 H3 ε3 σ4 _ _ r4 h3 ⟨fun ε σ F H r' z h' => ⟨F, ε, r', (sm.trans s3.f).trans z, h'⟩, c.rt, fun ε σ F H r' z h' => c.nx _ _ _ _ r' ((s1.f.trans (sm.trans s3.f)).trans z) h', fun ε σ F H r' z h' => ⟨F, ε, r', (sm.trans s3.f).trans z, h'⟩⟩
  · have e' : i = ds.length := by omega
    subst e'
    rw [List.drop_length] at h2
    exact .inl ⟨w2 rfl, c.nx _ _ _ _ r2 (s1.f.trans sm) h2⟩
end
end M


namespace M
open PySem PySem.Spec PyProof.Rows L2
section
variable {X : Cx} {e a b tg iter : Expr} {es : List Expr} {te ta tb : TE} {fe fa fb : En → Option PyData} {pos : Pos} {st : Stmt} {body sts : List Stmt} {t u : TS} {T U B : TD} {wi : TI} {g : TG} {src : En → Option (List PyData)} {tt : Tg}
theorem ds_for (hc : X.calm = true) (hi : DI X tg iter wi src) (hg : DG X tg g tt) (hb : DSs X body t B) (hs : ∀ x, foldedSetIterable iter X.env x = pure x := by intro _; rfl) (hp : PassesOwn (model X.prog X.w) X.A X.env X.xe := by exact PassesOwn.never) : DS X (.For tg iter body [] pos) (tFor wi g t) (dFor src tt B) :=
  ⟨ps_for hp hc hi.p hg.p hb.p hs, rs_for hi.r hg.r hb.r⟩
def whT (c : En → Option Bool) (B : TD) : Nat → TD
  | 0 => fun _ _ => False
  | n + 1 => fun R ε => ∃ k, c ε = some k ∧ if k = true then B { R with nx := whT c B n R, ct := whT c B n R, bk := R.nx } ε else R.nx ε
def dWhile (c : En → Option Bool) (B : TD) : TD := fun R ε => ∃ n, whT c B n R ε
theorem ds_while {c : Expr} {tc : TT} {gc : En → Option Bool} (hc : DT X c tc gc) (hb : DSs X body t B) (hp : PassesOwn (model X.prog X.w) X.A X.env X.xe := by exact PassesOwn.never) : DS X (.While c body [] pos) (tWhile tc t) (dWhile gc B) :=
  ⟨ps_while hp hc.p hb.p, fun F0 H0 F H ε σ R D r ⟨n, h⟩ cor => by
    refine ⟨fun m σ H => ∃ F1 ε, Rel X.K F0 H0 F1 H ε σ ∧ Same F F1 ∧ whT gc B m R ε, ⟨n, F, ε, r, Same.refl _, h⟩, ?_⟩
    rintro m σ1 H1 ⟨F1, ε1, r1, sm, h1⟩
    cases m with
    | zero => exact h1.elim
    | succ m =>
      obtain ⟨k, e, h2⟩ := h1
      refine hc.r F1 H1 ε1 σ1 k _ r1.e e fun F2 H2 s2 => ?_
      cases k with
      | true =>
        refine iteT ⟨fun σ' H' => ∃ F3 ε, Rel X.K F0 H0 F3 H' ε σ' ∧ Same F F3 ∧ whT gc B m R ε, fun σ' H' h => ⟨m, Nat.lt_succ_self m, h⟩, ?_⟩
        refine hb.r F0 H0 F2 H2 ε1 σ1 { R with nx := whT gc B m R, ct := whT gc B m R, bk := R.nx } _ (r1.step s2) (by simpa using h2) ⟨fun ε σ F' H' r' z h' => ⟨F', ε, r', (sm.trans s2.f).trans z, h'⟩, cor.rt, fun ε σ F' H' r' z h' => cor.nx _ _ _ _ r' ((sm.trans s2.f).trans z) h', fun ε σ F' H' r' z h' => ⟨F', ε, r', (sm.trans s2.f).trans z, h'⟩⟩
      | false => exact iteF (cor.nx _ _ _ _ (r1.step s2) (sm.trans s2.f) (by simpa using h2))⟩

/-! ### what is walked -/
@[simp] def seqD : PyData → Option (List PyData)
  | .list ds => some ds
  | .tuple ds => some ds
  | .str z => some (z.cps.toList.map fun c => .str ⟨#[c]⟩)
  | _ => none
theorem walks_list {K : PySem.W.Frag} {F1 : Hp} {p : Addr} {vs : List V} {ds : List PyData} (h : SqL K F1 p vs) (a : DnAll K F1 vs ds) : Walks K (Itl K p) F1 ds := fun i F H s1 s2 => by
  have hq : SqL K H p vs := seqL s2 (Same.seq s1 h)
  refine ⟨fun d e => ?_, fun hl => ⟨vs, hq, by rw [a.length]; exact Nat.le_of_eq hl⟩⟩
  obtain ⟨v, h1, h2⟩ := a.get e
  refine ⟨⟨vs, v, hq, h1⟩, fun x H2 ⟨e1, y⟩ => ?_⟩
  subst e1
  have := y vs hq
  rw [h1] at this
  cases this
  exact ⟨F, .refl s2, h2.mv s1⟩
theorem walks_tup {K : PySem.W.Frag} {F1 : Hp} {p : Addr} {vs : List V} {ds : List PyData} (h : SqT K F1 p vs) (a : DnAll K F1 vs ds) : Walks K (Itt K p) F1 ds := fun i F H s1 s2 => by
  have hq : SqT K H p vs := seqT s2 (seqTN (same_n s1) h)
  refine ⟨fun d e => ?_, fun hl => ⟨vs, hq, by rw [a.length]; exact Nat.le_of_eq hl⟩⟩
  obtain ⟨v, h1, h2⟩ := a.get e
  refine ⟨⟨vs, v, hq, h1⟩, fun x H2 ⟨e1, y⟩ => ?_⟩
  subst e1
  have := y vs hq
  rw [h1] at this
  cases this
  exact ⟨F, .refl s2, h2.mv s1⟩
theorem walks_str {K : PySem.W.Frag} {F1 : Hp} {z : Str} (h : PyData.strOk z = true) : Walks K (Its z) F1 (z.cps.toList.map fun c => .str ⟨#[c]⟩) := fun i F H s1 s2 => by
  refine ⟨fun d e => ?_, fun hl => by rw [List.length_map, Array.length_toList] at hl; exact Nat.le_of_eq hl⟩
  rw [List.getElem?_map] at e
  obtain ⟨c, e1, rfl⟩ := Option.map_eq_some_iff.mp e
  rw [Array.getElem?_toList] at e1
  refine ⟨(Array.getElem?_eq_some_iff.mp e1).1, fun x H2 ⟨e2, c', e3, e4⟩ => ?_⟩
  subst e2 e4
  rw [e1] at e3
  cases e3
  refine ⟨F, .refl s2, .str _ (strOk_iff.mpr fun c' hc => ?_)⟩
  have hc' : c' = c := by simpa using hc
  subst hc'
  exact strOk_iff.mp h _ (List.mem_of_getElem? (by rw [Array.getElem?_toList]; exact e1))
theorem pi_or {w1 w2 : TI} (h1 : PI X tg iter w1) (h2 : PI X tg iter w2) : PI X tg iter (fun σ H R => w1 σ H R ∨ w2 σ H R) := ⟨fun pins s σ H R I h => by
  rcases h with h | h
  · exact h1.run pins s σ H R I h
  · exact h2.run pins s σ H R I h⟩
/-- a value that is a list, a tuple or a text -/
def iSeq (K : PySem.W.Frag) (te : TE) : TI := fun σ H R => te σ H fun x H1 => (∃ a, x = .ref a ∧ (∃ xs, SqL K H1 a xs) ∧ R (Itl K a) H1) ∨ (∃ a, x = .ref a ∧ (∃ xs, SqT K H1 a xs) ∧ R (Itt K a) H1) ∨ ∃ z, x = .str z ∧ R (Its z) H1
theorem pi_seq (he : PE X iter te) : PI X tg iter (iSeq X.K te) := ⟨fun pins s σ H R I h => by
  refine thn (he.run pins s σ H _ I h) fun v s1 ⟨x, H1, I1, r1, q1⟩ => ?_
  have fp : ∀ b ∈ [s1.heap.objs.size], FpOk X pins H1 b := fun b hb => by
    have eb : b = s1.heap.objs.size := by simpa using hb
    subst eb
    exact I1.fpOk (Nat.le_refl _) (I1.hok.fresh (Nat.le_refl _))
  rcases q1 with ⟨a, rfl, ⟨xs, hq⟩, q⟩ | ⟨a, rfl, ⟨xs, hq⟩, q⟩ | ⟨z, rfl, q⟩
  · cases r1
    obtain ⟨its, rv, pl, hz⟩ := I1.list hq
    exact wpAny_pyIter_list pl.isList ⟨s1.heap.objs.size, [s1.heap.objs.size], _, _, H1, rfl, I1.kept (t' := s1.toks) (fun b o e => Heap.get?_push_of_some _ e), turn_list a _, ⟨_, Heap.get?_push_size _ rfl, rfl, rfl⟩, fp, q⟩
  · cases r1
    obtain ⟨its, rv, pl, hz⟩ := I1.tuple hq
    exact wpAny_pyIter_tuple (show s1.heap.IsTuple a its.toArray from pl) ⟨s1.heap.objs.size, [s1.heap.objs.size], _, _, H1, rfl, I1.kept (t' := s1.toks) (fun b o e => Heap.get?_push_of_some _ e), turn_tuple a _, ⟨_, Heap.get?_push_size _ rfl, rfl, rfl⟩, fp, q⟩
  · obtain ⟨t, rfl⟩ := r1
    cases ha : z.cps.all (· < 128)
    · exact wpAny_pyIter_wide ha (pi_one (tk := s1.toks) I1 _ (turn_str _ z t "str_iterator" (.inr rfl)) ⟨_, Heap.get?_push_size _ rfl, rfl, rfl⟩ q)
    · exact wpAny_pyIter_ascii ha (pi_one (tk := s1.toks) I1 _ (turn_str _ z t "str_ascii_iterator" (.inl rfl)) ⟨_, Heap.get?_push_size _ rfl, rfl, rfl⟩ q)⟩
theorem di_seq (he : DE X iter te fe) : DI X tg iter (iSeq X.K te) (fun ε => (fe ε).bind seqD) := by
  refine ⟨pi_seq he.p, fun F H ε σ ds R r e k => ?_⟩
  · obtain ⟨d, e1, e2⟩ := Option.bind_eq_some_iff.mp e
    refine he.r F H ε σ d _ r e1 fun v F1 H1 s1 d1 => ?_
    unfold seqD at e2
    split at e2
    · cases e2
      cases d1 with
      | lst sq al => exact .inl ⟨_, rfl, ⟨_, seqL s1.s sq⟩, k _ F1 H1 s1 (walks_list sq al)⟩
    · cases e2
      cases d1 with
      | tup sq al => exact .inr (.inl ⟨_, rfl, ⟨_, seqT s1.s sq⟩, k _ F1 H1 s1 (walks_tup sq al)⟩)
    · cases e2
      cases d1 with
      | str z hz => exact .inr (.inr ⟨_, rfl, k _ F1 H1 s1 (walks_str hz)⟩)
    · cases e2
/-! ### ranges -/
def rng1D : List PyData → Option (List PyData)
  | [.int n] => if -(2 ^ 62) ≤ n ∧ n < 2 ^ 62 then some ((List.range n.toNat).map fun (k : Nat) => .int (0 + (k : Int))) else none
  | _ => none
def rng2D : List PyData → Option (List PyData)
  | [.int i, .int j] => if -(2 ^ 62) ≤ i ∧ i < 2 ^ 62 ∧ -(2 ^ 62) ≤ j ∧ j < 2 ^ 62 then some ((List.range (j - i).toNat).map fun (k : Nat) => .int (i + (k : Int))) else none
  | _ => none
theorem walks_rng {K : PySem.W.Frag} {F1 : Hp} {lo : Int} {n : Nat} : Walks K (Itr lo n) F1 ((List.range n).map fun (k : Nat) => .int (lo + (k : Int))) := fun i F H s1 s2 => by
  refine ⟨fun d e => ?_, fun hl => by rw [List.length_map, List.length_range] at hl; exact Nat.le_of_eq hl⟩
  rw [List.getElem?_map] at e
  obtain ⟨c, e1, rfl⟩ := Option.map_eq_some_iff.mp e
  have hi : i < n ∧ c = i := by
    obtain ⟨h1, h2⟩ := List.getElem?_eq_some_iff.mp e1
    rw [List.length_range] at h1
    rw [List.getElem_range] at h2
    exact ⟨h1, h2.symm⟩
  obtain ⟨hi, rfl⟩ := hi
  refine ⟨hi, fun x H2 ⟨e2, e3⟩ => ?_⟩
  subst e2 e3
  exact ⟨F, .refl s2, .int _⟩
theorem ba_ints1 {K : PySem.W.Frag} {F H : Hp} {vs : List V} {n : Int} (h : DnAll K F vs [.int n]) : vs = [.int n] := by
  cases h with | cons a b => cases b; cases a; rfl
theorem ba_ints2 {K : PySem.W.Frag} {F H : Hp} {vs : List V} {n m : Int} (h : DnAll K F vs [.int n, .int m]) : vs = [.int n, .int m] := by
  cases h with | cons a b => cases b with | cons c d => cases d; cases a; cases c; rfl
variable {ta' : TA} {fa' : En → Option (List PyData)} {p : Pos}
theorem di_rng1 (hg : Gl X "range") (hm : X.mg "range" = none) (ha : DA X [a] ta' fa') (hs : starEach [a] X.env = [(false, eval a X.env)] := by rfl) : DI X tg (.Call (.Name "range" p) [a] [] pos) (iRng1 ta') (fun ε => (fa' ε).bind rng1D) :=
  ⟨pi_range1 hg hm ha.p hs, fun F H ε σ ds R r e k => by
    obtain ⟨d, e1, e2⟩ := Option.bind_eq_some_iff.mp e
    refine ha.r F H ε σ d _ r e1 fun vs F1 H1 s1 d1 => ?_
    unfold rng1D at e2
    split at e2
    · split at e2
      · rename_i hb
        cases e2
        exact ⟨_, ba_ints1 (H := H) d1, hb.1, hb.2, k _ F1 H1 s1 walks_rng⟩
      · cases e2
    · cases e2⟩
theorem di_rng2 (hg : Gl X "range") (hm : X.mg "range" = none) (ha : DA X [a, b] ta' fa') (hs : starEach [a, b] X.env = [(false, eval a X.env), (false, eval b X.env)] := by rfl) (hs2 : starEach [b] X.env = [(false, eval b X.env)] := by rfl) : DI X tg (.Call (.Name "range" p) [a, b] [] pos) (iRng2 ta') (fun ε => (fa' ε).bind rng2D) :=
  ⟨pi_range2 hg hm ha.p hs hs2, fun F H ε σ ds R r e k => by
    obtain ⟨d, e1, e2⟩ := Option.bind_eq_some_iff.mp e
    refine ha.r F H ε σ d _ r e1 fun vs F1 H1 s1 d1 => ?_
    unfold rng2D at e2
    split at e2
    · split at e2
      · rename_i hb
        cases e2
        exact ⟨_, _, ba_ints2 (H := H) d1, hb, k _ F1 H1 s1 walks_rng⟩
      · cases e2
    · cases e2⟩

/-! ### comprehensions -/
@[simp] def wipeE (ε : En) : List Nat → En
  | [] => ε
  | v :: vs => (wipeE ε vs).set v none
theorem RelE.wipe {K : PySem.W.Frag} {F H : Hp} {ε : En} {σ : L2.St} (r : RelE K F H ε σ) : ∀ vs : List Nat, RelE K F H (wipeE ε vs) (wipe σ vs)
  | [] => r
  | v :: vs => by
    have r' := RelE.wipe r vs
    refine ⟨r'.sub, by unfold wipeE L2.wipe; rw [List.length_set, List.length_set]; exact r'.len, fun j s e => ?_⟩
    unfold wipeE at e
    unfold L2.wipe
    by_cases hj : v = j
    · subst hj
      by_cases hv : v < (wipeE ε vs).length
      · rw [List.getElem?_set_self hv] at e; cases e
      · rw [List.getElem?_eq_none (by simpa using hv)] at e; cases e
    · rw [List.getElem?_set_ne hj] at e ⊢
      exact r'.sl j s e
theorem wipe_at {σ : L2.St} : ∀ {vs : List Nat} {j : Nat}, (L2.wipe σ vs)[j]? = if j ∈ vs then (if j < σ.length then some none else none) else σ[j]?
  | [], j => by simp [L2.wipe]
  | v :: vs, j => by
    unfold L2.wipe
    have ih := wipe_at (σ := σ) (vs := vs) (j := j)
    have hl := wipe_length σ vs
    by_cases hj : v = j
    · subst hj
      by_cases hv : v < (L2.wipe σ vs).length
      · rw [List.getElem?_set_self hv]; simp [← hl, hv]
      · rw [List.getElem?_eq_none (by simpa using hv)]; simp [← hl, hv]
    · rw [List.getElem?_set_ne hj, ih]
      have : j ∈ v :: vs ↔ j ∈ vs := by
        simp only [List.mem_cons, or_iff_right_iff_imp]
        exact fun z => absurd z.symm hj
      simp only [this]
theorem wipe_eq {σ τ : L2.St} {vs : List Nat} (hl : σ.length = τ.length) (h : ∀ j, j ∉ vs → σ[j]? = τ[j]?) : L2.wipe σ vs = L2.wipe τ vs := List.ext_getElem? fun j => by
  rw [wipe_at, wipe_at, hl]
  by_cases hj : j ∈ vs
  · simp [hj]
  · simp [hj, h j hj]
theorem wipe_wipe {σ : L2.St} {vs : List Nat} : L2.wipe (L2.wipe σ vs) vs = L2.wipe σ vs := wipe_eq (wipe_length σ vs) fun j hj => by rw [wipe_at, if_neg hj]
structure DTs (X : Cx) (ifs : List Expr) (t : TT) (f : En → Option Bool) : Prop where
  p : PTs X ifs t
  r : RT X.K t f
theorem dts_nil : DTs X [] tYes (fun _ => some true) := ⟨pts_nil, fun F H ε σ k Q r e q => by cases e; exact q F H (.refl r.sub)⟩
theorem dts_one {c : Expr} {tc : TT} {gc : En → Option Bool} (h : DT X c tc gc) : DTs X [c] tc gc := ⟨pts_one h.p, h.r⟩
/-- the items of [e for .. in ds if c]: each target in the environment of the block -/
def compD (T : Tg) (c : En → Option Bool) (f : En → Option PyData) (ε : En) : List PyData → Option (List PyData)
  | [] => some []
  | d :: ds => (T.put d ε).bind fun ε' => (c ε').bind fun k => if k = true then (f ε').bind fun y => (compD T c f ε ds).map (y :: ·) else compD T c f ε ds
def dLc (src : En → Option (List PyData)) (T : Tg) (vs : List Nat) (c : En → Option Bool) (f : En → Option PyData) : En → Option (List PyData) := fun ε => (src ε).bind fun ds => limL (compD T c f (wipeE ε vs) ds)
theorem rl_lc {K : PySem.W.Frag} {wi : TI} {g : TG} {tt : TT} {te : TE} {vs : List Nat} {T : Tg} {c : En → Option Bool} {f : En → Option PyData} (hi : RI K wi src) (hg : RGE K g T) (hT : ∀ j ∈ T.ix, j ∈ vs) (ht : RT K tt c) (he : RE K te f) :
    RL K (tLc wi g tt te vs) (dLc src T vs c f) := fun F H ε σ out Q r e k => by
  obtain ⟨ds, e1, e2⟩ := Option.bind_eq_some_iff.mp e
  obtain ⟨out', e3, e4⟩ := Option.bind_eq_some_iff.mp e2
  split at e4
  · rename_i hsz
    have e5 := Option.some.inj e4
    subst e5
    refine hi F H ε σ ds _ r e1 fun J F1 H1 s1 W D hD => ?_
    obtain ⟨st1, nf1, hp1⟩ := new_lst (vs := ([] : List V)) s1.s hD
    refine ⟨fun i m H' => m = ds.length - i ∧ i ≤ ds.length ∧ ∃ F' acc done rest, Step F1 H1 F' H' ∧ F' D = none ∧ H' D = some (.lst acc) ∧ DnAll K F' acc done ∧ compD T c f (wipeE ε vs) (ds.drop i) = some rest ∧ done ++ rest = out',
      ⟨_, rfl, Nat.zero_le _, F1, [], [], out', st1, nf1, hp1, .nil, by rw [List.drop_zero]; exact e3, rfl⟩, ?_⟩
    rintro i m H2 ⟨rfl, hi', F2, acc, done, rest, s2, nf2, hD2, al2, er, eo⟩
    obtain ⟨w1, w2⟩ := W i F2 H2 s2.f s2.s
    by_cases hlt : i < ds.length
    · have hd : ds.drop i = ds[i] :: ds.drop (i + 1) := List.drop_eq_getElem_cons hlt
      rw [hd] at er
      obtain ⟨ε', e5, er⟩ := Option.bind_eq_some_iff.mp er
      obtain ⟨b, e6, er⟩ := Option.bind_eq_some_iff.mp er
      obtain ⟨g1, g2⟩ := w1 ds[i] (List.getElem?_eq_getElem hlt)
      refine .inr ⟨g1, fun H' => ∃ F' acc done rest, Step F1 H1 F' H' ∧ F' D = none ∧ H' D = some (.lst acc) ∧ DnAll K F' acc done ∧ compD T c f (wipeE ε vs) (ds.drop (i + 1)) = some rest ∧ done ++ rest = out', fun H' ⟨F', a1, a2, a3, h⟩ => ⟨ds.length - (i + 1), by omega, rfl, hlt, F', a1, a2, a3, h⟩, fun x H3 y => ?_⟩
      obtain ⟨F3, s3, d3⟩ := g2 x H3 y
      -- the block's environment stands over the heap
      have r3 : RelE K F3 H3 (wipeE ε vs) (L2.wipe σ vs) := ((r.step s1).wipe vs).step (s2.trans s3)
      refine hg F3 H3 _ _ x ds[i] ε' _ r3 d3 e5 fun σ4 r4 hl4 hj4 => ⟨?_, ?_⟩
      · refine (wipe_eq hl4 fun j hj => ?_).trans wipe_wipe
        exact hj4 j fun z => hj (hT j z)
      · refine ht F3 H3 ε' σ4 b _ r4 e6 fun F4 H4 s4 => ?_
        have hD4 : H4 D = some (.lst acc) := s4.h _ _ (s3.h _ _ hD2)
        have nf4 : F4 D = none := s4.n _ _ (s3.h _ _ hD2) (s3.n _ _ hD2 nf2)
        cases b with
        | true =>
          rw [if_pos rfl] at er
          obtain ⟨y', e7, er⟩ := Option.bind_eq_some_iff.mp er
          obtain ⟨rest', e8, e9⟩ := Option.map_eq_some_iff.mp er
          refine iteT (he F4 H4 ε' σ4 y' _ (r4.step s4) e7 fun v F5 H5 s5 d5 => ?_)
          have hD5 : H5 D = some (.lst acc) := s5.h _ _ hD4
          have nf5 : F5 D = none := s5.n _ _ hD4 nf4
          subst e9
          have hlen : acc.length < sizeLine := by
            have h1 := al2.length
            have h2 := congrArg List.length eo
            simp only [List.length_append, List.length_cons] at h2
            omega
          have s25 := s2.trans (s3.trans (s4.trans s5))
          exact ⟨acc, hD5, hlen, F5, acc ++ [v], done ++ [y'], rest', s25.chg hD nf5 hD5 rfl, nf5, upd_same, (al2.mv (s3.trans (s4.trans s5)).f).append (.one d5), e8, by rw [List.append_assoc]; exact eo⟩
        | false =>
          rw [if_neg (by decide)] at er
          exact iteF ⟨F4, acc, done, rest, s2.trans (s3.trans s4), nf4, hD4, al2.mv (s3.trans s4).f, er, eo⟩
    · have e' : i = ds.length := by omega
      subst e'
      rw [List.drop_length] at er
      cases er
      rw [List.append_nil] at eo
      subst eo
      exact .inl ⟨w2 rfl, k D acc F2 H2 (s1.trans s2) (s1.fr _ hD) nf2 hD2 al2⟩
  · cases e4
end
end M


namespace M
open PySem PySem.Spec PyProof.Rows L2
section
variable {X : Cx} {e a b elt tg iter tg1 iter1 : Expr} {es ifs ifs1 : List Expr} {te ta tb : TE} {fe fa fb : En → Option PyData} {pos spos : Pos} {st : Stmt} {body sts : List Stmt} {t u : TS} {T U B : TD} {wi wi1 : TI} {g g1 : TG} {src src1 : En → Option (List PyData)} {gt gt1 : Tg}
  {tt tt1 : TT} {cc cc1 : En → Option Bool} {scope : Scope} {own : List (Str × Nat)} {vs1 : List Nat}
theorem dl_lc (own : List (Str × Nat)) (hc : X.calm = true) (hN : X.N.Nodup) (ok : BlkOk X.N X.env.scope scope own) (hi : DI X tg iter wi src)
    (hg : ∀ (s : Shared) (H : Hp) (C : Addr) (cl : List (Str × Addr)) (fp : List Addr), DG (X.blk s H scope (compEnvC scope cl C X.env) fp) tg g gt)
    (ht : ∀ (s : Shared) (H : Hp) (C : Addr) (cl : List (Str × Addr)) (fp : List Addr), DTs (X.blk s H scope (compEnvC scope cl C X.env) fp) ifs tt cc)
    (he : ∀ (s : Shared) (H : Hp) (C : Addr) (cl : List (Str × Addr)) (fp : List Addr), DE (X.blk s H scope (compEnvC scope cl C X.env) fp) elt te fe)
    (hT : ∀ j ∈ gt.ix, j ∈ own.map (·.2) := by decide) (hs : ∀ x, foldedSetIterable iter X.env x = pure x := by intro _; rfl) :
    DL X (.ListComp elt [⟨tg, iter, ifs, 0⟩] scope pos) (tLc wi g tt te (own.map (·.2))) (dLc src gt (own.map (·.2)) cc fe) :=
  ⟨pe_lc hc hN hi.p ok (fun s H C cl fp => (hg s H C cl fp).p) (fun s H C cl fp => (ht s H C cl fp).p) (fun s H C cl fp => (he s H C cl fp).p) hs,
   rl_lc hi.r (hg X.s_0 X.H_0 0 [] []).re hT (ht X.s_0 X.H_0 0 [] []).r (he X.s_0 X.H_0 0 [] []).r⟩
/-- name = [..] on one line -/
theorem ds_setLc (i : Nat) (own : List (Str × Nat)) {y : Str} {py : Pos} (hc : X.calm = true) (hN : X.N.Nodup)
    (ok : BlkOk X.N X.env.scope scope own) (hi : DI X tg iter wi src)
    (hg : ∀ (s : Shared) (H : Hp) (C : Addr) (cl : List (Str × Addr)) (fp : List Addr), DG (X.blk s H scope (compEnvC scope cl C X.env) fp) tg g gt)
    (ht : ∀ (s : Shared) (H : Hp) (C : Addr) (cl : List (Str × Addr)) (fp : List Addr), DTs (X.blk s H scope (compEnvC scope cl C X.env) fp) ifs tt cc)
    (he : ∀ (s : Shared) (H : Hp) (C : Addr) (cl : List (Str × Addr)) (fp : List Addr), DE (X.blk s H scope (compEnvC scope cl C X.env) fp) elt te fe)
    (hsw : swapsWith (.ListComp elt [⟨tg, iter, ifs, 0⟩] scope pos) (some (.Name y py)) spos.line X.env = pure true) (hy : X.N[i]? = some y := by rfl) (hyl : X.env.scope.names.lookup y = some .local := by rfl) (hT : ∀ j ∈ gt.ix, j ∈ own.map (·.2) := by decide) (hs : ∀ x, foldedSetIterable iter X.env x = pure x := by intro _; rfl) :
    DS X (.Assign [.Name y py] (.ListComp elt [⟨tg, iter, ifs, 0⟩] scope pos) spos) (tAsg (tLc wi g tt te (own.map (·.2))) (gName i)) (dAsg i fun ε => (dLc src gt (own.map (·.2)) cc fe ε).map .o) :=
  ⟨ps_setLc hc hN hy hyl hsw hi.p ok (fun s H C cl fp => (hg s H C cl fp).p) (fun s H C cl fp => (ht s H C cl fp).p) (fun s H C cl fp => (he s H C cl fp).p) hs,
   rs_asg (fun F H ε σ s Q r e k => by
    obtain ⟨d, e1, rfl⟩ := Option.map_eq_some_iff.mp e
    exact rl_lc hi.r (hg X.s_0 X.H_0 0 [] []).re hT (ht X.s_0 X.H_0 0 [] []).r (he X.s_0 X.H_0 0 [] []).r F H ε σ d Q r e1 fun p vs F' H' s n nf hp d' => k _ F' H' s ⟨⟨p, vs, rfl, hp, nf, d'⟩, fun p' _ z => by cases z; exact n⟩)⟩

theorem putAll_own : ∀ {is : List Nat} {ds : List PyData} {ε : En} {j : Nat} {s : Slot}, ds.length = is.length → (putAll is ds ε)[j]? = some (some s) → s.own = true → j ∉ is ∧ ε[j]? = some (some s)
  | [], [], ε, j, s, _, h, _ => ⟨by simp, h⟩
  | i :: is, d :: ds, ε, j, s, l, h, o => by
    obtain ⟨h1, h2⟩ := putAll_own (is := is) (ds := ds) (by simpa using l) h o
    by_cases hj : i = j
    · subst hj
      by_cases hi : i < ε.length
      · rw [List.getElem?_set_self hi] at h2
        cases h2; cases o
      · rw [List.getElem?_eq_none (by simpa using hi)] at h2; cases h2
    · rw [List.getElem?_set_ne hj] at h2
      exact ⟨fun z => (List.mem_cons.mp z).elim (fun z => hj z.symm) h1, h2⟩
  | [], _ :: _, _, _, _, l, _, _ => by cases l
  | _ :: _, [], _, _, _, l, _, _ => by cases l
theorem put_own {gt : Tg} {d : PyData} {ε ε' : En} {j : Nat} {s : Slot} (h : gt.put d ε = some ε') (hj : ε'[j]? = some (some s)) (o : s.own = true) : j ∉ gt.ix ∧ ε[j]? = some (some s) := by
  cases gt with
  | nm i =>
    cases h
    by_cases e : i = j
    · subst e
      by_cases hi : i < ε.length
      · rw [List.getElem?_set_self hi] at hj
        cases hj; cases o
      · rw [List.getElem?_eq_none (by simpa using hi)] at hj; cases hj
    · rw [List.getElem?_set_ne e] at hj
      exact ⟨fun z => e (List.mem_singleton.mp z).symm, hj⟩
  | tp is =>
    obtain ⟨ds, rfl, hl, rfl⟩ := put_tp h
    exact putAll_own hl hj o
theorem RelE.updD {K : PySem.W.Frag} {F H : Hp} {ε : En} {σ : L2.St} {D : Addr} {o : HO} (r : RelE K F H ε σ) (nF : F D = none) (n : ∀ i p, OwnAt ε σ i p → p ≠ D) (hk : ∀ u, H D = some u → okO u = true) : RelE K F (upd H D o) ε σ := by
  have L : Lies F (upd H D o) := lies_upd r.sub nF hk
  exact ⟨L, r.len, fun i s e => let ⟨v, h1, h2⟩ := r.sl i s e; ⟨v, h1, h2.updH fun a q b => n i q ⟨s, e, a, by rw [h1, b]⟩⟩⟩
/-! ### two clauses -/
def compD2 (gt : Tg) (cc : En → Option Bool) (src1 : En → Option (List PyData)) (vs1 : List Nat) (gt1 : Tg) (cc1 : En → Option Bool) (fe : En → Option PyData) (ε : En) : List PyData → Option (List PyData)
  | [] => some []
  | d :: ds => (gt.put d ε).bind fun ε' => (cc ε').bind fun k => if k = true then (src1 ε').bind fun ds1 => (compD gt1 cc1 fe (wipeE ε' vs1) ds1).bind fun out => (compD2 gt cc src1 vs1 gt1 cc1 fe ε ds).map (out ++ ·) else compD2 gt cc src1 vs1 gt1 cc1 fe ε ds
def dLc2 (src : En → Option (List PyData)) (gt : Tg) (vs : List Nat) (cc : En → Option Bool) (src1 : En → Option (List PyData)) (vs1 : List Nat) (gt1 : Tg) (cc1 : En → Option Bool) (fe : En → Option PyData) : En → Option (List PyData) :=
  fun ε => (src ε).bind fun ds => limL (compD2 gt cc src1 vs1 gt1 cc1 fe (wipeE ε vs) ds)
theorem rl_lc2 {K : PySem.W.Frag} {te : TE} {vs vs1 : List Nat} (hi : RI K wi src) (hg : RGE K g gt) (hT : ∀ j ∈ gt.ix, j ∈ vs) (ht : RT K tt cc) (hi1 : RI K wi1 src1) (hg1 : RGE K g1 gt1) (hT1 : ∀ j ∈ gt1.ix, j ∈ vs1) (ht1 : RT K tt1 cc1) (he : RE K te fe) :
    RL K (tLc2 wi g tt wi1 g1 tt1 te vs vs1) (dLc2 src gt vs cc src1 vs1 gt1 cc1 fe) := fun F H ε σ out Q r e k => by
  obtain ⟨ds, e1, e2⟩ := Option.bind_eq_some_iff.mp e
  obtain ⟨out', e3, e4⟩ := Option.bind_eq_some_iff.mp e2
  split at e4
  · rename_i hsz
    have e5 := Option.some.inj e4
    subst e5
    refine hi F H ε σ ds _ r e1 fun J F1 H1 s1 W D hD => ?_
    obtain ⟨st1, nf1, hp1⟩ := new_lst (vs := ([] : List V)) s1.s hD
    refine ⟨fun i m H' => m = ds.length - i ∧ i ≤ ds.length ∧ ∃ F' acc done rest, Step F1 H1 F' H' ∧ F' D = none ∧ H' D = some (.lst acc) ∧ DnAll K F' acc done ∧ compD2 gt cc src1 vs1 gt1 cc1 fe (wipeE ε vs) (ds.drop i) = some rest ∧ done ++ rest = out',
      ⟨_, rfl, Nat.zero_le _, F1, [], [], out', st1, nf1, hp1, .nil, by rw [List.drop_zero]; exact e3, rfl⟩, ?_⟩
    rintro i m H2 ⟨rfl, hi', F2, acc, done, rest, s2, nf2, hD2, al2, er, eo⟩
    obtain ⟨w1, w2⟩ := W i F2 H2 s2.f s2.s
    by_cases hlt : i < ds.length
    · have hd : ds.drop i = ds[i] :: ds.drop (i + 1) := List.drop_eq_getElem_cons hlt
      rw [hd] at er
      obtain ⟨ε', e5, er⟩ := Option.bind_eq_some_iff.mp er
      obtain ⟨b, e6, er⟩ := Option.bind_eq_some_iff.mp er
      obtain ⟨go1, g2⟩ := w1 ds[i] (List.getElem?_eq_getElem hlt)
      refine .inr ⟨go1, fun H' => ∃ F' acc done rest, Step F1 H1 F' H' ∧ F' D = none ∧ H' D = some (.lst acc) ∧ DnAll K F' acc done ∧ compD2 gt cc src1 vs1 gt1 cc1 fe (wipeE ε vs) (ds.drop (i + 1)) = some rest ∧ done ++ rest = out', fun H' ⟨F', a1, a2, a3, h⟩ => ⟨ds.length - (i + 1), by omega, rfl, hlt, F', a1, a2, a3, h⟩, fun x H3 y => ?_⟩
      obtain ⟨F3, s3, d3⟩ := g2 x H3 y
      have r3 : RelE K F3 H3 (wipeE ε vs) (L2.wipe σ vs) := ((r.step s1).wipe vs).step (s2.trans s3)
      refine hg F3 H3 _ _ x ds[i] ε' _ r3 d3 e5 fun σ4 r4 hl4 hj4 => ⟨?_, ?_⟩
      · refine (wipe_eq hl4 fun j hj => ?_).trans wipe_wipe
        exact hj4 j fun z => hj (hT j z)
      · refine ht F3 H3 ε' σ4 b _ r4 e6 fun F4 H4 s4 => ?_
        have hD4 : H4 D = some (.lst acc) := s4.h _ _ (s3.h _ _ hD2)
        have nf4 : F4 D = none := s4.n _ _ (s3.h _ _ hD2) (s3.n _ _ hD2 nf2)
        cases b with
        | false =>
          rw [if_neg (by decide)] at er
          exact iteF ⟨F4, acc, done, rest, s2.trans (s3.trans s4), nf4, hD4, al2.mv (s3.trans s4).f, er, eo⟩
        | true =>
          rw [if_pos rfl] at er
          obtain ⟨ds1, e7, er⟩ := Option.bind_eq_some_iff.mp er
          obtain ⟨o1, e8, er⟩ := Option.bind_eq_some_iff.mp er
          obtain ⟨rest', e9, er⟩ := Option.map_eq_some_iff.mp er
          subst er
          refine iteT (hi1 F4 H4 ε' σ4 ds1 _ (r4.step s4) e7 fun J1 F5 H5 s5 W1 => ?_)
          have hD5 : H5 D = some (.lst acc) := s5.h _ _ hD4
          have nf5 : F5 D = none := s5.n _ _ hD4 nf4
          have s25 := s2.trans (s3.trans (s4.trans s5))
          have nown : ∀ i p, OwnAt ε' σ4 i p → p ≠ D := fun i p ⟨s, k1, k2, k3⟩ => by
            obtain ⟨k4, k5⟩ := put_own e5 k1 k2
            rw [hj4 i k4] at k3
            obtain ⟨⟨o, k6⟩, _⟩ := OwnAt.addr ((r.step s1).wipe vs) ⟨s, k5, k2, k3⟩
            exact ne_of_none k6 hD
          refine ⟨fun j m H' => m = ds1.length - j ∧ j ≤ ds1.length ∧ ∃ F' acc done1 rest1, Step F1 H1 F' H' ∧ Same F5 F' ∧ RelE K F' H' ε' σ4 ∧ F' D = none ∧ H' D = some (.lst acc) ∧ DnAll K F' acc (done ++ done1) ∧ compD gt1 cc1 fe (wipeE ε' vs1) (ds1.drop j) = some rest1 ∧ done1 ++ rest1 = o1,
            ⟨_, rfl, Nat.zero_le _, F5, acc, [], o1, s25, Same.refl _, (r4.step s4).step s5, nf5, hD5, by rw [List.append_nil]; exact al2.mv (s3.trans (s4.trans s5)).f, by rw [List.drop_zero]; exact e8, rfl⟩, ?_⟩
          rintro j m H6 ⟨rfl, hj', F6, acc6, done1, rest1, s6, sm6, r6, nf6, hD6, al6, er1, eo1⟩
          obtain ⟨w3, w4⟩ := W1 j F6 H6 sm6 s6.s
          by_cases hlt1 : j < ds1.length
          · have hd1 : ds1.drop j = ds1[j] :: ds1.drop (j + 1) := List.drop_eq_getElem_cons hlt1
            rw [hd1] at er1
            obtain ⟨ε'', e10, er1⟩ := Option.bind_eq_some_iff.mp er1
            obtain ⟨b1, e11, er1⟩ := Option.bind_eq_some_iff.mp er1
            obtain ⟨go2, g3⟩ := w3 ds1[j] (List.getElem?_eq_getElem hlt1)
            refine .inr ⟨go2, fun H' => ∃ F' acc done1 rest1, Step F1 H1 F' H' ∧ Same F5 F' ∧ RelE K F' H' ε' σ4 ∧ F' D = none ∧ H' D = some (.lst acc) ∧ DnAll K F' acc (done ++ done1) ∧ compD gt1 cc1 fe (wipeE ε' vs1) (ds1.drop (j + 1)) = some rest1 ∧ done1 ++ rest1 = o1, fun H' ⟨F', a1, a2, a3, h⟩ => ⟨ds1.length - (j + 1), by omega, rfl, hlt1, F', a1, a2, a3, h⟩, fun x1 H7 y1 => ?_⟩
            obtain ⟨F7, s7, d7⟩ := g3 x1 H7 y1
            have r7 : RelE K F7 H7 (wipeE ε' vs1) (L2.wipe σ4 vs1) := (r6.wipe vs1).step s7
            refine hg1 F7 H7 _ _ x1 ds1[j] ε'' _ r7 d7 e10 fun σ8 r8 hl8 hj8 => ⟨?_, ?_⟩
            · refine (wipe_eq hl8 fun j hj => ?_).trans wipe_wipe
              exact hj8 j fun z => hj (hT1 j z)
            · refine ht1 F7 H7 ε'' σ8 b1 _ r8 e11 fun F8 H8 s8 => ?_
              have hD8 : H8 D = some (.lst acc6) := s8.h _ _ (s7.h _ _ hD6)
              have nf8 : F8 D = none := s8.n _ _ (s7.h _ _ hD6) (s7.n _ _ hD6 nf6)
              cases b1 with
              | false =>
                rw [if_neg (by decide)] at er1
                exact iteF ⟨F8, acc6, done1, rest1, s6.trans (s7.trans s8), sm6.trans (s7.trans s8).f, r6.step (s7.trans s8), nf8, hD8, al6.mv (s7.trans s8).f, er1, eo1⟩
              | true =>
                rw [if_pos rfl] at er1
                obtain ⟨y', e12, er1⟩ := Option.bind_eq_some_iff.mp er1
                obtain ⟨rest1', e13, e14⟩ := Option.map_eq_some_iff.mp er1
                subst e14
                refine iteT (he F8 H8 ε'' σ8 y' _ (r8.step s8) e12 fun v F9 H9 s9 d9 => ?_)
                have hD9 : H9 D = some (.lst acc6) := s9.h _ _ hD8
                have nf9 : F9 D = none := s9.n _ _ hD8 nf8
                have s69 := s6.trans (s7.trans (s8.trans s9))
                have hlen : acc6.length < sizeLine := by
                  have h1 := al6.length
                  have h2 := congrArg List.length eo
                  have h3 := congrArg List.length eo1
                  simp only [List.length_append, List.length_cons] at h1 h2 h3
                  omega
                have sF : Step F1 H1 F9 (upd H9 D (.lst (acc6 ++ [v]))) := s69.chg hD nf9 hD9 rfl
                refine ⟨acc6, hD9, hlen, F9, acc6 ++ [v], done1 ++ [y'], rest1', sF, sm6.trans (s7.trans (s8.trans s9)).f, ?_, nf9, upd_same, ?_, e13, by rw [List.append_assoc]; exact eo1⟩
                · exact (r6.step (s7.trans (s8.trans s9))).updD nf9 nown (fun u e => by rw [hD9] at e; cases e; rfl)
                · rw [← List.append_assoc]
                  exact (al6.mv (s7.trans (s8.trans s9)).f).append (.one d9)
          · have e' : j = ds1.length := by omega
            subst e'
            rw [List.drop_length] at er1
            cases er1
            rw [List.append_nil] at eo1
            subst eo1
            exact .inl ⟨w4 rfl, F6, acc6, done ++ done1, rest', s6, nf6, hD6, al6, e9, by rw [List.append_assoc]; exact eo⟩
    · have e' : i = ds.length := by omega
      subst e'
      rw [List.drop_length] at er
      cases er
      rw [List.append_nil] at eo
      subst eo
      exact .inl ⟨w2 rfl, k D acc F2 H2 (s1.trans s2) (s1.fr _ hD) nf2 hD2 al2⟩
  · cases e4
theorem dl_lc2 (own : List (Str × Nat)) (vs1 : List Nat) (hc : X.calm = true) (hN : X.N.Nodup) (ok : BlkOk X.N X.env.scope scope own) (hi : DI X tg iter wi src)
    (hg : ∀ (s : Shared) (H : Hp) (C : Addr) (cl : List (Str × Addr)) (fp : List Addr), DG (X.blk s H scope (compEnvC scope cl C X.env) fp) tg g gt)
    (ht : ∀ (s : Shared) (H : Hp) (C : Addr) (cl : List (Str × Addr)) (fp : List Addr), DTs (X.blk s H scope (compEnvC scope cl C X.env) fp) ifs tt cc)
    (hi1 : ∀ (s : Shared) (H : Hp) (C : Addr) (cl : List (Str × Addr)) (fp : List Addr), DI (X.blk s H scope (compEnvC scope cl C X.env) fp) tg1 iter1 wi1 src1)
    (hg1 : ∀ (s : Shared) (H : Hp) (C : Addr) (cl : List (Str × Addr)) (fp : List Addr), DG (X.blk s H scope (compEnvC scope cl C X.env) fp) tg1 g1 gt1)
    (ht1 : ∀ (s : Shared) (H : Hp) (C : Addr) (cl : List (Str × Addr)) (fp : List Addr), DTs (X.blk s H scope (compEnvC scope cl C X.env) fp) ifs1 tt1 cc1)
    (he : ∀ (s : Shared) (H : Hp) (C : Addr) (cl : List (Str × Addr)) (fp : List Addr), DE (X.blk s H scope (compEnvC scope cl C X.env) fp) elt te fe)
    (hT : ∀ j ∈ gt.ix, j ∈ own.map (·.2) := by decide) (hv : ∀ i ∈ vs1, i ∈ own.map (·.2) := by decide) (hT1 : ∀ j ∈ gt1.ix, j ∈ vs1 := by decide) (hs : ∀ x, foldedSetIterable iter X.env x = pure x := by intro _; rfl) (hs1 : ∀ env x, foldedSetIterable iter1 env x = pure x := by intro _ _; rfl) :
    DL X (.ListComp elt [⟨tg, iter, ifs, 0⟩, ⟨tg1, iter1, ifs1, 0⟩] scope pos) (tLc2 wi g tt wi1 g1 tt1 te (own.map (·.2)) vs1) (dLc2 src gt (own.map (·.2)) cc src1 vs1 gt1 cc1 fe) :=
  ⟨pe_lc2 hc hN hi.p ok hv (fun s H C cl fp => (hg s H C cl fp).p) (fun s H C cl fp => (ht s H C cl fp).p) (fun s H C cl fp => (hi1 s H C cl fp).p) (fun s H C cl fp => (hg1 s H C cl fp).p) (fun s H C cl fp => (ht1 s H C cl fp).p) (fun s H C cl fp => (he s H C cl fp).p) hs hs1,
   rl_lc2 hi.r (hg X.s_0 X.H_0 0 [] []).re hT (ht X.s_0 X.H_0 0 [] []).r (hi1 X.s_0 X.H_0 0 [] []).r (hg1 X.s_0 X.H_0 0 [] []).re hT1 (ht1 X.s_0 X.H_0 0 [] []).r (he X.s_0 X.H_0 0 [] []).r⟩
theorem ds_setLc2 (i : Nat) (own : List (Str × Nat)) (vs1 : List Nat) {y : Str} {py : Pos} (hc : X.calm = true) (hN : X.N.Nodup) (ok : BlkOk X.N X.env.scope scope own) (hi : DI X tg iter wi src)
    (hg : ∀ (s : Shared) (H : Hp) (C : Addr) (cl : List (Str × Addr)) (fp : List Addr), DG (X.blk s H scope (compEnvC scope cl C X.env) fp) tg g gt)
    (ht : ∀ (s : Shared) (H : Hp) (C : Addr) (cl : List (Str × Addr)) (fp : List Addr), DTs (X.blk s H scope (compEnvC scope cl C X.env) fp) ifs tt cc)
    (hi1 : ∀ (s : Shared) (H : Hp) (C : Addr) (cl : List (Str × Addr)) (fp : List Addr), DI (X.blk s H scope (compEnvC scope cl C X.env) fp) tg1 iter1 wi1 src1)
    (hg1 : ∀ (s : Shared) (H : Hp) (C : Addr) (cl : List (Str × Addr)) (fp : List Addr), DG (X.blk s H scope (compEnvC scope cl C X.env) fp) tg1 g1 gt1)
    (ht1 : ∀ (s : Shared) (H : Hp) (C : Addr) (cl : List (Str × Addr)) (fp : List Addr), DTs (X.blk s H scope (compEnvC scope cl C X.env) fp) ifs1 tt1 cc1)
    (he : ∀ (s : Shared) (H : Hp) (C : Addr) (cl : List (Str × Addr)) (fp : List Addr), DE (X.blk s H scope (compEnvC scope cl C X.env) fp) elt te fe)
    (hsw : swapsWith (.ListComp elt [⟨tg, iter, ifs, 0⟩, ⟨tg1, iter1, ifs1, 0⟩] scope pos) (some (.Name y py)) spos.line X.env = pure true) (hy : X.N[i]? = some y := by rfl) (hyl : X.env.scope.names.lookup y = some .local := by rfl)
    (hT : ∀ j ∈ gt.ix, j ∈ own.map (·.2) := by decide) (hv : ∀ i ∈ vs1, i ∈ own.map (·.2) := by decide) (hT1 : ∀ j ∈ gt1.ix, j ∈ vs1 := by decide) (hs : ∀ x, foldedSetIterable iter X.env x = pure x := by intro _; rfl) (hs1 : ∀ env x, foldedSetIterable iter1 env x = pure x := by intro _ _; rfl) :
    DS X (.Assign [.Name y py] (.ListComp elt [⟨tg, iter, ifs, 0⟩, ⟨tg1, iter1, ifs1, 0⟩] scope pos) spos) (tAsg (tLc2 wi g tt wi1 g1 tt1 te (own.map (·.2)) vs1) (gName i)) (dAsg i fun ε => (dLc2 src gt (own.map (·.2)) cc src1 vs1 gt1 cc1 fe ε).map .o) :=
  ⟨ps_setLc2 hc hN hy hyl hsw hi.p ok hv (fun s H C cl fp => (hg s H C cl fp).p) (fun s H C cl fp => (ht s H C cl fp).p) (fun s H C cl fp => (hi1 s H C cl fp).p) (fun s H C cl fp => (hg1 s H C cl fp).p) (fun s H C cl fp => (ht1 s H C cl fp).p) (fun s H C cl fp => (he s H C cl fp).p) hs hs1,
   rs_asg (fun F H ε σ s Q r e k => by
    obtain ⟨d, e1, rfl⟩ := Option.map_eq_some_iff.mp e
    exact rl_lc2 hi.r (hg X.s_0 X.H_0 0 [] []).re hT (ht X.s_0 X.H_0 0 [] []).r (hi1 X.s_0 X.H_0 0 [] []).r (hg1 X.s_0 X.H_0 0 [] []).re hT1 (ht1 X.s_0 X.H_0 0 [] []).r (he X.s_0 X.H_0 0 [] []).r F H ε σ d Q r e1 fun p vs F' H' s n nf hp d' => k _ F' H' s ⟨⟨p, vs, rfl, hp, nf, d'⟩, fun p' _ z => by cases z; exact n⟩)⟩

/-! ### own lists change -/
def dApp (i : Nat) (f : En → Option PyData) : TD := fun R ε => ∃ ds d, ε[i]? = some (some (.o ds)) ∧ f ε = some d ∧ ds.length < sizeLine ∧ R.nx (ε.set i (some (.o (ds ++ [d]))))
theorem SlotR.own_o {K : PySem.W.Frag} {F H : Hp} {v : V} {ds : List PyData} (h : SlotR K F H v (.o ds)) : ∃ p vs, v = .ref p ∧ H p = some (.lst vs) ∧ F p = none ∧ DnAll K F vs ds := h
theorem ds_app (i : Nat) {x : Str} {apos cpos p1 : Pos} (he : DE X e te fe) (hN : X.N[i]? = some x := by rfl) (hv : Vis X.env.scope x := by first | exact Or.inl rfl | exact Or.inr (Or.inl rfl) | exact Or.inr (Or.inr rfl)) (hd : (x == ("__debug__" : Str)) = false := by decide)
    (hcd : (x == ("__classdict__" : Str)) = false := by decide) (hbase : attributeBase (.Name x p1) "append" X.env (eval (.Name x p1) X.env) = eval (.Name x p1) X.env := by rfl)
    (hfew : ((backTo cpos (starEach [e] X.env)).all (fun x => !x.1) && (backToKw cpos (keywordEach [] X.env)).all (fun x => x.1.isSome)
      && decide ([e].length + ([] : List Keyword).length + (if ([] : List Keyword).isEmpty then 0 else 1) < 30)) = true := by rfl)
    (hline : (apos.endLine == cpos.line) = true := by rfl) (hs : starEach [e] X.env = (false, eval e X.env) :: starEach [] X.env := by rfl) (hplain : (backTo cpos (starEach [] X.env)).any (·.1) = false := by rfl)
    (hsw : swapsWith (.Call (.Attribute (.Name x p1) "append" apos) [e] [] cpos) none pos.line X.env = pure false := by rfl) :
    DS X (.Expr (.Call (.Attribute (.Name x p1) "append" apos) [e] [] cpos) pos) (tDrop (tBM X.K "list" rAppend (tVar i) (tCons te tNil))) (dApp i fe) :=
  ⟨ps_expr (pe_bm PySem.F.plainAttrs_list PySem.F.slot_list_append PySem.F.type_list_append mt_append (pe_var hN hv hd hcd) (pa_cons he.p pa_nil hs) hbase hfew hline hs hplain) hsw, fun F0 H0 F H ε σ R D r ⟨ds, d, e1, e2, hz, h'⟩ c => by
    obtain ⟨v, h1, h2⟩ := r.e.sl _ _ e1
    obtain ⟨p, vs, rfl, hp, hF, al⟩ := h2.own_o
    refine ⟨_, h1, .inl ⟨rfl, vs, SqL.of hp⟩, he.r F H ε σ d _ r.e e2 fun v F' H' s d' => ?_⟩
    have hp' := s.h _ _ hp
    refine ⟨p, vs, v, rfl, rfl, hp', by rw [al.length]; exact hz, c.nx _ _ _ _ ((r.step s).put (s' := .o (ds ++ [d])) e1 h1 rfl rfl ⟨p, vs ++ [v], rfl, upd_same, s.n _ _ hp hF, (al.mv s.f).append (.one d')⟩) s.f h'⟩⟩
def ixN' (n : Nat) (i : Int) : Option Nat := ixN n i
/-- xs[k] = e -/
def dPut (i : Nat) (fk fe : En → Option PyData) : TD := fun R ε => ∃ ds d k j, fe ε = some d ∧ ε[i]? = some (some (.o ds)) ∧ fk ε = some (.int k) ∧ ixN ds.length k = some j ∧ R.nx (ε.set i (some (.o (ds.set j d))))
theorem ds_put (i : Nat) {x : Str} {p1 spos : Pos} {k : Expr} {tk : TE} {fk : En → Option PyData} (he : DE X e te fe) (hk : DE X k tk fk) (hN : X.N[i]? = some x := by rfl) (hv : Vis X.env.scope x := by first | exact Or.inl rfl | exact Or.inr (Or.inl rfl) | exact Or.inr (Or.inr rfl)) (hd : (x == ("__debug__" : Str)) = false := by decide)
    (hcd : (x == ("__classdict__" : Str)) = false := by decide)
    (ha : ∀ v, assign (.Subscript (.Name x p1) k spos) X.env v = (do
      let ov ← holding [v] (eval (.Name x p1) X.env)
      let iv ← holding [v, ov] (eval k X.env)
      standAt spos
      holding [v, ov, iv] (setItem ov iv v)
      release [v, ov, iv] []) := by intros; rfl)
    (hs : swapsWithSole [.Subscript (.Name x p1) k spos] e pos.line X.env = pure false := by rfl) (hw : swappedStores [.Subscript (.Name x p1) k spos] e X.env = pure none := by rfl) (h1 : (assignEach [.Subscript (.Name x p1) k spos] X.env).map (·.2) = [assign (.Subscript (.Name x p1) k spos) X.env] := by rfl) :
    DS X (.Assign [.Subscript (.Name x p1) k spos] e pos) (tAsg te (gSub (tVar i) tk rSetL)) (dPut i fk fe) :=
  ⟨ps_asg he.p (pg_sub (pe_var hN hv hd hcd) hk.p set_list ha) hs hw h1, fun F0 H0 F H ε σ R D r ⟨ds, d, k, j, e1, e2, e3, e4, h'⟩ c => by
    obtain ⟨v, h1, h2⟩ := r.e.sl _ _ e2
    obtain ⟨p, vs, rfl, hp, hF, al⟩ := h2.own_o
    refine he.r F H ε σ d _ r.e e1 fun y F1 H1 s1 d1 => ⟨_, h1, hk.r F1 H1 ε σ _ _ (r.e.step s1) e3 fun z F2 H2 s2 d2 => ?_⟩
    cases dn_int d2
    have s := s1.trans s2
    refine ⟨p, vs, k, j, rfl, rfl, s.h _ _ hp, by rw [al.length]; exact e4, c.nx _ _ _ _ ((r.step s).put (s' := .o (ds.set j d)) e2 h1 rfl rfl ⟨p, vs.set j y, rfl, upd_same, s.n _ _ hp hF, (al.mv s.f).set (d1.mv s2.f) j⟩) s.f h'⟩⟩

/-! ### parallel stores -/
/-- arguments into slots -/
def SlotsN (K : PySem.W.Frag) (F' H' H : Hp) : List V → List Slot → Prop
  | [], [] => True
  | v :: vs, s :: ss => SlotN K F' H' H v s ∧ SlotsN K F' H' H vs ss ∧ ∀ p : Addr, s.own = true → v = V.ref p → ∀ (i : Nat) (s' : Slot), ss[i]? = some s' → s'.own = true → vs[i]? ≠ some (V.ref p)
  | _, _ => False
def RAX (K : PySem.W.Frag) (t : TA) (f : En → Option (List Slot)) : Prop := ∀ (F H : Hp) (ε : En) (σ : L2.St) (ss : List Slot) (Q : List V → Hp → Prop), RelE K F H ε σ → f ε = some ss →
  (∀ vs F' H', Step F H F' H' → SlotsN K F' H' H vs ss → Q vs H') → t σ H Q
structure DAX (X : Cx) (es : List Expr) (t : TA) (f : En → Option (List Slot)) : Prop where
  p : PA X es t
  r : RAX X.K t f
theorem dax_nil : DAX X [] tNil (fun _ => some []) := ⟨pa_nil, fun F H ε σ d Q r e q => by cases e; exact q _ F H (.refl r.sub) trivial⟩
theorem SlotsN.later {K : PySem.W.Frag} {F' H' H1 H : Hp} (n : ∀ p, H1 p = none → H p = none) : ∀ {vs : List V} {ss : List Slot}, SlotsN K F' H' H1 vs ss → SlotsN K F' H' H vs ss
  | [], [], _ => trivial
  | v :: vs, s :: ss, h => ⟨⟨h.1.1, fun p a b => n p (h.1.2 p a b)⟩, SlotsN.later n h.2.1, h.2.2⟩
  | [], _ :: _, h => h.elim
  | _ :: _, [], h => h.elim
theorem SlotsN.fresh {K : PySem.W.Frag} {F' H' H : Hp} : ∀ {vs : List V} {ss : List Slot}, SlotsN K F' H' H vs ss → ∀ (i : Nat) (s : Slot) (p : Addr), ss[i]? = some s → s.own = true → vs[i]? = some (V.ref p) → H p = none
  | [], [], _, i, s, p, a, _, _ => by simp at a
  | v :: vs, s :: ss, h, 0, s', p, a, b, c => by
    simp at a c
    subst a
    exact h.1.2 p b c
  | v :: vs, s :: ss, h, i + 1, s', p, a, b, c => SlotsN.fresh h.2.1 i s' p (by simpa using a) b (by simpa using c)
  | [], _ :: _, h, _, _, _, _, _, _ => h.elim
  | _ :: _, [], h, _, _, _, _, _, _ => h.elim
theorem dax_cons {t : TA} {f1 : En → Option Slot} {f : En → Option (List Slot)} (ha : DX X e te f1) (hr : DAX X es t f) (hs : starEach (e :: es) X.env = (false, eval e X.env) :: starEach es X.env := by rfl) : DAX X (e :: es) (tCons te t) (fun ε => (f1 ε).bind fun d => (f ε).map (d :: ·)) :=
  ⟨pa_cons ha.p hr.p hs, fun F H ε σ ds Q r e q => by
    obtain ⟨d, e1, e2⟩ := Option.bind_eq_some_iff.mp e
    obtain ⟨ds', e3, rfl⟩ := Option.map_eq_some_iff.mp e2
    refine ha.r F H ε σ d _ r e1 fun v F1 H1 s1 d1 => ?_
    refine hr.r F1 H1 ε σ ds' _ (r.step s1) e3 fun vs F2 H2 s2 d2 => ?_
    refine q _ F2 H2 (s1.trans s2) ⟨⟨d1.1.step s2, d1.2⟩, d2.later fun p => s1.fr p, fun p a b i s' c o z => ?_⟩
    have n := d2.fresh i s' p c o z
    have there : ∃ u, H1 p = some u := by
      subst b
      have d3 := d1.1
      cases d with
      | f d => cases a
      | o ds => obtain ⟨_, _, z, h, _⟩ := d3; cases z; exact ⟨_, h⟩
      | od ds => obtain ⟨_, _, z, h, _⟩ := d3; cases z; exact ⟨_, h⟩
      | v y => cases a
      | oa p ds => obtain ⟨_, z, h, _⟩ := d3; cases z; exact ⟨_, h⟩
      | tf d T => cases a
    obtain ⟨u, hu⟩ := there
    rw [hu] at n
    cases n⟩
@[simp] def setE : List Nat → List Slot → En → En
  | i :: is, s :: ss, ε => setE is ss (ε.set i (some s))
  | _, _, ε => ε
def setV : List Nat → List V → L2.St → L2.St
  | i :: is, s :: ss, ε => setV is ss (ε.set i (some s))
  | _, _, ε => ε
theorem Rel.setAll {K : PySem.W.Frag} {F0 H0 H F' H' : Hp} (f : ∀ p, H p = none → H0 p = none) : ∀ (is : List Nat) (vs : List V) (ss : List Slot) (ε : En) (σ : L2.St), Rel K F0 H0 F' H' ε σ → SlotsN K F' H' H vs ss →
    (∀ (j : Nat) (p : Addr), OwnAt ε σ j p → ∀ (i : Nat) (s : Slot), ss[i]? = some s → s.own = true → vs[i]? ≠ some (V.ref p)) → is.length = ss.length → Rel K F0 H0 F' H' (setE is ss ε) (setV is vs σ) := by
  intro is
  induction is with
  | nil =>
    intro vs ss ε σ r h n l
    cases ss with
    | nil => cases vs with
      | nil => exact r
      | cons _ _ => exact h.elim
    | cons _ _ => cases l
  | cons i is ih =>
    intro vs ss ε σ r h n l
    cases ss with
    | nil => cases l
    | cons s ss => cases vs with
      | nil => exact h.elim
      | cons v vs =>
        have fr : ∀ p, s.own = true → v = .ref p → ∀ j, ¬ OwnAt ε σ j p := fun p a b j hj => n j p hj 0 s rfl a (by rw [b]; rfl)
        refine ih vs ss _ _ ⟨r.e.set h.1.1, r.st, fun j p hj => ?_, fun j k p hj hk => ?_⟩ h.2.1 (fun j p hj i' s' a b => ?_) (by simpa using l)
        · rcases OwnAt.set r.e.len hj with ⟨_, s', e1, e2, e3⟩ | ⟨_, hj⟩
          · cases e1; cases e3
            exact f p (h.1.2 p e2 rfl)
          · exact r.own j p hj
        · rcases OwnAt.set r.e.len hj with ⟨rfl, s', e1, e2, e3⟩ | ⟨_, hj2⟩
          · rcases OwnAt.set r.e.len hk with ⟨rfl, _⟩ | ⟨_, hk2⟩
            · rfl
            · cases e1; cases e3
              exact absurd hk2 (fr p e2 rfl k)
          · rcases OwnAt.set r.e.len hk with ⟨rfl, s', e1, e2, e3⟩ | ⟨_, hk2⟩
            · cases e1; cases e3
              exact absurd hj2 (fr p e2 rfl j)
            · exact r.sep j k p hj2 hk2
        · rcases OwnAt.set r.e.len hj with ⟨_, s'', e1, e2, e3⟩ | ⟨_, hj⟩
          · cases e1; cases e3
            exact h.2.2 p e2 rfl i' s' a b
          · exact n j p hj (i' + 1) s' (by simpa using a) b
def dPar (is : List Nat) (f : En → Option (List Slot)) : TD := fun R ε => ∃ ss, f ε = some ss ∧ ss.length = is.length ∧ R.nx (setE is ss ε)
theorem slotsN_own {K : PySem.W.Frag} {F H F' H' : Hp} {ε : En} {σ : L2.St} {vs : List V} {ss : List Slot} (r : RelE K F H ε σ) (h : SlotsN K F' H' H vs ss) : ∀ (j : Nat) (p : Addr), OwnAt ε σ j p → ∀ (i : Nat) (s : Slot), ss[i]? = some s → s.own = true → vs[i]? ≠ some (V.ref p) := fun j p hj i s a b c => by
  obtain ⟨⟨o, e⟩, _⟩ := hj.addr r
  rw [h.fresh i s p a b c] at e
  cases e
theorem SlotsN.length {K : PySem.W.Frag} {F' H' H : Hp} : ∀ {vs : List V} {ss : List Slot}, SlotsN K F' H' H vs ss → vs.length = ss.length
  | [], [], _ => rfl
  | v :: vs, s :: ss, h => by simp [SlotsN.length h.2.1]
  | [], _ :: _, h => h.elim
  | _ :: _, [], h => h.elim
theorem ds_par (i j : Nat) {x y : Str} {ta : TA} {f : En → Option (List Slot)} {px py pt : Pos} {kt k2 pt2} (hc : X.calm = true) (hN : X.N.Nodup) (ha : DAX X [a, b] ta f)
    (hw : swappedStores [.Tuple [.Name x px, .Name y py] kt pt] (.Tuple [a, b] k2 pt2) X.env = pure (some [x, y]) := by rfl) (hi : X.N[i]? = some x := by rfl) (hj : X.N[j]? = some y := by rfl) (hij : i ≠ j := by decide)
    (hx : X.env.scope.names.lookup x = some .local := by rfl) (hy : X.env.scope.names.lookup y = some .local := by rfl) 
    (hs : swapsWithSole [.Tuple [.Name x px, .Name y py] kt pt] (.Tuple [a, b] k2 pt2) pos.line X.env = pure false := by rfl) :
    DS X (.Assign [.Tuple [.Name x px, .Name y py] kt pt] (.Tuple [a, b] k2 pt2) pos) (tPar i j ta) (dPar [i, j] f) :=
  ⟨ps_par hc hN hi hj hij hx hy ha.p hw hs, fun F0 H0 F H ε σ R D r ⟨ss, e1, l, h'⟩ c => ha.r F H ε σ ss _ r.e e1 fun vs F' H' s sn => by
    match vs, ss, l, sn, h' with
    | [v, w], [s1, s2], _, sn, h' => exact ⟨v, w, rfl, c.nx _ _ _ _ (Rel.setAll (fun p => r.st.fr p) [i, j] _ _ _ _ (r.step s) sn (slotsN_own r.e sn) rfl) s.f h'⟩
    | [], [_, _], _, sn, _ => exact sn.elim
    | [_], [_, _], _, sn, _ => exact sn.2.1.elim
    | _ :: _ :: _ :: _, [_, _], _, sn, _ => exact sn.2.1.2.1.elim⟩
theorem ds_par3 (i j l : Nat) {c : Expr} {x y z : Str} {ta : TA} {f : En → Option (List Slot)} {px py pz pt : Pos} {kt k2 pt2} (hc : X.calm = true) (hN : X.N.Nodup) (ha : DAX X [a, b, c] ta f)
    (hw : swappedStores [.Tuple [.Name x px, .Name y py, .Name z pz] kt pt] (.Tuple [a, b, c] k2 pt2) X.env = pure (some [x, y, z]) := by rfl) (hi : X.N[i]? = some x := by rfl) (hj : X.N[j]? = some y := by rfl) (hl : X.N[l]? = some z := by rfl) (hij : i ≠ j := by decide) (hil : i ≠ l := by decide) (hjl : j ≠ l := by decide)
    (hx : X.env.scope.names.lookup x = some .local := by rfl) (hy : X.env.scope.names.lookup y = some .local := by rfl) (hz : X.env.scope.names.lookup z = some .local := by rfl)
    (hs : swapsWithSole [.Tuple [.Name x px, .Name y py, .Name z pz] kt pt] (.Tuple [a, b, c] k2 pt2) pos.line X.env = pure false := by rfl) :
    DS X (.Assign [.Tuple [.Name x px, .Name y py, .Name z pz] kt pt] (.Tuple [a, b, c] k2 pt2) pos) (tPar3 i j l ta) (dPar [i, j, l] f) :=
  ⟨ps_par3 hc hN hi hj hl hij hil hjl hx hy hz ha.p hw hs, fun F0 H0 F H ε σ R D r ⟨ss, e1, n, h'⟩ c => ha.r F H ε σ ss _ r.e e1 fun vs F' H' s sn => by
    match vs, ss, n, sn, h' with
    | [u, v, w], [s1, s2, s3], _, sn, h' => exact ⟨u, v, w, rfl, c.nx _ _ _ _ (Rel.setAll (fun p => r.st.fr p) [i, j, l] _ _ _ _ (r.step s) sn (slotsN_own r.e sn) rfl) s.f h'⟩
    | [], [_, _, _], _, sn, _ => exact sn.elim
    | [_], [_, _, _], _, sn, _ => exact sn.2.1.elim
    | [_, _], [_, _, _], _, sn, _ => exact sn.2.1.2.1.elim
    | _ :: _ :: _ :: _ :: _, [_, _, _], _, sn, _ => exact sn.2.1.2.1.2.1.elim⟩
end

/-! ### a def by its data -/
def startE (N : List Str) (ds : List PyData) : En := ds.map (fun d => some (.f d)) ++ List.replicate (N.length - ds.length) none
theorem startE_rel {K : PySem.W.Frag} {N : List Str} {F H : Hp} {vs : List V} {ds : List PyData} (s : Lies F H) (a : DnAll K F vs ds) : Rel K F H F H (startE N ds) (L2.start N vs) := by
  have hl := a.length
  have no : ∀ (i : Nat) (s : Slot), (startE N ds)[i]? = some (some s) → ∃ d, ds[i]? = some d ∧ s = .f d := fun i s e => by
    unfold startE at e
    by_cases hi : i < ds.length
    · rw [List.getElem?_append_left (by rw [List.length_map]; exact hi), List.getElem?_map] at e
      obtain ⟨d, e1, e2⟩ := Option.map_eq_some_iff.mp e
      exact ⟨d, e1, (Option.some.inj e2).symm⟩
    · rw [List.getElem?_append_right (by rw [List.length_map]; omega), List.getElem?_replicate] at e
      split at e <;> cases e
  refine ⟨⟨s, by simp [startE, L2.start, hl], fun i s' e => ?_⟩, .refl s, fun i p ⟨s', h1, h2, _⟩ => ?_, fun i j p ⟨s', h1, h2, _⟩ => ?_⟩
  · obtain ⟨d, e1, rfl⟩ := no i s' e
    obtain ⟨v, h1, h2⟩ := a.get e1
    refine ⟨v, ?_, h2⟩
    have hi := (List.getElem?_eq_some_iff.mp h1).1
    show (vs.map some ++ _)[i]? = _
    rw [List.getElem?_append_left (by rw [List.length_map]; exact hi), List.getElem?_map, h1]
    rfl
  · obtain ⟨d, _, rfl⟩ := no i s' h1
    cases h2
  · obtain ⟨d, _, rfl⟩ := no i s' h1
    cases h2
@[simp] def Slot.val : Slot → Option PyData
  | .f d => some d
  | .o ds => some (.list ds)
  | .od kvs => some (.dict kvs)
  | .v _ => none
  | .oa _ _ => none
  | .tf d _ => some d
section
variable {P : Program} {w : World} {K : PySem.W.Frag} {mg : Str → Option Value} {base : Heap}
/-- a def by what its body does to the data: a value -/
theorem defP {x qual : Str} {st : Stmt} {f : Addr} {fd : FuncData} {N ps : List Str} {k : Nat} {g : List PyData → Option PyData} {T : TD} (F : Fun K x qual st f fd) (S : FnScope N ps (defScope st))
    (body : ∀ (cdv : Value) (A : Around) (outer : List Env) (s : Shared) (H : Hp) (E : XK), Room k (A.deeper (envOfC qual (defScope st) s.heap.objs.size f cdv)) → ∃ t, DSs (cxOf CX0 P w K mg base N qual (defScope st) f cdv A outer s H E).nox (defBody st) t T)
    (pure : ∀ ds d, g ds = some d → ds.length = ps.length ∧ T { nx := fun _ => d = .none, rt := fun s => s.val = some d } (startE N ds)) : FnOk P w K mg base CX0 (k + 1) f fd ps (PSp K g) := by
  refine F.ok S (fun vs H Q E ⟨F1, ds, d, s1, a, e, q⟩ => by rw [a.length]; exact (pure ds d e).1) (fun cdv A outer s H vs Q E hr ⟨F1, ds, d, s1, a, e, q⟩ => ?_)
  obtain ⟨t, ht⟩ := body cdv A outer s H E hr
  refine ⟨t, ht.p, ht.r F1 H F1 H _ _ _ _ (startE_rel s1 a) (pure ds d e).2 ⟨fun ε σ F' H' r _ h => ?_, fun sl v H' ⟨F', st, h1, h2⟩ h3 => ?_, fun _ _ _ _ _ _ h => h.elim, fun _ _ _ _ _ _ h => h.elim⟩⟩
  · subst h
    exact q _ F' H' r.st .non
  · cases sl with
    | f d' => cases h3; exact q v F' H' st h1
    | o ds' =>
      cases h3
      obtain ⟨p, vs', rfl, hp, hF, al⟩ := h1
      obtain ⟨s', d'⟩ := frz_new st (h2 p rfl rfl) hF hp al
      exact q _ _ _ s' d'
    | od ds' =>
      cases h3
      obtain ⟨p, vs', rfl, hp, hF, al⟩ := h1
      have n0 := h2 p rfl rfl
      have sf : Same F' (upd F' p (.dK vs')) := fun b o q => by rw [upd_ne (ne_of_none q hF)]; exact q
      exact q _ _ _ (frz_step st n0 rfl hp hF) (.dic upd_same (al.mv sf))
    | tf d' T => cases h3; exact q v F' H' st h1.1
    | v y => cases h3
    | oa p ds => cases h3
/-- .. a new list -/
theorem defL {x qual : Str} {st : Stmt} {f : Addr} {fd : FuncData} {N ps : List Str} {k : Nat} {g : List PyData → Option (List PyData)} {T : TD} (F : Fun K x qual st f fd) (S : FnScope N ps (defScope st))
    (body : ∀ (cdv : Value) (A : Around) (outer : List Env) (s : Shared) (H : Hp) (E : XK), Room k (A.deeper (envOfC qual (defScope st) s.heap.objs.size f cdv)) → ∃ t, DSs (cxOf CX0 P w K mg base N qual (defScope st) f cdv A outer s H E).nox (defBody st) t T)
    (pure : ∀ ds d, g ds = some d → ds.length = ps.length ∧ T { nx := fun _ => False, rt := fun s => s = .o d } (startE N ds)) : FnOk P w K mg base CX0 (k + 1) f fd ps (LSp K g) := by
  refine F.ok S (fun vs H Q E ⟨F1, ds, d, s1, a, e, q⟩ => by rw [a.length]; exact (pure ds d e).1) (fun cdv A outer s H vs Q E hr ⟨F1, ds, d, s1, a, e, q⟩ => ?_)
  obtain ⟨t, ht⟩ := body cdv A outer s H E hr
  refine ⟨t, ht.p, ht.r F1 H F1 H _ _ _ _ (startE_rel s1 a) (pure ds d e).2 ⟨fun ε σ F' H' r _ h => h.elim, fun sl v H' ⟨F', st, h1, h2⟩ h3 => ?_, fun _ _ _ _ _ _ h => h.elim, fun _ _ _ _ _ _ h => h.elim⟩⟩
  subst h3
  obtain ⟨p, vs', rfl, hp, hF, al⟩ := h1
  exact q p vs' F' H' st (h2 p rfl rfl) hF hp al
end
end M


namespace M
open PySem PySem.Spec PyProof.Rows L2

/-- a def that may be called, by its promise -/
structure Cal (P : Program) (w : World) (K : PySem.W.Frag) (mg : Str → Option Value) (base : Heap) (x : Str) (k : Nat) (sp : Sp) : Prop where
  ex : ∃ (fa : Addr) (fd : FuncData) (ps : List Str), FnOk P w K mg base CX0 k fa fd ps sp ∧ mg x = some (.ref fa) ∧ PySem.W.keepIn K (.ref fa) = true ∧ Binds K fd ps []
section
variable {X : Cx} {e : Expr} {es : List Expr} {te : TE} {t : TA} {f : En → Option (List PyData)} {fe : En → Option PyData} {x : Str} {p pos : Pos} {k : Nat}
theorem Cal.mono {P : Program} {w : World} {K : PySem.W.Frag} {mg : Str → Option Value} {base : Heap} {j : Nat} {sp : Sp} (c : Cal P w K mg base x j sp) (h : j ≤ k) : Cal P w K mg base x k sp :=
  let ⟨fa, fd, ps, a, b⟩ := c.ex; ⟨fa, fd, ps, a.mono h, b⟩
theorem Cal.toP {P : Program} {w : World} {K : PySem.W.Frag} {mg : Str → Option Value} {base : Heap} {g : List PyData → Option (List PyData)} (c : Cal P w K mg base x k (LSp K g)) : Cal P w K mg base x k (PSp K fun ds => (g ds).map .list) :=
  let ⟨fa, fd, ps, a, b⟩ := c.ex; ⟨fa, fd, ps, LSp.toP a, b⟩
theorem de_cal {g : List PyData → Option PyData} {j : Nat} (c : Cal X.prog X.w X.K X.mg X.base x k (PSp X.K g)) (hr : Room j X.A) (ha : DA X (e :: es) t f) (hj : k ≤ j := by decide) (hg : Gl X x := by rfl) (hdb : (x == ("__debug__" : Str)) = false := by decide)
    (he : starEach (e :: es) X.env = (false, eval e X.env) :: starEach es X.env := by rfl) (hpl : (backTo pos (starEach es X.env)).any (·.1) = false := by rfl) : DE X (.Call (.Name x p) (e :: es) [] pos) (tCall (PSp X.K g) [] E0 t) (fun ε => (f ε).bind g) :=
  let ⟨_, _, _, G, hm, hk, hb⟩ := c.ex; de_fn G (hr.mono hj) hg hm hk hb ha hdb he hpl
theorem de_cal0 {g : List PyData → Option PyData} {j : Nat} (c : Cal X.prog X.w X.K X.mg X.base x k (PSp X.K g)) (hr : Room j X.A) (hj : k ≤ j := by decide) (hg : Gl X x := by rfl) (hdb : (x == ("__debug__" : Str)) = false := by decide) :
    DE X (.Call (.Name x p) [] [] pos) (tCall (PSp X.K g) [] E0 tNil) (fun ε => (some []).bind g) :=
  let ⟨_, _, _, G, hm, hk, hb⟩ := c.ex; de_fn0 G (hr.mono hj) hg hm hk hb hdb
theorem dl_cal {g : List PyData → Option (List PyData)} {j : Nat} (c : Cal X.prog X.w X.K X.mg X.base x k (LSp X.K g)) (hr : Room j X.A) (ha : DA X (e :: es) t f) (hj : k ≤ j := by decide) (hg : Gl X x := by rfl) (hdb : (x == ("__debug__" : Str)) = false := by decide)
    (he : starEach (e :: es) X.env = (false, eval e X.env) :: starEach es X.env := by rfl) (hpl : (backTo pos (starEach es X.env)).any (·.1) = false := by rfl) : DL X (.Call (.Name x p) (e :: es) [] pos) (tCall (LSp X.K g) [] E0 t) (fun ε => (f ε).bind g) :=
  let ⟨_, _, _, G, hm, hk, hb⟩ := c.ex; dl_fn G (hr.mono hj) hg hm hk hb ha hdb he hpl
theorem dl_cal0 {g : List PyData → Option (List PyData)} {j : Nat} (c : Cal X.prog X.w X.K X.mg X.base x k (LSp X.K g)) (hr : Room j X.A) (hj : k ≤ j := by decide) (hg : Gl X x := by rfl) (hdb : (x == ("__debug__" : Str)) = false := by decide) :
    DL X (.Call (.Name x p) [] [] pos) (tCall (LSp X.K g) [] E0 tNil) (fun ε => (some []).bind g) :=
  let ⟨_, _, _, G, hm, hk, hb⟩ := c.ex; dl_fn0 G (hr.mono hj) hg hm hk hb hdb
/-- the built-in names that stand as they were -/
structure Blt (mg : Str → Option Value) : Prop where
  len : mg "len" = none
  range : mg "range" = none
  enumerate : mg "enumerate" = none
  zip : mg "zip" = none
  sorted : mg "sorted" = none
  set : mg "set" = none
  list : mg "list" = none
  tuple : mg "tuple" = none
  str : mg "str" = none
  int : mg "int" = none
  bool : mg "bool" = none
  isinstance : mg "isinstance" = none
  sum : mg "sum" = none
  min : mg "min" = none
  max : mg "max" = none
  all : mg "all" = none

/-! ### built-ins by data -/
theorem BdAll.one {K : PySem.W.Frag} {F H : Hp} {vs : List V} {d : PyData} (h : BdAll K F H vs [d]) : ∃ v, vs = [v] ∧ Bd K F H v d := by
  match vs, h with
  | [v], h => exact ⟨v, rfl, h.1⟩
  | [], h => exact h.elim
  | _ :: _ :: _, h => exact h.2.elim
theorem BdAll.two {K : PySem.W.Frag} {F H : Hp} {vs : List V} {d e : PyData} (h : BdAll K F H vs [d, e]) : ∃ v w, vs = [v, w] ∧ Bd K F H v d ∧ Bd K F H w e := by
  match vs, h with
  | [v, w], h => exact ⟨v, w, rfl, h.1, h.2.1⟩
  | [], h => exact h.elim
  | [_], h => exact h.2.elim
  | _ :: _ :: _ :: _, h => exact h.2.2.elim
@[simp] def lenD : List PyData → Option PyData
  | [.str z] => if z.length ≤ sizeLine then some (.int z.length) else none
  | [.list ds] => some (.int ds.length)
  | [.tuple ds] => some (.int ds.length)
  | [.dict ds] => some (.int ds.length)
  | _ => none
theorem cr_len : CallR X (.builtin "len") (rGC X.K lenD) := by
  intro pins s σ H xs us Q I r ⟨F, ds, d, s1, hb, e, k⟩
  unfold lenD at e
  split at e
  · obtain ⟨v, rfl, h⟩ := hb.one
    split at e
    · rename_i hz
      cases e
      obtain ⟨rfl, o⟩ := h.str
      exact call_len pins s σ H _ us Q I r ⟨_, _, rfl, ⟨hz, rfl⟩, k _ F H (.refl s1) (.int _)⟩
    · cases e
  · obtain ⟨v, rfl, h⟩ := hb.one
    cases e
    obtain ⟨p, vs, rfl, hv, av⟩ := h.items s1
    exact call_len pins s σ H _ us Q I r ⟨_, _, rfl, .inl ⟨vs, hv, rfl⟩, by rw [av.length]; exact k _ F H (.refl s1) (.int _)⟩
  · obtain ⟨v, rfl, h⟩ := hb.one
    cases e
    obtain ⟨p, vs, rfl, _, hv, av⟩ := h.itemsT s1
    exact call_len pins s σ H _ us Q I r ⟨_, _, rfl, .inr ⟨vs, hv, rfl⟩, by rw [av.length]; exact k _ F H (.refl s1) (.int _)⟩
  · obtain ⟨v, rfl, h⟩ := hb.one
    cases e
    obtain ⟨p, vs, rfl, hv, av⟩ := h.entries s1
    have hl : vs.length = _ := DnKv.length av
    exact call_lenD pins s σ H _ us Q I r ⟨_, vs, rfl, hv, by rw [hl]; exact k _ F H (.refl s1) (.int _)⟩
  · cases e
/-- the signs of an int's text -/
def strI (i : Int) : Str := toString i
def strD : List PyData → Option PyData
  | [.int i] => if i.natAbs.log2 < 1920 ∧ PyData.strOk (strI i) = true then some (.str (strI i)) else none
  | _ => none
theorem cr_str : CallR X (.type "str") (rGC X.K strD) := by
  intro pins s σ H xs us Q I r ⟨F, ds, d, s1, hb, e, k⟩
  unfold strD at e
  split at e
  · obtain ⟨v, rfl, h⟩ := hb.one
    split at e
    · rename_i hz
      cases e
      obtain rfl := h.int
      exact call_str_int pins s σ H _ us Q I r ⟨_, rfl, hz.1, k _ F H (.refl s1) (.str _ hz.2)⟩
    · cases e
  · cases e
@[simp] def intD : List PyData → Option PyData
  | [.int i] => some (.int i)
  | [.bool b] => some (.int (if b then 1 else 0))
  | _ => none
theorem cr_int : CallR X (.type "int") (rGC X.K intD) := by
  intro pins s σ H xs us Q I r ⟨F, ds, d, s1, hb, e, k⟩
  unfold intD at e
  split at e
  · obtain ⟨v, rfl, h⟩ := hb.one
    cases e
    obtain rfl := h.int
    exact call_int1 pins s σ H _ us Q I r (.inl ⟨_, rfl, k _ F H (.refl s1) (.int _)⟩)
  · obtain ⟨v, rfl, h⟩ := hb.one
    cases e
    obtain rfl := h.bool
    exact call_int1 pins s σ H _ us Q I r (.inr ⟨_, rfl, k _ F H (.refl s1) (.int _)⟩)
  · cases e
def intsD : List PyData → Option (List Int)
  | [] => some []
  | .int i :: ds => (intsD ds).map (i :: ·)
  | _ => none
theorem intsD_vs {K : PySem.W.Frag} {F : Hp} : ∀ {ds : List PyData} {vs : List V} {is : List Int}, DnAll K F vs ds → intsD ds = some is → vs = is.map V.int
  | [], _, _, h, e => by cases h; cases e; rfl
  | .int i :: ds, _, is, h, e => by
    cases h with
    | cons a b =>
      obtain ⟨is', e1, rfl⟩ := Option.map_eq_some_iff.mp e
      rw [dn_int a, intsD_vs b e1]; rfl
  | .none :: _, _, _, _, e => by cases e
  | .bool _ :: _, _, _, _, e => by cases e
  | .str _ :: _, _, _, _, e => by cases e
  | .list _ :: _, _, _, _, e => by cases e
  | .tuple _ :: _, _, _, _, e => by cases e
  | .dict _ :: _, _, _, _, e => by cases e
def boolsD : List PyData → Option (List Bool)
  | [] => some []
  | .bool i :: ds => (boolsD ds).map (i :: ·)
  | _ => none
theorem boolsD_vs {K : PySem.W.Frag} {F : Hp} : ∀ {ds : List PyData} {vs : List V} {is : List Bool}, DnAll K F vs ds → boolsD ds = some is → vs = is.map V.bl
  | [], _, _, h, e => by cases h; cases e; rfl
  | .bool i :: ds, _, is, h, e => by
    cases h with
    | cons a b =>
      obtain ⟨is', e1, rfl⟩ := Option.map_eq_some_iff.mp e
      rw [dn_bool a, boolsD_vs b e1]; rfl
  | .none :: _, _, _, _, e => by cases e
  | .int _ :: _, _, _, _, e => by cases e
  | .str _ :: _, _, _, _, e => by cases e
  | .list _ :: _, _, _, _, e => by cases e
  | .tuple _ :: _, _, _, _, e => by cases e
  | .dict _ :: _, _, _, _, e => by cases e
def strsD : List PyData → Option (List Str)
  | [] => some []
  | .str i :: ds => (strsD ds).map (i :: ·)
  | _ => none
theorem strsD_vs {K : PySem.W.Frag} {F : Hp} : ∀ {ds : List PyData} {vs : List V} {is : List Str}, DnAll K F vs ds → strsD ds = some is → vs = is.map V.str ∧ ∀ x ∈ is, PyData.strOk x = true
  | [], _, _, h, e => by cases h; cases e; exact ⟨rfl, by simp⟩
  | .str i :: ds, _, is, h, e => by
    cases h with
    | cons a b =>
      obtain ⟨is', e1, rfl⟩ := Option.map_eq_some_iff.mp e
      obtain ⟨h1, h2⟩ := strsD_vs b e1
      cases a with
      | str _ ho =>
        rw [h1]
        refine ⟨rfl, fun x hx => ?_⟩
        rcases List.mem_cons.mp hx with z | z
        · rw [z]; exact ho
        · exact h2 x z
  | .none :: _, _, _, _, e => by cases e
  | .int _ :: _, _, _, _, e => by cases e
  | .bool _ :: _, _, _, _, e => by cases e
  | .list _ :: _, _, _, _, e => by cases e
  | .tuple _ :: _, _, _, _, e => by cases e
  | .dict _ :: _, _, _, _, e => by cases e
theorem strs_dn {K : PySem.W.Frag} {F : Hp} : ∀ {xs : List Str}, (∀ x ∈ xs, PyData.strOk x = true) → DnAll K F (xs.map V.str) (xs.map .str)
  | [], _ => .nil
  | x :: xs, h => .cons (.str x (h x List.mem_cons_self)) (strs_dn fun y hy => h y (List.mem_cons_of_mem _ hy))
def itemsOf : PyData → Option (List PyData)
  | .list ds => some ds
  | .tuple ds => some ds
  | _ => none
@[simp] def sumD : List PyData → Option PyData
  | [.list ds] => (intsD ds).map fun is => .int is.sum
  | _ => none
theorem cr_sumD (hc : X.calm = true) : CallR X (.builtin "sum") (rGC X.K sumD) := by
  intro pins s σ H xs us Q I r ⟨F, ds, d, s1, hb, e, k⟩
  unfold sumD at e
  split at e
  · obtain ⟨v, rfl, h⟩ := hb.one
    obtain ⟨is, e1, rfl⟩ := Option.map_eq_some_iff.mp e
    obtain ⟨p, vs, rfl, hv, av⟩ := h.items s1
    cases intsD_vs av e1
    exact cr_sum hc pins s σ H _ us Q I r ⟨_, is, rfl, hv, k _ F H (.refl s1) (.int _)⟩
  · cases e
/-- the least | greatest of some ints -/
def minI : List Int → Option Int
  | [] => none
  | i :: is => some (is.foldl min i)
def maxI : List Int → Option Int
  | [] => none
  | i :: is => some (is.foldl max i)
theorem foldl_min_mem : ∀ (is : List Int) (i : Int), is.foldl min i ∈ i :: is ∧ ∀ y ∈ i :: is, is.foldl min i ≤ y
  | [], i => by simp
  | j :: is, i => by
    obtain ⟨h1, h2⟩ := foldl_min_mem is (min i j)
    rw [List.foldl_cons]
    have hm : min i j ≤ i ∧ min i j ≤ j ∧ (min i j = i ∨ min i j = j) := by omega
    have h0 := h2 (min i j) List.mem_cons_self
    refine ⟨?_, fun y hy => ?_⟩
    · rcases List.mem_cons.mp h1 with z | z
      · rw [z]
        rcases hm.2.2 with q | q <;> rw [q] <;> simp
      · simp [z]
    · simp only [List.mem_cons] at hy
      rcases hy with z | z | z
      · omega
      · omega
      · exact h2 y (List.mem_cons_of_mem _ z)
theorem foldl_max_mem : ∀ (is : List Int) (i : Int), is.foldl max i ∈ i :: is ∧ ∀ y ∈ i :: is, y ≤ is.foldl max i
  | [], i => by simp
  | j :: is, i => by
    obtain ⟨h1, h2⟩ := foldl_max_mem is (max i j)
    rw [List.foldl_cons]
    have hm : i ≤ max i j ∧ j ≤ max i j ∧ (max i j = i ∨ max i j = j) := by omega
    have h0 := h2 (max i j) List.mem_cons_self
    refine ⟨?_, fun y hy => ?_⟩
    · rcases List.mem_cons.mp h1 with z | z
      · rw [z]
        rcases hm.2.2 with q | q <;> rw [q] <;> simp
      · simp [z]
    · simp only [List.mem_cons] at hy
      rcases hy with z | z | z
      · omega
      · omega
      · exact h2 y (List.mem_cons_of_mem _ z)
theorem minI_uniq {is : List Int} {m n : Int} (h : minI is = some n) (h1 : m ∈ is) (h2 : ∀ y ∈ is, m ≤ y) : m = n := by
  cases is with
  | nil => cases h
  | cons i is =>
    cases h
    obtain ⟨a, b⟩ := foldl_min_mem is i
    have := b m h1
    have := h2 _ a
    omega
theorem maxI_uniq {is : List Int} {m n : Int} (h : maxI is = some n) (h1 : m ∈ is) (h2 : ∀ y ∈ is, y ≤ m) : m = n := by
  cases is with
  | nil => cases h
  | cons i is =>
    cases h
    obtain ⟨a, b⟩ := foldl_max_mem is i
    have := b m h1
    have := h2 _ a
    omega
@[simp] def minD : List PyData → Option PyData
  | [.list ds] => (intsD ds).bind fun is => (minI is).map .int
  | [.int i, .int j] => some (.int (if j < i then j else i))
  | _ => none
@[simp] def maxD : List PyData → Option PyData
  | [.list ds] => (intsD ds).bind fun is => (maxI is).map .int
  | [.int i, .int j] => some (.int (if j > i then j else i))
  | _ => none
theorem cr_minD (hc : X.calm = true) : CallR X (.builtin "min") (rGC X.K minD) := by
  intro pins s σ H xs us Q I r ⟨F, ds, d, s1, hb, e, k⟩
  unfold minD at e
  split at e
  · obtain ⟨v, rfl, h⟩ := hb.one
    obtain ⟨is, e1, e2⟩ := Option.bind_eq_some_iff.mp e
    obtain ⟨m, e3, rfl⟩ := Option.map_eq_some_iff.mp e2
    obtain ⟨p, vs, rfl, hv, av⟩ := h.items s1
    cases intsD_vs av e1
    refine cr_min hc pins s σ H _ us Q I r ⟨_, is, rfl, hv, by cases is with | nil => cases e3 | cons _ _ => simp, fun m' h1 h2 => ?_⟩
    rw [minI_uniq e3 h1 h2]
    exact k _ F H (.refl s1) (.int _)
  · obtain ⟨v, w, rfl, h1, h2⟩ := hb.two
    cases e
    obtain rfl := h1.int
    obtain rfl := h2.int
    exact call_min2 hc pins s σ H _ us Q I r ⟨_, _, rfl, k _ F H (.refl s1) (.int _)⟩
  · cases e
theorem cr_maxD (hc : X.calm = true) : CallR X (.builtin "max") (rGC X.K maxD) := by
  intro pins s σ H xs us Q I r ⟨F, ds, d, s1, hb, e, k⟩
  unfold maxD at e
  split at e
  · obtain ⟨v, rfl, h⟩ := hb.one
    obtain ⟨is, e1, e2⟩ := Option.bind_eq_some_iff.mp e
    obtain ⟨m, e3, rfl⟩ := Option.map_eq_some_iff.mp e2
    obtain ⟨p, vs, rfl, hv, av⟩ := h.items s1
    cases intsD_vs av e1
    refine cr_max hc pins s σ H _ us Q I r ⟨_, is, rfl, hv, by cases is with | nil => cases e3 | cons _ _ => simp, fun m' h1 h2 => ?_⟩
    rw [maxI_uniq e3 h1 h2]
    exact k _ F H (.refl s1) (.int _)
  · obtain ⟨v, w, rfl, h1, h2⟩ := hb.two
    cases e
    obtain rfl := h1.int
    obtain rfl := h2.int
    exact call_max2 hc pins s σ H _ us Q I r ⟨_, _, rfl, k _ F H (.refl s1) (.int _)⟩
  · cases e
@[simp] def allD : List PyData → Option PyData
  | [.list ds] => (boolsD ds).map fun is => .bool (is.all id)
  | _ => none
theorem cr_allD (hc : X.calm = true) : CallR X (.builtin "all") (rGC X.K allD) := by
  intro pins s σ H xs us Q I r ⟨F, ds, d, s1, hb, e, k⟩
  unfold allD at e
  split at e
  · obtain ⟨v, rfl, h⟩ := hb.one
    obtain ⟨is, e1, rfl⟩ := Option.map_eq_some_iff.mp e
    obtain ⟨p, vs, rfl, hv, av⟩ := h.items s1
    cases boolsD_vs av e1
    exact cr_all hc pins s σ H _ us Q I r ⟨_, is, rfl, hv, k _ F H (.refl s1) (.bl _)⟩
  · cases e
@[simp] def listL : List PyData → Option (List PyData)
  | [.list ds] => some ds
  | [.tuple ds] => some ds
  | _ => none
theorem cr_list : CallR X (.type "list") (rGCL X.K listL) := by
  intro pins s σ H xs us Q I r ⟨F, ds, d, s1, hb, e, k⟩
  unfold listL at e
  split at e
  · obtain ⟨v, rfl, h⟩ := hb.one
    cases e
    obtain ⟨p, vs, rfl, hv, av⟩ := h.items s1
    refine call_list_of pins s σ H _ us Q I r ⟨_, vs, rfl, .inl hv, fun l hl => ?_⟩
    obtain ⟨st, nf, hp'⟩ := new_lst (vs := vs) s1 hl
    exact k l vs F _ st hl nf hp' av
  · obtain ⟨v, rfl, h⟩ := hb.one
    cases e
    obtain ⟨p, vs, rfl, _, hv, av⟩ := h.itemsT s1
    refine call_list_of pins s σ H _ us Q I r ⟨_, vs, rfl, .inr hv, fun l hl => ?_⟩
    obtain ⟨st, nf, hp'⟩ := new_lst (vs := vs) s1 hl
    exact k l vs F _ st hl nf hp' av
  · cases e
@[simp] def tupleD : List PyData → Option PyData
  | [.list ds] => some (.tuple ds)
  | [.tuple ds] => some (.tuple ds)
  | _ => none
theorem cr_tuple : CallR X (.type "tuple") (rGC X.K tupleD) := by
  intro pins s σ H xs us Q I r ⟨F, ds, d, s1, hb, e, k⟩
  unfold tupleD at e
  split at e
  · obtain ⟨v, rfl, h⟩ := hb.one
    cases e
    obtain ⟨p, vs, rfl, hv, av⟩ := h.items s1
    refine call_tuple_of pins s σ H _ us Q I r ⟨_, vs, rfl, .inl ⟨hv, fun l hl => ?_⟩⟩
    obtain ⟨st, dn⟩ := new_tup s1 hl av
    exact k _ _ _ st dn
  · obtain ⟨v, rfl, h⟩ := hb.one
    cases e
    obtain ⟨p, vs, rfl, hf, hv, av⟩ := h.itemsT s1
    exact call_tuple_of pins s σ H _ us Q I r ⟨_, vs, rfl, .inr ⟨hv, k _ F H (.refl s1) (.tup hf av)⟩⟩
  · cases e

/-! ### isinstance(x, T) -/
@[simp] def tyN : PyData → String
  | .none => "NoneType"
  | .bool _ => "bool"
  | .int _ => "int"
  | .str _ => "str"
  | .list _ => "list"
  | .tuple _ => "tuple"
  | .dict _ => "dict"
theorem Bd.ty {K : PySem.W.Frag} {F H : Hp} {v : V} {d : PyData} (s : Lies F H) (h : Bd K F H v d) : TyX K H v (.type (tyN d)) := by
  cases d with
  | none => rw [h.none]; exact .base .non
  | bool b => rw [h.bool]; exact .base (.bl b)
  | int b => rw [h.int]; exact .base (.int b)
  | str b => rw [h.str.1]; exact .base (.str b)
  | list b =>
    obtain ⟨p, vs, rfl, hv, _⟩ := h.items s
    rcases hv with (hv | ⟨o, hv⟩) | ⟨o, its, n, hk, hc, _⟩
    · exact .base (.lst hv)
    · exact .base (.frz hv)
    · exact .kList hk hc
  | tuple b =>
    obtain ⟨p, vs, rfl, _, hv, _⟩ := h.itemsT s
    rcases hv with (hv | ⟨o, hv⟩) | ⟨o, its, n, hk, hc, _⟩
    · exact .base (.tup hv)
    · exact .fTuple hv
    · exact .kTuple hk hc
  | dict b =>
    obtain ⟨p, vs, rfl, hv, _⟩ := h.entries s
    exact .base (.dK hv)
@[simp] def isiD (T : String) (d : PyData) : Option PyData := (kitB (tyN d) T).map .bool
theorem de_isi {T : String} {y : Str} {p2 : Pos} (he : DE X e te fe) (hm : X.mg "isinstance" = none) (hmT : X.mg y = none) (hv : bootBuiltins y = some (.type T) := by decide +kernel) (hg : Gl X "isinstance" := by rfl) (hgT : Gl X y := by rfl)
    (hn : y ≠ "__name__" := by decide) (hd : (y == ("__debug__" : Str)) = false := by decide)
    (h1 : starEach (e :: [Expr.Name y p2]) X.env = (false, eval e X.env) :: starEach [Expr.Name y p2] X.env := by rfl) (h2 : starEach (Expr.Name y p2 :: []) X.env = (false, eval (.Name y p2) X.env) :: starEach [] X.env := by rfl) (hpl : (backTo pos (starEach [Expr.Name y p2] X.env)).any (·.1) = false := by rfl) :
    DE X (.Call (.Name "isinstance" p) [e, .Name y p2] [] pos) (tCB (rIsi X.K) (tCons te (tCons (tC (.ty T)) tNil))) (fun ε => (fe ε).bind (isiD T)) :=
  ⟨pe_callB call_isi hg hm (by decide +kernel) (pa_cons he.p (pa_cons (pe_bltn (v := .ty T) hgT hmT hv rfl hn hd) pa_nil h2) h1) (by decide) (by decide) h1 hpl, fun F H ε σ d Q r e k => by
    obtain ⟨d0, e1, e2⟩ := Option.bind_eq_some_iff.mp e
    obtain ⟨b, e3, rfl⟩ := Option.map_eq_some_iff.mp e2
    exact he.r F H ε σ d0 _ r e1 fun v F1 H1 s1 d1 => ⟨v, .ty T, .type (tyN d0), .type T, b, rfl, .ty T, (Bd.ty s1.s (.inl d1)), kit_ty e3, k _ F1 H1 s1 (.bl b)⟩⟩
theorem db_isi {T : String} {y : Str} {p2 : Pos} (he : DB X e te fe) (hm : X.mg "isinstance" = none) (hmT : X.mg y = none) (hv : bootBuiltins y = some (.type T) := by decide +kernel) (hg : Gl X "isinstance" := by rfl) (hgT : Gl X y := by rfl)
    (hn : y ≠ "__name__" := by decide) (hd : (y == ("__debug__" : Str)) = false := by decide)
    (h1 : starEach (e :: [Expr.Name y p2]) X.env = (false, eval e X.env) :: starEach [Expr.Name y p2] X.env := by rfl) (h2 : starEach (Expr.Name y p2 :: []) X.env = (false, eval (.Name y p2) X.env) :: starEach [] X.env := by rfl) (hpl : (backTo pos (starEach [Expr.Name y p2] X.env)).any (·.1) = false := by rfl) :
    DE X (.Call (.Name "isinstance" p) [e, .Name y p2] [] pos) (tCB (rIsi X.K) (tCons te (tCons (tC (.ty T)) tNil))) (fun ε => (fe ε).bind (isiD T)) :=
  ⟨pe_callB call_isi hg hm (by decide +kernel) (pa_cons he.p (pa_cons (pe_bltn (v := .ty T) hgT hmT hv rfl hn hd) pa_nil h2) h1) (by decide) (by decide) h1 hpl, fun F H ε σ d Q r e k => by
    obtain ⟨d0, e1, e2⟩ := Option.bind_eq_some_iff.mp e
    obtain ⟨b, e3, rfl⟩ := Option.map_eq_some_iff.mp e2
    exact he.r F H ε σ d0 _ r e1 fun v F1 H1 s1 d1 => ⟨v, .ty T, .type (tyN d0), .type T, b, rfl, .ty T, (Bd.ty s1.s d1), kit_ty e3, k _ F1 H1 s1 (.bl b)⟩⟩
end
end M


namespace M
open PySem PySem.Spec PyProof.Rows L2 RZ

theorem hv_of {A : Around} {k : Nat} (hr : Room k A) : A.units + 65 < cLine := by have := hr.un; omega
theorem hu1_of {A : Around} {k : Nat} (hr : Room k A) : A.units + 1 < cLine := by have := hr.un; omega
theorem ds_frzB {X : Cx} {st : Stmt} {t : TS} {T : TD} (i : Nat) (h : DS X st t T) : DS X st t (fun R ε => T { R with nx := fun ε' => R.nx (frzE i ε') } ε) := ⟨h.p, fun F0 H0 F H ε σ R D r h' c =>
  h.r F0 H0 F H ε σ _ D r h' ⟨fun ε' σ' F' H' r' z q => by
    obtain ⟨F2, r2, z2⟩ := r'.frzAt (i := i)
    exact c.nx _ _ _ _ r2 (z.trans z2) q, c.rt, c.bk, c.ct⟩⟩
def dFrzB (i : Nat) (T : TD) : TD := fun R ε => T { R with nx := fun ε' => R.nx (frzE i ε') } ε

section
variable {X : Cx} {e : Expr} {te : TE} {fe : En → Option PyData} {pos : Pos}
/-- [..] * n, the left one new -/
theorem rl_rep {K : PySem.W.Frag} {ta tb : TE} {fa : En → Option (List PyData)} {fb : En → Option PyData} (ha : RL K ta fa) (hb : RB K tb fb) : RL K (tOp rRep ta tb) (dOpL repL (fun ε => (fa ε).map .list) fb) := fun F H ε σ ds Q rel e k => by
  obtain ⟨a, e1, e2⟩ := Option.bind_eq_some_iff.mp e
  obtain ⟨as, e0, rfl⟩ := Option.map_eq_some_iff.mp e1
  obtain ⟨b, e3, e4⟩ := Option.bind_eq_some_iff.mp e2
  refine ha F H ε σ as _ rel e0 fun p vs F1 H1 s1 n nf hp d1 => ?_
  refine hb F1 H1 ε σ b _ (rel.step s1) e3 fun y F2 H2 s2 d2 => ?_
  unfold repL at e4
  split at e4
  · rename_i as' n' hq
    cases hq
    split at e4
    · rename_i hl
      cases e4
      obtain rfl := d2.int
      refine ⟨p, n', vs, rfl, rfl, s2.h _ _ hp, by omega, hl.2.1, by rw [d1.length]; exact hl.2.2, fun q hq => ?_⟩
      obtain ⟨st, nf', hq'⟩ := new_lst (vs := (List.replicate n'.toNat vs).flatten) s2.s hq
      exact k q _ F2 _ (s1.trans (s2.trans st)) (s1.fr _ (s2.fr _ hq)) nf' hq' ((d1.mv s2.f).rep _)
    · cases e4
  · cases e4
theorem dl_rep {a b : Expr} {ta tb : TE} {fa : En → Option (List PyData)} {fb : En → Option PyData} (ha : DL X a ta fa) (hb : DB X b tb fb) : DL X (.BinOp a .Mult b pos) (tOp rRep ta tb) (dOpL repL (fun ε => (fa ε).map .list) fb) :=
  ⟨pe_op op_rep ha.p hb.p, rl_rep ha.r hb.r⟩

/-! ### sorted -/
def headed : PyData → Bool
  | .tuple (_ :: _) => true
  | _ => false
def plainK : PyData → Bool
  | .none => false
  | .tuple _ => false
  | _ => true
def srtOk (ds : List PyData) : Bool := (ds.all fun d => ds.all fun d' => PySem.W.alike d d') && (ds.all headed || ds.all plainK) && ds.all (okD 50)
theorem srt_alike {ds : List PyData} (h : srtOk ds = true) : PySem.W.AllAlike ds ∧ PySem.W.Sortable ds ∧ ∀ d ∈ ds, okD 50 d = true := by
  unfold srtOk at h
  simp only [Bool.and_eq_true, Bool.or_eq_true, List.all_eq_true] at h
  refine ⟨fun d hd d' hd' => h.1.1 d hd d' hd', ?_, h.2⟩
  rcases h.1.2 with h1 | h1
  · refine .inl fun d hd => ?_
    have := h1 d hd
    unfold headed at this
    split at this
    · exact ⟨_, _, rfl⟩
    · cases this
  · refine .inr fun d hd => ?_
    have := h1 d hd
    cases d <;> simp [plainK] at this ⊢
def sortD (ds : List PyData) : List PyData := ds.mergeSort (PySem.W.dataLe false id)
@[simp] def sortedL : List PyData → Option (List PyData)
  | [.list ds] => if srtOk ds then some (sortD ds) else none
  | _ => none
/-- what the items stand for goes with them -/
theorem each_back {K : PySem.W.Frag} {F : Hp} : ∀ {out : List Value} {ds : List PyData}, PySem.W.EachIs (fun v d => ∃ x, RelV x v ∧ Dn K F x d) out ds → ∃ xs, Vals xs out ∧ DnAll K F xs ds
  | _, _, .nil => ⟨[], .nil, .nil⟩
  | _, _, .cons ⟨x, r, d⟩ t => let ⟨xs, a, b⟩ := each_back t; ⟨x :: xs, .cons r a, .cons d b⟩
theorem each_of {K : PySem.W.Frag} {F : Hp} : ∀ {xs : List V} {us : List Value} {ds : List PyData}, Vals xs us → DnAll K F xs ds → PySem.W.EachIs (fun v d => ∃ x, RelV x v ∧ Dn K F x d) us ds
  | _, _, _, .nil, .nil => .nil
  | _, _, _, .cons r t, .cons d e => .cons ⟨_, r, d⟩ (each_of t e)
theorem each_reads {pins : List (Addr × Obj)} {σ : L2.St} {H : Hp} {s : Shared} {F : Hp} (I : L2.Inv X pins σ H s) (sm : Lies F H) : ∀ {xs : List V} {us : List Value} {ds : List PyData}, Vals xs us → DnAll X.K F xs ds → (∀ d ∈ ds, okD 50 d = true) → PySem.W.EachIs (fun v d => ∃ as, Reads s.heap v (id d) as) us ds
  | _, _, _, .nil, .nil, _ => .nil
  | _, _, _, .cons r t, .cons d e, h => .cons (Dp.reads I _ _ _ (Dn.dp _ _ 50 (d.lv sm) (h _ List.mem_cons_self)).1 r) (each_reads I sm t e fun d' hd => h d' (List.mem_cons_of_mem _ hd))
theorem sortD_len (ds : List PyData) : (sortD ds).length = ds.length := List.length_mergeSort ..
theorem cr_sortedA (hu : ∃ k, Room k X.A) : CallR X (.builtin "sorted") (rGCL X.K sortedL) := by
  intro pins s σ H xs us Q I r ⟨F, ds, d, s1, hb, e, k⟩
  unfold sortedL at e
  split at e
  · rename_i ds
    split at e
    · rename_i hok
      cases e
      obtain ⟨v, rfl, h⟩ := hb.one
      obtain ⟨p, vs, rfl, hv, av⟩ := h.items s1
      obtain ⟨its, rv, hl, hz⟩ := I.list hv
      obtain ⟨h1, h2, h3⟩ := srt_alike hok
      rw [Vals.ref1 r]
      refine PySem.W.sorted_data (bs := ds) (enc := id) (R := fun v d => ∃ x, RelV x v ∧ Dn X.K F x d) hl.isList (each_of rv av) (each_reads I s1 rv av h3) (by rw [List.map_id]; exact h1) (by rw [List.map_id]; exact h2) (by rw [← av.length]; exact hz) (fun b hb => ?_) fun out ho he => ?_
      · obtain ⟨j, hr⟩ := hu
        have := hr.un
        obtain ⟨i, hi⟩ := List.mem_iff_getElem?.mp hb
        obtain ⟨x, _, dn⟩ := av.get hi
        have := (Dn.dp b x 50 dn (h3 b hb)).2.2
        show X.A.units + 2 + b.depth < cLine
        omega
      · obtain ⟨ys, ry, dy⟩ := each_back he
        obtain ⟨ep, he'⟩ := PyProof.Rows.sortedAll_at s.heap its out.toArray
        have hn : H (s.heap.objs.size + 1) = none := I.hok.fresh (Nat.le_succ _)
        obtain ⟨st, nf, hp'⟩ := new_lst (vs := ys) s1 hn
        have hlen : ys.length ≤ sizeLine := by
          rw [dy.length]
          show (sortD ds).length ≤ _
          rw [sortD_len, ← av.length]; exact hz
        exact ⟨.ref _, upd H (s.heap.objs.size + 1) (.lst ys), I.laid (t' := s.toks) (fun _ _ => PyProof.Rows.sortedAll_old) (Nat.le_succ _) ⟨hlen, out, ep, ry, he'⟩, rfl, k _ ys F _ st hn nf hp' dy⟩
    · cases e
  · cases e

/-! ### zip -/
@[simp] def zipL : List PyData → List PyData → List PyData
  | a :: as, b :: bs => .tuple [a, b] :: zipL as bs
  | _, _ => []
@[simp] def zipD : List PyData → Option (List PyData)
  | [.list as, .list bs] => some (zipL as bs)
  | [.tuple as, .tuple bs] => some (zipL as bs)
  | _ => none
theorem zipL_get : ∀ {as bs : List PyData} {i : Nat} {d : PyData}, (zipL as bs)[i]? = some d → ∃ a b, as[i]? = some a ∧ bs[i]? = some b ∧ d = .tuple [a, b]
  | [], _, i, d, h => by simp [zipL] at h
  | _ :: _, [], i, d, h => by simp [zipL] at h
  | a :: as, b :: bs, 0, d, h => by simp [zipL] at h; exact ⟨a, b, rfl, rfl, h.symm⟩
  | a :: as, b :: bs, i + 1, d, h => by
    obtain ⟨x, y, h1, h2, h3⟩ := zipL_get (as := as) (bs := bs) (i := i) (d := d) (by simpa [zipL] using h)
    exact ⟨x, y, by simpa using h1, by simpa using h2, h3⟩
theorem zipL_len : ∀ {as bs : List PyData} {i : Nat}, (zipL as bs).length ≤ i → as.length ≤ i ∨ bs.length ≤ i
  | [], _, i, _ => .inl (Nat.zero_le _)
  | _ :: _, [], i, _ => .inr (Nat.zero_le _)
  | a :: as, b :: bs, i, h => by
    cases i with
    | zero => simp [zipL] at h
    | succ i =>
      rcases zipL_len (as := as) (bs := bs) (i := i) (by simpa [zipL] using h) with z | z
      · exact .inl (by simpa using z)
      · exact .inr (by simpa using z)
theorem walks_zip {K : PySem.W.Frag} {F1 : Hp} {p q : Addr} {vs ws : List V} {as bs : List PyData} (h : SqL K F1 p vs) (h' : SqL K F1 q ws) (a : DnAll K F1 vs as) (b : DnAll K F1 ws bs) : Walks K (Itz K p q) F1 (zipL as bs) := fun i F H s1 s2 => by
  have h1 : SqL K H p vs := seqL s2 (Same.seq s1 h)
  have h2 : SqL K H q ws := seqL s2 (Same.seq s1 h')
  refine ⟨fun d e => ?_, fun hl => ⟨vs, ws, h1, h2, by rw [a.length, b.length]; exact zipL_len (Nat.le_of_eq hl)⟩⟩
  obtain ⟨x, y, e1, e2, rfl⟩ := zipL_get e
  obtain ⟨v, k1, k2⟩ := a.get e1
  obtain ⟨w, k3, k4⟩ := b.get e2
  refine ⟨⟨vs, ws, v, w, h1, h2, k1, k3⟩, fun z H2 ⟨T, x', y', e3, hT, e4, g1, g2⟩ => ?_⟩
  subst e3 e4
  have q1 := g1 vs h1
  have q2 := g2 ws h2
  rw [k1] at q1; cases q1
  rw [k3] at q2; cases q2
  obtain ⟨st, dn⟩ := new_tup (K := K) s2 hT (.cons (k2.mv s1) (.one (k4.mv s1)))
  exact ⟨_, st, dn⟩
theorem walks_zipT {K : PySem.W.Frag} {F1 : Hp} {p q : Addr} {vs ws : List V} {as bs : List PyData} (h : SqT K F1 p vs) (h' : SqT K F1 q ws) (a : DnAll K F1 vs as) (b : DnAll K F1 ws bs) : Walks K (ItzT K p q) F1 (zipL as bs) := fun i F H s1 s2 => by
  have h1 : SqT K H p vs := seqT s2 (seqTN (same_n s1) h)
  have h2 : SqT K H q ws := seqT s2 (seqTN (same_n s1) h')
  refine ⟨fun d e => ?_, fun hl => ⟨vs, ws, h1, h2, by rw [a.length, b.length]; exact zipL_len (Nat.le_of_eq hl)⟩⟩
  obtain ⟨x, y, e1, e2, rfl⟩ := zipL_get e
  obtain ⟨v, k1, k2⟩ := a.get e1
  obtain ⟨w, k3, k4⟩ := b.get e2
  refine ⟨⟨vs, ws, v, w, h1, h2, k1, k3⟩, fun z H2 ⟨T, x', y', e3, hT, e4, g1, g2⟩ => ?_⟩
  subst e3 e4
  have q1 := g1 vs h1
  have q2 := g2 ws h2
  rw [k1] at q1; cases q1
  rw [k3] at q2; cases q2
  obtain ⟨st, dn⟩ := new_tup (K := K) s2 hT (.cons (k2.mv s1) (.one (k4.mv s1)))
  exact ⟨_, st, dn⟩
variable {e2 : Expr} {p tpos : Pos} {elts : List Expr} {kk : Nat} {ta' : TA} {fa' : En → Option (List PyData)}
theorem di_zip (hg : Gl X "zip") (hm : X.mg "zip" = none) (ha : DA X [e, e2] ta' fa')
    (hs : starEach [e, e2] X.env = (false, eval e X.env) :: starEach [e2] X.env := by rfl) (hpl : (backTo pos (starEach [e2] X.env)).any (·.1) = false := by rfl) :
    DI X (.Tuple elts kk tpos) (.Call (.Name "zip" p) [e, e2] [] pos) (iZipA X.K ta') (fun ε => (fa' ε).bind zipD) :=
  ⟨pi_zipA hg hm ha.p hs hpl, fun F H ε σ ds R r e k => by
    obtain ⟨d, e1, e2⟩ := Option.bind_eq_some_iff.mp e
    refine ha.r F H ε σ d _ r e1 fun vs F1 H1 s1 d1 => ?_
    unfold zipD at e2
    split at e2
    · cases e2
      cases d1 with | cons a b => cases b with | cons b c => cases c; cases a with | lst sa aa => cases b with | lst sb ab =>
        exact ⟨_, _, _, _, rfl, .inl ⟨seqL s1.s sa, seqL s1.s sb, k _ F1 H1 s1 (walks_zip sa sb aa ab)⟩⟩
    · cases e2
      cases d1 with | cons a b => cases b with | cons b c => cases c; cases a with | tup sa aa => cases b with | tup sb ab =>
        exact ⟨_, _, _, _, rfl, .inr ⟨seqT s1.s sa, seqT s1.s sb, k _ F1 H1 s1 (walks_zipT sa sb aa ab)⟩⟩
    · cases e2⟩

/-! ### xs[k] += e -/
def augP (i : Nat) (g : Int → Int → Int) (fk fe : En → Option PyData) : TD := fun R ε => ∃ ds k j a b, ε[i]? = some (some (.o ds)) ∧ fk ε = some (.int k) ∧ ixN ds.length k = some j ∧ ds[j]? = some (.int a) ∧ fe ε = some (.int b) ∧ R.nx (ε.set i (some (.o (ds.set j (.int (g a b))))))
def rGetL (K : PySem.W.Frag) : V → V → Hp → VK → Prop := rIxL K
theorem pget_list : PGet X (rIxL X.K) := by
  intro pins s σ H o i ov iv Q I ro ri ⟨p, xs, k, v, ho, hi, hp, hv, q⟩
  subst ho hi
  cases ro
  obtain ⟨t, rfl⟩ := ri
  obtain ⟨its, r, pl, hz⟩ := I.list hp
  obtain ⟨j, h1, h2, h3, h4, h5⟩ := L2.atI_get hv
  obtain ⟨w, ew, rw'⟩ := r.get h2
  have hl := r.length
  have hn := line63
  have fin : EP X pins σ Q w s := ⟨v, H, I, rw', q⟩
  by_cases h0 : 0 ≤ k
  · have hj : k.toNat = j := by
      rw [seqIndex_of h0 h5] at h1
      exact Option.some.inj h1
    exact wpAny_getItem_list pl.isList h0 (by omega) (by rw [hj]; simpa using ew) fin
  · have hj : (k + (its.toArray.size : Int)).toNat = j := by
      rw [seqIndex_neg (by omega) h4] at h1
      rw [List.size_toArray, ← hl]
      exact Option.some.inj h1
    exact wpAny_getItem_list_neg pl.isList (by omega) (by rw [List.size_toArray] <;> omega) (by omega) (by rw [hj]; simpa using ew) fin
theorem ds_augP (i : Nat) {x : Str} {op : Operator} {g : Int → Int → Int} {p1 tpos : Pos} {k : Expr} {tk : TE} {fk : En → Option PyData} (ho : PIp X op (ipI g)) (hk : DE X k tk fk) (he : DE X e te fe) (hN : X.N[i]? = some x := by rfl) (hv : Vis X.env.scope x := by first | exact Or.inl rfl | exact Or.inr (Or.inl rfl) | exact Or.inr (Or.inr rfl)) (hd : (x == ("__debug__" : Str)) = false := by decide)
    (hcd : (x == ("__classdict__" : Str)) = false := by decide) (ha : ∀ ov iv new, augStore k ov iv new = (do holding [new, ov, iv] (setItem ov iv new); release [new, ov, iv] []; pure .next) := by intros; rfl) :
    DS X (.AugAssign (.Subscript (.Name x p1) k tpos) op e pos) (tAugS (tVar i) tk te (rIxL X.K) (ipI g) rSetL) (augP i g fk fe) :=
  ⟨ps_augS (pe_var hN hv hd hcd) hk.p pget_list he.p ho set_list ha, fun F0 H0 F H ε σ R D r ⟨ds, k, j, a, b, e1, e2, e3, e4, e5, h'⟩ c => by
    obtain ⟨v, h1, h2⟩ := r.e.sl _ _ e1
    obtain ⟨p, vs, rfl, hp, hF, al⟩ := h2.own_o
    refine ⟨_, h1, hk.r F H ε σ _ _ r.e e2 fun y F1 H1 s1 d1 => ?_⟩
    cases dn_int d1
    obtain ⟨w, k1, k2⟩ := al.get e4
    cases dn_int k2
    have hx : ixN vs.length k = some j := by rw [al.length]; exact e3
    refine ⟨p, vs, k, .int a, rfl, rfl, SqL.of (s1.h _ _ hp), by unfold atI; rw [hx]; exact k1, he.r F1 H1 ε σ _ _ (r.e.step s1) e5 fun z F2 H2 s2 d2 => ?_⟩
    cases dn_int d2
    have s := s1.trans s2
    refine ⟨a, b, rfl, rfl, p, vs, k, j, rfl, rfl, s.h _ _ hp, hx, c.nx _ _ _ _ ((r.step s).put (s' := .o (ds.set j (.int (g a b)))) e1 h1 rfl rfl ⟨p, vs.set j (.int (g a b)), rfl, upd_same, s.n _ _ hp hF, (al.mv s.f).set (.int _) j⟩) s.f h'⟩⟩
end
end M


namespace M
open PySem PySem.Spec PyProof.Rows L2 Builtin

/-! ### enumerate over a tuple or a text -/
theorem meets_enum1 {v : Value} {o : Obj} {H : Heap → Prop} (B : PySem.Begins v o H) :
    Meets (Builtin.«enumerate.__new__» ⟨[.type "enumerate", v], []⟩) (fun _ R s => H s.heap ∧
      R (.ok (.ret (.ref (s.heap.push o).objs.size))) { s with heap := (s.heap.push o).push { cls := .type "enumerate", data := .fields #[.none, .bool false, .ref s.heap.objs.size, rawInt 0, .none, .none] } }) :=
  .of_wp fun prog w A R s h => by
    obtain ⟨hp, g, d, tk, os⟩ := s; obtain ⟨h1, h⟩ := h
    have hsub := sub_enumerate
    have q1 : ∀ {A' : Around} {E : Value → Shared → Prop} {Q : Value → Shared → Prop}, Q (.ref hp.objs.size) ⟨hp.push o, g, d, tk, os⟩ → wpAny (model prog w) A' (pyIter v) Q E ⟨hp, g, d, tk, os⟩ :=
      fun q => B.iter prog w _ _ ⟨hp, g, d, tk, os⟩ _ h1 q
    wp_walk using q1
    refine wpAny_stack_any fun st => wpAny_pure ?_
    split
    · rename_i c _ _ _ _ _
      cases (c == Value.type "enumerate")
      · wp_walk using q1
        exact ⟨_, rfl, h⟩
      · wp_walk using q1
        exact ⟨_, rfl, h⟩
    · wp_walk using q1
      exact ⟨_, rfl, h⟩
section
variable {prog : Program} {w : World} {A : Around} {E : Value → Shared → Prop} {s : Shared}
theorem enum_begins1 {v : Value} {o : Obj} {H : Heap → Prop} {Q : Value → Shared → Prop} (B : PySem.Begins v o H) (h1 : H s.heap)
    (h : ∀ h', IsEnum h' (s.heap.objs.size + 1) s.heap.objs.size 0 .none → h'.get? s.heap.objs.size = some o → h'.objs.size = s.heap.objs.size + 2 →
      (∀ b o, s.heap.get? b = some o → h'.get? b = some o) → Q (.ref (s.heap.objs.size + 1)) { s with heap := h' }) :
    wpAny (model prog w) A (call (.type "enumerate") [v]) Q E s := by
  refine callType_new F.called_enumerate (by decide) (F.typeCall_enumerate_1 _) (F.newCall_enumerate_1 _) (fun obj => F.args_object_init_2 obj _) F.entry_enumerate_new (meets_enum1 B) ⟨h1, ?_⟩
  have hz : (s.heap.push o).objs.size = s.heap.objs.size + 1 := Heap.size_push ..
  show _ ∧ _
  rw [hz]
  have he : IsEnum ((s.heap.push o).push { cls := .type "enumerate", data := .fields #[.none, .bool false, .ref s.heap.objs.size, rawInt 0, .none, .none] }) (s.heap.objs.size + 1) s.heap.objs.size 0 .none := by
    have := Heap.get?_push_size (s.heap.push o) (o := { cls := .type "enumerate", data := .fields #[.none, .bool false, .ref s.heap.objs.size, rawInt 0, .none, .none] }) rfl
    rw [hz] at this; exact this
  exact ⟨⟨_, he, rfl⟩, h _ he (Heap.get?_push_of_some _ (Heap.get?_push_size _ B.free)) (by rw [Heap.size_push, hz]) fun b o x => Heap.get?_push_of_some _ (Heap.get?_push_of_some _ x)⟩
end
/-- the tuple at a, its items in new pairs with their numbers -/
def Itet (K : PySem.W.Frag) (a : Addr) : It :=
  ⟨fun i H => ∃ (xs : List V) (x : V), SqT K H a xs ∧ xs[i]? = some x, fun i H v H' => ∃ T x, v = .ref T ∧ H T = none ∧ H' = upd H T (.tup [.int (i : Nat), x]) ∧ ∀ xs, SqT K H a xs → xs[i]? = some x, fun i H => ∃ xs : List V, SqT K H a xs ∧ xs.length = i⟩
theorem turn_enumT {P : Program} {w : World} {K : PySem.W.Frag} {elts : List Expr} {kk : Nat} {tpos : Pos} (a e it : Addr) (hai : a ≠ it) (hae : a ≠ e) :
    Turn P w K (.Tuple elts kk tpos) (Itet K a) [e, it] e (fun i h => (∃ old, IsEnum h e it ((i : Nat) : Int) old) ∧ h.IsTupleIter it a i ∧ e ≠ it) where
  mem := by simp
  obj := fun i h st b hb => by
    obtain ⟨⟨old, he⟩, ⟨o, ho, hc, hd⟩, _⟩ := st
    have e' : b = e ∨ b = it := by simpa using hb
    rcases e' with z | z
    · rw [z]; exact ⟨_, he, fun v q => nomatch q⟩
    · rw [z]; exact ⟨o, ho, fun v q => by rw [hd] at q; cases q⟩
  keep := fun i h h' st k => let ⟨⟨old, he⟩, hi, hne⟩ := st; ⟨⟨old, k e (by simp) _ he⟩, hi.at fun o q => k it (by simp) o q, hne⟩
  item := by
    intro X hP hw hK hc i pins s σ H E I hf st hg
    subst hP hw hK
    obtain ⟨⟨old, he⟩, hit, hne⟩ := st
    obtain ⟨xs, x, hq, hx⟩ := hg
    obtain ⟨its, rv, p, hz⟩ := I.tuple hq
    obtain ⟨u, hu, ru⟩ := rv.get hx
    have hel : e < s.heap.objs.size := Heap.lt_size he
    have hil : it < s.heap.objs.size := by obtain ⟨_, q, _⟩ := hit; exact Heap.lt_size q
    have pt : s.heap.IsTuple a its.toArray := p
    have hlt : i < its.toArray.size := by rw [List.size_toArray]; exact (List.getElem?_eq_some_iff.mp hu).1
    refine wpAny_pyNext_enum_itemD (PySem.Draws.tuple (A := X.A.in1) (I.ok.hd hc) it a hai its.toArray) he ⟨hit, pt⟩ hlt hne (by simp [Ne.symm hae, hne]) fun x' h' tk hPx ho hst' hT hsz hk => ?_
    have ex : x' = u := by
      rw [List.getElem?_toArray, hu] at hPx
      exact (Option.some.inj hPx).symm
    subst ex
    refine ⟨_, rfl, wpAny_letOwnedTupleGo_enum (s := { s with heap := h', toks := tk + 1 }) ho fun h'' he' sb => ?_⟩
    have hT2 : h''.get? s.heap.objs.size = some { cls := .type "tuple", data := .seq #[.int i tk, x'] } := (sb.2 _ (Nat.ne_of_gt hel)).trans hT
    have new : ObjOk X.prog X.w (upd H s.heap.objs.size (.tup [.int (i : Nat), x])) h'' s.heap.objs.size (.tup [.int (i : Nat), x]) :=
      ⟨by show 2 ≤ sizeLine; decide, [.int i tk, x'], .cons ⟨_, rfl⟩ (.cons ru .nil), ⟨_, hT2, rfl, _, rfl⟩⟩
    have I1 : L2.Inv X pins σ (upd H s.heap.objs.size (.tup [.int (i : Nat), x])) { s with heap := h'', toks := tk + 1 } :=
      I.turnedNew (ch := [e, it]) (fun b ob hb q => (sb.2 b (fun z => hb (by simp [z]))).trans (hk b ob (fun z => hb (by simp [z])) (fun z => hb (by simp [z])) q)) hf (Nat.le_refl _) new
    refine ⟨.ref s.heap.objs.size, _, I1, rfl, ⟨_, x, rfl, I.hok.fresh (Nat.le_refl _), rfl, fun ys hy => by rw [I.tuple_inj hy hq]; exact hx⟩, ⟨⟨x', ?_⟩, hst'.1.at fun o q => (sb.2 it (Ne.symm hne)).trans q, hne⟩, fun b hb => ?_⟩
    · have e1 : ((i + 1 : Nat) : Int) = (i : Int) + 1 := by omega
      rw [e1]; exact he'
    · have hb' : b < s.heap.objs.size := by
        have e' : b = e ∨ b = it := by simpa using hb
        rcases e' with z | z
        · rw [z]; exact hel
        · rw [z]; exact hil
      rw [upd_ne (Nat.ne_of_lt hb')]
      exact (hf b hb).1
  done := by
    intro X hP hw hK hc i pins s σ H E I hf st hg
    subst hP hw hK
    obtain ⟨⟨old, he⟩, hit, hne⟩ := st
    obtain ⟨xs, hq, hx⟩ := hg
    obtain ⟨its, rv, p, hz⟩ := I.tuple hq
    obtain ⟨f0, f1, f2, f3, f4, f5⟩ := hf it (by simp)
    have hl := rv.length
    have en : i = its.toArray.size := by rw [List.size_toArray]; omega
    have pt : s.heap.IsTuple a its.toArray := p
    exact wpAny_pyNext_enum_endD (PySem.Draws.tuple (A := X.A.in1) (I.ok.hd hc) it a hai its.toArray) he ⟨by rw [← en]; exact hit, pt⟩ fun h' eb => ⟨rfl, I.turned (t' := s.toks) (fun b o hb q => eb b o hb q) f0 f1 f3 f4 f5⟩
  self := fun A i s Q E st h => let ⟨⟨_, he⟩, _⟩ := st; wpAny_pyIter_enum he h
/-- the signs of a text in new pairs with their numbers -/
def Ites (z : Str) : It :=
  ⟨fun i _ => i < z.cps.size, fun i H v H' => ∃ T c, v = .ref T ∧ H T = none ∧ H' = upd H T (.tup [.int (i : Nat), .str ⟨#[c]⟩]) ∧ z.cps[i]? = some c, fun i _ => z.cps.size = i⟩
theorem turn_enumS {P : Program} {w : World} {K : PySem.W.Frag} {elts : List Expr} {kk : Nat} {tpos : Pos} (z : Str) (t : Tok) (e it : Addr) :
    Turn P w K (.Tuple elts kk tpos) (Ites z) [e, it] e (fun i h => (∃ old, IsEnum h e it ((i : Nat) : Int) old) ∧ h.IsStrIter it (strIterType z) z t i ∧ e ≠ it) where
  mem := by simp
  obj := fun i h st b hb => by
    obtain ⟨⟨old, he⟩, ⟨o, ho, hc, hd⟩, _⟩ := st
    have e' : b = e ∨ b = it := by simpa using hb
    rcases e' with z | z
    · rw [z]; exact ⟨_, he, fun v q => nomatch q⟩
    · rw [z]; exact ⟨o, ho, fun v q => by rw [hd] at q; cases q⟩
  keep := fun i h h' st k => let ⟨⟨old, he⟩, ⟨o, ho, r⟩, hne⟩ := st; ⟨⟨old, k e (by simp) _ he⟩, ⟨o, k it (by simp) o ho, r⟩, hne⟩
  item := by
    intro X hP hw hK hc i pins s σ H E I hf st hg
    subst hP hw hK
    obtain ⟨⟨old, he⟩, hit, hne⟩ := st
    have hlt : i < z.cps.size := hg
    have hel : e < s.heap.objs.size := Heap.lt_size he
    have hil : it < s.heap.objs.size := by obtain ⟨_, q, _⟩ := id hit; exact Heap.lt_size q
    refine wpAny_pyNext_enum_itemD (PySem.Draws.text (A := X.A.in1) (I.ok.hd hc) it z t) he hit hlt hne (by simp [hne]) fun x' h' tk hPx ho hst' hT hsz hk => ?_
    obtain ⟨c, u, hcu, rfl⟩ := hPx
    refine ⟨_, rfl, wpAny_letOwnedTupleGo_enum (s := { s with heap := h', toks := tk + 1 }) ho fun h'' he' sb => ?_⟩
    have hT2 : h''.get? s.heap.objs.size = some { cls := .type "tuple", data := .seq #[.int i tk, .str ⟨#[c]⟩ u] } := (sb.2 _ (Nat.ne_of_gt hel)).trans hT
    have new : ObjOk X.prog X.w (upd H s.heap.objs.size (.tup [.int (i : Nat), .str ⟨#[c]⟩])) h'' s.heap.objs.size (.tup [.int (i : Nat), .str ⟨#[c]⟩]) :=
      ⟨by show 2 ≤ sizeLine; decide, [.int i tk, .str ⟨#[c]⟩ u], .cons ⟨_, rfl⟩ (.cons ⟨_, rfl⟩ .nil), ⟨_, hT2, rfl, _, rfl⟩⟩
    have I1 : L2.Inv X pins σ (upd H s.heap.objs.size (.tup [.int (i : Nat), .str ⟨#[c]⟩])) { s with heap := h'', toks := tk + 1 } :=
      I.turnedNew (ch := [e, it]) (fun b ob hb q => (sb.2 b (fun z => hb (by simp [z]))).trans (hk b ob (fun z => hb (by simp [z])) (fun z => hb (by simp [z])) q)) hf (Nat.le_refl _) new
    obtain ⟨o2, ho2, r2⟩ := hst'
    refine ⟨.ref s.heap.objs.size, _, I1, rfl, ⟨_, c, rfl, I.hok.fresh (Nat.le_refl _), rfl, hcu⟩, ⟨⟨.str ⟨#[c]⟩ u, ?_⟩, ⟨o2, (sb.2 it (Ne.symm hne)).trans ho2, r2⟩, hne⟩, fun b hb => ?_⟩
    · have e1 : ((i + 1 : Nat) : Int) = (i : Int) + 1 := by omega
      rw [e1]; exact he'
    · have hb' : b < s.heap.objs.size := by
        have e' : b = e ∨ b = it := by simpa using hb
        rcases e' with z | z
        · rw [z]; exact hel
        · rw [z]; exact hil
      rw [upd_ne (Nat.ne_of_lt hb')]
      exact (hf b hb).1
  done := by
    intro X hP hw hK hc i pins s σ H E I hf st hg
    subst hP hw hK
    obtain ⟨⟨old, he⟩, hit, hne⟩ := st
    have en : z.cps.size = i := hg
    obtain ⟨f0, f1, f2, f3, f4, f5⟩ := hf it (by simp)
    exact wpAny_pyNext_enum_endD (PySem.Draws.text (A := X.A.in1) (I.ok.hd hc) it z t) he (by rw [en]; exact hit) fun h' eb => ⟨rfl, I.turned (t' := s.toks) (fun b o hb q => eb b o hb q) f0 f1 f3 f4 f5⟩
  self := fun A i s Q E st h => let ⟨⟨_, he⟩, _⟩ := st; wpAny_pyIter_enum he h
/-- enumerate of a list, a tuple, a text -/
def iEnumA (K : PySem.W.Frag) (ta : TA) : TI := fun σ H R => ta σ H fun vs H1 => (∃ a xs, vs = [.ref a] ∧ SqL K H1 a xs ∧ R (Ite K a) H1) ∨ (∃ a xs, vs = [.ref a] ∧ SqT K H1 a xs ∧ R (Itet K a) H1) ∨ ∃ z, vs = [.str z] ∧ R (Ites z) H1
theorem pi_enumA {X : Cx} {e : Expr} {ta : TA} {p pos tpos : Pos} {elts : List Expr} {kk : Nat} (hg : Gl X "enumerate") (hm : X.mg "enumerate" = none) (ha : PA X [e] ta) (hs : starEach [e] X.env = [(false, eval e X.env)] := by rfl) :
    PI X (.Tuple elts kk tpos) (.Call (.Name "enumerate" p) [e] [] pos) (iEnumA X.K ta) := by
  refine ⟨fun pins s σ H R I h => ?_⟩
  refine Call_ (ld_blt I hg hm boot_enumerate (PyProof.Rows.callWith_type1 (thn (ha.run pos pins s σ H _ I h) fun us s1 ⟨vs, H1, I1, r1, q1⟩ => ?_) hs rfl))
  have fin : ∀ b ∈ [s1.heap.objs.size + 1, s1.heap.objs.size], FpOk X pins H1 b := fun b hb => by
    have e' : b = s1.heap.objs.size + 1 ∨ b = s1.heap.objs.size := by simpa using hb
    have hle : s1.heap.objs.size ≤ b := by
      rcases e' with z | z
      · rw [z]; exact Nat.le_add_right _ _
      · rw [z]; exact Nat.le_refl _
    exact I1.fpOk hle (I1.hok.fresh hle)
  rcases q1 with ⟨a, xs, ex, hq, q⟩ | ⟨a, xs, ex, hq, q⟩ | ⟨z, ex, q⟩
  · subst ex
    rw [Vals.ref1 r1]
    obtain ⟨its, rv, p', hz⟩ := I1.list hq
    refine call_enumerate_list p'.isList fun h' he hit hsz hk => wpAny_pyIter_enum he ?_
    exact ⟨s1.heap.objs.size + 1, [s1.heap.objs.size + 1, s1.heap.objs.size], _, _, H1, rfl, I1.kept (t' := s1.toks) hk, turn_enum a (s1.heap.objs.size + 1) s1.heap.objs.size, ⟨⟨.none, he⟩, hit, Nat.succ_ne_self _⟩, fin, q⟩
  · subst ex
    rw [Vals.ref1 r1]
    obtain ⟨its, rv, p', hz⟩ := I1.tuple hq
    have pt : s1.heap.IsTuple a its.toArray := p'
    have hlt : a < s1.heap.objs.size := by obtain ⟨_, q, _⟩ := pt; exact Heap.lt_size q
    refine enum_begins1 (PySem.begins_tuple a its.toArray) pt fun h' he hit hsz hk => wpAny_pyIter_enum he ?_
    exact ⟨s1.heap.objs.size + 1, [s1.heap.objs.size + 1, s1.heap.objs.size], _, _, H1, rfl, I1.kept (t' := s1.toks) hk, turn_enumT a (s1.heap.objs.size + 1) s1.heap.objs.size (Nat.ne_of_lt hlt) (Nat.ne_of_lt (Nat.lt_succ_of_lt hlt)), ⟨⟨.none, he⟩, ⟨_, hit, rfl, rfl⟩, Nat.succ_ne_self _⟩, fin, q⟩
  · subst ex
    cases r1 with
    | cons r rr =>
      cases rr
      obtain ⟨t, rfl⟩ := r
      refine call_enumerate_str fun h' he hit hsz hk => wpAny_pyIter_enum he ?_
      exact ⟨s1.heap.objs.size + 1, [s1.heap.objs.size + 1, s1.heap.objs.size], _, _, H1, rfl, I1.kept (t' := s1.toks) hk, turn_enumS z t (s1.heap.objs.size + 1) s1.heap.objs.size, ⟨⟨.none, he⟩, hit, Nat.succ_ne_self _⟩, fin, q⟩
/-- pairs of a number and an item -/
@[simp] def enumL : Nat → List PyData → List PyData
  | _, [] => []
  | i, d :: ds => .tuple [.int (i : Nat), d] :: enumL (i + 1) ds
@[simp] def enumD : List PyData → Option (List PyData)
  | [x] => (seqD x).map (enumL 0)
  | _ => none
theorem enumL_get : ∀ {ds : List PyData} {k i : Nat} {d : PyData}, (enumL k ds)[i]? = some d → ∃ x, ds[i]? = some x ∧ d = .tuple [.int ((k + i : Nat) : Int), x]
  | [], k, i, d, h => by simp [enumL] at h
  | x :: ds, k, 0, d, h => by simp [enumL] at h; exact ⟨x, rfl, h.symm⟩
  | x :: ds, k, i + 1, d, h => by
    obtain ⟨y, h1, h2⟩ := enumL_get (ds := ds) (k := k + 1) (i := i) (d := d) (by simpa [enumL] using h)
    exact ⟨y, by simpa using h1, by rw [h2, show k + 1 + i = k + (i + 1) by omega]⟩
theorem enumL_len : ∀ {ds : List PyData} {k : Nat}, (enumL k ds).length = ds.length
  | [], _ => rfl
  | _ :: ds, k => by simp [enumL, enumL_len]
theorem walks_enum {K : PySem.W.Frag} {F1 : Hp} {p : Addr} {vs : List V} {ds : List PyData} (h : SqL K F1 p vs) (a : DnAll K F1 vs ds) : Walks K (Ite K p) F1 (enumL 0 ds) := fun i F H s1 s2 => by
  have hq : SqL K H p vs := seqL s2 (Same.seq s1 h)
  refine ⟨fun d e => ?_, fun hl => ⟨vs, hq, by rw [a.length, ← hl, enumL_len]; exact Nat.le_refl _⟩⟩
  obtain ⟨x, e1, rfl⟩ := enumL_get e
  obtain ⟨v, h1, h2⟩ := a.get e1
  refine ⟨⟨vs, v, hq, h1⟩, fun z H2 ⟨T, x', e3, hT, e4, g1⟩ => ?_⟩
  subst e3 e4
  have q1 := g1 vs hq
  rw [h1] at q1; cases q1
  obtain ⟨st, dn⟩ := new_tup (K := K) s2 hT (.cons (.int ((i : Nat) : Int)) (.one (h2.mv s1)))
  rw [Nat.zero_add]
  exact ⟨_, st, dn⟩
theorem walks_enumT {K : PySem.W.Frag} {F1 : Hp} {p : Addr} {vs : List V} {ds : List PyData} (h : SqT K F1 p vs) (a : DnAll K F1 vs ds) : Walks K (Itet K p) F1 (enumL 0 ds) := fun i F H s1 s2 => by
  have hq : SqT K H p vs := seqT s2 (seqTN (same_n s1) h)
  refine ⟨fun d e => ?_, fun hl => ⟨vs, hq, by rw [a.length, ← hl, enumL_len]⟩⟩
  obtain ⟨x, e1, rfl⟩ := enumL_get e
  obtain ⟨v, h1, h2⟩ := a.get e1
  refine ⟨⟨vs, v, hq, h1⟩, fun z H2 ⟨T, x', e3, hT, e4, g1⟩ => ?_⟩
  subst e3 e4
  have q1 := g1 vs hq
  rw [h1] at q1; cases q1
  obtain ⟨st, dn⟩ := new_tup (K := K) s2 hT (.cons (.int ((i : Nat) : Int)) (.one (h2.mv s1)))
  rw [Nat.zero_add]
  exact ⟨_, st, dn⟩
theorem walks_enumS {K : PySem.W.Frag} {F1 : Hp} {z : Str} (h : PyData.strOk z = true) : Walks K (Ites z) F1 (enumL 0 (z.cps.toList.map fun c => .str ⟨#[c]⟩)) := fun i F H s1 s2 => by
  refine ⟨fun d e => ?_, fun hl => by rw [enumL_len, List.length_map, Array.length_toList] at hl; exact hl⟩
  obtain ⟨x, e1, rfl⟩ := enumL_get e
  rw [List.getElem?_map] at e1
  obtain ⟨c, e2, rfl⟩ := Option.map_eq_some_iff.mp e1
  rw [Array.getElem?_toList] at e2
  refine ⟨(Array.getElem?_eq_some_iff.mp e2).1, fun y H2 ⟨T, c', e3, hT, e4, g1⟩ => ?_⟩
  subst e3 e4
  rw [e2] at g1; cases g1
  have oc : PyData.strOk ⟨#[c]⟩ = true := strOk_iff.mpr (fun c' hc => by
    have hc' : c' = c := by simpa using hc
    subst hc'
    exact strOk_iff.mp h _ (List.mem_of_getElem? (by rw [Array.getElem?_toList]; exact e2)))
  obtain ⟨st, dn⟩ := new_tup (K := K) s2 hT (.cons (.int ((i : Nat) : Int)) (.one (.str _ oc)))
  rw [Nat.zero_add]
  exact ⟨_, st, dn⟩
theorem di_enum {X : Cx} {e : Expr} {ta : TA} {p pos tpos : Pos} {elts : List Expr} {kk : Nat} {fa : En → Option (List PyData)} (hg : Gl X "enumerate") (hm : X.mg "enumerate" = none) (ha : DA X [e] ta fa) (hs : starEach [e] X.env = [(false, eval e X.env)] := by rfl) :
    DI X (.Tuple elts kk tpos) (.Call (.Name "enumerate" p) [e] [] pos) (iEnumA X.K ta) (fun ε => (fa ε).bind enumD) :=
  ⟨pi_enumA hg hm ha.p hs, fun F H ε σ ds R r e k => by
    obtain ⟨d, e1, e2⟩ := Option.bind_eq_some_iff.mp e
    refine ha.r F H ε σ d _ r e1 fun vs F1 H1 s1 d1 => ?_
    unfold enumD at e2
    split at e2
    · rename_i x
      obtain ⟨ds', e3, rfl⟩ := Option.map_eq_some_iff.mp e2
      cases d1 with | cons a b =>
      cases b
      unfold seqD at e3
      split at e3
      · cases e3
        cases a with | lst sq al => exact .inl ⟨_, _, rfl, seqL s1.s sq, k _ F1 H1 s1 (walks_enum sq al)⟩
      · cases e3
        cases a with | tup sq al => exact .inr (.inl ⟨_, _, rfl, seqT s1.s sq, k _ F1 H1 s1 (walks_enumT sq al)⟩)
      · cases e3
        cases a with | str z hz => exact .inr (.inr ⟨_, rfl, k _ F1 H1 s1 (walks_enumS hz)⟩)
      · cases e3
    · cases e2⟩
end M


namespace M
open PySem PySem.Spec PyProof.Rows L2

section
variable {X : Cx} {x : Str} {pos : Pos}
theorem de_strE (l : List Nat) {j} (hx : x = mkS l := by decide +kernel) (h : PyData.strOk (mkS l) = true := by decide +kernel) : DE X (.Constant (.str x) j pos) (tC (.str x)) (fun _ => some (.str (mkS l))) := by
  subst hx
  exact de_str h
theorem de_gstrE (l : List Nat) {z : Str} {tk : Tok} (hg : Gl X x) (hm : X.mg x = some (.str z tk)) (hx : z = mkS l := by decide +kernel) (h : PyData.strOk (mkS l) = true := by decide +kernel) (hd : (x == ("__debug__" : Str)) = false := by decide) : DE X (.Name x pos) (tC (.str z)) (fun _ => some (.str (mkS l))) := by
  subst hx
  exact de_gstr hg hm h hd
end

/-! ### computing with the data -/
@[simp] theorem mkS_toList (l : List Nat) : (mkS l).cps.toList = l := by simp [mkS]
@[simp] theorem mem_mkS (c : Nat) (l : List Nat) : c ∈ (mkS l).cps ↔ c ∈ l := by rw [← Array.mem_toList_iff, mkS_toList]
@[simp] theorem mkS_length (l : List Nat) : (mkS l).length = l.length := by simp [mkS, Str.length]
@[simp] theorem mkS_app (a b : List Nat) : mkS a ++ mkS b = mkS (a ++ b) := by
  show Str.append _ _ = _
  simp [mkS, Str.append]
@[simp] theorem mkS_one (c : Nat) : (⟨#[c]⟩ : Str) = mkS [c] := rfl
@[simp] theorem mkS_mk (l : List Nat) : (⟨l.toArray⟩ : Str) = mkS l := rfl
@[simp] theorem mkS_inj {a b : List Nat} : mkS a = mkS b ↔ a = b := ⟨fun h => by simpa using congrArg (fun s : Str => s.cps.toList) h, fun h => by rw [h]⟩
theorem mkS_eta (s : Str) : s = mkS s.cps.toList := by obtain ⟨c⟩ := s; simp [mkS]
@[simp] theorem mkS_beq (a b : List Nat) : (mkS a == mkS b) = (a == b) := by
  rw [Bool.eq_iff_iff]; simp
@[simp] theorem repS_mk (l : List Nat) (n : Int) : repS (mkS l) n = mkS (List.replicate n.toNat l).flatten := by unfold repS; rw [mkS_toList]; rfl
@[simp] theorem sign1_mk (c : Nat) : sign1 (mkS [c]) = some c := by simp [sign1]
abbrev S (l : List Nat) : PyData := .str (mkS l)

@[simp] theorem eqv_str (a b : Str) : PyData.eqv (.str a) (.str b) = (a == b) := by simp [PyData.eqv]
@[simp] theorem eqv_int (a b : Int) : PyData.eqv (.int a) (.int b) = (a == b) := by simp [PyData.eqv]
@[simp] theorem eqv_bool (a b : Bool) : PyData.eqv (.bool a) (.bool b) = (a == b) := by simp [PyData.eqv]
@[simp] theorem eqv_none : PyData.eqv .none .none = true := by simp [PyData.eqv]
@[simp] theorem eqv_list (a b : List PyData) : PyData.eqv (.list a) (.list b) = PyData.eqvAll a b := by rw [PyData.eqv]
@[simp] theorem eqv_tuple (a b : List PyData) : PyData.eqv (.tuple a) (.tuple b) = PyData.eqvAll a b := by rw [PyData.eqv]
@[simp] theorem eqvAll_nil : PyData.eqvAll [] [] = true := by rw [PyData.eqvAll]
@[simp] theorem eqvAll_cons (a b : PyData) (as bs : List PyData) : PyData.eqvAll (a :: as) (b :: bs) = (PyData.eqv a b && PyData.eqvAll as bs) := by rw [PyData.eqvAll]
@[simp] theorem eqvAll_nc (b : PyData) (bs : List PyData) : PyData.eqvAll [] (b :: bs) = false := by rw [PyData.eqvAll]
@[simp] theorem eqvAll_cn (b : PyData) (bs : List PyData) : PyData.eqvAll (b :: bs) [] = false := by rw [PyData.eqvAll]
@[simp] theorem eqv_none_str (b : Str) : PyData.eqv .none (.str b) = false := by simp [PyData.eqv]
@[simp] theorem eqv_str_none (b : Str) : PyData.eqv (.str b) .none = false := by simp [PyData.eqv]
@[simp] theorem eqv_none_tuple (b : List PyData) : PyData.eqv .none (.tuple b) = false := by simp [PyData.eqv]
@[simp] theorem eqv_tuple_none (b : List PyData) : PyData.eqv (.tuple b) .none = false := by simp [PyData.eqv]
/-- == over a map that keeps its data apart -/
theorem eqvAll_map {α β : Type} [BEq α] {f : α → PyData} (h : ∀ a b, PyData.eqv (f a) (f b) = (a == b)) : ∀ xs ys : List α, PyData.eqvAll (xs.map f) (ys.map f) = (xs == ys)
  | [], [] => by simp
  | [], _ :: _ => by simp
  | _ :: _, [] => by simp
  | x :: xs, y :: ys => by simp [h, eqvAll_map (β := β) h xs ys]


/-! ### items and slices of lists -/
theorem atI_nat' {α : Type} (xs : List α) {i : Int} (h : 0 ≤ i) : atI xs i = xs[i.toNat]? := by
  unfold atI ixN
  rw [if_pos h]
  by_cases hl : i.toNat < xs.length
  · rw [if_pos (by omega)]; rfl
  · rw [if_neg (by omega), List.getElem?_eq_none (by omega)]; rfl
@[simp] theorem atI_ofNat {α : Type} (xs : List α) (n : Nat) : atI xs (OfNat.ofNat n : Int) = xs[n]? := by
  have : (OfNat.ofNat n : Int) = (n : Int) := rfl
  rw [this, atI_nat' xs (by omega)]; simp
@[simp] theorem atI_zero {α : Type} (xs : List α) : atI xs 0 = xs[0]? := atI_nat' xs (by omega)
@[simp] theorem atI_one {α : Type} (xs : List α) : atI xs 1 = xs[1]? := atI_nat' xs (by omega)
@[simp] theorem atI_cast {α : Type} (xs : List α) (n : Nat) : atI xs (n : Int) = xs[n]? := by rw [atI_nat' xs (by omega)]; simp
@[simp] theorem atI_neg1 {α : Type} (xs : List α) : atI xs (-1) = xs.getLast? := by
  unfold atI ixN
  rw [if_neg (by omega), List.getLast?_eq_getElem?]
  cases xs with
  | nil => simp
  | cons x r =>
    simp only [List.length_cons]
    split
    · rename_i h
      have e : ((-1 : Int) + ((r.length + 1 : Nat) : Int)).toNat = r.length + 1 - 1 := by omega
      show (x :: r)[_]? = _
      congr 1
    · omega
theorem sIx_pos {n d : Nat} {i : Int} (h : 0 ≤ i) : HT.sIx n d (some i) = min i.toNat n := by
  obtain ⟨k, rfl⟩ := Int.eq_ofNat_of_zero_le h
  exact HT.sIx_nat n d k
@[simp] theorem cutD_lo {α : Type} (xs : List α) {k : Int} (h : 0 ≤ k) : cutD xs (some k) none = xs.drop k.toNat := by
  unfold cutD
  rw [sIx_pos h, HT.sIx_none]
  by_cases hk : k.toNat ≤ xs.length
  · rw [Nat.min_eq_left hk, List.take_of_length_le (by rw [List.length_drop]; exact Nat.le_refl _)]
  · rw [Nat.min_eq_right (by omega), List.drop_eq_nil_of_le (Nat.le_refl _), List.drop_eq_nil_of_le (by omega)]; simp
@[simp] theorem cutD_hi {α : Type} (xs : List α) {k : Int} (h : 0 ≤ k) : cutD xs none (some k) = xs.take k.toNat := by
  unfold cutD
  rw [sIx_pos h, HT.sIx_none, List.drop_zero, Nat.sub_zero]
  by_cases hk : k.toNat ≤ xs.length
  · rw [Nat.min_eq_left hk]
  · rw [Nat.min_eq_right (by omega), List.take_of_length_le (Nat.le_refl _), List.take_of_length_le (by omega)]
@[simp] theorem cutD_lh {α : Type} (xs : List α) {a b : Int} (h : 0 ≤ a) (h' : 0 ≤ b) : cutD xs (some a) (some b) = (xs.drop a.toNat).take (b.toNat - a.toNat) := by
  unfold cutD
  rw [sIx_pos h, sIx_pos h']
  by_cases ha : a.toNat ≤ xs.length
  · rw [Nat.min_eq_left ha]
    by_cases hb : b.toNat ≤ xs.length
    · rw [Nat.min_eq_left hb]
    · rw [Nat.min_eq_right (by omega)]
      rw [List.take_of_length_le (by rw [List.length_drop]; omega), List.take_of_length_le (by rw [List.length_drop]; omega)]
  · rw [List.drop_eq_nil_of_le (as := xs) (i := min a.toNat xs.length) (by omega), List.drop_eq_nil_of_le (as := xs) (i := a.toNat) (by omega)]; simp
@[simp] theorem cutD_all {α : Type} (xs : List α) : cutD xs none none = xs := by
  unfold cutD
  rw [HT.sIx_none, HT.sIx_none, List.drop_zero, Nat.sub_zero, List.take_of_length_le (Nat.le_refl _)]
@[simp] theorem if_size {α : Type} {n : Nat} {a b : α} (h : n ≤ 16777216) : (if n ≤ sizeLine then a else b) = a := if_pos h
@[simp] theorem if_sizeL {α : Type} {n : Nat} {a b : α} (h : n < 16777216) : (if n < sizeLine then a else b) = a := if_pos h
theorem szl (n : Nat) (h : n ≤ 16777216 := by omega) : n ≤ sizeLine := h

/-! ### loops by what they do -/
/-- a comprehension over one name -/
theorem compD_nm {i : Nat} {c : En → Option Bool} {f : En → Option PyData} {ε : En} {p : PyData → Bool} {q : PyData → PyData} : ∀ {ds : List PyData},
    (∀ d ∈ ds, c (ε.set i (some (.f d))) = some (p d)) → (∀ d ∈ ds, p d = true → f (ε.set i (some (.f d))) = some (q d)) → compD (.nm i) c f ε ds = some ((ds.filter p).map q)
  | [], _, _ => rfl
  | d :: ds, h1, h2 => by
    have ih := compD_nm (ds := ds) (fun e he => h1 e (List.mem_cons_of_mem _ he)) (fun e he => h2 e (List.mem_cons_of_mem _ he))
    have a := h1 d List.mem_cons_self
    unfold compD
    simp only [Tg.put, Option.bind_some, a]
    cases hp : p d with
    | true => simp [h2 d List.mem_cons_self hp, ih, hp]
    | false => simp [ih, hp]
/-- .. over coded data -/
theorem compD_map {α : Type} {i : Nat} {c : En → Option Bool} {f : En → Option PyData} {ε : En} {enc : α → PyData} {p : α → Bool} {q : α → PyData} {xs : List α}
    (h1 : ∀ x ∈ xs, c (ε.set i (some (.f (enc x)))) = some (p x)) (h2 : ∀ x ∈ xs, p x = true → f (ε.set i (some (.f (enc x)))) = some (q x)) : compD (.nm i) c f ε (xs.map enc) = some ((xs.filter p).map q) := by
  induction xs with
  | nil => rfl
  | cons x xs ih =>
    have ih := ih (fun e he => h1 e (List.mem_cons_of_mem _ he)) (fun e he => h2 e (List.mem_cons_of_mem _ he))
    have a := h1 x List.mem_cons_self
    rw [List.map_cons]
    unfold compD
    simp only [Tg.put, Option.bind_some, a]
    cases hp : p x with
    | true => simp [h2 x List.mem_cons_self hp, ih, hp]
    | false => simp [ih, hp]
/-- .. without a test -/
theorem compD_all {α : Type} {i : Nat} {f : En → Option PyData} {ε : En} {enc : α → PyData} {q : α → PyData} {xs : List α} (h2 : ∀ x ∈ xs, f (ε.set i (some (.f (enc x)))) = some (q x)) : compD (.nm i) (fun _ => some true) f ε (xs.map enc) = some (xs.map q) := by
  rw [compD_map (p := fun _ => true) (q := q) (fun _ _ => rfl) (fun x hx _ => h2 x hx)]
  rw [List.filter_eq_self.mpr fun _ _ => rfl]
/-- targets that are pairs -/
theorem compD_pair {α : Type} {i j : Nat} {c : En → Option Bool} {f : En → Option PyData} {ε : En} {a b : α → PyData} {p : α → Bool} {q : α → PyData} {xs : List α}
    (h1 : ∀ x ∈ xs, c ((ε.set i (some (.f (a x)))).set j (some (.f (b x)))) = some (p x)) (h2 : ∀ x ∈ xs, p x = true → f ((ε.set i (some (.f (a x)))).set j (some (.f (b x)))) = some (q x)) :
    compD (.tp [i, j]) c f ε (xs.map fun x => .tuple [a x, b x]) = some ((xs.filter p).map q) := by
  induction xs with
  | nil => rfl
  | cons x xs ih =>
    have ih := ih (fun e he => h1 e (List.mem_cons_of_mem _ he)) (fun e he => h2 e (List.mem_cons_of_mem _ he))
    have z := h1 x List.mem_cons_self
    rw [List.map_cons]
    unfold compD
    simp only [Tg.put, putAll, List.length_cons, List.length_nil, if_pos, Option.bind_some, z]
    cases hp : p x with
    | true => simp [h2 x List.mem_cons_self hp, ih, hp]
    | false => simp [ih, hp]
/-- two clauses, names -/
theorem compD2_map {α : Type} {i j : Nat} {vs1 : List Nat} {src1 : En → Option (List PyData)} {cc1 : En → Option Bool} {f : En → Option PyData} {ε : En} {enc : α → PyData} {out : α → List PyData} {xs : List α} {ds1 : α → List PyData}
    (h1 : ∀ x ∈ xs, src1 (ε.set i (some (.f (enc x)))) = some (ds1 x)) (h2 : ∀ x ∈ xs, compD (.nm j) cc1 f (wipeE (ε.set i (some (.f (enc x)))) vs1) (ds1 x) = some (out x)) :
    compD2 (.nm i) (fun _ => some true) src1 vs1 (.nm j) cc1 f ε (xs.map enc) = some (xs.map out).flatten := by
  induction xs with
  | nil => rfl
  | cons x xs ih =>
    have ih := ih (fun e he => h1 e (List.mem_cons_of_mem _ he)) (fun e he => h2 e (List.mem_cons_of_mem _ he))
    rw [List.map_cons]
    unfold compD2
    simp [h1 x List.mem_cons_self, h2 x List.mem_cons_self, ih]
/-- a for that always goes on: by a state -/
theorem forT_fold {α : Type} {tt : Tg} {B : TD} {R : DEnds} (P : α → En → Prop) (step : α → PyData → α) : ∀ (ds : List PyData) (a : α) (ε : En), P a ε →
    (∀ a, ∀ d ∈ ds, ∀ ε (nx : En → Prop), P a ε → (∀ ε', P (step a d) ε' → nx ε') → ∃ ε', tt.put d ε = some ε' ∧ B { R with nx := nx, ct := nx, bk := R.nx } ε') → (∀ ε, P (ds.foldl step a) ε → R.nx ε) → forT tt B ds R ε
  | [], a, ε, h, _, k => k ε h
  | d :: ds, a, ε, h, hs, k => by
    obtain ⟨ε', e1, e2⟩ := hs a d List.mem_cons_self ε (forT tt B ds R) h fun ε' h' => forT_fold P step ds (step a d) ε' h' (fun a e he => hs a e (List.mem_cons_of_mem _ he)) k
    exact ⟨ε', e1, e2⟩
/-- .. over coded items -/
theorem forT_map {α β : Type} {tt : Tg} {B : TD} {R : DEnds} (P : α → En → Prop) (enc : β → PyData) (step : α → β → α) : ∀ (xs : List β) (a : α) (ε : En), P a ε →
    (∀ a, ∀ x ∈ xs, ∀ ε (nx : En → Prop), P a ε → (∀ ε', P (step a x) ε' → nx ε') → ∃ ε', tt.put (enc x) ε = some ε' ∧ B { R with nx := nx, ct := nx, bk := R.nx } ε') → (∀ ε, P (xs.foldl step a) ε → R.nx ε) → forT tt B (xs.map enc) R ε
  | [], a, ε, h, _, k => k ε h
  | d :: ds, a, ε, h, hs, k => by
    obtain ⟨ε', e1, e2⟩ := hs a d List.mem_cons_self ε (forT tt B (ds.map enc) R) h fun ε' h' => forT_map P enc step ds (step a d) ε' h' (fun a e he => hs a e (List.mem_cons_of_mem _ he)) k
    exact ⟨ε', e1, e2⟩
/-- with an invariant over the part taken so far -/
theorem forT_pre {β : Type} {tt : Tg} {B : TD} {R : DEnds} (enc : β → PyData) (P : List β → En → Prop) (xs : List β) : ∀ (pre post : List β) (ε : En), xs = pre ++ post → P pre ε →
    (∀ pre x post ε (nx : En → Prop), xs = pre ++ x :: post → P pre ε → (∀ ε', P (pre ++ [x]) ε' → nx ε') → ∃ ε', tt.put (enc x) ε = some ε' ∧ B { R with nx := nx, ct := nx, bk := R.nx } ε') → (∀ ε, P xs ε → R.nx ε) → forT tt B (post.map enc) R ε
  | pre, [], ε, e, h, _, k => k ε (by rw [List.append_nil] at e; rw [e]; exact h)
  | pre, x :: post, ε, e, h, hs, k => by
    obtain ⟨ε', e1, e2⟩ := hs pre x post ε (forT tt B (post.map enc) R) e h fun ε' h' => forT_pre enc P xs (pre ++ [x]) post ε' (by rw [e]; simp) h' hs k
    exact ⟨ε', e1, e2⟩

/-! ### data that is texts -/
def deT : PyData → Option (List Nat)
  | .str s => some s.cps.toList
  | _ => none
@[simp] theorem deT_S (l : List Nat) : deT (.str (mkS l)) = some l := by simp [deT]
theorem deT_eq {d : PyData} {l : List Nat} (h : deT d = some l) : d = S l := by
  cases d <;> simp [deT] at h
  rename_i s
  subst h
  rw [S, ← mkS_eta]
def deTs : List PyData → Option (List (List Nat))
  | [] => some []
  | d :: ds => (deT d).bind fun l => (deTs ds).map (l :: ·)
@[simp] theorem deTs_S : ∀ ls : List (List Nat), deTs (ls.map S) = some ls
  | [] => rfl
  | l :: ls => by simp [deTs, S, deTs_S ls]
@[simp] theorem deTs_S' (ls : List (List Nat)) : deTs (ls.map fun l => .str (mkS l)) = some ls := deTs_S ls
theorem deTs_eq : ∀ {ds : List PyData} {ls : List (List Nat)}, deTs ds = some ls → ds = ls.map S
  | [], ls, h => by cases h; rfl
  | d :: ds, ls, h => by
    obtain ⟨l, e1, e2⟩ := Option.bind_eq_some_iff.mp h
    obtain ⟨ls', e3, rfl⟩ := Option.map_eq_some_iff.mp e2
    rw [deT_eq e1, deTs_eq e3]; rfl
/-- a tuple of texts -/
def deW : PyData → Option (List (List Nat))
  | .tuple ds => deTs ds
  | _ => none
@[simp] theorem deW_S (ls : List (List Nat)) : deW (.tuple (ls.map S)) = some ls := deTs_S ls
theorem deW_eq {d : PyData} {ls : List (List Nat)} (h : deW d = some ls) : d = .tuple (ls.map S) := by
  cases d <;> simp [deW] at h
  rw [deTs_eq h]
@[simp] theorem all_okD_S (n : Nat) (ls : List (List Nat)) : (ls.map S).all (okD n) = true := by simp [S]

/-! ### sorted texts -/
def leT (a b : List Nat) : Bool := decide (a ≤ b)
def sortT (xs : List (List Nat)) : List (List Nat) := xs.mergeSort leT
theorem srtOk_S (xs : List (List Nat)) : srtOk (xs.map S) = true := by
  simp only [srtOk, List.all_map, Bool.and_eq_true, Bool.or_eq_true, List.all_eq_true, Function.comp, S]
  exact ⟨⟨fun _ _ _ _ => by simp [PySem.W.alike], .inr fun _ _ => rfl⟩, fun _ _ => by simp⟩
theorem dataLe_S (a b : List Nat) : PySem.W.dataLe false id (S a) (S b) = leT a b := by
  have h := congrFun (congrFun (PySem.W.dataLe_str (β := List Nat) fun l => mkS l) a) b
  simp only [mkS_toList] at h
  exact h
theorem sortD_S (xs : List (List Nat)) : sortD (xs.map S) = (sortT xs).map S := by
  unfold sortD sortT
  rw [List.map_mergeSort (f := S) (r := leT) (s := PySem.W.dataLe false id) fun a _ b _ => (dataLe_S a b).symm]
@[simp] theorem sortedL_S (xs : List (List Nat)) : sortedL [.list (xs.map S)] = some ((sortT xs).map S) := by
  show (if srtOk (xs.map S) = true then _ else _) = _
  rw [if_pos (srtOk_S xs), sortD_S]
theorem leT_trans (a b c : List Nat) : leT a b = true → leT b c = true → leT a c = true := by
  simp only [leT, decide_eq_true_eq]
  exact List.le_trans
theorem leT_total (a b : List Nat) : (leT a b || leT b a) = true := by
  simp only [leT, Bool.or_eq_true, decide_eq_true_eq]
  exact List.le_total a b
theorem leT_anti (a b : List Nat) : leT a b = true → leT b a = true → a = b := by
  simp only [leT, decide_eq_true_eq]
  exact List.le_antisymm
theorem sortT_perm (xs : List (List Nat)) : (sortT xs).Perm xs := List.mergeSort_perm ..
theorem sortT_sorted (xs : List (List Nat)) : (sortT xs).Pairwise fun a b => leT a b = true := List.pairwise_mergeSort leT_trans leT_total xs
/-- two sorted arrangements are one -/
theorem sorted_uniq {xs ys : List (List Nat)} (p : xs.Perm ys) (h1 : xs.Pairwise fun a b => leT a b = true) (h2 : ys.Pairwise fun a b => leT a b = true) : xs = ys :=
  List.Perm.eq_of_pairwise (le := fun a b => leT a b = true) (fun a b _ _ h h' => leT_anti a b h h') h1 h2 p
theorem sortT_eq {xs ys : List (List Nat)} (p : xs.Perm ys) : sortT xs = sortT ys := sorted_uniq ((sortT_perm xs).trans (p.trans (sortT_perm ys).symm)) (sortT_sorted xs) (sortT_sorted ys)
@[simp] theorem sortT_length (xs : List (List Nat)) : (sortT xs).length = xs.length := (sortT_perm xs).length_eq
theorem inB_S (a : List Nat) (xs : List (List Nat)) : inB (S a) (xs.map S) = decide (a ∈ xs) := by
  unfold inB
  rw [Bool.eq_iff_iff]
  simp [S]
theorem inB_N (a : Nat) (xs : List Nat) : inB (.int (a : Int)) (xs.map fun (k : Nat) => PyData.int (k : Int)) = decide (a ∈ xs) := by
  unfold inB
  rw [Bool.eq_iff_iff]
  simp
  constructor
  · rintro ⟨x, hx, e⟩
    have : x = a := by omega
    rw [← this]; exact hx
  · intro h; exact ⟨a, h, rfl⟩
@[simp] theorem all_okD_N (n : Nat) (ls : List Nat) : (ls.map fun (k : Nat) => PyData.int (k : Int)).all (okD n) = true := by simp
end M


namespace M
open PySem PySem.Spec PyProof.Rows L2

/-! ### evaluation that goes into nothing before its turn: what a later argument's type names is left alone -/
structure Blk {α : Sort u} (a : α) : Type where
section
variable {α β : Type}
def bnd (o : Option α) (f : α → Option β) (_ : Blk f) : Option β := o.bind f
@[simp] theorem bnd_some (a : α) (f : α → Option β) (b : Blk f) : bnd (some a) f b = f a := rfl
@[simp] theorem bnd_none (f : α → Option β) (b : Blk f) : bnd none f b = none := rfl
def exO (o : Option α) (P : α → Prop) (_ : Blk P) : Prop := ∃ s, o = some s ∧ P s
@[simp] theorem exO_some (a : α) (P : α → Prop) (b : Blk P) : exO (some a) P b = P a := by simp [exO]
theorem exO_of {o : Option α} {P : α → Prop} {b : Blk P} {a : α} (h : o = some a) (h' : P a) : exO o P b := ⟨a, h, h'⟩
def ifO (o : Option Bool) (A B : Prop) (_ : Blk (A, B)) : Prop := ∃ k, o = some k ∧ if k = true then A else B
@[simp] theorem ifO_some (b : Bool) (A B : Prop) (u : Blk (A, B)) : ifO (some b) A B u = if b = true then A else B := by simp [ifO]
theorem ifO_of {o : Option Bool} {A B : Prop} {u : Blk (A, B)} {b : Bool} (h : o = some b) (ht : b = true → A) (hf : b = false → B) : ifO o A B u := ⟨b, h, by cases b with | true => exact ht rfl | false => exact hf rfl⟩
def atE (ε : En) (k : En → Prop) (_ : Blk k) : Prop := k ε
@[simp] theorem atE_e (ε : En) (k : En → Prop) (b : Blk k) : atE ε k b = k ε := rfl
def atO (ε : En) (k : En → Option α) (_ : Blk k) : Option α := k ε
@[simp] theorem atO_e (ε : En) (k : En → Option α) (b : Blk k) : atO ε k b = k ε := rfl
end
def getS (i : Nat) (ε : En) : Option (Option Slot) := ε[i]?
@[simp] theorem getS_zero (x : Option Slot) (ε : En) : getS 0 (x :: ε) = some x := rfl
@[simp] theorem getS_succ (i : Nat) (x : Option Slot) (ε : En) : getS (i + 1) (x :: ε) = getS i ε := rfl
@[simp] theorem getF_zero (d : PyData) (ε : En) : getF 0 (some (.f d) :: ε) = some d := rfl
@[simp] theorem getF_tf (d : PyData) (T : List (Addr × Str)) (ε : En) : getF 0 (some (.tf d T) :: ε) = some d := rfl
@[simp] theorem getB_tf (d : PyData) (T : List (Addr × Str)) (ε : En) : getB 0 (some (.tf d T) :: ε) = some d := rfl
@[simp] theorem getF_succ (i : Nat) (x : Option Slot) (ε : En) : getF (i + 1) (x :: ε) = getF i ε := rfl
@[simp] theorem getB_zero (d : PyData) (ε : En) : getB 0 (some (.f d) :: ε) = some d := rfl
@[simp] theorem getB_zero' (d : List PyData) (ε : En) : getB 0 (some (.o d) :: ε) = some (.list d) := rfl
@[simp] theorem getB_zero'' (d : List (PyData × PyData)) (ε : En) : getB 0 (some (.od d) :: ε) = some (.dict d) := rfl
@[simp] theorem getB_succ (i : Nat) (x : Option Slot) (ε : En) : getB (i + 1) (x :: ε) = getB i ε := rfl
@[simp] theorem frzE_zero (s : Slot) (ε : En) : frzE 0 (some s :: ε) = some s.frz :: ε := rfl
@[simp] theorem frzE_succ (i : Nat) (x : Option Slot) (ε : En) : frzE (i + 1) (x :: ε) = x :: frzE i ε := by
  unfold frzE
  rw [List.getElem?_cons_succ]
  cases ε[i]? with
  | none => rfl
  | some z => cases z <;> rfl
section
variable {ε : En} {R : DEnds} {T U : TD} {i : Nat}
def forB (t : Tg) (B : TD) (ds : List PyData) (R : DEnds) (ε : En) (_ : Blk (B, R)) : Prop := forT t B ds R ε
def whB (c : En → Option Bool) (B : TD) (R : DEnds) (ε : En) (_ : Blk (c, B, R)) : Prop := dWhile c B R ε
def lcB (src : En → Option (List PyData)) (t : Tg) (vs : List Nat) (c : En → Option Bool) (f : En → Option PyData) (ε : En) (_ : Blk (src, c, f)) : Option (List PyData) := dLc src t vs c f ε
def lc2B (src : En → Option (List PyData)) (t : Tg) (vs : List Nat) (c : En → Option Bool) (src1 : En → Option (List PyData)) (vs1 : List Nat) (t1 : Tg) (c1 : En → Option Bool) (f : En → Option PyData) (ε : En) (_ : Blk (src, c, src1, c1, f)) : Option (List PyData) := dLc2 src t vs c src1 vs1 t1 c1 f ε
@[simp ↓] theorem dSeq_e : dSeq T U R ε = T ⟨U R, R.rt, R.bk, R.ct, R.er⟩ ε := rfl
@[simp ↓] theorem dNext_e : dNext R ε = R.nx ε := rfl
@[simp ↓] theorem dPass_e : dPass R ε = R.nx ε := rfl
@[simp ↓] theorem dBreak_e : dBreak R ε = R.bk ε := rfl
@[simp ↓] theorem dCont_e : dCont R ε = R.ct ε := rfl
@[simp ↓] theorem dFrz_e : dFrz i T R ε = atE (frzE i ε) (T R) ⟨⟩ := rfl
@[simp ↓] theorem dFrzB_e : dFrzB i T R ε = T ⟨fun ε' => atE (frzE i ε') R.nx ⟨⟩, R.rt, R.bk, R.ct, R.er⟩ ε := rfl
@[simp ↓] theorem dAsg_e {f : En → Option Slot} : dAsg i f R ε = exO (f ε) (fun s => atE (ε.set i (some s)) R.nx ⟨⟩) ⟨⟩ := rfl
@[simp ↓] theorem augI_e {g : Int → Int → Int} {f : En → Option PyData} : augI i g f R ε = exO (getF i ε) (fun a => exO (f ε) (fun b => match a, b with | .int a, .int b => atE (ε.set i (some (.f (.int (g a b))))) R.nx ⟨⟩ | _, _ => False) ⟨⟩) ⟨⟩ := by
  simp only [augI, exO, atE]
  rw [eq_iff_iff]
  constructor
  · rintro ⟨a, b, h1, h2, h3⟩
    exact ⟨_, h1, _, h2, h3⟩
  · rintro ⟨a, h1, b, h2, h3⟩
    split at h3
    · exact ⟨_, _, h1, h2, h3⟩
    · exact h3.elim
@[simp ↓] theorem dRet_e {f : En → Option Slot} : dRet f R ε = exO (f ε) (fun s => R.rt s) ⟨⟩ := rfl
@[simp ↓] theorem dRetV_e : dRetV i R ε = exO (getS i ε) (fun s => exO s (fun s => R.rt s) ⟨⟩) ⟨⟩ := by
  simp only [dRetV, exO, getS]
  rw [eq_iff_iff]
  exact ⟨fun ⟨s, h1, h2⟩ => ⟨_, h1, _, rfl, h2⟩, fun ⟨s, h1, s', h2, h3⟩ => ⟨s', by rw [h1, h2], h3⟩⟩
@[simp ↓] theorem dRetN_e : dRetN R ε = R.rt (.f .none) := rfl
@[simp ↓] theorem dDrop_e {f : En → Option PyData} : dDrop f R ε = exO (f ε) (fun _ => R.nx ε) ⟨⟩ := rfl
@[simp ↓] theorem dIf_e {g : En → Option Bool} : dIf g T U R ε = ifO (g ε) (T R ε) (U R ε) ⟨⟩ := rfl
@[simp ↓] theorem dTg_e {t : Tg} {f : En → Option PyData} : dTg t f R ε = exO (f ε) (fun d => exO (t.put d ε) (fun ε' => atE ε' R.nx ⟨⟩) ⟨⟩) ⟨⟩ := by
  simp only [dTg, exO, atE]
  rw [eq_iff_iff]
  exact ⟨fun ⟨d, e, h1, h2, h3⟩ => ⟨d, h1, e, h2, h3⟩, fun ⟨d, h1, e, h2, h3⟩ => ⟨d, e, h1, h2, h3⟩⟩
@[simp ↓] theorem dFor_e {t : Tg} {f : En → Option (List PyData)} : dFor f t T R ε = exO (f ε) (fun ds => forB t T ds R ε ⟨⟩) ⟨⟩ := rfl
@[simp ↓] theorem dWhile_e {c : En → Option Bool} : dWhile c T R ε = whB c T R ε ⟨⟩ := rfl
@[simp ↓] theorem dApp_e {f : En → Option PyData} : dApp i f R ε = exO (f ε) (fun d => exO (getS i ε) (fun s => exO s (fun s => match s with | .o ds => ds.length < sizeLine ∧ atE (ε.set i (some (.o (ds ++ [d])))) R.nx ⟨⟩ | _ => False) ⟨⟩) ⟨⟩) ⟨⟩ := by
  simp only [dApp, exO, atE, getS]
  rw [eq_iff_iff]
  constructor
  · rintro ⟨ds, d, h1, h2, h3, h4⟩
    exact ⟨d, h2, _, h1, _, rfl, h3, h4⟩
  · rintro ⟨d, h2, s, h1, s', h5, h3⟩
    subst h5
    split at h3
    · exact ⟨_, d, h1, h2, h3.1, h3.2⟩
    · exact h3.elim
@[simp ↓] theorem dPar_e {is : List Nat} {f : En → Option (List Slot)} : dPar is f R ε = exO (f ε) (fun ss => ss.length = is.length ∧ atE (setE is ss ε) R.nx ⟨⟩) ⟨⟩ := rfl
@[simp ↓] theorem dPut_e {fk fe : En → Option PyData} : dPut i fk fe R ε = exO (fe ε) (fun d => exO (getS i ε) (fun s => exO s (fun s => exO (fk ε) (fun k => match s, k with | .o ds, .int k => exO (ixN ds.length k) (fun j => atE (ε.set i (some (.o (ds.set j d)))) R.nx ⟨⟩) ⟨⟩ | _, _ => False) ⟨⟩) ⟨⟩) ⟨⟩) ⟨⟩ := by
  simp only [dPut, exO, atE, getS]
  rw [eq_iff_iff]
  constructor
  · rintro ⟨ds, d, k, j, h1, h2, h3, h4, h5⟩
    exact ⟨d, h1, _, h2, _, rfl, _, h3, _, h4, h5⟩
  · rintro ⟨d, h1, s, h2, s', h3, k, h4, h5⟩
    subst h3
    split at h5
    · obtain ⟨j, h6, h7⟩ := h5
      exact ⟨_, d, _, j, h1, h2, h4, h6, h7⟩
    · exact h5.elim
@[simp ↓] theorem dOp_e {g : G2} {fa fb : En → Option PyData} : dOp g fa fb ε = bnd (fa ε) (fun a => bnd (fb ε) (fun b => g a b) ⟨⟩) ⟨⟩ := rfl
@[simp ↓] theorem dOpL_e {g : PyData → PyData → Option (List PyData)} {fa fb : En → Option PyData} : dOpL g fa fb ε = bnd (fa ε) (fun a => bnd (fb ε) (fun b => g a b) ⟨⟩) ⟨⟩ := rfl
@[simp ↓] theorem dCons_e {fa : En → Option PyData} {fb : En → Option (List PyData)} : dCons fa fb ε = bnd (fa ε) (fun d => (fb ε).map (d :: ·)) ⟨⟩ := rfl
@[simp ↓] theorem dAnd_e {fa fb : En → Option Bool} : dAnd fa fb ε = bnd (fa ε) (fun k => if k then fb ε else some false) ⟨⟩ := rfl
@[simp ↓] theorem dOr_e {fa fb : En → Option Bool} : dOr fa fb ε = bnd (fa ε) (fun k => if k then some true else fb ε) ⟨⟩ := rfl
@[simp ↓] theorem dAndV_e {fa fb : En → Option PyData} : dAndV fa fb ε = bnd (boolOf (fa ε)) (fun k => if k then fb ε else some (.bool false)) ⟨⟩ := rfl
@[simp ↓] theorem dOrV_e {fa fb : En → Option PyData} : dOrV fa fb ε = bnd (boolOf (fa ε)) (fun k => if k then some (.bool true) else fb ε) ⟨⟩ := rfl
@[simp ↓] theorem dIfE_e {g : En → Option Bool} {fa fb : En → Option PyData} : dIfE g fa fb ε = bnd (g ε) (fun k => if k then fa ε else fb ε) ⟨⟩ := rfl
@[simp ↓] theorem dLc_e {src : En → Option (List PyData)} {t : Tg} {vs : List Nat} {c : En → Option Bool} {f : En → Option PyData} : dLc src t vs c f ε = lcB src t vs c f ε ⟨⟩ := rfl
@[simp ↓] theorem dLc2_e {src : En → Option (List PyData)} {t : Tg} {vs : List Nat} {c : En → Option Bool} {src1 : En → Option (List PyData)} {vs1 : List Nat} {t1 : Tg} {c1 : En → Option Bool} {f : En → Option PyData} : dLc2 src t vs c src1 vs1 t1 c1 f ε = lc2B src t vs c src1 vs1 t1 c1 f ε ⟨⟩ := rfl
end
/-! ### comprehensions -/
theorem limL_some {ds : List PyData} (h : ds.length ≤ 16777216) : limL (some ds) = some ds := if_pos h
/-- over a name, coded data -/
theorem dLc_map {α : Type} (xs : List α) (enc : α → PyData) (p : α → Bool) (q : α → PyData) {src : En → Option (List PyData)} {i : Nat} {vs : List Nat} {c : En → Option Bool} {f : En → Option PyData} {ε : En} {u : Blk _}
    (hs : src ε = some (xs.map enc)) (h1 : ∀ x ∈ xs, c ((wipeE ε vs).set i (some (.f (enc x)))) = some (p x)) (h2 : ∀ x ∈ xs, p x = true → f ((wipeE ε vs).set i (some (.f (enc x)))) = some (q x)) (hl : (xs.filter p).length ≤ 16777216) :
    lcB src (.nm i) vs c f ε u = some ((xs.filter p).map q) := by
  unfold lcB dLc
  rw [hs, Option.bind_some, compD_map h1 h2, limL_some (by rw [List.length_map]; exact hl)]
/-- .. without a test -/
theorem dLc_all {α : Type} (xs : List α) (enc : α → PyData) (q : α → PyData) {src : En → Option (List PyData)} {i : Nat} {vs : List Nat} {f : En → Option PyData} {ε : En} {u : Blk _}
    (hs : src ε = some (xs.map enc)) (h2 : ∀ x ∈ xs, f ((wipeE ε vs).set i (some (.f (enc x)))) = some (q x)) (hl : xs.length ≤ 16777216) :
    lcB src (.nm i) vs (fun _ => some true) f ε u = some (xs.map q) := by
  unfold lcB dLc
  rw [hs, Option.bind_some, compD_all h2, limL_some (by rw [List.length_map]; exact hl)]
/-- .. over pairs -/
theorem dLc_pair {α : Type} (xs : List α) (a b : α → PyData) (p : α → Bool) (q : α → PyData) {src : En → Option (List PyData)} {i j : Nat} {vs : List Nat} {c : En → Option Bool} {f : En → Option PyData} {ε : En} {u : Blk _}
    (hs : src ε = some (xs.map fun x => .tuple [a x, b x])) (h1 : ∀ x ∈ xs, c (((wipeE ε vs).set i (some (.f (a x)))).set j (some (.f (b x)))) = some (p x)) (h2 : ∀ x ∈ xs, p x = true → f (((wipeE ε vs).set i (some (.f (a x)))).set j (some (.f (b x)))) = some (q x)) (hl : (xs.filter p).length ≤ 16777216) :
    lcB src (.tp [i, j]) vs c f ε u = some ((xs.filter p).map q) := by
  unfold lcB dLc
  rw [hs, Option.bind_some, compD_pair h1 h2, limL_some (by rw [List.length_map]; exact hl)]
/-- two clauses -/
theorem dLc2_map {α : Type} (xs : List α) (enc : α → PyData) (ds1 : α → List PyData) (out : α → List PyData) {src : En → Option (List PyData)} {i j : Nat} {vs vs1 : List Nat} {src1 : En → Option (List PyData)} {cc1 : En → Option Bool} {f : En → Option PyData} {ε : En} {u : Blk _}
    (hs : src ε = some (xs.map enc)) (h1 : ∀ x ∈ xs, src1 ((wipeE ε vs).set i (some (.f (enc x)))) = some (ds1 x)) (h2 : ∀ x ∈ xs, compD (.nm j) cc1 f (wipeE ((wipeE ε vs).set i (some (.f (enc x)))) vs1) (ds1 x) = some (out x)) (hl : ((xs.map out).flatten).length ≤ 16777216) :
    lc2B src (.nm i) vs (fun _ => some true) src1 vs1 (.nm j) cc1 f ε u = some (xs.map out).flatten := by
  unfold lc2B dLc2
  rw [hs, Option.bind_some, compD2_map h1 h2, limL_some hl]
@[simp] theorem atI_succ {α : Type} (xs : List α) (k : Nat) : atI xs ((k : Int) + 1) = xs[k + 1]? := by
  have : (k : Int) + 1 = ((k + 1 : Nat) : Int) := by omega
  rw [this, atI_cast]
end M
namespace M
open PySem PySem.Spec PyProof.Rows L2
section
variable {ε : En}
@[simp ↓] theorem dChain_e {g g' : G2} {fa fb fc : En → Option PyData} : dChain g g' fa fb fc ε = bnd (fa ε) (fun a => bnd (fb ε) (fun b => bnd (boolOf (g a b)) (fun k => if k then bnd (fc ε) (fun c => g' b c) ⟨⟩ else some (.bool false)) ⟨⟩) ⟨⟩) ⟨⟩ := rfl
@[simp ↓] theorem dSl_e {fe : En → Option PyData} {fl fh : En → Option (Option Int)} : dSl fe fl fh ε = bnd (fe ε) (fun d => bnd (fl ε) (fun lo => bnd (fh ε) (fun hi => slD d lo hi) ⟨⟩) ⟨⟩) ⟨⟩ := rfl
@[simp ↓] theorem dSlL_e {fe : En → Option PyData} {fl fh : En → Option (Option Int)} : dSlL fe fl fh ε = bnd (fe ε) (fun d => bnd (fl ε) (fun lo => bnd (fh ε) (fun hi => slL d lo hi) ⟨⟩) ⟨⟩) ⟨⟩ := rfl
end
/-! ### loops by index -/
section
variable {β : Type} {tt : Tg} {B : TD} {R : DEnds}
theorem forT_ix (enc : β → PyData) (P : Nat → En → Prop) (xs : List β) (hs : ∀ i x ε (nx : En → Prop), xs[i]? = some x → P i ε → (∀ ε', P (i + 1) ε' → nx ε') → ∃ ε', tt.put (enc x) ε = some ε' ∧ B ⟨nx, R.rt, R.nx, nx, R.er⟩ ε') (k : ∀ ε, P xs.length ε → R.nx ε) :
    ∀ (post : List β) (i : Nat) (ε : En), xs.drop i = post → i ≤ xs.length → P i ε → forT tt B (post.map enc) R ε
  | [], i, ε, e, hi, h => k ε (by have := congrArg List.length e; simp at this; rw [show xs.length = i by omega]; exact h)
  | x :: post, i, ε, e, hi, h => by
    have e1 : xs[i]? = some x := by rw [← List.head?_drop, e]; rfl
    have hi' : i < xs.length := (List.getElem?_eq_some_iff.mp e1).1
    obtain ⟨ε', a, b⟩ := hs i x ε (forT tt B (post.map enc) R) e1 h fun ε' h' => forT_ix enc P xs hs k post (i + 1) ε' (by rw [← List.drop_drop, e]; rfl) hi' h'
    exact ⟨ε', a, b⟩
theorem forB_ix (enc : β → PyData) (xs : List β) (P : Nat → En → Prop) {ε : En} {u : Blk (B, R)} (h : P 0 ε) (hs : ∀ i x ε (nx : En → Prop), xs[i]? = some x → P i ε → (∀ ε', P (i + 1) ε' → nx ε') → ∃ ε', tt.put (enc x) ε = some ε' ∧ B ⟨nx, R.rt, R.nx, nx, R.er⟩ ε') (k : ∀ ε, P xs.length ε → R.nx ε) :
    forB tt B (xs.map enc) R ε u := forT_ix enc P xs hs k xs 0 ε rfl (Nat.zero_le _) h
theorem forT_enum (enc : β → PyData) (P : Nat → En → Prop) (xs : List β) (hs : ∀ i x ε (nx : En → Prop), xs[i]? = some x → P i ε → (∀ ε', P (i + 1) ε' → nx ε') → ∃ ε', tt.put (.tuple [.int (i : Int), enc x]) ε = some ε' ∧ B ⟨nx, R.rt, R.nx, nx, R.er⟩ ε') (k : ∀ ε, P xs.length ε → R.nx ε) :
    ∀ (post : List β) (i : Nat) (ε : En), xs.drop i = post → i ≤ xs.length → P i ε → forT tt B (enumL i (post.map enc)) R ε
  | [], i, ε, e, hi, h => k ε (by have := congrArg List.length e; simp at this; rw [show xs.length = i by omega]; exact h)
  | x :: post, i, ε, e, hi, h => by
    have e1 : xs[i]? = some x := by rw [← List.head?_drop, e]; rfl
    have hi' : i < xs.length := (List.getElem?_eq_some_iff.mp e1).1
    obtain ⟨ε', a, b⟩ := hs i x ε (forT tt B (enumL (i + 1) (post.map enc)) R) e1 h fun ε' h' => forT_enum enc P xs hs k post (i + 1) ε' (by rw [← List.drop_drop, e]; rfl) hi' h'
    exact ⟨ε', a, b⟩
theorem forB_enum (enc : β → PyData) (xs : List β) (P : Nat → En → Prop) {ε : En} {u : Blk (B, R)} (h : P 0 ε) (hs : ∀ i x ε (nx : En → Prop), xs[i]? = some x → P i ε → (∀ ε', P (i + 1) ε' → nx ε') → ∃ ε', tt.put (.tuple [.int (i : Int), enc x]) ε = some ε' ∧ B ⟨nx, R.rt, R.nx, nx, R.er⟩ ε') (k : ∀ ε, P xs.length ε → R.nx ε) :
    forB tt B (enumL 0 (xs.map enc)) R ε u := forT_enum enc P xs hs k xs 0 ε rfl (Nat.zero_le _) h
/-- while: by a measure -/
theorem whB_by {c : En → Option Bool} {ε : En} {u : Blk (c, B, R)} (P : Nat → En → Prop) (n : Nat) (h : P n ε) (hs : ∀ n ε (nx : En → Prop), P n ε → (∀ m ε', m < n → P m ε' → nx ε') → ∃ k, c ε = some k ∧ if k = true then B ⟨nx, R.rt, R.nx, nx, R.er⟩ ε else R.nx ε) : whB c B R ε u := by
  have key : ∀ N n ε, n < N → P n ε → whT c B N R ε := by
    intro N
    induction N with
    | zero => intro n ε h; omega
    | succ N ih =>
      intro n ε hn hp
      obtain ⟨k, h1, h2⟩ := hs n ε (whT c B N R) hp fun m ε' hm hp' => ih m ε' (by omega) hp'
      exact ⟨k, h1, h2⟩
  exact ⟨n + 1, key (n + 1) n ε (Nat.lt_succ_self _) h⟩
end
end M
namespace M
open PySem PySem.Spec PyProof.Rows L2
@[simp] theorem flat2_len {α β : Type} (f g : α → β) : ∀ xs : List α, (xs.map fun x => [f x, g x]).flatten.length = 2 * xs.length
  | [] => rfl
  | x :: xs => by
    have := flat2_len f g xs
    simp only [List.map_cons, List.flatten_cons, List.length_append, List.length_cons, List.length_nil] at this ⊢
    omega
theorem flat2_map {α β γ : Type} (f g : α → β) (h : β → γ) : ∀ xs : List α, (xs.map fun x => [h (f x), h (g x)]).flatten = (xs.flatMap fun x => [f x, g x]).map h
  | [] => rfl
  | x :: xs => by
    have := flat2_map f g h xs
    simp only [List.map_cons, List.flatten_cons, List.flatMap_cons, List.map_append, this, List.map_nil]
end M
namespace M
open PySem PySem.Spec PyProof.Rows L2
@[simp] theorem rng1_ok {i : Int} (h0 : -16777216 ≤ i) (h : i ≤ 16777216) : rng1D [.int i] = some ((List.range i.toNat).map fun (k : Nat) => .int (k : Int)) := by
  have : (-(2 ^ 62) ≤ i ∧ i < 2 ^ 62) := by omega
  rw [rng1D, if_pos this]
  simp
@[simp] theorem rng2_ok {i j : Int} (h0 : -16777216 ≤ i) (h : i ≤ 16777216) (h2 : -16777216 ≤ j) (h3 : j ≤ 16777216) : rng2D [.int i, .int j] = some ((List.range (j - i).toNat).map fun (k : Nat) => .int (i + (k : Int))) := by
  have : (-(2 ^ 62) ≤ i ∧ i < 2 ^ 62 ∧ -(2 ^ 62) ≤ j ∧ j < 2 ^ 62) := by omega
  rw [rng2D, if_pos this]
end M


namespace M
open PySem PySem.Spec PyProof.Rows L2
section
variable {X : Cx} {e a b elt tg iter tg1 iter1 : Expr} {es ifs ifs1 : List Expr} {te ta tb : TE} {fe fa fb : En → Option PyData} {pos spos : Pos} {st : Stmt} {body sts : List Stmt} {t u : TS} {T U B : TD} {wi wi1 : TI} {g g1 : TG} {src src1 : En → Option (List PyData)} {gt gt1 : Tg}
  {tt tt1 : TT} {cc cc1 : En → Option Bool} {scope : Scope} {vs vs1 : List Nat}
theorem dl_lcV (own : List (Str × Nat)) (hc : X.calm = true) (hN : X.N.Nodup) (ok : BlkOk X.N X.env.scope scope own) (hi : DI X tg iter wi src)
    (hg : ∀ (s : Shared) (H : Hp) (C : Addr) (cl : List (Str × Addr)) (fp : List Addr), DG (X.blk s H scope (compEnvC scope cl C X.env) fp) tg g gt)
    (ht : ∀ (s : Shared) (H : Hp) (C : Addr) (cl : List (Str × Addr)) (fp : List Addr), DTs (X.blk s H scope (compEnvC scope cl C X.env) fp) ifs tt cc)
    (he : ∀ (s : Shared) (H : Hp) (C : Addr) (cl : List (Str × Addr)) (fp : List Addr), DE (X.blk s H scope (compEnvC scope cl C X.env) fp) elt te fe)
    (hvs : own.map (·.2) = vs := by rfl) (hT : ∀ j ∈ gt.ix, j ∈ vs := by decide) (hs : ∀ x, foldedSetIterable iter X.env x = pure x := by intro _; rfl) :
    DL X (.ListComp elt [⟨tg, iter, ifs, 0⟩] scope pos) (tLc wi g tt te vs) (dLc src gt vs cc fe) := by
  subst hvs
  exact dl_lc own hc hN ok hi hg ht he hT hs
theorem dl_lc2V (own : List (Str × Nat)) (hc : X.calm = true) (hN : X.N.Nodup) (ok : BlkOk X.N X.env.scope scope own) (hi : DI X tg iter wi src)
    (hg : ∀ (s : Shared) (H : Hp) (C : Addr) (cl : List (Str × Addr)) (fp : List Addr), DG (X.blk s H scope (compEnvC scope cl C X.env) fp) tg g gt)
    (ht : ∀ (s : Shared) (H : Hp) (C : Addr) (cl : List (Str × Addr)) (fp : List Addr), DTs (X.blk s H scope (compEnvC scope cl C X.env) fp) ifs tt cc)
    (hi1 : ∀ (s : Shared) (H : Hp) (C : Addr) (cl : List (Str × Addr)) (fp : List Addr), DI (X.blk s H scope (compEnvC scope cl C X.env) fp) tg1 iter1 wi1 src1)
    (hg1 : ∀ (s : Shared) (H : Hp) (C : Addr) (cl : List (Str × Addr)) (fp : List Addr), DG (X.blk s H scope (compEnvC scope cl C X.env) fp) tg1 g1 gt1)
    (ht1 : ∀ (s : Shared) (H : Hp) (C : Addr) (cl : List (Str × Addr)) (fp : List Addr), DTs (X.blk s H scope (compEnvC scope cl C X.env) fp) ifs1 tt1 cc1)
    (he : ∀ (s : Shared) (H : Hp) (C : Addr) (cl : List (Str × Addr)) (fp : List Addr), DE (X.blk s H scope (compEnvC scope cl C X.env) fp) elt te fe)
    (hvs : own.map (·.2) = vs := by rfl) (hT : ∀ j ∈ gt.ix, j ∈ vs := by decide) (hv : ∀ i ∈ vs1, i ∈ vs := by decide) (hT1 : ∀ j ∈ gt1.ix, j ∈ vs1 := by decide) (hs : ∀ x, foldedSetIterable iter X.env x = pure x := by intro _; rfl) (hs1 : ∀ env x, foldedSetIterable iter1 env x = pure x := by intro _ _; rfl) :
    DL X (.ListComp elt [⟨tg, iter, ifs, 0⟩, ⟨tg1, iter1, ifs1, 0⟩] scope pos) (tLc2 wi g tt wi1 g1 tt1 te vs vs1) (dLc2 src gt vs cc src1 vs1 gt1 cc1 fe) := by
  subst hvs
  exact dl_lc2 own vs1 hc hN ok hi hg ht hi1 hg1 ht1 he hT hv hT1 hs hs1
theorem ds_setLcV {i : Nat} (own : List (Str × Nat)) {y : Str} {py : Pos} (hc : X.calm = true) (hN : X.N.Nodup)
    (ok : BlkOk X.N X.env.scope scope own) (hi : DI X tg iter wi src)
    (hg : ∀ (s : Shared) (H : Hp) (C : Addr) (cl : List (Str × Addr)) (fp : List Addr), DG (X.blk s H scope (compEnvC scope cl C X.env) fp) tg g gt)
    (ht : ∀ (s : Shared) (H : Hp) (C : Addr) (cl : List (Str × Addr)) (fp : List Addr), DTs (X.blk s H scope (compEnvC scope cl C X.env) fp) ifs tt cc)
    (he : ∀ (s : Shared) (H : Hp) (C : Addr) (cl : List (Str × Addr)) (fp : List Addr), DE (X.blk s H scope (compEnvC scope cl C X.env) fp) elt te fe)
    (hsw : swapsWith (.ListComp elt [⟨tg, iter, ifs, 0⟩] scope pos) (some (.Name y py)) spos.line X.env = pure true) (hy : X.N[i]? = some y := by rfl) (hyl : X.env.scope.names.lookup y = some .local := by rfl) (hvs : own.map (·.2) = vs := by rfl) (hT : ∀ j ∈ gt.ix, j ∈ vs := by decide) (hs : ∀ x, foldedSetIterable iter X.env x = pure x := by intro _; rfl) :
    DS X (.Assign [.Name y py] (.ListComp elt [⟨tg, iter, ifs, 0⟩] scope pos) spos) (tAsg (tLc wi g tt te vs) (gName i)) (dAsg i fun ε => (dLc src gt vs cc fe ε).map .o) := by
  subst hvs
  exact ds_setLc i own hc hN ok hi hg ht he hsw hy hyl hT hs
theorem ds_setLc2V {i : Nat} (own : List (Str × Nat)) {y : Str} {py : Pos} (hc : X.calm = true) (hN : X.N.Nodup) (ok : BlkOk X.N X.env.scope scope own) (hi : DI X tg iter wi src)
    (hg : ∀ (s : Shared) (H : Hp) (C : Addr) (cl : List (Str × Addr)) (fp : List Addr), DG (X.blk s H scope (compEnvC scope cl C X.env) fp) tg g gt)
    (ht : ∀ (s : Shared) (H : Hp) (C : Addr) (cl : List (Str × Addr)) (fp : List Addr), DTs (X.blk s H scope (compEnvC scope cl C X.env) fp) ifs tt cc)
    (hi1 : ∀ (s : Shared) (H : Hp) (C : Addr) (cl : List (Str × Addr)) (fp : List Addr), DI (X.blk s H scope (compEnvC scope cl C X.env) fp) tg1 iter1 wi1 src1)
    (hg1 : ∀ (s : Shared) (H : Hp) (C : Addr) (cl : List (Str × Addr)) (fp : List Addr), DG (X.blk s H scope (compEnvC scope cl C X.env) fp) tg1 g1 gt1)
    (ht1 : ∀ (s : Shared) (H : Hp) (C : Addr) (cl : List (Str × Addr)) (fp : List Addr), DTs (X.blk s H scope (compEnvC scope cl C X.env) fp) ifs1 tt1 cc1)
    (he : ∀ (s : Shared) (H : Hp) (C : Addr) (cl : List (Str × Addr)) (fp : List Addr), DE (X.blk s H scope (compEnvC scope cl C X.env) fp) elt te fe)
    (hsw : swapsWith (.ListComp elt [⟨tg, iter, ifs, 0⟩, ⟨tg1, iter1, ifs1, 0⟩] scope pos) (some (.Name y py)) spos.line X.env = pure true) (hy : X.N[i]? = some y := by rfl) (hyl : X.env.scope.names.lookup y = some .local := by rfl)
    (hvs : own.map (·.2) = vs := by rfl) (hT : ∀ j ∈ gt.ix, j ∈ vs := by decide) (hv : ∀ i ∈ vs1, i ∈ vs := by decide) (hT1 : ∀ j ∈ gt1.ix, j ∈ vs1 := by decide) (hs : ∀ x, foldedSetIterable iter X.env x = pure x := by intro _; rfl) (hs1 : ∀ env x, foldedSetIterable iter1 env x = pure x := by intro _ _; rfl) :
    DS X (.Assign [.Name y py] (.ListComp elt [⟨tg, iter, ifs, 0⟩, ⟨tg1, iter1, ifs1, 0⟩] scope pos) spos) (tAsg (tLc2 wi g tt wi1 g1 tt1 te vs vs1) (gName i)) (dAsg i fun ε => (dLc2 src gt vs cc src1 vs1 gt1 cc1 fe ε).map .o) := by
  subst hvs
  exact ds_setLc2 i own vs1 hc hN ok hi hg ht hi1 hg1 ht1 he hsw hy hyl hT hv hT1 hs hs1
end
section
variable {X : Cx} {e tg iter : Expr} {es : List Expr} {te te' : TE} {fe : En → Option PyData} {tt tt' : TT} {cc : En → Option Bool} {g g' : TG} {gt : Tg} {wi wi' : TI} {src : En → Option (List PyData)}
/-! a block's reading names nothing of the block -/
theorem DE.kk (h : DE X e te fe) (ht : te = te' := by first | rfl | dsimp only [Cx.blk]) : DE X e te' fe := ht ▸ h
theorem DTs.kk (h : DTs X es tt cc) (ht : tt = tt' := by first | rfl | dsimp only [Cx.blk]) : DTs X es tt' cc := ht ▸ h
theorem DG.kk (h : DG X tg g gt) (ht : g = g' := by first | rfl | dsimp only [Cx.blk]) : DG X tg g' gt := ht ▸ h
theorem DI.kk (h : DI X tg iter wi src) (ht : wi = wi' := by first | rfl | dsimp only [Cx.blk]) : DI X tg iter wi' src := ht ▸ h
end
end M


namespace M
open PySem PySem.Spec PyProof.Rows L2 GenW

/-! ### for in the body of a generator -/
section
variable {P : Program} {w : World} {A : Around} {R : GenEnd} {Y : Protocol} {n : Nat} {s₀ : Shared} {c : Code} {fs : List Frame} {s : Shared} {env : Env}
theorem seg_For {target iter : Expr} {body : List Stmt} {pos : Pos} {K : Flow → Sem PySem.Fin} {H : Value → Sem PySem.Fin} {gd : Bool → Bool} {lv : List Value → List Value} (hs : ∀ x, foldedSetIterable iter env x = pure x)
    (h : wpAny (model P w) (A.over c fs) (eval iter env) (fun x s1 => wpAny (model P w) (A.over c fs) (pyIter x) (fun it s2 => ∀ p, Seg (model P w) A R Y n s₀ (.forLoop target it body [] env) ((model P w).den (.forLoop target it body [] env))
      (.ret (fun r => ((match r with | .ok f => (.pure f : Sem Flow) | .error e => .raise e).onRaise (cameBack env)).wrap K H gd lv) none (gd false) (lv []) c p [] :: fs) s2)
      (fun x s' => Seg (model P w) A R Y n s₀ c (H x) fs s') s1) (fun x s' => Seg (model P w) A R Y n s₀ c (H x) fs s') s) :
    Seg (model P w) A R Y n s₀ c ((exec (.For target iter body [] pos) env).wrap K H gd lv) fs s := by
  rw [exec_For]
  refine seg_bind_wrap (wpAny_standAt ?_)
  refine seg_bind_wrap (wpAny_mono h (fun x s1 h1 => ?_) fun _ _ z => z)
  refine seg_bind_wrap (wpAny_of_eq (hs x) ?_)
  refine seg_bind_wrap (wpAny_standAt ?_)
  refine seg_bind_wrap (wpAny_holding (wpAny_mono h1 (fun it s2 h2 => ?_) fun _ _ z => z))
  exact seg_call h2
/-- what a loop's code does with an exception -/
def noteX (env : Env) (x : Value) : Sem PySem.Fin := (do noteFrame x env; theTreesLotGoes x : Sem Unit).bind fun _ => .raise x
theorem seg_forLoop {target : Expr} {it : Value} {body : List Stmt}
    (h : wpAny (model P w) (A.over (.forLoop target it body [] env) fs) (pyNext it) (fun r s1 => match r with
        | none => Seg (model P w) A R Y n s₀ (.forLoop target it body [] env) (.pure (.again (.block [] env))) fs s1
        | some v => wpAny (model P w) (A.over (.forLoop target it body [] env) fs) (letOwnedTupleGo target it v) (fun _ s2 => wpAny (model P w) (A.over (.forLoop target it body [] env) fs) (assign target env v) (fun _ s3 =>
            Seg (model P w) A R Y n s₀ (.forLoop target it body [] env) ((execs body env).wrap (fun f => match f with
              | .next | .cont => .pure (.again (.forLoop target it body [] env))
              | .brk => .pure (.done .next)
              | .ret v => .pure (.done (.ret v))) (noteX env) id id) fs s3) (fun x s' => Seg (model P w) A R Y n s₀ (.forLoop target it body [] env) (noteX env x) fs s') s2) (fun x s' => Seg (model P w) A R Y n s₀ (.forLoop target it body [] env) (noteX env x) fs s') s1)
      (fun x s' => Seg (model P w) A R Y n s₀ (.forLoop target it body [] env) (noteX env x) fs s') s) :
    Seg (model P w) A R Y n s₀ (.forLoop target it body [] env) ((model P w).den (.forLoop target it body [] env)) fs s := by
  show Seg _ A R Y n s₀ _ ((forTurn target it body [] env).onRaise (fun x => do noteFrame x env; theTreesLotGoes x)) fs s
  rw [Sem.onRaise_eq_wrap]
  unfold forTurn
  refine seg_bind_wrap (wpAny_standAt ?_)
  refine seg_bind_wrap (wpAny_onRaise (wpAny_mono h (fun r s1 h1 => ?_) fun x s' hx => wpAny_standAt hx))
  cases r with
  | none => exact h1
  | some v =>
    refine seg_bind_wrap (wpAny_mono h1 (fun _ s2 h2 => ?_) fun x s' hx => hx)
    refine seg_bind_wrap (wpAny_mono h2 (fun _ s3 h3 => ?_) fun x s' hx => hx)
    rw [Sem.bind_eq_wrap', Sem.wrap_wrap]
    refine Eq.mp (congrArg (fun t => Seg (model P w) A R Y n s₀ (.forLoop target it body [] env) t fs s3) (Eq.symm ?_)) h3
    exact Sem.wrap_congr _ _ _ (fun f => by cases f <;> rfl) (fun e => rfl)
end
section
variable {X : Cx}
theorem gi_fewer {S : Addr} {ip pl : List (Addr × Obj)} {ys : List V} {σ : L2.St} {H : Hp} {s : Shared} (h : GI X S (ip ++ pl) ys σ H s) : GI X S ip ys σ H s := by
  obtain ⟨acc, c, r, I⟩ := h
  refine ⟨acc, c, r, I.pins_of fun p hp => I.pin p ?_⟩
  refine List.mem_append_right _ ?_
  rcases List.mem_cons.mp hp with z | z
  · rw [z]; exact List.mem_cons_self
  · exact List.mem_cons_of_mem _ (List.mem_append_left _ z)
def tGFor (wi : TI) (g : TG) (tb : TGn) : TGn := fun D ys σ H => wi σ H fun J H1 => ∃ W : Nat → Nat → List V → L2.St → Hp → Prop, (∃ m, W 0 m ys σ H1) ∧ ∀ i m ys σ H, W i m ys σ H →
  (J.stop i H ∧ D.nx ys σ H) ∨ (J.go i H ∧ ∃ N : List V → L2.St → Hp → Prop, (∀ ys' σ' H', N ys' σ' H' → ∃ m', m' < m ∧ W (i + 1) m' ys' σ' H') ∧ ∀ x H', J.yld i H x H' → g x σ H' fun σ2 H2 => tb { D with nx := N, ct := N, bk := D.nx } ys σ2 H2)
theorem gs_for {tg iter : Expr} {body : List Stmt} {wi : TI} {g : TG} {tb : TGn} {pos : Pos} (hp : PassesOwn (model X.prog X.w) X.A X.env X.xe) (hc : X.calm = true) (hi : PI X tg iter wi) (hg : PG X tg g) (hb : GSs X body tb)
    (hs : ∀ x, foldedSetIterable iter X.env x = pure x := by intro _; rfl) : GS X (.For tg iter body [] pos) (tGFor wi g tb) := by
  refine ⟨fun A S ip R n ys s₀ c fs K J gd lv s σ H D g0 hn k hI ht => ?_⟩
  obtain ⟨acc0, cc0, r0, I0⟩ := hI
  refine seg_For hs ?_
  rw [g0.over]
  refine wpAny_mono (hi.run _ s σ H _ I0 ht) (fun v s1 h1 => ?_) fun x s' hx => k.exc n s₀ x s' hx
  refine wpAny_mono h1 (fun itv s2 h2 p => ?_) fun x s' hx => k.exc n s₀ x s' hx
  obtain ⟨it, fp, tn, Jt, H2, e, I2, T, st2, f2, W, ⟨m0, w0⟩, turn⟩ := h2
  subst e
  have gl := fun (kk : Result → Sem PySem.Fin) => gc_loop (k := kk) (c' := .forLoop tg (.ref it) body [] X.env) (l := lv []) (kp := []) (p := p) g0 rfl rfl
  have fpS : ∀ b ∈ fp, b ≠ S := fun b hb => Ne.symm ((f2 b hb).2.2.2.2.2 (S, lstObj acc0 cc0) (List.mem_append_right _ List.mem_cons_self))
  have stat : ∀ {H' : Hp} {acc' : Array Value} {c' : Nat}, (∀ b ∈ fp, H' b = none) → ∀ b ∈ fp, FpOk X ((S, lstObj acc' c') :: ip) H' b := fun {H' acc' c'} hn b hb => by
    obtain ⟨_, f1, f3, f4, f5, f6⟩ := f2 b hb
    refine ⟨hn b hb, f1, f3, f4, f5, fun p hp => ?_⟩
    rcases List.mem_append.mp hp with z | z
    · exact f6 p (List.mem_append_left _ z)
    · rcases List.mem_cons.mp z with z | z
      · rw [z]; exact f6 (S, lstObj acc0 cc0) (List.mem_append_right _ List.mem_cons_self)
      · exact f6 p (List.mem_append_right _ (List.mem_cons_of_mem _ z))
  have loop : ∀ (m n i : Nat) (ys : List V) (s₀ s : Shared) (σ : L2.St) (H : Hp), n + ys.length = sizeLine → W i m ys σ H → GI X S ip ys σ H s → tn i s.heap → (∀ b ∈ fp, H b = none) →
      Seg (model X.prog X.w) A R (GY X S) n s₀ (.forLoop tg (.ref it) body [] X.env) ((model X.prog X.w).den (.forLoop tg (.ref it) body [] X.env))
        (.ret (fun r => ((match r with | .ok f => (.pure f : Sem Flow) | .error e => .raise e).onRaise (cameBack X.env)).wrap K J gd lv) none (gd false) (lv []) c p [] :: fs) s := by
    intro m
    induction m using Nat.strongRecOn with
    | ind m ih =>
      intro n i ys s₀ s σ H hn w hI st fr
      have ee : ∀ (n : Nat) (s₀ : Shared) (x : Value) (s' : Shared), X.xe x s' → Seg (model X.prog X.w) A R (GY X S) n s₀ (.forLoop tg (.ref it) body [] X.env) (noteX X.env x)
          (.ret (fun r => ((match r with | .ok f => (.pure f : Sem Flow) | .error e => .raise e).onRaise (cameBack X.env)).wrap K J gd lv) none (gd false) (lv []) c p [] :: fs) s' := fun n s₀ x s' hx => by
        unfold noteX
        rw [Sem.bind_eq_wrap]
        refine seg_wrap ?_
        rw [(gl _).over]
        refine wpAny_bind (wpAny_mono (hp x s' hx) (fun _ s'' hcb => wpAny_theTreesLotGoes ?_) fun y s'' hcb => ?_)
        · exact seg_leaf (.error x) (seg_cameBack g0 k hcb)
        · exact seg_leaf (.error y) (seg_cameBack g0 k hcb)
      refine seg_forLoop ?_
      rw [(gl _).over]
      obtain ⟨acc, cc, r, I⟩ := hI
      rcases turn i m ys σ H w with ⟨stop, qn⟩ | ⟨go, N, hN, step⟩
      · refine wpAny_mono (T.done X rfl rfl rfl hc i _ s σ H X.xe I (stat fr) st stop) (fun r' s4 h4 => ?_) fun x s' hx => ee n s₀ x s' hx
        obtain ⟨hr, I4⟩ := h4
        subst hr
        exact seg_again rfl (seg_leaf (.ok .next) (k.ok n ys s₀ s4 .next hn ⟨σ, H, ⟨acc, cc, r, I4⟩, qn⟩))
      · refine wpAny_mono (T.item X rfl rfl rfl hc i _ s σ H X.xe I (stat fr) st go) (fun r' s4 h4 => ?_) fun x s' hx => ee n s₀ x s' hx
        obtain ⟨u, hr, h4⟩ := h4
        subst hr
        refine wpAny_mono h4 (fun _ s5 h5 => ?_) fun x s' hx => ee n s₀ x s' hx
        obtain ⟨x, H5, I5, r5, y5, st5, fr5⟩ := h5
        have I5' := I5.pinned (stat fr5) (T.obj _ _ st5)
        refine wpAny_mono (hg.run _ s5 σ H5 x u _ I5' r5 (step x H5 y5)) (fun _ s6 h6 => ?_) fun x s' hx => ee n s₀ x s' hx
        obtain ⟨σ6, H6, I6, q6⟩ := h6
        have g2 := gl fun r => ((match r with | .ok f => (.pure f : Sem Flow) | .error e => .raise e).onRaise (cameBack X.env)).wrap K J gd lv
        have g3 : GC X S (ip ++ pinsAt fp s5.heap) A (.forLoop tg (.ref it) body [] X.env) (.ret (fun r => ((match r with | .ok f => (.pure f : Sem Flow) | .error e => .raise e).onRaise (cameBack X.env)).wrap K J gd lv) none (gd false) (lv []) c p [] :: fs) id :=
          ⟨g2.pn, fun q hq => (List.mem_append.mp hq).elim (g2.ip q) fun z => fpS _ (of_pinsAt z).1, g2.apart, g2.over, g2.split, g2.guard, g2.gd⟩
        refine hb.run A S (ip ++ pinsAt fp s5.heap) R n ys s₀ _ _ _ _ id id s6 σ6 H6 { D with nx := N, ct := N, bk := D.nx } g3 hn ⟨fun n' ys' s₀' s7 f hn' hs => ?_, fun n' s₀' x s3 hx => ee n' s₀' x s3 hx⟩ ⟨acc, cc, r, I6⟩ q6
        have again : ∀ {σ7 : L2.St} {H7 : Hp}, GI X S (ip ++ pinsAt fp s5.heap) ys' σ7 H7 s7 → N ys' σ7 H7 → Seg (model X.prog X.w) A R (GY X S) n' s₀' (.forLoop tg (.ref it) body [] X.env) (.pure (.again (.forLoop tg (.ref it) body [] X.env)))
            (.ret (fun r => ((match r with | .ok f => (.pure f : Sem Flow) | .error e => .raise e).onRaise (cameBack X.env)).wrap K J gd lv) none (gd false) (lv []) c p [] :: fs) s7 := fun {σ7 H7} hG n7 => by
          obtain ⟨m', hm, w7⟩ := hN ys' σ7 H7 n7
          have hF := gi_fewer hG
          obtain ⟨a7, c7, r7, I7⟩ := hG
          have pin7 : ∀ b ∈ fp, ∀ o, s5.heap.get? b = some o → s7.heap.get? b = some o ∧ H7 b = none := fun b hb o e => by
            have := I7.pin (b, o) (List.mem_append_right _ (List.mem_cons_of_mem _ (List.mem_append_right _ (mem_pinsAt hb e))))
            exact ⟨this.1, this.2.1⟩
          refine seg_again rfl (ih m' hm n' (i + 1) ys' s₀' s7 σ7 H7 hn' w7 hF (T.keep _ _ _ st5 fun b hb o e => (pin7 b hb o e).1) fun b hb => ?_)
          obtain ⟨o, e, _⟩ := T.obj _ _ st5 b hb
          exact (pin7 b hb o e).2
        cases f with
        | next => obtain ⟨σ7, H7, I7, n7⟩ := hs; exact again I7 n7
        | cont => obtain ⟨σ7, H7, I7, n7⟩ := hs; exact again I7 n7
        | brk =>
          obtain ⟨σ7, H7, I7, n7⟩ := hs
          exact seg_leaf (.ok .next) (k.ok n' ys' s₀' s7 .next hn' ⟨σ7, H7, gi_fewer I7, n7⟩)
        | ret v =>
          obtain ⟨x7, σ7, H7, I7, rv7, n7⟩ := hs
          exact seg_leaf (.ok (.ret v)) (k.ok n' ys' s₀' s7 (.ret v) hn' ⟨x7, σ7, H7, gi_fewer I7, rv7, n7⟩)
  exact loop m0 n 0 ys s₀ s2 σ H2 hn w0 ⟨acc0, cc0, r0, I2⟩ st2 fun b hb => (f2 b hb).1
end
end M


namespace M
open PySem PySem.Spec PyProof.Rows L2 GenW
/-! ### generator defs by data -/
section
variable {X : Cx}
theorem ps_nox {st : Stmt} {t : TS} (h : PS X.nox st t) : PS X st t := ⟨fun pins s σ H D I hw =>
  wpAny_mono (h.run pins s σ H D (I.wish _) hw) (fun _ _ q => q.unwish) fun _ _ z => False.elim z⟩
end
/-- what a generator's body hands out -/
def RGS (K : PySem.W.Frag) (t : TGn) (T : TD) : Prop := ∀ (F0 H0 F H : Hp) (ε : En) (σ : L2.St) (R : DEnds) (D : GEnds), Rel K F0 H0 F H ε σ → T R ε →
  (∀ σ' F' H' out ds, Step F0 H0 F' H' → Same F F' → DnAll K F' out ds → R.rt (.f (.list ds)) → D.nx out σ' H') → t D [] σ H
def gSeq (T U : TD) : TD := fun R ε => T ⟨U R, fun _ => False, fun _ => False, fun _ => False, fun _ => False⟩ ε
@[simp ↓] theorem gSeq_e {T U : TD} {R : DEnds} {ε : En} : gSeq T U R ε = T ⟨U R, fun _ => False, fun _ => False, fun _ => False, fun _ => False⟩ ε := rfl
theorem rgs_seq {K : PySem.W.Frag} {t : TS} {u : TGn} {T U : TD} (a : RS K t T) (b : RGS K u U) : RGS K (tGThen (tPlain t) u) (gSeq T U) := fun F0 H0 F H ε σ R D r h k =>
  a F0 H0 F H ε σ _ _ r h ⟨fun ε' σ' F' H' r' z h' => b F0 H0 F' H' ε' σ' R D r' h' fun σ2 F2 H2 out ds s z2 d h2 => k σ2 F2 H2 out ds s (z.trans z2) d h2, fun _ _ _ _ h => h.elim, fun _ _ _ _ _ _ h => h.elim, fun _ _ _ _ _ _ h => h.elim⟩
def gYld (f : En → Option (List PyData)) (i : Nat) : TD := fun R ε => i < ε.length ∧ exO (f ε) (fun ds => ds.length ≤ sizeLine ∧ R.rt (.f (.list ds))) ⟨⟩
@[simp ↓] theorem gYld_e {f : En → Option (List PyData)} {i : Nat} {R : DEnds} {ε : En} : gYld f i R ε = (i < ε.length ∧ exO (f ε) (fun ds => ds.length ≤ sizeLine ∧ R.rt (.f (.list ds))) ⟨⟩) := rfl
theorem DnAll.snoc {K : PySem.W.Frag} {F : Hp} {vs : List V} {ds : List PyData} {v : V} {d : PyData} (a : DnAll K F vs ds) (h : Dn K F v d) : DnAll K F (vs ++ [v]) (ds ++ [d]) := a.append (.cons h .nil)
theorem DnAll.same' {K : PySem.W.Frag} {F F' : Hp} (e : Same F F') {vs : List V} {ds : List PyData} (a : DnAll K F vs ds) : DnAll K F' vs ds := DnAll.mv e a
/-- for x in e: yield x -/
theorem rgs_yld {K : PySem.W.Frag} {wi : TI} {g : TG} {i : Nat} {f : En → Option (List PyData)} (hi : RI K wi f) (hg : RG K g (.nm i)) : RGS K (tGFor wi g (tGThen (tGYield (tVar i)) tG0)) (gYld f i) := fun F0 H0 F H ε σ R D r ⟨hiL, ds, e, hl, hrt⟩ k => by
  refine hi F H ε σ ds _ r.e e fun J F1 H1 s1 W => ?_
  refine ⟨fun j m ys σ H => m = ds.length - j ∧ j ≤ ds.length ∧ ∃ F ε, Rel K F0 H0 F H ε σ ∧ Same F1 F ∧ DnAll K F ys (ds.take j) ∧ i < ε.length, ⟨_, rfl, Nat.zero_le _, F1, ε, r.step s1, Same.refl _, .nil, hiL⟩, ?_⟩
  rintro j m ys σ2 H2 ⟨rfl, hj, F2, ε2, r2, sm, hd, hi2⟩
  obtain ⟨w1, w2⟩ := W j F2 H2 sm r2.e.sub
  by_cases hlt : j < ds.length
  · obtain ⟨g1, g2⟩ := w1 ds[j] (List.getElem?_eq_getElem hlt)
    refine .inr ⟨g1, fun ys' σ' H' => ∃ F ε, Rel K F0 H0 F H' ε σ' ∧ Same F1 F ∧ DnAll K F ys' (ds.take (j + 1)) ∧ i < ε.length, fun ys' σ' H' ⟨F', ε', a, b, c', d'⟩ => ⟨ds.length - (j + 1), by omega, rfl, hlt, F', ε', a, b, c', d'⟩, fun x H3 y => ?_⟩
    obtain ⟨F3, s3, d3⟩ := g2 x H3 y
    refine hg F0 H0 F3 H3 ε2 σ2 x _ (ε2.set i (some (.f ds[j]))) _ (r2.step s3) d3 rfl fun σ4 r4 => ?_
    have hlen := hd.length
    rw [List.length_take] at hlen
    refine ⟨by omega, ?_⟩
    refine re_var F3 H3 _ σ4 ds[j] _ r4.e (by unfold getF; rw [List.getElem?_set_self hi2]) fun v F5 H5 s5 dn => ?_
    refine ⟨F5, _, r4.step s5, sm.trans (s3.f.trans s5.f), ?_, by rw [List.length_set]; exact hi2⟩
    rw [List.take_add_one, List.getElem?_eq_getElem hlt]
    exact DnAll.snoc (DnAll.same' (s3.f.trans s5.f) hd) dn
  · have e' : j = ds.length := by omega
    subst e'
    rw [List.take_length] at hd
    exact .inl ⟨w2 rfl, k _ _ _ _ _ r2.st (s1.f.trans sm) hd hrt⟩
def GSp (K : PySem.W.Frag) (g : List PyData → Option (List PyData)) : SpG := fun vs H Q _ => ∃ F ds d, Lies F H ∧ DnAll K F vs ds ∧ g ds = some d ∧ ∀ out F' H', Step F H F' H' → DnAll K F' out d → Q out H'
section
variable {P : Program} {w : World} {K : PySem.W.Frag} {mg : Str → Option Value} {base : Heap}
theorem defG {x qual : Str} {st : Stmt} {f : Addr} {fd : FuncData} {N ps : List Str} {k : Nat} {g : List PyData → Option (List PyData)} {T : TD} (F : Fun K x qual st f fd) (S : GScope N ps (defScope st))
    (body : ∀ (cdv : Value) (A : Around) (outer : List Env) (s : Shared) (H : Hp) (E : XK) (pn : List (Addr × Obj)), Room k (A.deeper (envOfC qual (defScope st) s.heap.objs.size f cdv)) → ∃ t, GSs (gcxOf P w K mg base N qual (defScope st) f cdv A outer s H E pn) (defBody st) t ∧ RGS K t T)
    (pure : ∀ ds d, g ds = some d → ds.length = ps.length ∧ T { nx := fun _ => False, rt := fun s => s = .f (.list d) } (startE N ds)) : GFn P w K mg base (k + 1) f fd ps (GSp K g) := by
  obtain ⟨oc, od, kV, doc, pm, an, cdv, ct, osl, rfl, lk, hcd⟩ := F.ex
  refine gfn_of lk hcd S (fun vs H Q E ⟨F1, ds, d, s1, a, e, q⟩ => by rw [a.length]; exact (pure ds d e).1) fun A outer s H vs Q E pn hr ⟨F1, ds, d, s1, a, e, q⟩ => ?_
  obtain ⟨t, h1, h2⟩ := body cdv A outer s H E pn hr
  refine ⟨t, h1, h2 F1 H F1 H _ _ _ _ (startE_rel s1 a) (pure ds d e).2 fun σ' F' H' out ds' st z dn hrt => ?_⟩
  cases hrt
  exact q out F' H' st dn
structure CalG (P : Program) (w : World) (K : PySem.W.Frag) (mg : Str → Option Value) (base : Heap) (x : Str) (k : Nat) (sp : SpG) : Prop where
  ex : ∃ (fa : Addr) (fd : FuncData) (ps : List Str), GFn P w K mg base k fa fd ps sp ∧ mg x = some (.ref fa) ∧ PySem.W.keepIn K (.ref fa) = true ∧ Binds K fd ps []
end
section
variable {X : Cx} {e : Expr} {es : List Expr} {t : TA} {f : En → Option (List PyData)} {x nm : Str} {p p2 pos pos2 : Pos} {k j : Nat}
theorem pass_no : Passes (CX X.prog X.w) X fun _ _ _ => False := fun _ _ _ _ _ _ _ h => by
  obtain ⟨_, _, _, _, _, _, _, _, _, _, _, _, h⟩ := h
  exact h.elim
theorem dl_listG {g : List PyData → Option (List PyData)} (c : CalG X.prog X.w X.K X.mg X.base x k (GSp X.K g)) (hr : Room j X.A) (hm : X.mg nm = none) (hn : nm = "list") (ha : DA X (e :: es) t f) (hj : k + 3 ≤ j := by decide) (hg : Gl X x := by rfl) (hg2 : Gl X nm := by rfl) (hdb : (x == ("__debug__" : Str)) = false := by decide)
    (he : starEach (e :: es) X.env = (false, eval e X.env) :: starEach es X.env := by rfl) (hpl : (backTo pos (starEach es X.env)).any (·.1) = false := by rfl)
    (he2 : starEach [.Call (.Name x p) (e :: es) [] pos] X.env = (false, eval (.Call (.Name x p) (e :: es) [] pos) X.env) :: starEach [] X.env := by rfl) : DL X (.Call (.Name nm p2) [.Call (.Name x p) (e :: es) [] pos] [] pos2) (tListG (tCallG (GSp X.K g) [] (fun _ _ _ => False) t)) (fun ε => (f ε).bind g) := by
  subst hn
  obtain ⟨fa, fd, ps, G, h1, h2, h3⟩ := c.ex
  refine ⟨pe_listG (pgen_call G (hr.mono (by omega)) hg h1 h2 h3 .nil ha.p hdb he hpl) pass_no (fun _ _ _ h => h.elim) (hr.mono hj) hg2 hm (by rfl) (by decide) (by decide) he2, fun F H ε σ ds Q r e0 q => ?_⟩
  obtain ⟨as, e1, e2⟩ := Option.bind_eq_some_iff.mp e0
  refine ha.r F H ε σ as _ r e1 fun vs F1 H1 s1 d1 => ?_
  rw [List.append_nil]
  refine ⟨F1, as, ds, s1.s, d1, e2, fun out F2 H2 s2 d2 p hp => ?_⟩
  have st := (s1.trans s2)
  have n1 : H p = none := st.fr p hp
  have n2 : F2 p = none := st.s.free hp
  exact q p out F2 _ (st.trans (new_lst st.s hp).1) n1 n2 upd_same d2
end
section
variable {X : Cx} {st : Stmt} {body : List Stmt} {t : TS} {u : TGn} {T U : TD} {tg iter e : Expr} {wi : TI} {g : TG} {i : Nat} {f : En → Option (List PyData)} {yp pos pos1 : Pos}
structure GD (X : Cx) (body : List Stmt) (t : TGn) (T : TD) : Prop where
  p : GSs X body t
  r : RGS X.K t T
theorem gd_cons (a : DS X.nox st t T) (b : GD X body u U) : GD X (st :: body) (tGThen (tPlain t) u) (gSeq T U) := ⟨gss_cons (gs_ps (ps_nox a.p)) b.p, rgs_seq a.r b.r⟩
theorem gd_yld (hp : PassesOwn (model X.prog X.w) X.A X.env X.xe) (hc : X.calm = true) (hi : DI X tg iter wi f) (hg : DG X tg g (.nm i)) (he : PE X e (tVar i)) (hs : ∀ x, foldedSetIterable iter X.env x = pure x := by intro _; rfl)
    (hco : X.env.scope.isCoroutine = false := by rfl) (hin : interactive X.env = false := by rfl) : GD X [.For tg iter [.Expr (.Yield (some e) yp) pos1] [] pos] (tGThen (tGFor wi g (tGThen (tGYield (tVar i)) tG0)) tG0) (gYld f i) :=
  ⟨gss_cons (gs_for hp hc hi.p hg.p (gss_cons (gs_yield he hco hin) gss_nil) hs) gss_nil, rgs_yld hi.r hg.r⟩
end
end M


namespace M
open PySem PySem.Spec PyProof.Rows L2 PySem.Froz

/-! ### sets of texts: made from a list, sorted -/
def keyX (e : Int × Value) : Str := match e.2 with | .str k _ => k | _ => ⟨#[]⟩
structure SxOk (P : Program) (w : World) (D : SD) (l : List Str) : Prop where
  tx : TxOk P w D l
  good : ∀ e ∈ D.1.toList, ∃ u, e.2 = Value.str (keyX e) u
  perm : (D.1.toList.map keyX).Perm l
  ris : Ris D.2.2.place.toList
  led : w.params.followText "set-order" = true ∨ D.2.2.led = true
def SetX (P : Program) (w : World) (h : Heap) (a : Addr) (l : List Str) : Prop := ∃ D : SD, h.get? a = some (sObj "set" D) ∧ SxOk P w D l
section
variable {P : Program} {w : World} {A : Around} {E : Value → Shared → Prop} {s : Shared}
theorem SetX.at {h h' : Heap} {a : Addr} {l : List Str} (R : SetX P w h a l) (k : ∀ o, h.get? a = some o → h'.get? a = some o) : SetX P w h' a l := by
  obtain ⟨D, ho, r⟩ := R
  exact ⟨D, k _ ho, r⟩
theorem sx_tail {ep : Nat} {es1 : Array (Int × Value)} {t2 : SetTable} {wd : Bool} {l : List Str} (F : SxOk P w (es1, ep, t2) l) : SxOk P w (tailTx ep es1 t2 wd) l := by
  have T := tail_ok (wasDummy := wd) F.tx
  by_cases c : (!wd && t2.tooFull) = true
  · have e : tailTx ep es1 t2 wd = ((relayAll t2 es1 (SetTable.grown es1.size)).1, ep + 2, (relayAll t2 es1 (SetTable.grown es1.size)).2.1) := by unfold tailTx; rw [if_pos c]
    rw [e] at T ⊢
    have pm := relayAll_perm t2 es1 (SetTable.grown es1.size)
    exact ⟨T, fun x hx => F.good x (pm.mem_iff.mp hx), (pm.map keyX).trans F.perm, relayAll_ris t2 es1 _, F.led.imp id fun z => by rw [relayAll_led]; exact z⟩
  · have e : tailTx ep es1 t2 wd = (es1, ep + 1, t2) := by unfold tailTx; rw [if_neg c]
    rw [e] at T ⊢
    exact ⟨T, F.good, F.perm, F.ris, F.led⟩
theorem sx_add {D : SD} {l : List Str} {k : Str} (u : Tok) (F : SxOk P w D l) : SxOk P w (addTx (hashStr w k) (.str k u) D) (k :: l) := by
  obtain ⟨es, ep, t⟩ := D
  have hp := layNew_perm t es (hashStr w k) (.str k u)
  have hf := layNew_fits t es (hashStr w k) (.str k u)
  have hr := layNew_ris t es (hashStr w k) (.str k u) F.ris
  have hl := layNew_led t es (hashStr w k) (.str k u)
  show SxOk P w (tailTx ep (layNew t es (hashStr w k) (.str k u)).1 (if (layNew t es (hashStr w k) (.str k u)).2.1.plain = true then { (layNew t es (hashStr w k) (.str k u)).2.1 with plain := false } else (layNew t es (hashStr w k) (.str k u)).2.1) (layNew t es (hashStr w k) (.str k u)).2.2.1) (k :: l)
  have hp' := hp
  rw [Array.toList_push] at hp'
  refine sx_tail ⟨F.tx.push hp ?_, fun x hx => ?_, ?_, ?_, ?_⟩
  · by_cases c : (layNew t es (hashStr w k) (.str k u)).2.1.plain = true
    · rw [if_pos c]; exact SetTable.fits_plain_off hf
    · rw [if_neg c]; exact hf
  · rcases List.mem_append.mp (hp'.mem_iff.mp hx) with z | z
    · exact F.good x z
    · rw [List.mem_singleton.mp z]; exact ⟨u, rfl⟩
  · refine (hp'.map keyX).trans ?_
    rw [List.map_append]
    exact (List.perm_append_comm).trans (List.Perm.cons k F.perm)
  · by_cases c : (layNew t es (hashStr w k) (.str k u)).2.1.plain = true
    · rw [if_pos c]; exact hr
    · rw [if_neg c]; exact hr
  · refine F.led.imp id fun z => ?_
    by_cases c : (layNew t es (hashStr w k) (.str k u)).2.1.plain = true
    · rw [if_pos c]; exact hl.trans z
    · rw [if_neg c]; exact hl.trans z
theorem sx_nil {ep : Nat} : SxOk P w (#[], ep, .fresh 0 0 (!w.params.followText "set-order")) [] :=
  ⟨TxOk.nil (by rfl), fun e he => by simp at he, .nil, List.Pairwise.nil, by
    show _ ∨ (!w.params.followText "set-order") = true
    cases w.params.followText "set-order"
    · exact .inr rfl
    · exact .inl rfl⟩
/-- l holds the texts of ns, each once -/
structure SetOf (l ns : List Str) : Prop where
  nd : l.Nodup
  mem : ∀ z, z ∈ l ↔ z ∈ ns
  len : l.length ≤ ns.length
theorem SetOf.perm {l l' ns : List Str} (h : SetOf l ns) (p : l'.Perm l) : SetOf l' ns := ⟨p.nodup_iff.mpr h.nd, fun z => p.mem_iff.trans (h.mem z), by rw [p.length_eq]; exact h.len⟩
/-- a text that is there already -/
theorem add_old {P : Program} {w : World} {A : Around} {E : Value → Shared → Prop} {s : Shared} {a : Addr} {T : String} {D : SD} {l : List Str} {k : Str} {u : Tok} {Q : Bool → Shared → Prop} (ho : s.heap.get? a = some (sObj T D)) (F : TxOk P w D l) (hk : k ∈ l) (hb : l.length < scanBound)
    (h : Q false s) : wpAny (model P w) A (setAddHashed a (.str k u) (hashStr w k)) Q E s := by
  obtain ⟨es, ep, t⟩ := D
  have hd : (sObj T (es, ep, t)).data = .set es ep t := rfl
  have hf : t.fits es.size = true := F.fit
  have hel : ElemsOf (strKind P w) es.toList := F.el
  have hsz : es.size = l.length := F.sz
  have hb0 : es.size < scanBound := by omega
  have hkey : (strKind P w).is k (.str k u) = true := is_str k u
  obtain ⟨e, he, hp⟩ := (F.mem k).mp hk
  have hsome : ∃ j, List.findIdx? (fun e => (strKind P w).is k e.2) es.toList = some j := by
    cases hr : List.findIdx? (fun e => (strKind P w).is k e.2) es.toList with
    | some j => exact ⟨j, rfl⟩
    | none =>
      have := List.findIdx?_eq_none_iff.mp hr e he
      rw [hp] at this
      cases this
  obtain ⟨j, hj⟩ := hsome
  unfold setAddHashed setAddHashedIn
  refine wpAny_holding (wpAny_bind (wpAny_setState_of ho hd hf ?_))
  dsimp only
  rw [byScan_of rfl hb0 hel]
  simp only [↓reduceIte]
  unfold setAddByScan
  refine wpAny_bind ?_
  refine wpAny_bind (wpAny_rule ?_)
  refine wpAny_bind (wpAny_setScan_of (knd := strKind P w) (k := k) hkey ho hd hf hel ?_)
  rw [hj]
  dsimp only
  refine wpAny_pure ?_
  dsimp only
  exact wpAny_pure h
theorem set_update_texts {I : Addr} {fp wr : List Addr} {G : Array GenState → Array GenState → Prop} {n : Nat} {Pv : Nat → Value → Prop} {St : Nat → Shared → Prop} {R : Result → Shared → Prop}
    (W : WalksS P w A.in1 I fp wr G n Pv St) (S : Addr) (hSf : S ∉ fp) (ns : List Str) (hn : n = ns.length) (hb : ns.length + 1 < scanBound) (hval : ∀ i v, Pv i v → ∃ k t, ns[i]? = some k ∧ v = .str k t) :
    ∀ (k i : Nat) (s : Shared), n - i = k → i ≤ n → St i s → (∃ l, SetOf l (ns.take i) ∧ SetX P w s.heap S l) →
      (∀ s' l, Moved (S :: wr) G s s' → SetOf l ns → SetX P w s'.heap S l → R (.ok (.ret .none)) s') →
      codeAny (model P w) A (.builtin "set.update.loop" ⟨[.ref S, .ref I], []⟩) R s := by
  have hSw : S ∉ wr := fun h => hSf (W.sub _ h)
  have hsub : ∀ b ∈ wr, b ∈ S :: wr := fun b hb => List.mem_cons_of_mem _ hb
  intro k
  induction k with
  | zero =>
    intro i s hk' hi hst ⟨l, hl, hS⟩ hR
    have hin : i = n := by omega
    subst hin
    refine codeAny_builtin F.entry_set_update_loop ?_
    rw [Around.under_plainId F.plain_set_update_loop _]
    show wpAny _ A.in1 (pyNext (.ref I) >>= _) _ _ s
    refine wpAny_bind (W.done s _ _ hst fun s' hm => ?_)
    show wpAny _ A.in1 (ret Value.none) _ _ s'
    rw [List.take_of_length_le (by omega)] at hl
    exact wpAny_pure (hR s' l (hm.mono hsub) hl (hS.at fun o e => hm.heap S o hSw e))
  | succ k ih =>
    intro i s hk' hi hst ⟨l, hl, hS⟩ hR
    have hlt : i < n := by omega
    refine codeAny_builtin F.entry_set_update_loop ?_
    rw [Around.under_plainId F.plain_set_update_loop _]
    show wpAny _ A.in1 (pyNext (.ref I) >>= _) _ _ s
    refine wpAny_bind (W.item i s _ _ hlt hst fun v s' hP hst' hm => ?_)
    obtain ⟨z, t, hz, rfl⟩ := hval i v hP
    obtain ⟨D, hD, FD⟩ : SetX P w s'.heap S l := hS.at fun o e => hm.heap S o hSw e
    have hll : l.length + 1 < scanBound := by
      have := hl.len
      rw [List.length_take] at this
      omega
    have htk : ns.take (i + 1) = ns.take i ++ [z] := by rw [List.take_add_one, hz]; rfl
    show wpAny _ A.in1 (holding [Value.str z t] (setAdd S (.str z t)) >>= _) _ _ s'
    refine wpAny_bind (wpAny_holding ?_)
    unfold setAdd
    refine wpAny_holding ?_
    refine wpAny_bind ((strKind P w).pyHash (k := z) (is_str _ _) ?_)
    by_cases hzl : z ∈ l
    · refine add_old (s := { s' with toks := s'.toks + 1 }) hD FD.tx hzl (by omega) ?_
      have hS3 : ∃ l', SetOf l' (ns.take (i + 1)) ∧ SetX P w s'.heap S l' := by
        refine ⟨l, ⟨hl.nd, fun y => ?_, ?_⟩, _, hD, FD⟩
        · rw [htk, List.mem_append, List.mem_singleton, hl.mem y]
          constructor
          · exact .inl
          · rintro (h | rfl)
            · exact h
            · exact (hl.mem y).mp hzl
        · have := hl.len
          rw [htk, List.length_append]
          omega
      refine wpAny_pure ⟨plainId_quiet F.plain_set_update_loop _, ih (i + 1) _ (by omega) hlt (W.frame _ s' _ _ hst' (Nat.le_succ _) fun b hb o e => e) hS3 fun s'' l2 hm'' hl'' hS'' => ?_⟩
      exact hR s'' l2 (Moved.trans W.gtrans ((hm.mono hsub).then_heap (Nat.le_succ _) fun b o hb e => e) hm'') hl'' hS''
    · refine add_x (s := { s' with toks := s'.toks + 1 }) hD FD.tx hzl hll ?_
      have hget : (s'.heap.update S (fun _ => sObj "set" (addTx (hashStr w z) (.str z t) D))).get? S = some (sObj "set" (addTx (hashStr w z) (.str z t) D)) := get_upd _ hD rfl
      have hoth : ∀ b, b ≠ S → (s'.heap.update S (fun _ => sObj "set" (addTx (hashStr w z) (.str z t) D))).get? b = s'.heap.get? b := fun b hb => Heap.get?_update_other _ _ (Ne.symm hb)
      have hS3 : ∃ l', SetOf l' (ns.take (i + 1)) ∧ SetX P w (s'.heap.update S (fun _ => sObj "set" (addTx (hashStr w z) (.str z t) D))) S l' := by
        refine ⟨z :: l, ⟨List.nodup_cons.mpr ⟨hzl, hl.nd⟩, fun y => ?_, ?_⟩, _, hget, sx_add t FD⟩
        · rw [htk, List.mem_append, List.mem_singleton, List.mem_cons, hl.mem y, or_comm]
        · have := hl.len
          rw [htk, List.length_append, List.length_cons, List.length_singleton]
          omega
      refine wpAny_pure ⟨plainId_quiet F.plain_set_update_loop _, ih (i + 1) _ (by omega) hlt (W.frame _ s' _ _ hst' (Nat.le_succ _) fun b hb o e => ?_) hS3 fun s'' l2 hm'' hl'' hS'' => ?_⟩
      · rw [hoth b (fun h : b = S => hSf (by rw [← h]; exact hb))]; exact e
      · refine hR s'' l2 (Moved.trans W.gtrans ((hm.mono hsub).then_heap (Nat.le_succ _) fun b o hb e => ?_) hm'') hl'' hS''
        rw [hoth b (fun h : b = S => hb (by rw [h]; exact List.mem_cons_self))]; exact e
theorem code_set_led2 (a : Value) {Q₁ : Value → Shared → Prop}
    (h : Q₁ (.ref s.heap.objs.size) { s with heap := s.heap.push { cls := .type "set", dict := none, data := .set #[] 0 (.fresh 0 0 (!w.params.followText "set-order")) } }) :
    codeAny (model P w) A (.call (.builtin "set.__new__") ⟨[.type "set", a], []⟩) (wants Q₁ E) s := code_set_led1 a h
theorem call_set_lstT {l : Addr} {items : Array Value} (ns : List Str) {Q : Value → Shared → Prop} (hh : A.handled = none) (hl : s.heap.IsList l items) (hisz : items.size = ns.length) (hb : ns.length + 1 < scanBound)
    (hval : ∀ (i : Nat) (v : Value), items[i]? = some v → ∃ k t, ns[i]? = some k ∧ v = .str k t)
    (h : ∀ (h' : Heap) (tk : Nat) (l' : List Str), SetOf l' ns → SetX P w h' s.heap.objs.size l' → (∀ b o, s.heap.get? b = some o → h'.get? b = some o) → Q (.ref s.heap.objs.size) { s with heap := h', toks := tk }) :
    wpAny (model P w) A (call (.type "set") [.ref l]) Q E s := by
  obtain ⟨c, tl, hmro⟩ := F.called_set.mro
  have hmade := F.called_set.made
  have hsub := F.called_set.sub
  refine wpAny_call (codeAny_of_tree ?_)
  show wpAny _ _ (callAny (.type "set") _) _ _ _
  refine wpAny_pure ⟨Code.quiet_builtin _ (by decide +kernel), codeAny_builtin F.entry_type_call ?_⟩
  rw [Around.under_plain (weight_type_call_type "set" [.ref l] []) rfl]
  have h1 := F.called_set.notType
  have h2 := F.called_set.canCreate
  have hct := F.typeCall_set_1 (.ref l)
  repeat (any_goals (first | assumption | wp_step))

  refine codeAny_mono (code_set_led1 (.ref l) (E := E) (Q₁ := fun obj s₁ => obj = .ref s.heap.objs.size ∧ s₁ = { s with heap := s.heap.push { cls := .type "set", dict := none, data := .set #[] 0 (.fresh 0 0 (!w.params.followText "set-order")) } }) ⟨rfl, rfl⟩) fun r s₁ hr => ?_
  cases r with
  | error e => exact hr
  | ok fl =>
    cases fl with
    | ret obj =>
      obtain ⟨rfl, rfl⟩ := hr
      have hS : (s.heap.push { cls := .type "set", dict := none, data := .set #[] 0 (.fresh 0 0 (!w.params.followText "set-order")) }).get? s.heap.objs.size = some { cls := .type "set", dict := none, data := .set #[] 0 (.fresh 0 0 (!w.params.followText "set-order")) } := Heap.get?_push_size _ rfl
      have hT : Shared.TypeIs { s with heap := s.heap.push { cls := .type "set", dict := none, data := .set #[] 0 (.fresh 0 0 (!w.params.followText "set-order")) } } (.ref s.heap.objs.size) "set" := ⟨_, hS, rfl⟩
      have hli := F.called_set.init.lookup
      have hbi := F.called_set.init.bind (.ref s.heap.objs.size)
      repeat (any_goals (first | assumption | wp_step))

      refine codeAny_mono (codeAny_call_builtin (R := wants (fun r s₂ => r = .none ∧ ∃ h' tk l', s₂ = { s with heap := h', toks := tk } ∧ SetOf l' ns ∧ SetX P w h' s.heap.objs.size l' ∧
          (∀ b o, s.heap.get? b = some o → h'.get? b = some o)) E) F.called_set.init.plain F.entry_set_init (check_set_init_1 hT ?_)) fun r₂ s₂ hr₂ => ?_
      · obtain ⟨ol, hol, hcl, nl, hdl⟩ := hl
        obtain ⟨ocls, odict, odata, oslots⟩ := ol
        simp only at hcl hdl
        subst hcl; subst hdl
        have hol' : (s.heap.push { cls := .type "set", dict := none, data := .set #[] 0 (.fresh 0 0 (!w.params.followText "set-order")) }).get? l = some { cls := .type "list", dict := odict, data := .seq items nl, slots := oslots } := Heap.get?_push_of_some _ hol
        have hsls := F.sub_list_set
        have hslf := F.sub_list_frozenset
        have hne : (Value.type "list" == Value.type "dict") = false := by decide
        have hl1 : (s.heap.push { cls := .type "set", dict := none, data := .set #[] 0 (.fresh 0 0 (!w.params.followText "set-order")) }).IsList l items := ⟨_, hol', rfl, nl, rfl⟩
        unfold Builtin.«set.__init__» noKeywords Builtin.Frozenset.updateFrom
        generalize hPI : pyIter = PI
        wp_walk
        subst hPI

        refine wpAny_pyIter_list hl1 ?_
        refine wpAny_bind (wpAny_runValue ?_)
        have hlS : l < s.heap.objs.size := Heap.lt_size hol
        have hh3 : A.in1.in1.in1.handled = none := by simp [hh]
        have hz1 : (s.heap.push { cls := .type "set", dict := none, data := .set #[] 0 (.fresh 0 0 (!w.params.followText "set-order")) }).objs.size = s.heap.objs.size + 1 := Heap.size_push ..
        have hneI : l ≠ (s.heap.push { cls := .type "set", dict := none, data := .set #[] 0 (.fresh 0 0 (!w.params.followText "set-order")) }).objs.size := by
          rw [Heap.size_push]; exact Nat.ne_of_lt (Nat.lt_succ_of_lt hlS)
        have hSf : s.heap.objs.size ∉ [(s.heap.push { cls := .type "set", dict := none, data := .set #[] 0 (.fresh 0 0 (!w.params.followText "set-order")) }).objs.size, l] := by
          rw [Heap.size_push]; simp only [List.mem_cons, List.mem_singleton, List.not_mem_nil, or_false, not_or]
          exact ⟨Nat.ne_of_lt (Nat.lt_succ_self _), Nat.ne_of_gt hlS⟩
        refine set_update_texts ((Walks.list hh3 _ l hneI items).toS) s.heap.objs.size
          hSf ns hisz hb hval (items.size - 0) 0 _ (by omega) (Nat.zero_le _)
          ⟨⟨_, Heap.get?_push_size _ rfl, rfl, rfl⟩, (hl1.push _)⟩ ?hS0 ?hR
        case hS0 =>
          have hget : ((s.heap.push { cls := .type "set", dict := none, data := .set #[] 0 (.fresh 0 0 (!w.params.followText "set-order")) }).push { cls := .type "list_iterator", data := .fields #[.ref l, .int 0 0] }).get? s.heap.objs.size
              = some { cls := .type "set", dict := none, data := .set #[] 0 (.fresh 0 0 (!w.params.followText "set-order")) } := Heap.get?_push_of_some _ hS
          exact ⟨[], ⟨.nil, fun z => by simp, by simp⟩, (#[], 0, .fresh 0 0 (!w.params.followText "set-order")), hget, sx_nil⟩
        case hR =>
          intro s' l' hm hc' hS'
          obtain ⟨h', g2, d', tk', os'⟩ := s'
          have eg : g2 = s.gens := hm.gens
          have ed : d' = s.drawn := hm.drawn
          have eo : os' = s.os := hm.os
          subst eg; subst ed; subst eo
          show wpAny _ _ _ _ _ _
          refine wpAny_pure ?_
          show wpAny _ _ (ret Value.none) _ _ _
          refine wpAny_pure ⟨rfl, h', tk', l', rfl, hc', hS', fun b o e => ?_⟩
          have hb0 : b < s.heap.objs.size := Heap.lt_size e
          have hb1 : b ≠ s.heap.objs.size := Nat.ne_of_lt hb0
          have hb2 : b ≠ (s.heap.push { cls := .type "set", dict := none, data := .set #[] 0 (.fresh 0 0 (!w.params.followText "set-order")) }).objs.size := by
            rw [Heap.size_push]; exact Nat.ne_of_lt (Nat.lt_succ_of_lt hb0)
          exact hm.heap b o (by simp only [List.mem_cons, List.mem_singleton, List.not_mem_nil, or_false, not_or]; exact ⟨hb1, hb2⟩) (Heap.get?_push_of_some _ (Heap.get?_push_of_some _ e))

      · cases r₂ with
        | error e => exact hr₂
        | ok fl₂ =>
          cases fl₂ with
          | ret r =>
            obtain ⟨rfl, h', tk, l', rfl, hc', hS', hk'⟩ := hr₂
            repeat (any_goals (first | assumption | wp_step))
            exact h _ _ _ hc' hS' hk'
          | _ => exact hr₂.elim
    | _ => exact hr.elim
def valX (v : Value) : Str := match v with | .str k _ => k | _ => ⟨#[]⟩
theorem each_strs : ∀ {vs : List Value}, (∀ v ∈ vs, ∃ u, v = Value.str (valX v) u) → PySem.W.EachIs (fun v (k : Str) => ∃ u, v = Value.str k u) vs (vs.map valX)
  | [], _ => .nil
  | v :: vs, h => .cons (h v List.mem_cons_self) (each_strs fun x hx => h x (List.mem_cons_of_mem _ hx))
theorem each_reads_strs {h : Heap} : ∀ {vs : List Value}, (∀ v ∈ vs, ∃ u, v = Value.str (valX v) u) → ∀ a : Addr, PySem.W.EachIs (fun v (k : Str) => ∃ as, Reads h v (PyData.str k) as ∧ a ∉ as) vs (vs.map valX)
  | [], _, _ => .nil
  | v :: vs, h, a => by
    obtain ⟨u, e⟩ := h v List.mem_cons_self
    refine .cons ⟨[], ?_, by simp⟩ (each_reads_strs (fun x hx => h x (List.mem_cons_of_mem _ hx)) a)
    generalize valX v = k at e
    subst e
    exact .str _ _
theorem sorted_setX {a : Addr} {l : List Str} {Q : Value → Shared → Prop} (R : SetX P w s.heap a l) (hh : A.handled = none) (hu : A.units + 3 < cLine) (hb : l.length < scanBound)
    (hQ : ∀ s' p (out : Array Value) (c : Nat), (∀ b o, s.heap.get? b = some o → s'.heap.get? b = some o) → s'.gens = s.gens → s'.os = s.os → s.heap.objs.size ≤ p →
      s'.heap.get? p = some (seqObj "list" out c) → (∃ bs : List Str, bs.Perm l ∧ PySem.W.EachIs (fun v (k : Str) => ∃ u, v = Value.str k u) out.toList (bs.mergeSort (PySem.W.dataLe false PyData.str))) → Q (.ref p) s') :
    wpAny (model P w) A (call (.builtin "sorted") [.ref a]) Q E s := by
  obtain ⟨⟨es, ep, t⟩, ho, tx, good, perm, hr, hl⟩ := R
  have hf : t.fits es.size = true := tx.fit
  have hsz : es.size = l.length := tx.sz
  refine Calls.call_function_entry kind_sorted plain_sorted entry_sorted (args_sorted1 _) ?_
  unfold Builtin.«sorted»
  refine wpAny_bind (m := checkCount "sorted" 1 1 _) (wpAny_pure ?_)
  refine wpAny_bind (collect_set (A := A.in1) hh ⟨_, ho, rfl, rfl⟩ hf (by rw [hsz]; exact hb) hr hl fun s1 vs k1 hz g1 o1 pm => ?_)
  have hvl : vs.length = l.length := by rw [pm.length_eq, List.length_map, Array.length_toList]; exact hsz
  have hgv : ∀ v ∈ vs, ∃ u, v = Value.str (valX v) u := fun v hv => by
    obtain ⟨e, he, q⟩ := List.mem_map.mp (pm.mem_iff.mp hv)
    obtain ⟨u, hu⟩ := good e he
    rw [← q, hu]
    exact ⟨u, rfl⟩
  have hpm : (vs.map valX).Perm l := by
    have q := pm.map valX
    rw [List.map_map] at q
    exact q.trans perm
  have hbl : vs.length ≤ sizeLine := by rw [hvl]; exact fits_of_scanBound hb
  refine wpAny_bind (wpAny_newList ?_ hbl)
  have hoL : (s1.heap.push (seqObj "list" vs.toArray 0)).get? s1.heap.objs.size = some (seqObj "list" vs.toArray 0) := Heap.get?_push_size _ rfl
  refine wpAny_bind (wpAny_holding ?_)
  refine PySem.W.list_sort_data (enc := PyData.str) (bs := vs.map valX) (R := fun v (k : Str) => ∃ u, v = Value.str k u) hoL (each_strs hgv) (each_reads_strs hgv _) (PySem.W.AllAlike.of fun b b' => by rfl) (PySem.W.Sortable.others fun b => ⟨by simp, by simp⟩) (by rw [List.length_map]; exact hbl) (fun b _ => ?_) fun out ho1 ho2 => ?_
  · show A.units + 1 + 1 + (PyData.str b).depth < cLine
    have : (PyData.str b).depth = 0 := by simp [PyData.depth]
    omega
  · obtain ⟨c, hc⟩ := sortedHeap_at (vs := vs) (out := out.toArray) hoL
    refine wpAny_pure ⟨_, rfl, hQ _ s1.heap.objs.size out.toArray c (fun b u e => ?_) g1 o1 hz hc ⟨vs.map valX, hpm, ho2⟩⟩
    have q := k1 b u e
    have hlt := Heap.lt_size q
    show (sortedHeap (s1.heap.push (seqObj "list" vs.toArray 0)) s1.heap.objs.size vs out.toArray).get? b = some u
    rw [sortedHeap_old (Nat.ne_of_lt hlt) (by rw [size_push']; exact Nat.lt_succ_of_lt hlt)]
    exact Heap.get?_push_of_some _ q
end
theorem vals_strs : ∀ {vs : List Value} {l : List Str}, PySem.W.EachIs (fun v (k : Str) => ∃ u, v = Value.str k u) vs l → Vals (l.map V.str) vs
  | _, _, .nil => .nil
  | _, _, .cons ⟨u, e⟩ t => .cons ⟨u, e⟩ (vals_strs t)
theorem strs_at : ∀ {us : List Value} {l : List Str}, Vals (l.map V.str) us → ∀ (i : Nat) (v : Value), us[i]? = some v → ∃ k t, l[i]? = some k ∧ v = Value.str k t
  | [], _, _, i, v, h => by simp at h
  | u :: us, [], r, _, _, _ => by cases r
  | u :: us, k :: l, r, i, v, h => by
    cases r with
    | cons a b =>
      cases i with
      | zero =>
        cases h
        obtain ⟨t, e⟩ := a
        exact ⟨k, t, rfl, e⟩
      | succ i => exact strs_at (l := l) b i v h
def tSS (K : PySem.W.Frag) (ta : TE) : TE := fun σ H Q => ta σ H fun x H1 => ∃ (a : Addr) (ks : List Str), x = .ref a ∧ SqL K H1 a (ks.map V.str) ∧ ks.length + 1 < scanBound ∧
  ∀ p, H1 p = none → ∀ bs : List Str, SetOf bs ks → Q (.ref p) (upd H1 p (.lst ((bs.mergeSort (PySem.W.dataLe false PyData.str)).map V.str)))
section
variable {X : Cx} {e : Expr} {ta : TE} {p p2 pos pos2 : Pos} {j : Nat}
theorem pe_sset (hr : Room j X.A) (hc : X.calm = true) (he : PE X e ta) (m1 : X.mg "sorted" = none) (m2 : X.mg "set" = none) (hg1 : Gl X "sorted" := by rfl) (hg2 : Gl X "set" := by rfl) (hs : starEach [e] X.env = (false, eval e X.env) :: starEach [] X.env := by rfl)
    (hs2 : starEach [.Call (.Name "set" p2) [e] [] pos2] X.env = (false, eval (.Call (.Name "set" p2) [e] [] pos2) X.env) :: starEach [] X.env := by rfl) : PE X (.Call (.Name "sorted" p) [.Call (.Name "set" p2) [e] [] pos2] [] pos) (tSS X.K ta) := by
  refine ⟨fun pins s σ H Q I h => ?_⟩
  refine wpAny_Call_Name_kw (ld_blt I hg1 m1 (by rfl) ?_ (by decide) (by decide))
  refine PyProof.Rows.callWith_builtin1 ?_ hs2 rfl
  rw [hs2]
  show wpAny _ _ (spliced ((false, eval (.Call (.Name "set" p2) [e] [] pos2) X.env) :: backTo pos (starEach [] X.env))) _ _ s
  refine Calls.spliced_cons ?_
  refine wpAny_Call_Name_kw (ld_blt I hg2 m2 PyProof.Rows.boot_set ?_ (by decide) (by decide))
  refine PyProof.Rows.callWith_type1 ?_ hs rfl
  rw [hs]
  show wpAny _ _ (spliced ((false, eval e X.env) :: backTo pos2 (starEach [] X.env))) _ _ s
  refine Calls.spliced_cons (thn (he.run pins s σ H _ I h) fun u s1 h1 => ?_)
  obtain ⟨x, H1, I1, rx, a, ks, ex, hq, hl, q⟩ := h1
  subst ex
  obtain rfl : u = Value.ref a := rx
  refine Calls.spliced_nil ?_
  obtain ⟨its, rv, pt, hz⟩ := I1.list hq
  have hd := I1.ok.hd hc
  have hlen : its.length = ks.length := by rw [← rv.length, List.length_map]
  refine call_set_lstT (items := its.toArray) ks hd pt.isList (by rw [List.size_toArray]; exact hlen) hl (fun i v hv => strs_at rv i v (by rw [List.getElem?_toArray] at hv; exact hv)) fun h' tk l' hp hS kp => ?_
  refine Calls.spliced_nil ?_
  have hll : l'.length < scanBound := by have := hp.len; omega
  refine sorted_setX (s := { s1 with heap := h', toks := tk }) hS hd (by have := hr.units; omega) hll fun s3 p3 out c k3 g3 o3 hle hp3 hbs => ?_
  obtain ⟨bs, hbp, hEach⟩ := hbs
  have kall : ∀ b u, s1.heap.get? b = some u → s3.heap.get? b = some u := fun b u e => k3 b u (kp b u e)
  have hsz : s1.heap.objs.size ≤ p3 := Nat.le_trans (Nat.le_of_lt (by obtain ⟨D, ho, _⟩ := hS; exact Heap.lt_size ho)) hle
  have hn : H1 p3 = none := I1.hok.fresh hsz
  refine ⟨.ref p3, _, I1.drained (ex := []) hsz ?_ hp3 (vals_strs hEach) ExOk.nil o3 (by rw [g3]; exact I1.bare) (Un.kept kall) (I1.hok.kept kall) hn, rfl, q p3 hn bs (hp.perm hbp)⟩
  rw [List.length_map, List.length_mergeSort, hbp.length_eq]
  have : its.length + 1 < 4096 := by rw [hlen]; exact hl
  have := hp.len
  exact szl _ (by omega)
end
/-- each once -/
def dd : List (List Nat) → List (List Nat)
  | [] => []
  | x :: xs => if x ∈ xs then dd xs else x :: dd xs
theorem mem_dd {z : List Nat} : ∀ {xs : List (List Nat)}, z ∈ dd xs ↔ z ∈ xs
  | [] => Iff.rfl
  | x :: xs => by
    unfold dd
    have ih := mem_dd (z := z) (xs := xs)
    split
    · rename_i h
      rw [ih, List.mem_cons]
      exact ⟨.inr, fun q => q.elim (fun e => by rw [e]; exact h) id⟩
    · rw [List.mem_cons, List.mem_cons, ih]
theorem dd_nodup : ∀ xs : List (List Nat), (dd xs).Nodup
  | [] => .nil
  | x :: xs => by
    unfold dd
    split
    · exact dd_nodup xs
    · rename_i h
      exact List.nodup_cons.mpr ⟨fun q => h (mem_dd.mp q), dd_nodup xs⟩
theorem dd_len : ∀ xs : List (List Nat), (dd xs).length ≤ xs.length
  | [] => Nat.le_refl _
  | x :: xs => by
    unfold dd
    have := dd_len xs
    split
    · rw [List.length_cons]; omega
    · rw [List.length_cons, List.length_cons]; omega
theorem dd_of {xs : List (List Nat)} (h : xs.Nodup) : dd xs = xs := by
  induction xs with
  | nil => rfl
  | cons x xs ih =>
    obtain ⟨h1, h2⟩ := List.nodup_cons.mp h
    rw [dd, if_neg h1, ih h2]
theorem perm_of_same {α : Type} [BEq α] [LawfulBEq α] {xs ys : List α} (h1 : xs.Nodup) (h2 : ys.Nodup) (h : ∀ z, z ∈ xs ↔ z ∈ ys) : xs.Perm ys := by
  rw [List.perm_iff_count]
  intro z
  by_cases hz : z ∈ xs
  · have a := List.count_pos_iff.mpr hz
    have b := List.count_pos_iff.mpr ((h z).mp hz)
    have c := List.nodup_iff_count.mp h1 z
    have d := List.nodup_iff_count.mp h2 z
    omega
  · rw [List.count_eq_zero_of_not_mem hz, List.count_eq_zero_of_not_mem fun q => hz ((h z).mpr q)]
/-- the sorted list of a set of texts -/
def ssetL : PyData → Option (List PyData)
  | .list ds => (deTs ds).bind fun ls => if ls.length ≤ 4000 then some ((sortT (dd ls)).map S) else none
  | _ => none
theorem ssetL_dd {ls : List (List Nat)} (hl : ls.length ≤ 4000) : ssetL (.list (ls.map S)) = some ((sortT (dd ls)).map S) := by
  rw [ssetL, deTs_S, Option.bind_some, if_pos hl]
theorem ssetL_S {ls : List (List Nat)} (h : ls.Nodup) (hl : ls.length ≤ 4000) : ssetL (.list (ls.map S)) = some ((sortT ls).map S) := by
  rw [ssetL_dd hl, dd_of h]
theorem setOf_perm {bs : List Str} {ls : List (List Nat)} (h : SetOf bs (ls.map mkS)) : bs.Perm ((dd ls).map mkS) := by
  have e : (bs.map fun s : Str => s.cps.toList).Perm (dd ls) := by
    refine perm_of_same ?_ (dd_nodup ls) fun z => ?_
    · refine List.pairwise_map.mpr (h.nd.imp fun {a b} hne q => hne ?_)
      rw [mkS_eta a, mkS_eta b, q]
    · rw [mem_dd, List.mem_map]
      constructor
      · rintro ⟨b, hb, rfl⟩
        obtain ⟨l, hl, q⟩ := List.mem_map.mp ((h.mem b).mp hb)
        rw [← q, mkS_toList]; exact hl
      · intro hz
        exact ⟨mkS z, (h.mem _).mpr (List.mem_map.mpr ⟨z, hz, rfl⟩), mkS_toList z⟩
  have := e.map mkS
  rw [List.map_map] at this
  have q : (mkS ∘ fun s : Str => s.cps.toList) = id := funext fun s => (mkS_eta s).symm
  rwa [q, List.map_id] at this
theorem dn_texts {K : PySem.W.Frag} {F : Hp} : ∀ {ls : List (List Nat)} {vs : List V}, DnAll K F vs (ls.map S) → vs = (ls.map mkS).map V.str ∧ ∀ l ∈ ls, PyData.strOk (mkS l) = true
  | [], vs, h => by cases h; exact ⟨rfl, fun _ h => by cases h⟩
  | l :: ls, vs, h => by
    cases h with
    | cons a b =>
      obtain ⟨e, h2⟩ := dn_texts b
      cases a with
      | str _ hz =>
        refine ⟨by rw [e]; rfl, fun x hx => ?_⟩
        rcases List.mem_cons.mp hx with rfl | hx
        · exact hz
        · exact h2 x hx
theorem texts_dn {K : PySem.W.Frag} {F : Hp} : ∀ {ls : List (List Nat)}, (∀ l ∈ ls, PyData.strOk (mkS l) = true) → DnAll K F ((ls.map mkS).map V.str) (ls.map S)
  | [], _ => .nil
  | l :: ls, h => .cons (.str _ (h l List.mem_cons_self)) (texts_dn fun x hx => h x (List.mem_cons_of_mem _ hx))
theorem sorted_strs {bs : List Str} {ls : List (List Nat)} (h : bs.Perm (ls.map mkS)) : bs.mergeSort (PySem.W.dataLe false PyData.str) = (sortT ls).map mkS := by
  have hle : PySem.W.dataLe false PyData.str = fun a b : Str => leT a.cps.toList b.cps.toList := PySem.W.dataLe_str (β := Str) fun k => k
  have e1 : (bs.mergeSort (PySem.W.dataLe false PyData.str)).map (fun s : Str => s.cps.toList) = sortT ls := by
    refine sorted_uniq ?_ ?_ (sortT_sorted ls)
    · refine ((List.mergeSort_perm _ _).map _).trans ((h.map _).trans ?_)
      rw [List.map_map]
      have : (ls.map ((fun s : Str => s.cps.toList) ∘ mkS)) = ls := by
        rw [show ((fun s : Str => s.cps.toList) ∘ mkS) = id from funext fun l => mkS_toList l, List.map_id]
      rw [this]
      exact (sortT_perm ls).symm
    · rw [List.pairwise_map, hle]
      exact List.pairwise_mergeSort (le := fun a b : Str => leT a.cps.toList b.cps.toList) (fun a b c => leT_trans a.cps.toList b.cps.toList c.cps.toList) (fun a b => leT_total a.cps.toList b.cps.toList) bs
  rw [← e1, List.map_map]
  have : (mkS ∘ fun s : Str => s.cps.toList) = id := funext fun s => (mkS_eta s).symm
  rw [this, List.map_id]
section
variable {X : Cx} {e : Expr} {te : TE} {fe : En → Option PyData} {p p2 pos pos2 : Pos} {j : Nat} {n1 n2 : Str}
theorem dl_sset (hr : Room j X.A) (hc : X.calm = true) (he : DB X e te fe) (m1 : X.mg n1 = none) (m2 : X.mg n2 = none) (e1 : n1 = "sorted") (e2 : n2 = "set") (hg1 : Gl X n1 := by rfl) (hg2 : Gl X n2 := by rfl) (hs : starEach [e] X.env = (false, eval e X.env) :: starEach [] X.env := by rfl)
    (hs2 : starEach [.Call (.Name n2 p2) [e] [] pos2] X.env = (false, eval (.Call (.Name n2 p2) [e] [] pos2) X.env) :: starEach [] X.env := by rfl) : DL X (.Call (.Name n1 p) [.Call (.Name n2 p2) [e] [] pos2] [] pos) (tSS X.K te) (fun ε => (fe ε).bind ssetL) := by
  subst e1; subst e2
  refine ⟨pe_sset hr hc he.p m1 m2 hg1 hg2 hs hs2, fun F H ε σ ds Q r e0 q => ?_⟩
  obtain ⟨d, e1, e2⟩ := Option.bind_eq_some_iff.mp e0
  refine he.r F H ε σ d _ r e1 fun v F1 H1 s1 bd => ?_
  unfold ssetL at e2
  split at e2
  · rename_i ds'
    obtain ⟨ls, e3, e4⟩ := Option.bind_eq_some_iff.mp e2
    split at e4
    · rename_i hcond
      cases e4
      obtain ⟨a, vs, rfl, hv, av⟩ := bd.items s1.s
      rw [deTs_eq e3] at av
      obtain ⟨rfl, hok⟩ := dn_texts av
      refine ⟨a, ls.map mkS, rfl, hv, ?_, fun p' hp' bs hbs => ?_⟩
      · rw [List.length_map]
        show ls.length + 1 < 4096
        omega
      · rw [sorted_strs (setOf_perm hbs)]
        have n1 : H p' = none := s1.fr p' hp'
        exact q p' _ F1 _ (s1.trans (new_lst s1.s hp').1) n1 (s1.s.free hp') upd_same (texts_dn fun l hl => hok l (mem_dd.mp ((sortT_perm _).mem_iff.mp hl)))
    · cases e4
  · cases e2
end
end M


namespace M
open PySem PySem.Spec PyProof.Rows L2

/-! ### list(text), tuple(text) -/
def signsV (z : Str) : List V := z.cps.toList.map fun c => V.str ⟨#[c]⟩
theorem vals_get : ∀ {xs : List V} {us : List Value}, xs.length = us.length → (∀ (i : Nat) (v : Value), us[i]? = some v → ∃ x, xs[i]? = some x ∧ RelV x v) → Vals xs us
  | [], [], _, _ => .nil
  | x :: xs, u :: us, hl, h => by
    obtain ⟨x', e, r⟩ := h 0 u rfl
    cases e
    exact .cons r (vals_get (by simpa using hl) fun i v hv => h (i + 1) v hv)
  | [], _ :: _, hl, _ => by cases hl
  | _ :: _, [], hl, _ => by cases hl
theorem signs_vals {z : Str} {acc : Array Value} (h : ItemsOf (SignAt z) acc z.cps.size) : Vals (signsV z) acc.toList := by
  refine vals_get (by unfold signsV; rw [List.length_map, Array.length_toList, Array.length_toList]; exact h.1.symm) fun i v hv => ?_
  rw [Array.getElem?_toList] at hv
  obtain ⟨c, u, e1, e2⟩ := h.2 i v hv
  refine ⟨.str ⟨#[c]⟩, ?_, ⟨u, e2⟩⟩
  unfold signsV
  rw [List.getElem?_map, Array.getElem?_toList, e1]; rfl
theorem signs_dn {K : PySem.W.Frag} {F : Hp} {z : Str} (h : PyData.strOk z = true) : DnAll K F (signsV z) (z.cps.toList.map fun c => .str ⟨#[c]⟩) := by
  have key : ∀ l : List Nat, (∀ c ∈ l, c < 0x110000) → DnAll K F (l.map fun c => V.str ⟨#[c]⟩) (l.map fun c => PyData.str ⟨#[c]⟩) := by
    intro l
    induction l with
    | nil => intro _; exact .nil
    | cons c l ih =>
      intro h
      exact .cons (.str _ (strOk_iff.mpr (by simpa using h c List.mem_cons_self))) (ih fun x hx => h x (List.mem_cons_of_mem _ hx))
  exact key _ (strOk_iff.mp h)
section
variable {X : Cx}
def listSL : List PyData → Option (List PyData)
  | [.str z] => if z.length ≤ sizeLine then some (z.cps.toList.map fun c => .str ⟨#[c]⟩) else none
  | ds => listL ds
@[simp] theorem listSL_list (ds : List PyData) : listSL [.list ds] = some ds := rfl
@[simp] theorem listSL_tuple (ds : List PyData) : listSL [.tuple ds] = some ds := rfl
@[simp] theorem listSL_str (l : List Nat) (h : l.length ≤ 16777216) : listSL [.str (mkS l)] = some (l.map fun c => .str (mkS [c])) := by
  rw [listSL, if_pos (by rw [mkS_length]; exact h), mkS_toList]; rfl
theorem cr_listS (hc : X.calm = true) : CallR X (.type "list") (rGCL X.K listSL) := by
  intro pins s σ H xs us Q I r ⟨F, ds, d, s1, hb, e, k⟩
  unfold listSL at e
  split at e
  · rename_i z
    obtain ⟨v, rfl, h⟩ := hb.one
    split at e
    · rename_i hz
      cases e
      obtain ⟨rfl, o⟩ := h.str
      obtain ⟨u, rfl, rx⟩ := vals1 r
      obtain ⟨t, rfl⟩ := rx
      refine call_list_str (I.ok.hd hc) z t (fun h' tk acc c' kp hS ha => ?_) hz
      have hn : H s.heap.objs.size = none := I.hok.fresh (Nat.le_refl _)
      obtain ⟨st, nf, hp'⟩ := new_lst (vs := signsV z) s1 hn
      refine ⟨.ref _, _, I.laid (t' := tk) kp (Nat.le_refl _) (show ObjOk X.prog X.w _ h' _ (.lst (signsV z)) from ⟨?_, acc.toList, c', signs_vals ha, ?_⟩), rfl, k _ (signsV z) F _ st hn nf hp' (signs_dn o)⟩
      · unfold signsV; rw [List.length_map, Array.length_toList]; exact hz
      · rw [Array.toArray_toList]; exact hS
    · cases e
  · exact cr_list pins s σ H xs us Q I r ⟨F, ds, d, s1, hb, e, k⟩
def tupleSD : List PyData → Option PyData
  | [.str z] => if z.length ≤ sizeLine ∧ z.length ≠ 0 then some (.tuple (z.cps.toList.map fun c => .str ⟨#[c]⟩)) else none
  | ds => tupleD ds
@[simp] theorem tupleSD_list (ds : List PyData) : tupleSD [.list ds] = some (.tuple ds) := rfl
@[simp] theorem tupleSD_tuple (ds : List PyData) : tupleSD [.tuple ds] = some (.tuple ds) := rfl
@[simp] theorem tupleSD_str (l : List Nat) (h : l.length ≤ 16777216) (h' : l.length ≠ 0) : tupleSD [.str (mkS l)] = some (.tuple (l.map fun c => .str (mkS [c]))) := by
  rw [tupleSD, if_pos (by rw [mkS_length]; exact ⟨h, h'⟩), mkS_toList]; rfl
theorem cr_tupleS (hc : X.calm = true) : CallR X (.type "tuple") (rGC X.K tupleSD) := by
  intro pins s σ H xs us Q I r ⟨F, ds, d, s1, hb, e, k⟩
  unfold tupleSD at e
  split at e
  · rename_i z
    obtain ⟨v, rfl, h⟩ := hb.one
    split at e
    · rename_i hz
      cases e
      obtain ⟨rfl, o⟩ := h.str
      obtain ⟨u, rfl, rx⟩ := vals1 r
      obtain ⟨t, rfl⟩ := rx
      refine call_tuple_str (I.ok.hd hc) z t (fun h' tk acc kp ha => ?_) hz.1
      have I1 : Inv X pins σ H { s with heap := h' } := I.kept (t' := s.toks) kp
      have hl : (signsV z).length ≤ sizeLine := by unfold signsV; rw [List.length_map, Array.length_toList]; exact hz.1
      have I2 : Inv X pins σ (upd H h'.objs.size (.tup (signsV z))) { s with heap := h'.push { cls := .type "tuple", data := .seq acc }, toks := tk } :=
        I1.laid (t' := tk) (fun b o e => Heap.get?_push_of_some _ e) (Nat.le_refl _) (show ObjOk X.prog X.w _ _ _ (.tup (signsV z)) from ⟨hl, acc.toList, signs_vals ha, by rw [Array.toArray_toList]; exact IsTup.new _ _⟩)
      obtain ⟨st, dn⟩ := new_tup s1 (I1.hok.fresh (Nat.le_refl _)) (signs_dn (K := X.K) (F := F) o)
      exact ⟨.ref h'.objs.size, _, I2, rfl, k _ _ _ st dn⟩
    · cases e
  · exact cr_tuple pins s σ H xs us Q I r ⟨F, ds, d, s1, hb, e, k⟩
end
end M
namespace M
open PySem PySem.Spec PyProof.Rows L2
@[simp ↓] theorem augP_e {i : Nat} {g : Int → Int → Int} {fk fe : En → Option PyData} {R : DEnds} {ε : En} : augP i g fk fe R ε = exO (getS i ε) (fun s => exO s (fun s => exO (fk ε) (fun k => match s, k with
    | .o ds, .int k => exO (ixN ds.length k) (fun j => exO ds[j]? (fun a => exO (fe ε) (fun b => match a, b with | .int a, .int b => atE (ε.set i (some (.o (ds.set j (.int (g a b)))))) R.nx ⟨⟩ | _, _ => False) ⟨⟩) ⟨⟩) ⟨⟩
    | _, _ => False) ⟨⟩) ⟨⟩) ⟨⟩ := by
  simp only [augP, exO, atE, getS]
  rw [eq_iff_iff]
  constructor
  · rintro ⟨ds, k, j, a, b, h1, h2, h3, h4, h5, h6⟩
    exact ⟨_, h1, _, rfl, _, h2, _, h3, _, h4, _, h5, h6⟩
  · rintro ⟨s, h1, s', h2, k, h3, h4⟩
    subst h2
    split at h4
    · obtain ⟨j, h5, a, h6, b, h7, h8⟩ := h4
      split at h8
      · exact ⟨_, _, j, _, _, h1, h3, h5, h6, h7, h8⟩
      · exact h8.elim
    · exact h4.elim
theorem ixN_nat {n : Nat} {k : Int} (h0 : 0 ≤ k) (h : k < n) : ixN n k = some k.toNat := by
  unfold ixN
  rw [if_pos h0, if_pos (by omega)]
end M

/-! ### methods of texts -/
namespace M
open PySem PySem.Spec PyProof.Rows L2
def joinL (sep : List Nat) : List (List Nat) → List Nat
  | [] => []
  | [x] => x
  | x :: y :: r => x ++ sep ++ joinL sep (y :: r)
theorem join_mk (sep : List Nat) : ∀ ls : List (List Nat), Txt.join (mkS sep) (ls.map mkS) = mkS (joinL sep ls) := by
  have key : ∀ ls : List (List Nat), Str.join (mkS sep) (ls.map mkS) = mkS (joinL sep ls) := by
    intro ls
    induction ls with
    | nil => rfl
    | cons x r ih =>
      cases r with
      | nil => rfl
      | cons y r =>
        show mkS x ++ mkS sep ++ Str.join (mkS sep) ((y :: r).map mkS) = _
        rw [ih, mkS_app, mkS_app]; rfl
  intro ls
  rw [← key]
  exact eq_of_beq (join_plain_closes _ _)
theorem joinL_nil : ∀ ls : List (List Nat), joinL [] ls = ls.flatten
  | [] => rfl
  | [x] => by simp [joinL]
  | x :: y :: r => by rw [joinL, joinL_nil (y :: r)]; simp
theorem joinL_mem {sep : List Nat} : ∀ {ls : List (List Nat)} {c : Nat}, c ∈ joinL sep ls → c ∈ sep ∨ ∃ l ∈ ls, c ∈ l
  | [], _, h => by cases h
  | [x], c, h => .inr ⟨x, List.mem_singleton.mpr rfl, h⟩
  | x :: y :: r, c, h => by
    rw [joinL, List.mem_append, List.mem_append] at h
    rcases h with (h | h) | h
    · exact .inr ⟨x, by simp, h⟩
    · exact .inl h
    · rcases joinL_mem h with h | ⟨l, h1, h2⟩
      · exact .inl h
      · exact .inr ⟨l, List.mem_cons_of_mem _ h1, h2⟩
/-- sep.join(texts) -/
def joinD : G2
  | .str sep, .list ds => (deTs ds).bind fun ls => if (ls.map (·.length)).sum + ls.length * sep.length ≤ 16777216 then some (.str (mkS (joinL sep.cps.toList ls))) else none
  | .str sep, .tuple ds => (deTs ds).bind fun ls => if (ls.map (·.length)).sum + ls.length * sep.length ≤ 16777216 then some (.str (mkS (joinL sep.cps.toList ls))) else none
  | _, _ => none
theorem joinD_S (sep : List Nat) (ls : List (List Nat)) (h : (ls.map (·.length)).sum + ls.length * sep.length ≤ 16777216) : joinD (.str (mkS sep)) (.list (ls.map S)) = some (.str (mkS (joinL sep ls))) := by
  rw [joinD, deTs_S, Option.bind_some, mkS_length, if_pos h, mkS_toList]
theorem joinD_T (sep : List Nat) (ls : List (List Nat)) (h : (ls.map (·.length)).sum + ls.length * sep.length ≤ 16777216) : joinD (.str (mkS sep)) (.tuple (ls.map S)) = some (.str (mkS (joinL sep ls))) := by
  rw [joinD, deTs_S, Option.bind_some, mkS_length, if_pos h, mkS_toList]
section
variable {X : Cx} {o e : Expr} {to te : TE} {fo fe : En → Option PyData} {apos cpos : Pos}
theorem map_len (ls : List (List Nat)) : ((ls.map mkS).map fun x => x.length) = ls.map fun x => x.length := by
  rw [List.map_map]; exact List.map_congr_left fun l _ => mkS_length l
theorem join_ok {sep : Str} {ls : List (List Nat)} (h1 : PyData.strOk sep = true) (h2 : ∀ l ∈ ls, PyData.strOk (mkS l) = true) : PyData.strOk (mkS (joinL sep.cps.toList ls)) = true :=
  strOk_mk fun c hc => by
    rcases joinL_mem hc with h | ⟨l, hl, hm⟩
    · exact strOk_iff.mp h1 c h
    · exact strOk_iff.mp (h2 l hl) c (by rw [mkS_toList]; exact hm)
theorem de_join (ho : DB X o to fo) (he : DB X e te fe)
    (hbase : attributeBase o "join" X.env (eval o X.env) = eval o X.env := by rfl)
    (hfew : ((backTo cpos (starEach [e] X.env)).all (fun x => !x.1) && (backToKw cpos (keywordEach [] X.env)).all (fun x => x.1.isSome)
      && decide ([e].length + ([] : List Keyword).length + (if ([] : List Keyword).isEmpty then 0 else 1) < 30)) = true := by rfl)
    (hline : (apos.endLine == cpos.line) = true := by rfl) (hs : starEach [e] X.env = (false, eval e X.env) :: starEach [] X.env := by rfl) (hplain : (backTo cpos (starEach [] X.env)).any (·.1) = false := by rfl) :
    DE X (.Call (.Attribute o "join" apos) [e] [] cpos) (tBM X.K "str" (fun x xs H Q => ∃ a p, ∃ ys : List Str, x = .str a ∧ xs = [.ref p] ∧ (SqL X.K H p (ys.map V.str) ∨ SqT X.K H p (ys.map V.str)) ∧
    (ys.map (·.length)).sum + ys.length * a.length ≤ 16777216 ∧ Q (.str (Txt.join a ys)) H) to (tCons te tNil)) (dOp joinD fo fe) :=
  ⟨pe_bm PySem.F.plainAttrs_str PySem.F.slot_str_join PySem.F.type_str_join mt_join ho.p (pa_cons he.p pa_nil hs) hbase hfew hline hs hplain, fun F H ε σ d Q r e1 k => by
    obtain ⟨a, e2, e3⟩ := Option.bind_eq_some_iff.mp e1
    obtain ⟨b, e4, e5⟩ := Option.bind_eq_some_iff.mp e3
    refine ho.r F H ε σ a _ r e2 fun v F1 H1 s1 d1 => ?_
    unfold joinD at e5
    split at e5
    · rename_i sep ds
      obtain ⟨ls, e6, e7⟩ := Option.bind_eq_some_iff.mp e5
      obtain ⟨rfl, o1⟩ := d1.str
      split at e7
      · rename_i hz
        cases e7
        refine ⟨rfl, he.r F1 H1 ε σ _ _ (r.step s1) e4 fun w F2 H2 s2 d2 => ?_⟩
        obtain ⟨p, vs, rfl, hv, av⟩ := d2.items s2.s
        rw [deTs_eq e6] at av
        obtain ⟨rfl, ok⟩ := dn_texts av
        refine ⟨sep, p, ls.map mkS, rfl, rfl, .inl hv, by rw [map_len, List.length_map]; exact hz, ?_⟩
        have := join_mk sep.cps.toList ls
        rw [← mkS_eta sep] at this
        rw [this]
        exact k _ F2 H2 (s1.trans s2) (.str _ (join_ok o1 ok))
      · cases e7
    · rename_i sep ds
      obtain ⟨ls, e6, e7⟩ := Option.bind_eq_some_iff.mp e5
      obtain ⟨rfl, o1⟩ := d1.str
      split at e7
      · rename_i hz
        cases e7
        refine ⟨rfl, he.r F1 H1 ε σ _ _ (r.step s1) e4 fun w F2 H2 s2 d2 => ?_⟩
        obtain ⟨p, vs, rfl, _, hv, av⟩ := d2.itemsT s2.s
        rw [deTs_eq e6] at av
        obtain ⟨rfl, ok⟩ := dn_texts av
        refine ⟨sep, p, ls.map mkS, rfl, rfl, .inr hv, by rw [map_len, List.length_map]; exact hz, ?_⟩
        have := join_mk sep.cps.toList ls
        rw [← mkS_eta sep] at this
        rw [this]
        exact k _ F2 H2 (s1.trans s2) (.str _ (join_ok o1 ok))
      · cases e7
    · cases e5⟩
/-- text.count(sign) -/
def countD : G2
  | .str x, .str y => (sign1 y).map fun c => .int ((x.cps.toList.count c : Nat) : Int)
  | _, _ => none
theorem cnt_count (c : Nat) : ∀ l : List Nat, cnt c l = ((l.count c : Nat) : Int)
  | [] => rfl
  | n :: l => by
    rw [cnt_cons, cnt_count c l, List.count_cons]
    by_cases h : n = c
    · subst h; simp; omega
    · have : (n == c) = false := by simpa using h
      simp [h, this]
theorem countD_S (l : List Nat) (c : Nat) : countD (.str (mkS l)) (.str (mkS [c])) = some (.int ((l.count c : Nat) : Int)) := by
  rw [countD, sign1_mk, mkS_toList]; rfl
theorem de_count (ho : DB X o to fo) (he : DB X e te fe)
    (hbase : attributeBase o "count" X.env (eval o X.env) = eval o X.env := by rfl)
    (hfew : ((backTo cpos (starEach [e] X.env)).all (fun x => !x.1) && (backToKw cpos (keywordEach [] X.env)).all (fun x => x.1.isSome)
      && decide ([e].length + ([] : List Keyword).length + (if ([] : List Keyword).isEmpty then 0 else 1) < 30)) = true := by rfl)
    (hline : (apos.endLine == cpos.line) = true := by rfl) (hs : starEach [e] X.env = (false, eval e X.env) :: starEach [] X.env := by rfl) (hplain : (backTo cpos (starEach [] X.env)).any (·.1) = false := by rfl) :
    DE X (.Call (.Attribute o "count" apos) [e] [] cpos) (tBM X.K "str" (fun x xs H Q => ∃ a b, x = .str a ∧ xs = [.str b] ∧ Q (.int (Txt.count a b)) H) to (tCons te tNil)) (dOp countD fo fe) :=
  ⟨pe_bm PySem.F.plainAttrs_str PySem.F.slot_str_count PySem.F.type_str_count mt_count ho.p (pa_cons he.p pa_nil hs) hbase hfew hline hs hplain, fun F H ε σ d Q r e1 k => by
    obtain ⟨a, e2, e3⟩ := Option.bind_eq_some_iff.mp e1
    obtain ⟨b, e4, e5⟩ := Option.bind_eq_some_iff.mp e3
    refine ho.r F H ε σ a _ r e2 fun v F1 H1 s1 d1 => ?_
    unfold countD at e5
    split at e5
    · rename_i x y
      obtain ⟨c, e6, rfl⟩ := Option.map_eq_some_iff.mp e5
      obtain ⟨rfl, o1⟩ := d1.str
      refine ⟨rfl, he.r F1 H1 ε σ _ _ (r.step s1) e4 fun w F2 H2 s2 d2 => ?_⟩
      obtain ⟨rfl, o2⟩ := d2.str
      have hy : y = ⟨#[c]⟩ := by
        unfold sign1 at e6
        split at e6
        · rename_i c' hc'
          cases e6
          obtain ⟨yc⟩ := y
          congr 1
          exact Array.toList_inj.mp hc'
        · cases e6
      subst hy
      refine ⟨x, _, rfl, rfl, ?_⟩
      rw [count_cnt, cnt_count]
      exact k _ F2 H2 (s1.trans s2) (.int _)
    · cases e5⟩
end
end M


namespace M
open PySem PySem.Spec PyProof.Rows L2

/-! ### dicts of a def's own: keys that are ints and texts -/
def keyEq : PyData → PyData → Bool
  | .str a, .str b => a == b
  | .int a, .int b => a == b
  | _, _ => false
def lookD (kvs : List (PyData × PyData)) (k : PyData) : Option PyData := (kvs.find? fun p => keyEq p.1 k).map (·.2)
def putD (kvs : List (PyData × PyData)) (k v : PyData) : List (PyData × PyData) :=
  if (kvs.any fun p => keyEq p.1 k) = true then kvs.map (fun p => if keyEq p.1 k = true then (p.1, v) else p) else kvs ++ [(k, v)]
def isKeyD : PyData → Bool
  | .str _ => true
  | .int _ => true
  | _ => false
section
variable {K : PySem.W.Frag} {F : Hp}
theorem dn_key {v : V} {d : PyData} (h : Dn K F v d) (hk : isKeyD d = true) : ∃ k : Key, v = kV k := by
  cases h with
  | int i => exact ⟨.inl i, rfl⟩
  | str x _ => exact ⟨.inr x, rfl⟩
  | _ => cases hk
theorem key_is {k : Key} {e : PyData} (h : Dn K F (kV k) e) : (∃ s, k = .inr s ∧ e = .str s) ∨ ∃ i, k = .inl i ∧ e = .int i := by
  cases k with
  | inl i => cases h; exact .inr ⟨i, rfl, rfl⟩
  | inr s => cases h; exact .inl ⟨s, rfl, rfl⟩
theorem keyEq_dec {k j : Key} {e f : PyData} (h : Dn K F (kV k) e) (h' : Dn K F (kV j) f) : keyEq e f = decide (k = j) := by
  rcases key_is h with ⟨s, rfl, rfl⟩ | ⟨s, rfl, rfl⟩ <;> rcases key_is h' with ⟨t, rfl, rfl⟩ | ⟨t, rfl, rfl⟩
  · simp only [keyEq, Sum.inr.injEq]; rw [Bool.eq_iff_iff]; simp
  · simp [keyEq]
  · simp [keyEq]
  · simp only [keyEq, Sum.inl.injEq]; rw [Bool.eq_iff_iff]; simp
theorem kv_look {j : Key} {f : PyData} (h' : Dn K F (kV j) f) : ∀ {vs : List (Key × V)} {ds : List (PyData × PyData)}, DnKv K F vs ds →
    (lookD ds f = none ∧ valV vs j = none) ∨ ∃ d v, lookD ds f = some d ∧ valV vs j = some v ∧ Dn K F v d
  | _, _, .nil => .inl ⟨rfl, rfl⟩
  | (k, v) :: vs, (e, d) :: ds, .cons a b c => by
    have q := keyEq_dec a h'
    by_cases hk : k = j
    · refine .inr ⟨d, v, ?_, valV_pos hk, b⟩
      rw [decide_eq_true hk] at q
      unfold lookD
      rw [List.find?_cons, q]; rfl
    · rw [decide_eq_false hk] at q
      have e1 : lookD ((e, d) :: ds) f = lookD ds f := by
        unfold lookD
        rw [List.find?_cons]
        simp only [q]
      rw [e1, valV_neg hk]
      exact kv_look h' c
theorem kv_any {j : Key} {f : PyData} (h' : Dn K F (kV j) f) : ∀ {vs : List (Key × V)} {ds : List (PyData × PyData)}, DnKv K F vs ds → (vs.any fun kv => decide (kv.1 = j)) = ds.any fun p => keyEq p.1 f
  | _, _, .nil => rfl
  | (k, v) :: vs, (e, d) :: ds, .cons a b c => by
    rw [List.any_cons, List.any_cons, kv_any h' c, keyEq_dec a h']
theorem kv_map {j : Key} {f : PyData} (h' : Dn K F (kV j) f) {y : V} {d' : PyData} (hy : Dn K F y d') : ∀ {vs : List (Key × V)} {ds : List (PyData × PyData)}, DnKv K F vs ds →
    DnKv K F (vs.map fun kv => if kv.1 = j then (kv.1, y) else kv) (ds.map fun p => if keyEq p.1 f = true then (p.1, d') else p)
  | _, _, .nil => .nil
  | (k, v) :: vs, (e, d) :: ds, .cons a b c => by
    rw [List.map_cons, List.map_cons]
    have q := keyEq_dec a h'
    by_cases hk : k = j
    · rw [decide_eq_true hk] at q
      simp only [hk, q, if_true]
      subst hk
      exact .cons a hy (kv_map h' hy c)
    · rw [decide_eq_false hk] at q
      simp only [hk, q, if_false, Bool.false_eq_true]
      exact .cons a b (kv_map h' hy c)
theorem kv_snoc {j : Key} {f : PyData} (h' : Dn K F (kV j) f) {y : V} {d' : PyData} (hy : Dn K F y d') : ∀ {vs : List (Key × V)} {ds : List (PyData × PyData)}, DnKv K F vs ds → DnKv K F (vs ++ [(j, y)]) (ds ++ [(f, d')])
  | _, _, .nil => .cons h' hy .nil
  | _, _, .cons a b c => .cons a b (kv_snoc h' hy c)
theorem kv_put {j : Key} {f : PyData} (h' : Dn K F (kV j) f) {y : V} {d' : PyData} (hy : Dn K F y d') {vs : List (Key × V)} {ds : List (PyData × PyData)} (h : DnKv K F vs ds) : DnKv K F (putK vs j y) (putD ds f d') := by
  unfold putK putD
  rw [kv_any h' h]
  split
  · exact kv_map h' hy h
  · exact kv_snoc h' hy h
end
section
variable {X : Cx} {a b e : Expr} {ta tb te : TE} {fa fb fe : En → Option PyData} {pos spos p1 : Pos}
/-- d[k] -/
def dgetD : G2
  | .dict kvs, k => if isKeyD k = true then lookD kvs k else none
  | _, _ => none
theorem de_dget (hu : X.A.units + 1 < cLine) (ha : DB X a ta fa) (hb : DE X b tb fb) (hs : NoSl b := by exact fun _ _ => rfl) : DE X (.Subscript a b pos) (tDGet ta tb) (dOp dgetD fa fb) :=
  ⟨pe_dget hu ha.p hb.p hs, fun F H ε σ d Q r e1 q => by
    obtain ⟨d0, e2, e3⟩ := Option.bind_eq_some_iff.mp e1
    obtain ⟨k, e4, e5⟩ := Option.bind_eq_some_iff.mp e3
    refine ha.r F H ε σ d0 _ r e2 fun x F1 H1 s1 d1 => hb.r F1 H1 ε σ k _ (r.step s1) e4 fun y F2 H2 s2 d2 => ?_
    unfold dgetD at e5
    split at e5
    · rename_i kvs
      split at e5
      · rename_i hk
        obtain ⟨p, vs, rfl, hv, av⟩ := (d1.step s2).entries s2.s
        obtain ⟨j, rfl⟩ := dn_key d2 hk
        rcases kv_look d2 av with ⟨h1, _⟩ | ⟨d', v, h1, h2, h3⟩
        · rw [h1] at e5; cases e5
        · rw [h1] at e5
          cases e5
          exact ⟨p, v, rfl, h2 ▸ DGet.k hv, q v F2 H2 (s1.trans s2) h3⟩
      · cases e5
    · cases e5⟩
/-- k in d -/
def dinD : G2
  | k, .dict kvs => if isKeyD k = true then some (.bool (lookD kvs k).isSome) else none
  | _, _ => none
def dninD : G2
  | k, .dict kvs => if isKeyD k = true then some (.bool (!(lookD kvs k).isSome)) else none
  | _, _ => none
theorem re_din {K : PySem.W.Frag} (ha : RE K ta fa) (hb : RB K tb fb) : RE K (tDIn ta tb) (dOp dinD fa fb) := fun F H ε σ d Q r e1 q => by
  obtain ⟨k, e2, e3⟩ := Option.bind_eq_some_iff.mp e1
  obtain ⟨d0, e4, e5⟩ := Option.bind_eq_some_iff.mp e3
  refine ha F H ε σ k _ r e2 fun y F1 H1 s1 d1 => hb F1 H1 ε σ d0 _ (r.step s1) e4 fun x F2 H2 s2 d2 => ?_
  unfold dinD at e5
  split at e5
  · rename_i kvs
    split at e5
    · rename_i hk
      cases e5
      obtain ⟨p, vs, rfl, hv, av⟩ := d2.entries s2.s
      obtain ⟨j, rfl⟩ := dn_key d1 hk
      refine ⟨p, _, rfl, DGet.k hv, ?_⟩
      rcases kv_look (d1.mv s2.f) av with ⟨h1, h2⟩ | ⟨d', v, h1, h2, _⟩
      · rw [h2]; rw [h1] at q; exact q _ F2 H2 (s1.trans s2) (.bl _)
      · rw [h2]; rw [h1] at q; exact q _ F2 H2 (s1.trans s2) (.bl _)
    · cases e5
  · cases e5
theorem re_dnin {K : PySem.W.Frag} (ha : RE K ta fa) (hb : RB K tb fb) : RE K (tDNotIn ta tb) (dOp dninD fa fb) := fun F H ε σ d Q r e1 q => by
  obtain ⟨k, e2, e3⟩ := Option.bind_eq_some_iff.mp e1
  obtain ⟨d0, e4, e5⟩ := Option.bind_eq_some_iff.mp e3
  refine ha F H ε σ k _ r e2 fun y F1 H1 s1 d1 => hb F1 H1 ε σ d0 _ (r.step s1) e4 fun x F2 H2 s2 d2 => ?_
  unfold dninD at e5
  split at e5
  · rename_i kvs
    split at e5
    · rename_i hk
      cases e5
      obtain ⟨p, vs, rfl, hv, av⟩ := d2.entries s2.s
      obtain ⟨j, rfl⟩ := dn_key d1 hk
      refine ⟨p, _, rfl, DGet.k hv, ?_⟩
      rcases kv_look (d1.mv s2.f) av with ⟨h1, h2⟩ | ⟨d', v, h1, h2, _⟩
      · rw [h2]; rw [h1] at q; exact q _ F2 H2 (s1.trans s2) (.bl _)
      · rw [h2]; rw [h1] at q; exact q _ F2 H2 (s1.trans s2) (.bl _)
    · cases e5
  · cases e5
theorem de_din (hu : X.A.units + 1 < cLine) (ha : DE X a ta fa) (hb : DB X b tb fb) (hm : behindInMarks .In b = false) : DE X (.Compare a [.In] [b] pos) (tDIn ta tb) (dOp dinD fa fb) :=
  ⟨pe_cmp (pc_din hu ha.p hb.p) hm, re_din ha.r hb.r⟩
theorem de_dnin (hu : X.A.units + 1 < cLine) (ha : DE X a ta fa) (hb : DB X b tb fb) (hm : behindInMarks .NotIn b = false) : DE X (.Compare a [.NotIn] [b] pos) (tDNotIn ta tb) (dOp dninD fa fb) :=
  ⟨pe_cmp (pc_dnotin hu ha.p hb.p) hm, re_dnin ha.r hb.r⟩
theorem dt_din (hu : X.A.units + 1 < cLine) (ha : DE X a ta fa) (hb : DB X b tb fb) (hm : behindInMarks .In b = false) : DT X (.Compare a [.In] [b] pos) (tB (tDIn ta tb)) (fun ε => boolOf (dOp dinD fa fb ε)) :=
  ⟨pt_cmp (pc_din hu ha.p hb.p) hm, fun F H ε σ k Q r e q => re_din ha.r hb.r F H ε σ (.bool k) _ r (boolOf_some e) fun v F' H' s d => ⟨k, dn_bool d, q F' H' s⟩⟩
theorem dt_dnin (hu : X.A.units + 1 < cLine) (ha : DE X a ta fa) (hb : DB X b tb fb) (hm : behindInMarks .NotIn b = false) : DT X (.Compare a [.NotIn] [b] pos) (tB (tDNotIn ta tb)) (fun ε => boolOf (dOp dninD fa fb ε)) :=
  ⟨pt_cmp (pc_dnotin hu ha.p hb.p) hm, fun F H ε σ k Q r e q => re_dnin ha.r hb.r F H ε σ (.bool k) _ r (boolOf_some e) fun v F' H' s d => ⟨k, dn_bool d, q F' H' s⟩⟩
/-- {} -/
theorem new_dk {F H : Hp} {p : Addr} (s : Lies F H) (n : H p = none) : Step F H F (upd H p (.dK [])) ∧ F p = none := ⟨step_new s n, s.free n⟩
theorem dx_dnew : DX X (.Dict [] [] pos) tDNewK (fun _ => some (.od [])) := ⟨pe_dnewK, fun F H ε σ s Q r e k => by
  cases e
  intro p hp
  obtain ⟨st, nf⟩ := new_dk r.sub hp
  exact k _ F _ st ⟨⟨p, [], rfl, upd_same, nf, .nil⟩, fun p' _ z => by cases z; exact hp⟩⟩
/-- d[k] = v -/
def dDPut (i : Nat) (fk fe : En → Option PyData) : TD := fun R ε => ∃ kvs d k, fe ε = some d ∧ ε[i]? = some (some (.od kvs)) ∧ fk ε = some k ∧ isKeyD k = true ∧ kvs.length < sizeLine ∧ R.nx (ε.set i (some (.od (putD kvs k d))))
theorem ds_dput (i : Nat) {x : Str} {k : Expr} {tk : TE} {fk : En → Option PyData} (hu : X.A.units + 1 < cLine) (he : DE X e te fe) (hk : DE X k tk fk) (hN : X.N[i]? = some x := by rfl) (hv : Vis X.env.scope x := by first | exact Or.inl rfl | exact Or.inr (Or.inl rfl) | exact Or.inr (Or.inr rfl)) (hd : (x == ("__debug__" : Str)) = false := by decide)
    (hcd : (x == ("__classdict__" : Str)) = false := by decide) (hs : swapsWith e (some (.Subscript (.Name x p1) k spos)) pos.line X.env = pure false := by rfl) :
    DS X (.Assign [.Subscript (.Name x p1) k spos] e pos) (sDPut (tVar i) tk te) (dDPut i fk fe) :=
  ⟨ps_dput hu (pe_var hN hv hd hcd) hk.p he.p hs, fun F0 H0 F H ε σ R D r ⟨kvs, d, k, e1, e2, e3, e4, e5, h'⟩ c => by
    obtain ⟨v, h1, h2⟩ := r.e.sl _ _ e2
    obtain ⟨p, vs, rfl, hp, hF, al⟩ := h2
    refine he.r F H ε σ d _ r.e e1 fun y F1 H1 s1 d1 => ⟨_, h1, hk.r F1 H1 ε σ _ _ (r.e.step s1) e3 fun z F2 H2 s2 d2 => ?_⟩
    have s := s1.trans s2
    obtain ⟨j, rfl⟩ := dn_key d2 e4
    refine ⟨p, _, rfl, DPut.k (s.h _ _ hp) (by rw [DnKv.length al]; exact e5), ?_⟩
    exact c.nx _ _ _ _ ((r.step s).put (s' := .od (putD kvs k d)) e2 h1 rfl rfl ⟨p, _, rfl, upd_same, s.n _ _ hp hF, kv_put d2 (d1.mv s2.f) (al.mv s.f)⟩) s.f h'⟩
end
@[simp ↓] theorem dDPut_e {i : Nat} {fk fe : En → Option PyData} {R : DEnds} {ε : En} : dDPut i fk fe R ε = exO (fe ε) (fun d => exO (getS i ε) (fun s => exO s (fun s => exO (fk ε) (fun k => match s with
    | .od kvs => isKeyD k = true ∧ kvs.length < sizeLine ∧ atE (ε.set i (some (.od (putD kvs k d)))) R.nx ⟨⟩
    | _ => False) ⟨⟩) ⟨⟩) ⟨⟩) ⟨⟩ := by
  simp only [dDPut, exO, atE, getS]
  rw [eq_iff_iff]
  constructor
  · rintro ⟨kvs, d, k, h1, h2, h3, h4, h5, h6⟩
    exact ⟨d, h1, _, h2, _, rfl, k, h3, h4, h5, h6⟩
  · rintro ⟨d, h1, s, h2, s', h3, k, h4, h5⟩
    subst h3
    split at h5
    · exact ⟨_, d, k, h1, h2, h4, h5.1, h5.2.1, h5.2.2⟩
    · exact h5.elim
section
variable {X : Cx}
/-- sorted, of dicts with text keys too -/
def sortedSL : List PyData → Option (List PyData)
  | [.dict kvs] => (deTs (kvs.map (·.1))).bind fun ls => if ls.length ≤ 16777216 then some ((sortT ls).map S) else none
  | [.tuple ds] => (deTs ds).bind fun ls => if ls.length ≤ 16777216 then some ((sortT ls).map S) else none
  | ds => sortedL ds
@[simp] theorem sortedSL_list (ds : List PyData) : sortedSL [.list ds] = sortedL [.list ds] := rfl
end
end M
namespace M
open PySem PySem.Spec PyProof.Rows L2
theorem rising_pw : ∀ (r : List Str) (x : Str), risingS x r = true → (x :: r).Pairwise fun a b => leT a.cps.toList b.cps.toList = true
  | [], x, _ => List.pairwise_singleton _ _
  | y :: r, x, h => by
    unfold risingS at h
    rw [Bool.and_eq_true] at h
    have ih := rising_pw r y h.2
    have hxy : leT x.cps.toList y.cps.toList = true := by
      have := h.1
      rw [ltCps_eq] at this
      unfold leT
      rw [decide_eq_true_eq]
      intro q
      rw [decide_eq_true q] at this
      cases this
    refine List.pairwise_cons.mpr ⟨fun z hz => ?_, ih⟩
    rcases List.mem_cons.mp hz with rfl | hz
    · exact hxy
    · exact leT_trans _ _ _ hxy ((List.pairwise_cons.mp ih).1 z hz)
theorem sortedS_pw {l : List Str} (h : sortedS l = true) : l.Pairwise fun a b => leT a.cps.toList b.cps.toList = true := by
  cases l with
  | nil => exact .nil
  | cons x r => exact rising_pw r x h
theorem sortedS_is {ys : List Str} {ls : List (List Nat)} (h : ys.Perm (ls.map mkS)) (hs : sortedS ys = true) : ys = (sortT ls).map mkS := by
  have e1 : ys.map (fun s : Str => s.cps.toList) = sortT ls := by
    refine sorted_uniq ((h.map _).trans ?_) (List.pairwise_map.mpr (sortedS_pw hs)) (sortT_sorted ls)
    rw [List.map_map, show ((fun s : Str => s.cps.toList) ∘ mkS) = id from funext fun l => mkS_toList l, List.map_id]
    exact (sortT_perm ls).symm
  rw [← e1, List.map_map, show (mkS ∘ fun s : Str => s.cps.toList) = id from funext fun s => (mkS_eta s).symm, List.map_id]
section
variable {X : Cx}
theorem kv_texts {K : PySem.W.Frag} {F : Hp} : ∀ {vs : List (Key × V)} {kvs : List (PyData × PyData)} {ls : List (List Nat)}, DnKv K F vs kvs → deTs (kvs.map (·.1)) = some ls → vs.map (·.1) = (ls.map mkS).map Sum.inr ∧ ∀ l ∈ ls, PyData.strOk (mkS l) = true
  | _, _, ls, .nil, e => by cases e; exact ⟨rfl, fun _ h => by cases h⟩
  | _, _, ls, .cons (k := k) (e := e0) a b c, e => by
    rw [List.map_cons] at e
    obtain ⟨l, e1, e2⟩ := Option.bind_eq_some_iff.mp e
    obtain ⟨ls', e3, rfl⟩ := Option.map_eq_some_iff.mp e2
    obtain ⟨h1, h2⟩ := kv_texts c e3
    have e4 := deT_eq e1
    simp only at e4
    subst e4
    rcases key_is a with ⟨s, rfl, q⟩ | ⟨i, rfl, q⟩
    · cases q
      have ho : PyData.strOk (mkS l) = true := by
        cases a with
        | str _ ho => exact ho
      refine ⟨by rw [List.map_cons, h1]; rfl, fun x hx => ?_⟩
      rcases List.mem_cons.mp hx with rfl | hx
      · exact ho
      · exact h2 x hx
    · cases q
/-- what each text's value is -/
theorem eachT_of : ∀ {us : List Value} {ls : List (List Nat)}, StrsAre us (ls.map mkS) → PySem.W.EachIs (fun v (l : List Nat) => ∃ t, v = .str (mkS l) t) us ls
  | [], [], _ => .nil
  | u :: us, l :: ls, h => by
    cases h with
    | cons n t hr => exact .cons ⟨_, rfl⟩ (eachT_of hr)
  | [], _ :: _, h => by cases h
  | _ :: _, [], h => by cases h
theorem eachT_vals : ∀ {us : List Value} {ls : List (List Nat)}, PySem.W.EachIs (fun v (l : List Nat) => ∃ t, v = .str (mkS l) t) us ls → Vals ((ls.map mkS).map V.str) us
  | _, _, .nil => .nil
  | _, _, .cons ⟨t, e⟩ r => .cons ⟨t, e⟩ (eachT_vals r)
/-- sorted(d), keys all texts, however many -/
theorem call_sortedDA (hcalm : X.calm = true) (hu : X.A.units + 64 < cLine) : CallR X (.builtin "sorted") (fun xs H Q => ∃ (a : Addr) (kvs : List (Key × V)) (ls : List (List Nat)), xs = [.ref a] ∧ Rd H a (.dK kvs) ∧ kvs.map (·.1) = (ls.map mkS).map Sum.inr ∧ ls.length ≤ sizeLine ∧
    ∀ p, H p = none → Q (.ref p) (upd H p (.lst (((sortT ls).map mkS).map V.str)))) := by
  intro pins s σ H xs us Q I r q
  obtain ⟨a, kvs, ls, ex, hd, hks, hz, q⟩ := q
  subst ex
  rcases us with _ | ⟨u, us'⟩
  · cases r
  cases r with | cons rx rr => ?_
  cases rr
  cases rx
  obtain ⟨z, lo, vs, rel, dd⟩ := dk_rd I.hok hd
  obtain ⟨ep, hat⟩ := dd.dictAt
  have hkeys : vs.map (·.1) = (ls.map mkS).map Sum.inr := rel.keys.symm.trans hks
  have hl : vs.length = (ls.map mkS).length := by
    have e := congrArg List.length hkeys
    rw [List.length_map, List.length_map] at e
    exact e
  have hl2 : vs.length = ls.length := by rw [hl, List.length_map]
  have h16 : vs.length ≤ sizeLine := by rw [hl2]; exact hz
  refine Calls.call_function_entry PyProof.Rows.kind_sorted PyProof.Rows.plain_sorted PyProof.Rows.entry_sorted (PyProof.Rows.args_sorted1 _) ?_
  unfold Builtin.«sorted»
  refine wpAny_bind (m := checkCount "sorted" 1 1 _) (wpAny_pure ?_)
  refine wpAny_bind (PySem.W.kdu_collect (A := X.A.in1) (PySem.W.kdl_dict (knd := mixKind X.prog X.w) (kvs := vs) (ep := ep) lo) (I.ok.hd hcalm) hat h16 fun h' tk acc hk hacc => ?_)
  have hal : acc.toList.length = (ls.map mkS).length := by rw [Array.length_toList, hacc.1, hl]
  have hS : StrsAre acc.toList (ls.map mkS) := L2.strs_at hal fun j v e => by
    obtain ⟨k, x, e1, e2⟩ := hacc.2 j v (by rw [← Array.getElem?_toList]; exact e)
    have e3 : (vs.map (·.1))[j]? = some k := by rw [List.getElem?_map, e1]; all_goals rfl
    rw [hkeys, List.getElem?_map] at e3
    cases e4 : (ls.map mkS)[j]? with
    | none => rw [e4] at e3; cases e3
    | some y =>
      rw [e4] at e3
      have e5 : Sum.inr y = k := Option.some.inj e3
      subst e5
      obtain ⟨t, ev⟩ := Value.isStrOf_shape (x := y) (v := v) e2
      exact ⟨y, t, rfl, ev⟩
  have I1 : Inv X pins σ H { s with heap := h', toks := tk } := I.kept hk
  refine wpAny_bind (wpAny_newList ?_ (by rw [hal, List.length_map]; exact hz))
  have hoL : (h'.push (seqObj "list" acc.toList.toArray 0)).get? h'.objs.size = some (seqObj "list" acc.toList.toArray 0) := Heap.get?_push_size _ rfl
  show wpAny _ _ _ _ _ { s with heap := h'.push (seqObj "list" acc.toList.toArray 0), toks := tk }
  have eT := eachT_of hS
  have eR : PySem.W.EachIs (fun v (l : List Nat) => ∃ as, Reads (h'.push (seqObj "list" acc.toList.toArray 0)) v (PyData.str (mkS l)) as ∧ h'.objs.size ∉ as) acc.toList ls := eT.mono fun v l ⟨t, e⟩ => ⟨[], by rw [e]; exact .str _ _, by simp⟩
  obtain ⟨g1, g2, _⟩ := srt_alike (srtOk_S ls)
  refine wpAny_bind (wpAny_holding (PySem.W.list_sort_data (s := { s with heap := h'.push (seqObj "list" acc.toList.toArray 0), toks := tk }) (enc := fun l => PyData.str (mkS l)) hoL eT eR g1 g2 hz (fun b _ => ?_) fun out ho he => ?_))
  · have : (PyData.str (mkS b)).depth ≤ 1 := by unfold PyData.depth; omega
    show X.A.units + 1 + 1 + _ < cLine
    omega
  · have hsrt : ls.mergeSort (PySem.W.dataLe false fun l => PyData.str (mkS l)) = sortT ls := by
      unfold sortT
      congr 1
      funext a b
      exact dataLe_S a b
    rw [hsrt] at he
    obtain ⟨e', he'⟩ := PyProof.Rows.sortedHeap_at (vs := acc.toList) (out := out.toArray) hoL
    have hlen : (((sortT ls).map mkS).map V.str).length ≤ sizeLine := by
      rw [List.length_map, List.length_map, (sortT_perm ls).length_eq]
      exact hz
    refine wpAny_pure ⟨_, rfl, .ref h'.objs.size, upd H h'.objs.size (.lst (((sortT ls).map mkS).map V.str)), I1.laid (t' := tk) (fun b u e => ?_) (Nat.le_refl _)
      (show ObjOk X.prog X.w _ _ _ (.lst (((sortT ls).map mkS).map V.str)) from ⟨hlen, out, e', eachT_vals he, he'⟩), rfl, q _ (I1.hok.fresh (Nat.le_refl _))⟩
    have hb : b < h'.objs.size := Heap.lt_size e
    rw [PyProof.Rows.sortedHeap_old (Nat.ne_of_lt hb) (by rw [size_push']; exact Nat.lt_succ_of_lt hb)]
    exact Heap.get?_push_of_some _ e
theorem texts_of {K : PySem.W.Frag} {F : Hp} : ∀ {vs : List V} {ls : List (List Nat)}, DnAll K F vs (ls.map S) → vs = (ls.map mkS).map V.str ∧ ∀ l ∈ ls, PyData.strOk (mkS l) = true
  | _, [], .nil => ⟨rfl, fun _ h => nomatch h⟩
  | _, l :: ls, .cons h a => by
    obtain ⟨e, g⟩ := texts_of a
    cases h with
    | str _ ho => exact ⟨by rw [e]; rfl, fun x hx => (List.mem_cons.mp hx).elim (fun z => by rw [z]; exact ho) (g x)⟩
theorem call_sortedTA (hcalm : X.calm = true) (hu : X.A.units + 64 < cLine) : CallR X (.builtin "sorted") (fun xs H Q => ∃ (a : Addr) (ls : List (List Nat)), xs = [.ref a] ∧ SqT X.K H a ((ls.map mkS).map V.str) ∧ ls.length ≤ sizeLine ∧
    ∀ p, H p = none → Q (.ref p) (upd H p (.lst (((sortT ls).map mkS).map V.str)))) := by
  intro pins s σ H xs us Q I r q
  obtain ⟨a, ls, ex, hd, hz, q⟩ := q
  subst ex
  rcases us with _ | ⟨u, us'⟩
  · cases r
  cases r with | cons rx rr => ?_
  cases rr
  cases rx
  obtain ⟨its, rv, ht, hz'⟩ := I.tuple hd
  obtain ⟨o, ho, hc, n, hdt⟩ := id ht
  have hal0 : its.length = ls.length := by have := rv.length; rw [List.length_map, List.length_map] at this; exact this.symm
  refine Calls.call_function_entry PyProof.Rows.kind_sorted PyProof.Rows.plain_sorted PyProof.Rows.entry_sorted (PyProof.Rows.args_sorted1 _) ?_
  unfold Builtin.«sorted»
  refine wpAny_bind (m := checkCount "sorted" 1 1 _) (wpAny_pure ?_)
  refine wpAny_bind (wpAny_collect_seq (A := X.A.in1) a (.inr rfl) ho hc hdt (fun h' hk => ?_) (by rw [List.size_toArray, hal0]; exact hz))
  have hS : StrsAre its (ls.map mkS) := L2.strs_at (by rw [List.length_map]; exact hal0) fun j v e => M.strs_at rv j v e
  have I1 : Inv X pins σ H { s with heap := h' } := I.kept (t' := s.toks) hk
  refine wpAny_bind (wpAny_newList ?_ (by rw [hal0]; exact hz))
  have hoL : (h'.push (seqObj "list" its.toArray 0)).get? h'.objs.size = some (seqObj "list" its.toArray 0) := Heap.get?_push_size _ rfl
  show wpAny _ _ _ _ _ { s with heap := h'.push (seqObj "list" its.toArray 0), toks := s.toks }
  have eT := eachT_of hS
  have eR : PySem.W.EachIs (fun v (l : List Nat) => ∃ as, Reads (h'.push (seqObj "list" its.toArray 0)) v (PyData.str (mkS l)) as ∧ h'.objs.size ∉ as) its ls := eT.mono fun v l ⟨t, e⟩ => ⟨[], by rw [e]; exact .str _ _, by simp⟩
  obtain ⟨g1, g2, _⟩ := srt_alike (srtOk_S ls)
  refine wpAny_bind (wpAny_holding (PySem.W.list_sort_data (s := { s with heap := h'.push (seqObj "list" its.toArray 0), toks := s.toks }) (enc := fun l => PyData.str (mkS l)) hoL eT eR g1 g2 hz (fun b _ => ?_) fun out ho he => ?_))
  · have : (PyData.str (mkS b)).depth ≤ 1 := by unfold PyData.depth; omega
    show X.A.units + 1 + 1 + _ < cLine
    omega
  · have hsrt : ls.mergeSort (PySem.W.dataLe false fun l => PyData.str (mkS l)) = sortT ls := by
      unfold sortT
      congr 1
      funext a b
      exact dataLe_S a b
    rw [hsrt] at he
    obtain ⟨e', he'⟩ := PyProof.Rows.sortedHeap_at (vs := its) (out := out.toArray) hoL
    have hlen : (((sortT ls).map mkS).map V.str).length ≤ sizeLine := by
      rw [List.length_map, List.length_map, (sortT_perm ls).length_eq]
      exact hz
    refine wpAny_pure ⟨_, rfl, .ref h'.objs.size, upd H h'.objs.size (.lst (((sortT ls).map mkS).map V.str)), I1.laid (t' := s.toks) (fun b u e => ?_) (Nat.le_refl _)
      (show ObjOk X.prog X.w _ _ _ (.lst (((sortT ls).map mkS).map V.str)) from ⟨hlen, out, e', eachT_vals he, he'⟩), rfl, q _ (I1.hok.fresh (Nat.le_refl _))⟩
    have hb : b < h'.objs.size := Heap.lt_size e
    rw [PyProof.Rows.sortedHeap_old (Nat.ne_of_lt hb) (by rw [size_push']; exact Nat.lt_succ_of_lt hb)]
    exact Heap.get?_push_of_some _ e
theorem cr_sortedSA (hc : X.calm = true) (hu : ∃ k, Room k X.A) : CallR X (.builtin "sorted") (rGCL X.K sortedSL) := by
  intro pins s σ H xs us Q I r ⟨F, ds, d, s1, hb, e, k⟩
  unfold sortedSL at e
  split at e
  · rename_i kvs
    obtain ⟨ls, e1, e2⟩ := Option.bind_eq_some_iff.mp e
    split at e2
    · rename_i hcond
      cases e2
      obtain ⟨v, rfl, h⟩ := hb.one
      obtain ⟨p, vs, rfl, hv, av⟩ := h.entries s1
      obtain ⟨hk, hok⟩ := kv_texts av e1
      obtain ⟨j, hr⟩ := hu
      refine call_sortedDA hc (by have := hr.un; omega) pins s σ H _ us Q I r ⟨p, vs, ls, rfl, .inl hv, hk, hcond, fun p' hn => ?_⟩
      obtain ⟨st, nf, hp'⟩ := new_lst (vs := ((sortT ls).map mkS).map V.str) s1 hn
      exact k p' _ F _ st hn nf hp' (texts_dn fun l hl => hok l ((sortT_perm _).mem_iff.mp hl))
    · cases e2
  · rename_i ds'
    obtain ⟨ls, e1, e2⟩ := Option.bind_eq_some_iff.mp e
    split at e2
    · rename_i hcond
      cases e2
      obtain ⟨v, rfl, h⟩ := hb.one
      obtain ⟨p, vs, rfl, hf, hv, av⟩ := h.itemsT s1
      have hds := deTs_eq e1
      subst hds
      obtain ⟨rfl, hok⟩ := texts_of av
      obtain ⟨j, hr⟩ := hu
      refine call_sortedTA hc (by have := hr.un; omega) pins s σ H _ us Q I r ⟨p, ls, rfl, hv, hcond, fun p' hn => ?_⟩
      obtain ⟨st, nf, hp'⟩ := new_lst (vs := ((sortT ls).map mkS).map V.str) s1 hn
      exact k p' _ F _ st hn nf hp' (texts_dn fun l hl => hok l ((sortT_perm _).mem_iff.mp hl))
    · cases e2
  · exact cr_sortedA hu pins s σ H xs us Q I r ⟨F, ds, d, s1, hb, e, k⟩
end
end M


namespace M
open PySem PySem.Spec PyProof.Rows L2

/-! ### expressions that change an own list -/
abbrev FZ := En → Option (PyData × En)
def RZ (K : PySem.W.Frag) (t : TE) (f : FZ) : Prop := ∀ (F0 H0 F H : Hp) (ε : En) (σ : L2.St) (d : PyData) (ε' : En) (Q : VK), Rel K F0 H0 F H ε σ → f ε = some (d, ε') →
  (∀ v F' H', Rel K F0 H0 F' H' ε' σ → Same F F' → Dn K F' v d → Q v H') → t σ H Q
structure DZ (X : Cx) (e : Expr) (t : TE) (f : FZ) : Prop where
  p : PE X e t
  r : RZ X.K t f
/-- tests that do -/
def RZT (K : PySem.W.Frag) (t : TT) (f : En → Option (Bool × En)) : Prop := ∀ (F0 H0 F H : Hp) (ε : En) (σ : L2.St) (b : Bool) (ε' : En) (Q : Bool → Hp → Prop), Rel K F0 H0 F H ε σ → f ε = some (b, ε') →
  (∀ F' H', Rel K F0 H0 F' H' ε' σ → Same F F' → Q b H') → t σ H Q
structure DZT (X : Cx) (e : Expr) (t : TT) (f : En → Option (Bool × En)) : Prop where
  p : PT X e t
  r : RZT X.K t f
/-- the items of a list that is owned or may be changed -/
def bagS : Slot → Option (List PyData)
  | .o ds => some ds
  | .oa _ ds => some ds
  | _ => none
def setB (s : Slot) (ds : List PyData) : Slot := match s with
  | .oa p _ => .oa p ds
  | _ => .o ds
@[simp] theorem bagS_o (ds : List PyData) : bagS (.o ds) = some ds := rfl
@[simp] theorem bagS_oa (p : Addr) (ds : List PyData) : bagS (.oa p ds) = some ds := rfl
@[simp] theorem setB_o (ds es : List PyData) : setB (.o ds) es = .o es := rfl
@[simp] theorem setB_oa (p : Addr) (ds es : List PyData) : setB (.oa p ds) es = .oa p es := rfl
/-- all but a cell -/
def delH (p : Addr) (H : Hp) : Hp := fun q => if q = p then none else H q
theorem del_ne {p b : Addr} {H : Hp} (h : b ≠ p) : delH p H b = H b := if_neg h
theorem del_same {p : Addr} {H : Hp} : delH p H p = none := if_pos rfl
theorem del_lies {F H : Hp} {p : Addr} {u : HO} (s : Lies F H) (hF : F p = none) (hp : H p = some u) (hk : okO u = true) : Lies F (delH p H) := by
  refine ⟨fun b o q z => by rw [del_ne (ne_of_none q hF)]; exact s.e b o q z, fun P q e => ?_, s.m⟩
  obtain ⟨ps, h1, h2, h3⟩ := s.t P q e
  refine ⟨ps, ?_, h2, fun pos cv hc => ?_⟩
  · rw [del_ne (fun z => ?_)]
    · exact h1
    · rw [z, hp] at h1; cases h1; cases hk
  · obtain ⟨c, e1, e2⟩ := h3 pos cv hc
    refine ⟨c, e1, ?_⟩
    rw [del_ne (fun z => ?_)]
    · exact e2
    · rw [z, hp] at e2; cases e2; unfold okO at hk; cases hk
section
variable {K : PySem.W.Frag} {F0 H0 F H F' H' : Hp} {ε : En} {σ : L2.St}
theorem bag_at {s : Slot} {b : List PyData} {v : V} (h : bagS s = some b) (r : SlotR K F H v s) : s.own = true ∧ ∃ p vs, v = .ref p ∧ H p = some (.lst vs) ∧ F p = none ∧ DnAll K F vs b := by
  cases s with
  | f d => cases h
  | o ds => cases h; obtain ⟨p, vs, h1, h2, h3, h4⟩ := r; exact ⟨rfl, p, vs, h1, h2, h3, h4⟩
  | od kvs => cases h
  | v y => cases h
  | oa p ds => cases h; obtain ⟨vs, h1, h2, h3, h4⟩ := r; exact ⟨rfl, p, vs, h1, h2, h3, h4⟩
  | tf d T => cases h
theorem setB_own {s : Slot} {b b' : List PyData} (h : bagS s = some b) : (setB s b').own = true := by cases s <;> first | rfl | cases h
theorem setB_r {s : Slot} {b b' : List PyData} {p : Addr} {vs : List V} (h : bagS s = some b) (r : SlotR K F H (.ref p) s) (h1 : H' p = some (.lst vs)) (h2 : F' p = none) (h3 : DnAll K F' vs b') : SlotR K F' H' (.ref p) (setB s b') := by
  cases s with
  | f d => cases h
  | o ds => exact ⟨p, vs, rfl, h1, h2, h3⟩
  | od kvs => cases h
  | v y => cases h
  | oa q ds =>
    obtain ⟨_, e, _⟩ := r
    cases e
    exact ⟨vs, rfl, h1, h2, h3⟩
  | tf d T => cases h
/-- the list at an own slot is changed from outside -/
theorem del_step {p : Addr} {u w : HO} (hp : H p = some u) (hk : isTbl u = false) (nF : F' p = none) (hw : H' p = some w) (ok : okO w = true) (st : Step F (delH p H) F' H') : Step F H F' (upd H' p u) := by
  refine ⟨st.f, fun b o q z => ?_, fun b q => ?_, lies_upd st.s nF (fun v e => by rw [hw] at e; cases e; exact ok), fun b h1 h2 => ?_⟩
  · by_cases e : b = p
    · subst e; rw [hp] at q; cases q; exact upd_same
    · rw [upd_ne e]; exact st.h0 b o (by rw [del_ne e]; exact q) z
  · by_cases e : b = p
    · subst e; rw [upd_same] at q; cases q
    · rw [upd_ne e] at q
      have := st.fr b q
      rwa [del_ne e] at this
  · by_cases e : b = p
    · rw [e]; exact nF
    · exact st.n0 b (by rw [del_ne e]; exact h1) h2
theorem Rel.chg {i : Nat} {p : Addr} {s : Slot} {b b' : List PyData} {vs : List V} (r : Rel K F0 H0 F H ε σ) (hs : ε[i]? = some (some s)) (hb : bagS s = some b) (hp : σ[i]? = some (some (.ref p)))
    (st : Step F (delH p H) F' H') (nF : F' p = none) (h' : H' p = some (.lst vs)) (a : DnAll K F' vs b') : Rel K F0 H0 F' H' (ε.set i (some (setB s b'))) σ := by
  obtain ⟨v, g1, g2⟩ := r.e.sl _ _ hs
  rw [hp] at g1
  cases g1
  obtain ⟨own, q, us, e1, e2, e3, e4⟩ := bag_at hb g2
  cases e1
  have r1 := r.step (del_step e2 rfl nF h' rfl st)
  have e : upd (upd H' p (.lst us)) p (.lst vs) = H' := by
    funext q
    by_cases z : q = p
    · subst z; rw [upd_same, h']
    · rw [upd_ne z, upd_ne z]
  have g3 : SlotR K F' (upd (upd H' p (.lst us)) p (.lst vs)) (.ref p) (setB s b') := setB_r hb g2 upd_same nF a
  have := r1.put (o := .lst vs) hs hp own (setB_own hb) g3
  rw [e] at this
  exact this
end
section
variable {X : Cx} {e a b c : Expr} {es : List Expr} {te ta tb : TE} {fe fa fb : En → Option PyData} {fz fz2 : FZ} {pos : Pos} {st : Stmt} {sts : List Stmt} {t u : TS} {T U : TD}
def zP (fe : En → Option PyData) : FZ := fun ε => (fe ε).map fun d => (d, ε)
theorem dz_pure (h : DE X e te fe) : DZ X e te (zP fe) := ⟨h.p, fun F0 H0 F H ε σ d ε' Q r e k => by
  obtain ⟨d', e1, e2⟩ := Option.map_eq_some_iff.mp e
  cases e2
  exact h.r F H ε σ _ _ r.e e1 fun v F' H' s d' => k v F' H' (r.step s) s.f d'⟩
/-- x.pop(0) -/
def zPop (i : Nat) : FZ := fun ε => (getS i ε).bind fun s => s.bind fun s => (bagS s).bind fun b => match b with
  | d :: b' => some (d, ε.set i (some (setB s b')))
  | [] => none
theorem dz_pop (i : Nat) {x : Str} {apos cpos p1 : Pos} (he : DE X e te (fun _ => some (.int 0))) (hN : X.N[i]? = some x := by rfl) (hv : Vis X.env.scope x := by first | exact Or.inl rfl | exact Or.inr (Or.inl rfl) | exact Or.inr (Or.inr rfl)) (hd : (x == ("__debug__" : Str)) = false := by decide)
    (hcd : (x == ("__classdict__" : Str)) = false := by decide) (hbase : attributeBase (.Name x p1) "pop" X.env (eval (.Name x p1) X.env) = eval (.Name x p1) X.env := by rfl)
    (hfew : ((backTo cpos (starEach [e] X.env)).all (fun x => !x.1) && (backToKw cpos (keywordEach [] X.env)).all (fun x => x.1.isSome)
      && decide ([e].length + ([] : List Keyword).length + (if ([] : List Keyword).isEmpty then 0 else 1) < 30)) = true := by rfl)
    (hline : (apos.endLine == cpos.line) = true := by rfl) (hs : starEach [e] X.env = (false, eval e X.env) :: starEach [] X.env := by rfl) (hplain : (backTo cpos (starEach [] X.env)).any (·.1) = false := by rfl) :
    DZ X (.Call (.Attribute (.Name x p1) "pop" apos) [e] [] cpos) (tBM X.K "list" rPopAt (tVar i) (tCons te tNil)) (zPop i) :=
  ⟨pe_bm PySem.F.plainAttrs_list PySem.F.slot_list_pop PySem.F.type_list_pop mt_popAt (pe_var hN hv hd hcd) (pa_cons he.p pa_nil hs) hbase hfew hline hs hplain, fun F0 H0 F H ε σ d ε' Q r e1 k => by
    obtain ⟨s0, e2, e3⟩ := Option.bind_eq_some_iff.mp e1
    obtain ⟨s, e4, e5⟩ := Option.bind_eq_some_iff.mp e3
    obtain ⟨bg, e6, e7⟩ := Option.bind_eq_some_iff.mp e5
    subst e4
    have e2 : ε[i]? = some (some s) := e2
    split at e7
    · rename_i d' b'
      cases e7
      obtain ⟨v, h1, h2⟩ := r.e.sl _ _ e2
      obtain ⟨own, p, vs, rfl, hp, hF, al⟩ := bag_at e6 h2
      refine ⟨_, h1, .inl ⟨rfl, vs, SqL.of hp⟩, he.r F H ε σ _ _ r.e rfl fun v F' H' st d' => ?_⟩
      cases dn_int d'
      cases al with
      | cons a0 al =>
        rename_i v0 vs0
        refine ⟨p, v0 :: vs0, 0, 0, v0, rfl, rfl, st.h _ _ hp, by decide, by decide, by simp [seqIndex?], rfl, ?_⟩
        have nF := st.n _ _ hp hF
        have hp2 := st.h _ _ hp
        refine k _ F' _ (r.chg e2 e6 h1 ⟨st.f, fun b o q z => ?_, fun b q => ?_, lies_upd st.s nF (fun u e => by rw [hp2] at e; cases e; rfl), fun b q1 q2 => ?_⟩ nF upd_same (al.mv st.f)) st.f (a0.mv st.f)
        · by_cases z' : b = p
          · subst z'; rw [del_same] at q; cases q
          · rw [del_ne z'] at q; rw [upd_ne z']; exact st.h0 _ _ q z
        · by_cases z' : b = p
          · subst z'; exact del_same
          · rw [upd_ne z'] at q; rw [del_ne z']; exact st.fr _ q
        · by_cases z' : b = p
          · subst z'; exact absurd del_same q1
          · rw [del_ne z'] at q1; exact st.n0 _ q1 q2
    · cases e7⟩
/-- a if c else b -/
def zIf (g : En → Option Bool) (fa fb : FZ) : FZ := fun ε => (g ε).bind fun k => if k then fa ε else fb ε
theorem dz_if {tA : TT} {ga : En → Option Bool} (hc : DT X c tA ga) (ha : DZ X a ta fz) (hb : DZ X b tb fz2) : DZ X (.IfExp c a b pos) (tIf tA ta tb) (zIf ga fz fz2) :=
  ⟨pe_ifExp hc.p ha.p hb.p, fun F0 H0 F H ε σ d ε' Q r e q => by
    obtain ⟨j, e1, e2⟩ := Option.bind_eq_some_iff.mp e
    refine hc.r F H ε σ j _ r.e e1 fun F1 H1 s1 => ?_
    cases j with
    | true => exact iteT (ha.r F0 H0 F1 H1 ε σ d ε' _ (r.step s1) e2 fun v F2 H2 r2 s2 d2 => q v F2 H2 r2 (s1.f.trans s2) d2)
    | false => exact iteF (hb.r F0 H0 F1 H1 ε σ d ε' _ (r.step s1) e2 fun v F2 H2 r2 s2 d2 => q v F2 H2 r2 (s1.f.trans s2) d2)⟩
def zIfZ (g : En → Option (Bool × En)) (fa fb : FZ) : FZ := fun ε => (g ε).bind fun p => if p.1 then fa p.2 else fb p.2
theorem dz_ifZ {tA : TT} {ga : En → Option (Bool × En)} (hc : DZT X c tA ga) (ha : DZ X a ta fz) (hb : DZ X b tb fz2) : DZ X (.IfExp c a b pos) (tIf tA ta tb) (zIfZ ga fz fz2) :=
  ⟨pe_ifExp hc.p ha.p hb.p, fun F0 H0 F H ε σ d ε' Q r e q => by
    obtain ⟨⟨j, ε1⟩, e1, e2⟩ := Option.bind_eq_some_iff.mp e
    refine hc.r F0 H0 F H ε σ j ε1 _ r e1 fun F1 H1 r1 s1 => ?_
    cases j with
    | true => exact iteT (ha.r F0 H0 F1 H1 ε1 σ d ε' _ r1 e2 fun v F2 H2 r2 s2 d2 => q v F2 H2 r2 (s1.trans s2) d2)
    | false => exact iteF (hb.r F0 H0 F1 H1 ε1 σ d ε' _ r1 e2 fun v F2 H2 r2 s2 d2 => q v F2 H2 r2 (s1.trans s2) d2)⟩
/-- a op b, b with the effect | a with it -/
def zOp (g : G2) (fa : En → Option PyData) (fb : FZ) : FZ := fun ε => (fa ε).bind fun a => (fb ε).bind fun p => (g a p.1).map fun d => (d, p.2)
def zOpL (g : G2) (fa : FZ) (fb : En → Option PyData) : FZ := fun ε => (fa ε).bind fun p => (fb p.2).bind fun b => (g p.1 b).map fun d => (d, p.2)
theorem rz_op {K : PySem.W.Frag} {r : R2} {g : G2} (ho : Op2 K r g) (ha : RE K ta fa) (hb : RZ K tb fz) : RZ K (tOp r ta tb) (zOp g fa fz) := fun F0 H0 F H ε σ d ε' Q rel e k => by
  obtain ⟨a, e1, e2⟩ := Option.bind_eq_some_iff.mp e
  obtain ⟨⟨b, ε1⟩, e3, e4⟩ := Option.bind_eq_some_iff.mp e2
  obtain ⟨d', e5, e6⟩ := Option.map_eq_some_iff.mp e4
  cases e6
  refine ha F H ε σ a _ rel.e e1 fun x F1 H1 s1 d1 => ?_
  refine hb F0 H0 F1 H1 ε σ b _ _ (rel.step s1) e3 fun y F2 H2 r2 s2 d2 => ?_
  exact ho F2 H2 x y a b _ Q r2.e.sub (.inl (d1.mv s2)) (.inl d2) e5 fun v F' H' s3 d3 => k v F' H' (r2.step s3) (s1.f.trans (s2.trans s3.f)) d3
theorem rz_opL {K : PySem.W.Frag} {r : R2} {g : G2} (ho : Op2 K r g) (ha : RZ K ta fz) (hb : RB K tb fb) : RZ K (tOp r ta tb) (zOpL g fz fb) := fun F0 H0 F H ε σ d ε' Q rel e k => by
  obtain ⟨⟨a, ε1⟩, e1, e2⟩ := Option.bind_eq_some_iff.mp e
  obtain ⟨b, e3, e4⟩ := Option.bind_eq_some_iff.mp e2
  obtain ⟨d', e5, e6⟩ := Option.map_eq_some_iff.mp e4
  cases e6
  refine ha F0 H0 F H ε σ a _ _ rel e1 fun x F1 H1 r1 s1 d1 => ?_
  refine hb F1 H1 _ σ b _ r1.e e3 fun y F2 H2 s2 d2 => ?_
  exact ho F2 H2 x y a b _ Q s2.s (.inl (d1.mv s2.f)) d2 e5 fun v F' H' s3 d3 => k v F' H' ((r1.step s2).step s3) (s1.trans (s2.f.trans s3.f)) d3
theorem dz_op {op : Operator} {g : G2} (ho : OpR X (binaryOp op) (rG X.K g)) (ha : DE X a ta fa) (hb : DZ X b tb fz) : DZ X (.BinOp a op b pos) (tOp (rG X.K g) ta tb) (zOp g fa fz) := ⟨pe_op ho ha.p hb.p, rz_op op2G ha.r hb.r⟩
theorem dz_opL {op : Operator} {g : G2} (ho : OpR X (binaryOp op) (rG X.K g)) (ha : DZ X a ta fz) (hb : DB X b tb fb) : DZ X (.BinOp a op b pos) (tOp (rG X.K g) ta tb) (zOpL g fz fb) := ⟨pe_op ho ha.p hb.p, rz_opL op2G ha.r hb.r⟩
def zTest (f : FZ) : En → Option (Bool × En) := fun ε => (f ε).bind fun p => match p.1 with
  | .bool k => some (k, p.2)
  | _ => none
theorem dzt_cmp {op : CmpOp} {g : G2} (ho : OpR X (compareOp op) (rG X.K g)) (ha : DZ X a ta fz) (hb : DB X b tb fb) (hm : behindInMarks op b = false) : DZT X (.Compare a [op] [b] pos) (tTest (tOp (rG X.K g) ta tb)) (zTest (zOpL g fz fb)) :=
  ⟨pt_cmpR ho ha.p hb.p hm, fun F0 H0 F H ε σ k ε' Q r e q => by
    obtain ⟨⟨d, ε1⟩, e1, e2⟩ := Option.bind_eq_some_iff.mp e
    simp only at e2
    split at e2
    · cases e2
      exact rz_opL op2G ha.r hb.r F0 H0 F H ε σ _ _ _ r e1 fun v F' H' r' s d => ⟨_, dn_bool d, q F' H' r' s⟩
    · cases e2⟩
theorem dz_ix (ha : DE X a ta fa) (hb : DZ X b tb fz) (hs : PlainIx b := by exact fun _ _ => rfl) : DZ X (.Subscript a b pos) (tOp (rIx X.K) ta tb) (zOp ixD fa fz) := ⟨pe_ix ix_seq ha.p hb.p hs, rz_op op_ixD ha.r hb.r⟩
/-! ### calls that hand a list on -/
abbrev GB := List PyData → List PyData → Option (PyData × List PyData)
def BSp (K : PySem.W.Frag) (g : GB) : Sp := fun vs H Q _ => ∃ F p cs us b ds d b', Lies F H ∧ vs = .ref p :: us ∧ H p = some (.lst cs) ∧ F p = none ∧ DnAll K F cs b ∧ DnAll K F us ds ∧ g b ds = some (d, b') ∧
  ∀ v F' H' cs', Step F (delH p H) F' H' → F' p = none → H' p = some (.lst cs') → DnAll K F' cs' b' → Dn K F' v d → Q v H'
def zCall (i : Nat) (g : GB) (f : En → Option (List PyData)) : FZ := fun ε => (getS i ε).bind fun s => s.bind fun s => (bagS s).bind fun b => (f ε).bind fun ds => (g b ds).map fun p => (p.1, ε.set i (some (setB s p.2)))
theorem dz_cal {g : GB} {f : En → Option (List PyData)} {ta : TA} {x y : Str} {p p1 : Pos} {k j : Nat} (i : Nat) (c : Cal X.prog X.w X.K X.mg X.base x k (BSp X.K g)) (hr : Room j X.A) (ha : DA X es ta f) (hj : k ≤ j := by decide) (hg : Gl X x := by rfl) (hdb : (x == ("__debug__" : Str)) = false := by decide)
    (hN : X.N[i]? = some y := by rfl) (hv : Vis X.env.scope y := by first | exact Or.inl rfl | exact Or.inr (Or.inl rfl) | exact Or.inr (Or.inr rfl)) (hd : (y == ("__debug__" : Str)) = false := by decide) (hcd : (y == ("__classdict__" : Str)) = false := by decide)
    (he : starEach (.Name y p1 :: es) X.env = (false, eval (.Name y p1) X.env) :: starEach es X.env := by rfl) (hpl : (backTo pos (starEach es X.env)).any (·.1) = false := by rfl) :
    DZ X (.Call (.Name x p) (.Name y p1 :: es) [] pos) (tCall (BSp X.K g) [] E0 (tCons (tVar i) ta)) (zCall i g f) :=
  let ⟨_, _, _, G, hm, hk, hb⟩ := c.ex
  ⟨pe_call G (hr.mono hj) hg hm hk hb .nil pass0 (pa_cons (pe_var hN hv hd hcd) ha.p he) hdb he hpl, fun F0 H0 F H ε σ d ε' Q r e1 q => by
    obtain ⟨s0, e2, e3⟩ := Option.bind_eq_some_iff.mp e1
    obtain ⟨s, e4, e5⟩ := Option.bind_eq_some_iff.mp e3
    obtain ⟨bg, e6, e7⟩ := Option.bind_eq_some_iff.mp e5
    obtain ⟨ds, e8, e9⟩ := Option.bind_eq_some_iff.mp e7
    obtain ⟨⟨d', b'⟩, e10, e11⟩ := Option.map_eq_some_iff.mp e9
    cases e11
    subst e4
    have e2 : ε[i]? = some (some s) := e2
    obtain ⟨v, h1, h2⟩ := r.e.sl _ _ e2
    obtain ⟨own, q0, vs, rfl, hp, hF, al⟩ := bag_at e6 h2
    refine ⟨_, h1, ha.r F H ε σ ds _ r.e e8 fun us F1 H1 s1 d1 => ?_⟩
    refine ⟨F1, q0, vs, us, bg, ds, _, _, s1.s, by rw [List.append_nil], s1.h _ _ hp, s1.n _ _ hp hF, al.mv s1.f, d1, e10, fun v F' H' cs' st nF hp' al' dv => ?_⟩
    exact q _ F' H' ((r.step s1).chg e2 e6 h1 st nF hp' al') (s1.f.trans st.f) dv⟩
/-! ### statements -/
def dAsgZ (i : Nat) (f : FZ) : TD := fun R ε => ∃ p, f ε = some p ∧ R.nx (p.2.set i (some (.f p.1)))
theorem ds_setZ (i : Nat) {x : Str} {pos' : Pos} (hN : X.N.Nodup) (he : DZ X e te fz) (hi : X.N[i]? = some x := by rfl) (hx : Loc X.env.scope x := by first | exact Or.inl rfl | exact Or.inr rfl) (hs : swapsWith e (some (.Name x pos')) pos.line X.env = pure false := by rfl)
    (hf : X.fn x = true ∨ X.env.scope.names.lookup x = some .local := by first | exact .inl rfl | exact .inr rfl | assumption) : DS X (.Assign [.Name x pos'] e pos) (tAsg te (gName i)) (dAsgZ i fz) :=
  ⟨ps_set hN hi hx he.p hs hf, fun F0 H0 F H ε σ R D r ⟨⟨d, ε'⟩, e, h'⟩ c =>
    he.r F0 H0 F H ε σ d ε' _ r e fun v F' H' r' s dv => c.nx _ _ _ _ (r'.setF (.refl r'.e.sub) dv) s h'⟩
/-- x[lo:hi] of such a one -/
def zSl (f : FZ) (fl fh : En → Option (Option Int)) : FZ := fun ε => (f ε).bind fun p => (fl p.2).bind fun lo => (fh p.2).bind fun hi => (slD p.1 lo hi).map fun d => (d, p.2)
theorem dz_sl {lo hi : Option Expr} {tl th : TO} {fl fh : En → Option (Option Int)} {p2 : Pos} (he : DZ X e te fz) (hl : DO X lo tl fl) (hu : DO X hi th fh) : DZ X (.Subscript e (.Slice lo hi none p2) pos) (tSl (rSlAll X.K) te tl th) (zSl fz fl fh) :=
  ⟨pe_slice sl_all he.p hl.p hu.p, fun F0 H0 F H ε σ d ε' Q r e q => by
    obtain ⟨⟨d0, ε1⟩, e1, e'⟩ := Option.bind_eq_some_iff.mp e
    obtain ⟨l, e2, e''⟩ := Option.bind_eq_some_iff.mp e'
    obtain ⟨h, e3, e5⟩ := Option.bind_eq_some_iff.mp e''
    obtain ⟨d', e4, e6⟩ := Option.map_eq_some_iff.mp e5
    cases e6
    refine he.r F0 H0 F H ε σ d0 _ _ r e1 fun v F1 H1 r1 s1 d1 => ?_
    refine hl.r F1 H1 _ σ l _ r1.e e2 fun F2 H2 s2 => ?_
    refine hu.r F2 H2 _ σ h _ (r1.step s2).e e3 fun F3 H3 s3 => ?_
    have d3 : Bd X.K F3 H3 v d0 := .inl ((d1.mv s2.f).mv s3.f)
    have rr := (r1.step s2).step s3
    have s := s1.trans (s2.f.trans s3.f)
    have e4 : slD d0 l h = some _ := e4
    unfold slD at e4
    split at e4
    · cases e4
      obtain ⟨p, vs, rfl, hv, av⟩ := d3.items s3.s
      refine .inl ⟨p, vs, rfl, hv, fun p' hp => ?_⟩
      obtain ⟨st, nf, hp'⟩ := new_lst (vs := cutV vs l h) s3.s hp
      obtain ⟨s', d'⟩ := frz_new st hp nf hp' (av.cut l h)
      exact q _ _ _ (rr.step s') (s.trans s'.f) d'
    · cases e4
      obtain ⟨p, vs, rfl, hf, hv, av⟩ := d3.itemsT s3.s
      refine .inr (.inl ⟨p, vs, rfl, hv, fun z => ?_, fun _ p' hp => ?_⟩)
      · rw [av.length] at z
        rw [cut_full z] at q
        exact q _ _ _ rr s (.tup hf av)
      · obtain ⟨st, dn⟩ := new_tup s3.s hp (av.cut l h)
        exact q _ _ _ (rr.step st) (s.trans st.f) dn
    · split at e4
      · rename_i hz
        cases e4
        obtain ⟨rfl, o⟩ := d3.str
        refine .inr (.inr ⟨_, rfl, hz, ?_⟩)
        rw [cutS_eq]
        exact q _ _ _ rr s (.str _ (strOk_iff.mpr fun c hc => strOk_iff.mp o c (cut_mem (by simpa using hc))))
      · cases e4
    · cases e4⟩
/-- str(x) of such a one -/
def zTy (g : List PyData → Option PyData) (f : FZ) : FZ := fun ε => (f ε).bind fun p => (g [p.1]).map fun d => (d, p.2)
theorem dz_callTy {T : String} {x : Str} {p : Pos} {g : List PyData → Option PyData} (hc : CallR X (.type T) (rGC X.K g)) (hg : Gl X x) (hm : X.mg x = none) (hv : bootBuiltins x = some (.type T)) (ha : DZ X e te fz) (hn : x ≠ "__name__" := by decide) (hdb : (x == ("__debug__" : Str)) = false := by decide)
    (he : starEach [e] X.env = (false, eval e X.env) :: starEach [] X.env := by rfl) (hpl : (backTo pos (starEach [] X.env)).any (·.1) = false := by rfl) : DZ X (.Call (.Name x p) [e] [] pos) (tCB (rGC X.K g) (tCons te tNil)) (zTy g fz) :=
  ⟨pe_callTy hc hg hm hv (pa_cons ha.p pa_nil he) hn hdb he hpl, fun F0 H0 F H ε σ d ε' Q r e q => by
    obtain ⟨⟨a, ε1⟩, e1, e2⟩ := Option.bind_eq_some_iff.mp e
    obtain ⟨d', e3, e4⟩ := Option.map_eq_some_iff.mp e2
    cases e4
    refine ha.r F0 H0 F H ε σ a _ _ r e1 fun v F1 H1 r1 s1 d1 => ?_
    exact ⟨F1, [a], _, r1.e.sub, ⟨.inl d1, trivial⟩, e3, fun w F' H' s' d' => q w F' H' (r1.step s') (s1.trans s'.f) d'⟩⟩
/-! for x in range(..) -/
def RIZ (K : PySem.W.Frag) (wi : TI) (f : En → Option (List PyData × En)) : Prop := ∀ (F0 H0 F H : Hp) (ε : En) (σ : L2.St) (ds : List PyData) (ε' : En) (R : It → Hp → Prop), Rel K F0 H0 F H ε σ → f ε = some (ds, ε') →
  (∀ J F1 H1, Rel K F0 H0 F1 H1 ε' σ → Same F F1 → Walks K J F1 ds → R J H1) → wi σ H R
structure DIZ (X : Cx) (tg iter : Expr) (wi : TI) (f : En → Option (List PyData × En)) : Prop where
  p : PI X tg iter wi
  r : RIZ X.K wi f
def zRng (f : FZ) : En → Option (List PyData × En) := fun ε => (f ε).bind fun p => (rng1D [p.1]).map fun ds => (ds, p.2)
theorem diz_rng1 {tg : Expr} {p : Pos} (hg : Gl X "range") (hm : X.mg "range" = none) (ha : DZ X a ta fz) (hs : starEach [a] X.env = [(false, eval a X.env)] := by rfl) : DIZ X tg (.Call (.Name "range" p) [a] [] pos) (iRng1 (tCons ta tNil)) (zRng fz) :=
  ⟨pi_range1 hg hm (pa_cons ha.p pa_nil hs) hs, fun F0 H0 F H ε σ ds ε' R r e k => by
    obtain ⟨⟨d, ε1⟩, e1, e2⟩ := Option.bind_eq_some_iff.mp e
    obtain ⟨ds', e3, e4⟩ := Option.map_eq_some_iff.mp e2
    cases e4
    refine ha.r F0 H0 F H ε σ d _ _ r e1 fun v F1 H1 r1 s1 d1 => ?_
    unfold rng1D at e3
    split at e3
    · rename_i n heq
      split at e3
      · rename_i hb
        cases e3
        cases heq
        cases dn_int d1
        exact ⟨_, rfl, hb.1, hb.2, k _ F1 H1 r1 s1 walks_rng⟩
      · cases e3
    · cases e3⟩
def dForZ (f : En → Option (List PyData × En)) (T : Tg) (B : TD) : TD := fun R ε => ∃ p, f ε = some p ∧ forT T B p.1 R p.2
theorem rs_forZ {K : PySem.W.Frag} {wi : TI} {g : TG} {tb : TS} {f : En → Option (List PyData × En)} {T : Tg} {B : TD} (hi : RIZ K wi f) (hg : RG K g T) (hb : RS K tb B) : RS K (tFor wi g tb) (dForZ f T B) := fun F0 H0 F H ε σ R D r ⟨⟨ds, ε0⟩, e, h⟩ c => by
  refine hi F0 H0 F H ε σ ds ε0 _ r e fun J F1 H1 r1 s1 W => ?_
  refine ⟨fun i m σ H => m = ds.length - i ∧ i ≤ ds.length ∧ ∃ F ε, Rel K F0 H0 F H ε σ ∧ Same F1 F ∧ forT T B (ds.drop i) R ε, ⟨_, rfl, Nat.zero_le _, F1, ε0, r1, Same.refl _, h⟩, ?_⟩
  rintro i m σ2 H2 ⟨rfl, hi, F2, ε2, r2, sm, h2⟩
  obtain ⟨w1, w2⟩ := W i F2 H2 sm r2.e.sub
  by_cases hlt : i < ds.length
  · have hd : ds.drop i = ds[i] :: ds.drop (i + 1) := List.drop_eq_getElem_cons hlt
    rw [hd] at h2
    obtain ⟨ε3, e3, h3⟩ := h2
    obtain ⟨g1, g2⟩ := w1 ds[i] (List.getElem?_eq_getElem hlt)
    refine .inr ⟨g1, fun σ' H' => ∃ F ε, Rel K F0 H0 F H' ε σ' ∧ Same F1 F ∧ forT T B (ds.drop (i + 1)) R ε, fun σ' H' ⟨F', ε', a, b, c'⟩ => ⟨ds.length - (i + 1), by omega, rfl, hlt, F', ε', a, b, c'⟩, fun x H3 y => ?_⟩
    obtain ⟨F3, s3, d3⟩ := g2 x H3 y
    refine hg F0 H0 F3 H3 ε2 σ2 x _ ε3 _ (r2.step s3) d3 e3 fun σ4 r4 => ?_
    exact hb F0 H0 F3 H3 ε3 σ4 _ _ r4 h3 ⟨fun ε σ F H r' z h' => ⟨F, ε, r', (sm.trans s3.f).trans z, h'⟩, c.rt, fun ε σ F H r' z h' => c.nx _ _ _ _ r' ((s1.trans (sm.trans s3.f)).trans z) h', fun ε σ F H r' z h' => ⟨F, ε, r', (sm.trans s3.f).trans z, h'⟩⟩
  · have e' : i = ds.length := by omega
    subst e'
    rw [List.drop_length] at h2
    exact .inl ⟨w2 rfl, c.nx _ _ _ _ r2 (s1.trans sm) h2⟩
theorem ds_forZ {tg iter : Expr} {body : List Stmt} {wi : TI} {g : TG} {tt : Tg} {src : En → Option (List PyData × En)} (hc : X.calm = true) (hi : DIZ X tg iter wi src) (hg : DG X tg g tt) (hb : DSs X body t T) (hs : ∀ x, foldedSetIterable iter X.env x = pure x := by intro _; rfl) (hp : PassesOwn (model X.prog X.w) X.A X.env X.xe := by exact PassesOwn.never) : DS X (.For tg iter body [] pos) (tFor wi g t) (dForZ src tt T) :=
  ⟨ps_for hp hc hi.p hg.p hb.p hs, rs_forZ hi.r hg.r hb.r⟩
/-! several names at once -/
def RAZ (K : PySem.W.Frag) (t : TA) (f : En → Option (List Slot × En)) : Prop := ∀ (F0 H0 F H : Hp) (ε : En) (σ : L2.St) (ss : List Slot) (ε' : En) (Q : List V → Hp → Prop), Rel K F0 H0 F H ε σ → f ε = some (ss, ε') →
  (∀ vs Fm Hm F' H', Rel K F0 H0 Fm Hm ε' σ → Same F Fm → Step Fm Hm F' H' → SlotsN K F' H' Hm vs ss → Q vs H') → t σ H Q
structure DAZ (X : Cx) (es : List Expr) (t : TA) (f : En → Option (List Slot × En)) : Prop where
  p : PA X es t
  r : RAZ X.K t f
def azP (f : En → Option (List Slot)) : En → Option (List Slot × En) := fun ε => (f ε).map fun ss => (ss, ε)
def azC (f : FZ) (g : En → Option (List Slot × En)) : En → Option (List Slot × En) := fun ε => (f ε).bind fun p => (g p.2).map fun q => (.f p.1 :: q.1, q.2)
theorem daz_pure {ta : TA} {f : En → Option (List Slot)} (h : DAX X es ta f) : DAZ X es ta (azP f) := ⟨h.p, fun F0 H0 F H ε σ ss ε' Q r e k => by
  obtain ⟨ss', e1, e2⟩ := Option.map_eq_some_iff.mp e
  cases e2
  exact h.r F H ε σ _ _ r.e e1 fun vs F' H' s d => k vs F H F' H' r (Same.refl _) s d⟩
theorem daz_cons {ta : TA} {f : En → Option (List Slot × En)} (ha : DZ X e te fz) (hr : DAZ X es ta f) (hs : starEach (e :: es) X.env = (false, eval e X.env) :: starEach es X.env := by rfl) : DAZ X (e :: es) (tCons te ta) (azC fz f) :=
  ⟨pa_cons ha.p hr.p hs, fun F0 H0 F H ε σ ss ε' Q r e k => by
    obtain ⟨⟨d, ε1⟩, e1, e2⟩ := Option.bind_eq_some_iff.mp e
    obtain ⟨⟨ss', ε2⟩, e3, e4⟩ := Option.map_eq_some_iff.mp e2
    cases e4
    refine ha.r F0 H0 F H ε σ d _ _ r e1 fun v F1 H1 r1 s1 d1 => ?_
    refine hr.r F0 H0 F1 H1 _ σ ss' _ _ r1 e3 fun vs Fm Hm F' H' rm sm st sn => ?_
    exact k _ Fm Hm F' H' rm (s1.trans sm) st ⟨⟨(d1.mv sm).mv st.f, fun p z => by cases z⟩, sn, fun p z => by cases z⟩⟩
def dParZ (is : List Nat) (f : En → Option (List Slot × En)) : TD := fun R ε => ∃ p, f ε = some p ∧ p.1.length = is.length ∧ R.nx (setE is p.1 p.2)
theorem ds_parZ (i j : Nat) {x y : Str} {ta : TA} {f : En → Option (List Slot × En)} {px py pt : Pos} {kt k2 pt2} (hc : X.calm = true) (hN : X.N.Nodup) (ha : DAZ X [a, b] ta f)
    (hw : swappedStores [.Tuple [.Name x px, .Name y py] kt pt] (.Tuple [a, b] k2 pt2) X.env = pure (some [x, y]) := by rfl) (hi : X.N[i]? = some x := by rfl) (hj : X.N[j]? = some y := by rfl) (hij : i ≠ j := by decide)
    (hx : X.env.scope.names.lookup x = some .local := by rfl) (hy : X.env.scope.names.lookup y = some .local := by rfl) 
    (hs : swapsWithSole [.Tuple [.Name x px, .Name y py] kt pt] (.Tuple [a, b] k2 pt2) pos.line X.env = pure false := by rfl) :
    DS X (.Assign [.Tuple [.Name x px, .Name y py] kt pt] (.Tuple [a, b] k2 pt2) pos) (tPar i j ta) (dParZ [i, j] f) :=
  ⟨ps_par hc hN hi hj hij hx hy ha.p hw hs, fun F0 H0 F H ε σ R D r ⟨⟨ss, ε'⟩, e1, l, h'⟩ c => ha.r F0 H0 F H ε σ ss ε' _ r e1 fun vs Fm Hm F' H' rm sm s sn => by
    match vs, ss, l, sn, h' with
    | [v, w], [s1, s2], _, sn, h' => exact ⟨v, w, rfl, c.nx _ _ _ _ (Rel.setAll (fun p => rm.st.fr p) [i, j] _ _ _ _ (rm.step s) sn (slotsN_own rm.e sn) rfl) (sm.trans s.f) h'⟩
    | [], [_, _], _, sn, _ => exact sn.elim
    | [_], [_, _], _, sn, _ => exact sn.2.1.elim
    | _ :: _ :: _ :: _, [_, _], _, sn, _ => exact sn.2.1.2.1.elim⟩
/-! ### bodies of defs that change their first list -/
abbrev TB := (PyData → Option (Option Slot) → Prop) → En → Prop
def RSB (K : PySem.W.Frag) (t : TS) (T : TB) : Prop := ∀ (F0 H0 F H : Hp) (ε : En) (σ : L2.St) (Rb : PyData → Option (Option Slot) → Prop) (D : Ends), Rel K F0 H0 F H ε σ → T Rb ε →
  (∀ d v F' H' ε' σ', Rel K F0 H0 F' H' ε' σ' → Same F F' → Dn K F' v d → Rb d (getS 0 ε') → D.rt v H') → t D σ H
structure DSB (X : Cx) (sts : List Stmt) (t : TS) (T : TB) : Prop where
  p : PSs X sts t
  r : RSB X.K t T
def bRet (f : FZ) : TB := fun Rb ε => ∃ p, f ε = some p ∧ Rb p.1 (getS 0 p.2)
theorem dsb_ret (he : DZ X e te fz) : DSB X [.Return (some e) pos] (tRet te) (bRet fz) := ⟨pss_one (ps_ret he.p), fun F0 H0 F H ε σ Rb D r ⟨⟨d, ε'⟩, e1, h⟩ k =>
  he.r F0 H0 F H ε σ d ε' _ r e1 fun v F' H' r' s dv => k d v F' H' ε' σ r' s dv h⟩
def bSeq (T : TD) (U : TB) : TB := fun Rb ε => T ⟨U Rb, fun _ => False, fun _ => False, fun _ => False, fun _ => False⟩ ε
theorem dsb_cons {U : TB} (h1 : DS X st t T) (h2 : DSB X sts u U) : DSB X (st :: sts) (tSeq t u) (bSeq T U) := ⟨pss_cons h1.p h2.p, fun F0 H0 F H ε σ Rb D r h k =>
  h1.r F0 H0 F H ε σ _ { D with nx := u D } r h ⟨fun ε σ F' H' r' z h' => h2.r F0 H0 F' H' ε σ Rb D r' h' fun d v F'' H'' ε' σ' r'' s'' dv hb => k d v F'' H'' ε' σ' r'' (z.trans s'') dv hb, fun _ _ _ _ z => z.elim, fun _ _ _ _ _ _ z => z.elim, fun _ _ _ _ _ _ z => z.elim⟩⟩
def bFrz (i : Nat) (T : TB) : TB := fun Rb ε => T Rb (frzE i ε)
theorem dsb_frz {U : TB} (i : Nat) (h : DSB X sts t U) : DSB X sts t (bFrz i U) := ⟨h.p, fun F0 H0 F H ε σ Rb D r h' k => by
  obtain ⟨F', r', z⟩ := r.frzAt (i := i)
  exact h.r F0 H0 F' H _ σ Rb D r' h' fun d v F'' H'' ε' σ' r'' s'' dv hb => k d v F'' H'' ε' σ' r'' (z.trans s'') dv hb⟩
/-- what raises is not reached -/
def dNever : TD := fun _ _ => False
end
/-! ### the contract -/
def startB (N : List Str) (p : Addr) (b : List PyData) (ds : List PyData) : En := some (.oa p b) :: ds.map (fun d => some (.f d)) ++ List.replicate (N.length - (ds.length + 1)) none
theorem del_refl {F H : Hp} {p : Addr} {u : HO} (s : Lies F H) (hp : H p = some u) (hF : F p = none) : Step F (delH p H) F H := by
  refine ⟨Same.refl _, fun b o q _ => ?_, fun b q => ?_, s, fun b _ h => h⟩
  · by_cases z : b = p
    · subst z; rw [del_same] at q; cases q
    · rwa [del_ne z] at q
  · by_cases z : b = p
    · subst z; exact del_same
    · rwa [del_ne z]
theorem startB_rel {K : PySem.W.Frag} {N : List Str} {F H : Hp} {p : Addr} {cs us : List V} {b ds : List PyData} (s : Lies F H) (hp : H p = some (.lst cs)) (hF : F p = none) (ab : DnAll K F cs b) (a : DnAll K F us ds) : Rel K F (delH p H) F H (startB N p b ds) (L2.start N (.ref p :: us)) := by
  have hl := a.length
  have at0 : (L2.start N (.ref p :: us))[0]? = some (some (.ref p)) := rfl
  have no : ∀ (i : Nat) (s : Slot), (startB N p b ds)[i + 1]? = some (some s) → ∃ d, ds[i]? = some d ∧ s = .f d := fun i s e => by
    have e : (ds.map (fun d => some (Slot.f d)) ++ List.replicate (N.length - (ds.length + 1)) none)[i]? = some (some s) := e
    by_cases hi : i < ds.length
    · rw [List.getElem?_append_left (by rw [List.length_map]; exact hi), List.getElem?_map] at e
      obtain ⟨d, e1, e2⟩ := Option.map_eq_some_iff.mp e
      exact ⟨d, e1, (Option.some.inj e2).symm⟩
    · rw [List.getElem?_append_right (by rw [List.length_map]; omega), List.getElem?_replicate] at e
      split at e <;> cases e
  have zero : ∀ i q, OwnAt (startB N p b ds) (L2.start N (.ref p :: us)) i q → i = 0 ∧ q = p := fun i q ⟨s', h1, h2, h3⟩ => by
    cases i with
    | zero =>
      rw [at0] at h3
      cases h3
      exact ⟨rfl, rfl⟩
    | succ i =>
      obtain ⟨d, _, rfl⟩ := no i s' h1
      cases h2
  refine ⟨⟨s, by simp [startB, L2.start, hl], fun i s' e => ?_⟩, del_refl s hp hF, fun i q h => ?_, fun i j q h h' => ?_⟩
  · cases i with
    | zero =>
      have e : some (some (Slot.oa p b)) = some (some s') := e
      cases e
      exact ⟨_, at0, cs, rfl, hp, hF, ab⟩
    | succ i =>
      obtain ⟨d, e1, rfl⟩ := no i s' e
      obtain ⟨v, h1, h2⟩ := a.get e1
      refine ⟨v, ?_, h2⟩
      have hi := (List.getElem?_eq_some_iff.mp h1).1
      show (us.map some ++ _)[i]? = _
      rw [List.getElem?_append_left (by rw [List.length_map]; exact hi), List.getElem?_map, h1]
      rfl
  · obtain ⟨_, rfl⟩ := zero i q h
    exact del_same
  · rw [(zero i q h).1, (zero j q h').1]
section
variable {P : Program} {w : World} {K : PySem.W.Frag} {mg : Str → Option Value} {base : Heap}
theorem defB {x qual : Str} {st : Stmt} {f : Addr} {fd : FuncData} {N ps : List Str} {k : Nat} {g : GB} {T : TB} (F : Fun K x qual st f fd) (S : FnScope N ps (defScope st))
    (body : ∀ (cdv : Value) (A : Around) (outer : List Env) (s : Shared) (H : Hp) (E : XK), Room k (A.deeper (envOfC qual (defScope st) s.heap.objs.size f cdv)) → ∃ t, DSB (cxOf CX0 P w K mg base N qual (defScope st) f cdv A outer s H E).nox (defBody st) t T)
    (pure : ∀ b ds r, g b ds = some r → ds.length + 1 = ps.length ∧ ∀ p, T (fun d s => d = r.1 ∧ s = some (some (.oa p r.2))) (startB N p b ds)) : FnOk P w K mg base CX0 (k + 1) f fd ps (BSp K g) := by
  refine F.ok S (fun vs H Q E ⟨F1, p, cs, us, b, ds, d, b', s1, e0, hp, hF, ab, a, e, q⟩ => by rw [e0, List.length_cons, a.length]; exact (pure b ds _ e).1) (fun cdv A outer s H vs Q E hr ⟨F1, p, cs, us, b, ds, d, b', s1, e0, hp, hF, ab, a, e, q⟩ => ?_)
  obtain ⟨t, ht⟩ := body cdv A outer s H E hr
  subst e0
  refine ⟨t, ht.p, ht.r F1 _ F1 H _ _ _ _ (startB_rel s1 hp hF ab a) ((pure b ds _ e).2 p) fun d' v F' H' ε' σ' r' sF dv ⟨h1, h2⟩ => ?_⟩
  have h2 : ε'[0]? = some (some (.oa p b')) := h2
  obtain ⟨u, g1, vs', rfl, g3, g4, g5⟩ := r'.e.sl _ _ h2
  rw [h1] at dv
  exact q v F' H' vs' r'.st g4 g3 g5 dv
end
end M


namespace M
open PySem PySem.Spec PyProof.Rows L2
section
variable {X : Cx} {o e : Expr} {to te : TE} {fo fe : En → Option PyData} {apos cpos pos : Pos} {st : Stmt}
theorem ds_never : DS X st (fun _ _ _ => False) dNever := ⟨⟨fun _ _ _ _ _ _ h => h.elim⟩, fun _ _ _ _ _ _ _ _ _ h _ => h.elim⟩
/-! ### x.endswith(y) -/
def endsD : G2
  | .str x, .str y => some (.bool (Txt.endswith x y))
  | _, _ => none
def endsL (x y : List Nat) : Bool := decide (y.length ≤ x.length) && (x.drop (x.length - y.length) == y)
theorem endsD_S (x y : List Nat) : endsD (.str (mkS x)) (.str (mkS y)) = some (.bool (endsL x y)) := by
  have e : Txt.endswith (mkS x) (mkS y) = endsL x y := by
    unfold Txt.endswith endsL
    have ex : ∀ i : Nat, Builtin.Str.subAt (mkS x) (mkS y) i = ((x.drop i).take y.length == y) := fun i => by
      unfold Builtin.Str.subAt mkS Str.length
      rw [Bool.eq_iff_iff, beq_iff_eq, beq_iff_eq, ← Array.toList_inj]
      simp
    rw [ex, mkS_length, mkS_length, Nat.zero_add]
    by_cases h : y.length ≤ x.length
    · rw [List.take_of_length_le (by rw [List.length_drop]; omega)]
    · simp [h]
  rw [endsD, e]
theorem de_ends (ho : DB X o to fo) (he : DB X e te fe)
    (hbase : attributeBase o "endswith" X.env (eval o X.env) = eval o X.env := by rfl)
    (hfew : ((backTo cpos (starEach [e] X.env)).all (fun x => !x.1) && (backToKw cpos (keywordEach [] X.env)).all (fun x => x.1.isSome)
      && decide ([e].length + ([] : List Keyword).length + (if ([] : List Keyword).isEmpty then 0 else 1) < 30)) = true := by rfl)
    (hline : (apos.endLine == cpos.line) = true := by rfl) (hs : starEach [e] X.env = (false, eval e X.env) :: starEach [] X.env := by rfl) (hplain : (backTo cpos (starEach [] X.env)).any (·.1) = false := by rfl) :
    DE X (.Call (.Attribute o "endswith" apos) [e] [] cpos) (tBM X.K "str" (fun x xs H Q => ∃ a b, x = .str a ∧ xs = [.str b] ∧ Q (.bl (Txt.endswith a b)) H) to (tCons te tNil)) (dOp endsD fo fe) :=
  ⟨pe_bm PySem.F.plainAttrs_str PySem.F.slot_str_endswith PySem.F.type_str_endswith mt_endswith ho.p (pa_cons he.p pa_nil hs) hbase hfew hline hs hplain, fun F H ε σ d Q r e1 k => by
    obtain ⟨a, e2, e3⟩ := Option.bind_eq_some_iff.mp e1
    obtain ⟨b, e4, e5⟩ := Option.bind_eq_some_iff.mp e3
    refine ho.r F H ε σ a _ r e2 fun v F1 H1 s1 d1 => ?_
    unfold endsD at e5
    split at e5
    · rename_i x y
      cases e5
      obtain ⟨rfl, o1⟩ := d1.str
      refine ⟨rfl, he.r F1 H1 ε σ _ _ (r.step s1) e4 fun w F2 H2 s2 d2 => ?_⟩
      obtain ⟨rfl, o2⟩ := d2.str
      exact ⟨x, y, rfl, rfl, k _ F2 H2 (s1.trans s2) (.bl _)⟩
    · cases e5⟩
end
section
variable {X : Cx} {a b : Expr} {ta tb : TE} {fb : En → Option PyData} {fz : FZ} {pos : Pos}
/-- a[i], a with the effect -/
theorem dz_ixL (ha : DZ X a ta fz) (hb : DB X b tb fb) (hs : PlainIx b := by exact fun _ _ => rfl) : DZ X (.Subscript a b pos) (tOp (rIx X.K) ta tb) (zOpL ixD fz fb) := ⟨pe_ix ix_seq ha.p hb.p hs, rz_opL op_ixD ha.r hb.r⟩
end
/-! ### evaluation -/
section
variable {ε : En} {R : DEnds} {i : Nat} {fe fa fb : En → Option PyData} {f f2 : FZ} {g : G2}
@[simp] theorem getB_zero3 (p : Addr) (d : List PyData) (ε : En) : getB 0 (some (.oa p d) :: ε) = some (.list d) := rfl
@[simp ↓] theorem dAsgZ_e : dAsgZ i f R ε = exO (f ε) (fun p => atE (p.2.set i (some (.f p.1))) R.nx ⟨⟩) ⟨⟩ := rfl
@[simp ↓] theorem zP_e : zP fe ε = (fe ε).map fun d => (d, ε) := rfl
def popB (s : Slot) (i : Nat) (ε : En) : List PyData → Option (PyData × En)
  | d :: b' => some (d, ε.set i (some (setB s b')))
  | [] => none
@[simp] theorem popB_cons (s : Slot) (i : Nat) (ε : En) (d : PyData) (b : List PyData) : popB s i ε (d :: b) = some (d, ε.set i (some (setB s b))) := rfl
@[simp ↓] theorem zPop_e : zPop i ε = bnd (getS i ε) (fun s => bnd s (fun s => bnd (bagS s) (fun b => popB s i ε b) ⟨⟩) ⟨⟩) ⟨⟩ := by
  unfold zPop bnd
  congr 1
@[simp ↓] theorem zIf_e {c : En → Option Bool} : zIf c f f2 ε = bnd (c ε) (fun k => if k then f ε else f2 ε) ⟨⟩ := rfl
@[simp ↓] theorem zIfZ_e {c : En → Option (Bool × En)} : zIfZ c f f2 ε = bnd (c ε) (fun p => if p.1 then f p.2 else f2 p.2) ⟨⟩ := rfl
@[simp ↓] theorem zOp_e : zOp g fa f ε = bnd (fa ε) (fun a => bnd (f ε) (fun p => bnd (g a p.1) (fun d => some (d, p.2)) ⟨⟩) ⟨⟩) ⟨⟩ := by
  unfold zOp bnd
  congr 1; funext a; congr 1; funext p
  cases g a p.1 <;> rfl
@[simp ↓] theorem zOpL_e : zOpL g f fb ε = bnd (f ε) (fun p => bnd (fb p.2) (fun b => bnd (g p.1 b) (fun d => some (d, p.2)) ⟨⟩) ⟨⟩) ⟨⟩ := by
  unfold zOpL bnd
  congr 1; funext p; congr 1; funext b
  cases g p.1 b <;> rfl
def testB : PyData × En → Option (Bool × En)
  | (.bool k, ε) => some (k, ε)
  | _ => none
@[simp] theorem testB_b (k : Bool) (ε : En) : testB (.bool k, ε) = some (k, ε) := rfl
@[simp ↓] theorem zTest_e : zTest f ε = bnd (f ε) testB ⟨⟩ := by
  unfold zTest bnd
  congr 1; funext p
  obtain ⟨d, e⟩ := p
  cases d <;> rfl
@[simp ↓] theorem zCall_e {gb : GB} {fl : En → Option (List PyData)} : zCall i gb fl ε = bnd (getS i ε) (fun s => bnd s (fun s => bnd (bagS s) (fun b => bnd (fl ε) (fun ds => bnd (gb b ds) (fun p => some (p.1, ε.set i (some (setB s p.2)))) ⟨⟩) ⟨⟩) ⟨⟩) ⟨⟩) ⟨⟩ := by
  unfold zCall bnd
  congr 1; funext s; congr 1; funext s; congr 1; funext b; congr 1; funext ds
  cases gb b ds <;> rfl
@[simp ↓] theorem zSl_e {fl fh : En → Option (Option Int)} : zSl f fl fh ε = bnd (f ε) (fun p => bnd (fl p.2) (fun lo => bnd (fh p.2) (fun hi => bnd (slD p.1 lo hi) (fun d => some (d, p.2)) ⟨⟩) ⟨⟩) ⟨⟩) ⟨⟩ := by
  unfold zSl bnd
  congr 1; funext p; congr 1; funext lo; congr 1; funext hi
  cases slD p.1 lo hi <;> rfl
@[simp ↓] theorem zTy_e {gl : List PyData → Option PyData} : zTy gl f ε = bnd (f ε) (fun p => bnd (gl [p.1]) (fun d => some (d, p.2)) ⟨⟩) ⟨⟩ := by
  unfold zTy bnd
  congr 1; funext p
  cases gl [p.1] <;> rfl
@[simp ↓] theorem zRng_e : zRng f ε = bnd (f ε) (fun p => bnd (rng1D [p.1]) (fun d => some (d, p.2)) ⟨⟩) ⟨⟩ := by
  unfold zRng bnd
  congr 1; funext p
  cases rng1D [p.1] <;> rfl
@[simp ↓] theorem dForZ_e {src : En → Option (List PyData × En)} {t : Tg} {B : TD} : dForZ src t B R ε = exO (src ε) (fun p => forB t B p.1 R p.2 ⟨⟩) ⟨⟩ := rfl
@[simp ↓] theorem azP_e {h : En → Option (List Slot)} : azP h ε = (h ε).map fun ss => (ss, ε) := rfl
@[simp ↓] theorem azC_e {h : En → Option (List Slot × En)} : azC f h ε = bnd (f ε) (fun p => bnd (h p.2) (fun q => some (.f p.1 :: q.1, q.2)) ⟨⟩) ⟨⟩ := by
  unfold azC bnd
  congr 1; funext p
  cases h p.2 <;> rfl
@[simp ↓] theorem dParZ_e {is : List Nat} {h : En → Option (List Slot × En)} : dParZ is h R ε = exO (h ε) (fun p => p.1.length = is.length ∧ atE (setE is p.1 p.2) R.nx ⟨⟩) ⟨⟩ := rfl
@[simp ↓] theorem bRet_e {Rb : PyData → Option (Option Slot) → Prop} : bRet f Rb ε = exO (f ε) (fun p => Rb p.1 (getS 0 p.2)) ⟨⟩ := rfl
@[simp ↓] theorem bSeq_e {Rb : PyData → Option (Option Slot) → Prop} {T : TD} {U : TB} : bSeq T U Rb ε = T ⟨U Rb, fun _ => False, fun _ => False, fun _ => False, fun _ => False⟩ ε := rfl
@[simp ↓] theorem bFrz_e {Rb : PyData → Option (Option Slot) → Prop} {U : TB} : bFrz i U Rb ε = U Rb (frzE i ε) := rfl
@[simp ↓] theorem dNever_e : dNever R ε = False := rfl
end
end M


namespace M
open PySem PySem.Spec PyProof.Rows L2
/-! ### d.get(k, x) -/
def dget2D (d k x : PyData) : Option PyData := match d with
  | .dict kvs => if isKeyD k = true then some ((lookD kvs k).getD x) else none
  | _ => none
def dGet2 (fd fk fx : En → Option PyData) : En → Option PyData := fun ε => (fd ε).bind fun d => (fk ε).bind fun k => (fx ε).bind fun x => dget2D d k x
section
variable {X : Cx} {a b c : Expr} {ta tb tc : TE} {fa fb fc : En → Option PyData} {apos cpos : Pos}
theorem de_dget2 (hu : X.A.units + 1 < cLine) (ha : DB X a ta fa) (hb : DE X b tb fb) (hc : DE X c tc fc)
    (h1 : attributeBase a "get" X.env (eval a X.env) = eval a X.env := by rfl)
    (h2 : ((backTo cpos (starEach [b, c] X.env)).all (fun x => !x.1) && (backToKw cpos (keywordEach [] X.env)).all (fun x => x.1.isSome)
      && decide (([b, c] : List Expr).length + ([] : List Keyword).length + (if ([] : List Keyword).isEmpty then 0 else 1) < 30)) = true := by rfl)
    (h3 : (apos.endLine == cpos.line) = true := by rfl) (h4 : backTo cpos (starEach [b, c] X.env) = [(false, eval b X.env), (false, eval c X.env)] := by rfl) :
    DE X (.Call (.Attribute a "get" apos) [b, c] [] cpos) (tDGet2 ta tb tc) (dGet2 fa fb fc) :=
  ⟨pe_dget2 hu ha.p hb.p hc.p ⟨h1, h2, h3, h4⟩, fun F H ε σ d Q r e1 q => by
    obtain ⟨d0, e2, e3⟩ := Option.bind_eq_some_iff.mp e1
    obtain ⟨k, e4, e5⟩ := Option.bind_eq_some_iff.mp e3
    obtain ⟨x, e6, e7⟩ := Option.bind_eq_some_iff.mp e5
    refine ha.r F H ε σ d0 _ r e2 fun u F1 H1 s1 d1 => ?_
    unfold dget2D at e7
    split at e7
    · rename_i kvs
      split at e7
      · rename_i hk
        obtain ⟨p, vs, rfl, hv, av⟩ := d1.entries s1.s
        refine ⟨p, rfl, .inl ⟨vs, .inl hv⟩, hb.r F1 H1 ε σ k _ (r.step s1) e4 fun y F2 H2 s2 d2 => hc.r F2 H2 ε σ x _ ((r.step s1).step s2) e6 fun z F3 H3 s3 d3 => ?_⟩
        obtain ⟨j, rfl⟩ := dn_key d2 hk
        have hv3 := s3.h _ _ (s2.h _ _ hv)
        have av3 := (av.mv s2.f).mv s3.f
        refine ⟨_, DGet.k hv3, ?_⟩
        have s := s1.trans (s2.trans s3)
        rcases kv_look (d2.mv s3.f) av3 with ⟨g1, g2⟩ | ⟨d', v, g1, g2, g3⟩
        · rw [g1] at e7; cases e7; rw [g2]; exact q z F3 H3 s d3
        · rw [g1] at e7; cases e7; rw [g2]; exact q v F3 H3 s g3
      · cases e7
    · cases e7⟩
end
@[simp ↓] theorem dGet2_e {fd fk fx : En → Option PyData} {ε : En} : dGet2 fd fk fx ε = bnd (fd ε) (fun d => bnd (fk ε) (fun k => bnd (fx ε) (fun x => dget2D d k x) ⟨⟩) ⟨⟩) ⟨⟩ := rfl
end M


namespace M
open PySem PySem.Spec PyProof.Rows L2 HotX

/-! ### iterators that end while an exception is handled -/
section
variable {prog : Program} {w : World} {A : Around} {E : Value → Shared → Prop} {s : Shared}
/-- a StopIteration is made and raised -/
theorem stop_hot {α : Type} {x1 : Addr} {Q : α → Shared → Prop} (hot : HotAt A x1 s.heap)
    (hE : ∀ h' e, (∀ b o, s.heap.get? b = some o → h'.get? b = some o) → (∃ o, h'.get? e = some o ∧ o.cls = .type "StopIteration") → E (.ref e) { s with heap := h' }) :
    wpAny (model prog w) A (newExc (.type "StopIteration") [] >>= fun e => (raiseNew e : Sem α)) Q E s := by
  obtain ⟨hh, o1, vs1, h1, d1, c1⟩ := hot
  refine wpAny_bind ?_
  simp only [newExc, newTuple]
  refine wpAny_bind (wpAny_newObj_type ?_ (by size_fits))
  refine wpAny_bind (m := firstArgMember _ _) (wpAny_of_eq (a := Value.none) (by first | rfl | (simp only [firstArgMember]; rfl)) ?_)
  refine wpAny_newObj_type ?_ (by size_fits)
  refine raiseNew_hot ⟨hh, o1, vs1, Heap.get?_push_of_some _ (Heap.get?_push_of_some _ h1), d1, c1⟩ (Nat.ne_of_lt (Heap.lt_size (Heap.get?_push_of_some _ h1))) (Heap.get?_push_size _ rfl) rfl (by first | (simp; done) | (simp; omega) | (simp only [Array.size_append]; simp; omega)) ?_
  refine hE _ _ (fun b o e => ?_) ⟨_, Heap.get?_update_self _ (Heap.get?_push_size _ rfl) rfl, rfl⟩
  rw [Heap.get?_update_other _ _ (Nat.ne_of_gt (Heap.lt_size (Heap.get?_push_of_some _ e)))]
  exact Heap.get?_push_of_some _ (Heap.get?_push_of_some _ e)
theorem hot_set {x1 it : Addr} {o : Obj} {f : Obj → Obj} (hot : HotAt A x1 s.heap) (hne : x1 ≠ it) : HotAt A x1 (s.heap.update it f) := by
  obtain ⟨hh, o1, vs1, h1, d1, c1⟩ := hot
  exact ⟨hh, o1, vs1, (Heap.get?_update_other _ _ (Ne.symm hne)).trans h1, d1, c1⟩
/-- what a record's iterator does at its end -/
theorem tail_hot {α : Type} {x1 it : Addr} {o : Obj} {vs : Array Value} {v : Value} {Q : α → Shared → Prop} (hot : HotAt A x1 s.heap) (hne : x1 ≠ it) (ho : s.heap.get? it = some o) (hd : o.data = .fields vs) (h0 : 0 < vs.size)
    (hE : ∀ h' e, Heap.ExtBut it s.heap h' → (∃ o, h'.get? e = some o ∧ o.cls = .type "StopIteration") → E (.ref e) { s with heap := h' }) :
    wpAny (model prog w) A (setField (.ref it) 0 v >>= fun _ => newExc (.type "StopIteration") [] >>= fun e => (raiseNew e : Sem α)) Q E s := by
  refine wpAny_bind (wpAny_setField ho hd h0 ?_)
  refine stop_hot (hot_set (o := o) hot hne) fun h' e k st => hE h' e (fun b u hb q => k b u ?_) st
  exact (Heap.get?_update_other _ _ (Ne.symm hb)).trans q
theorem nextOf_list_hot {it l x1 : Addr} {i : Nat} {items} {Q : Value → Shared → Prop} (hot : HotAt A x1 s.heap) (hne : x1 ≠ it) (hit : s.heap.IsListIter it l i) (hl : s.heap.IsList l items) (hx : items[i]? = none)
    (hE : ∀ h' e, Heap.ExtBut it s.heap h' → (∃ o, h'.get? e = some o ∧ o.cls = .type "StopIteration") → E (.ref e) { s with heap := h' }) :
    wpAny (model prog w) A (Builtin.SmallTypes.nextOf (.ref it)) Q E s := by
  obtain ⟨o, ho, hc, hd⟩ := id hit
  obtain ⟨ol, hol, _, nl, hdl⟩ := hl
  unfold Builtin.SmallTypes.nextOf
  refine wpAny_bind (wpAny_callSpecial?_slot (name := Str.ofString "__next__") hit.typeIs slot_listiter_next (wpAny_call_entry slot_listiter_next hit.typeIs entry_listiter_next ?_ (args_listiter_next _)))
  show wpAny _ _ (field (.ref it) 0 >>= _) _ _ s
  refine wpAny_bind (wpAny_field ho hd (x := .ref l) rfl ?_)
  show wpAny _ _ (if (Value.ref l == Value.none) = true then _ else _) _ _ s
  rw [if_neg (show ¬ ((Value.ref l == Value.none) = true) from Bool.false_ne_true)]
  show wpAny _ _ (field (.ref it) 1 >>= _) _ _ s
  refine wpAny_bind (wpAny_field ho hd (x := .int i 0) rfl ?_)
  show wpAny _ _ (seqItems? (.ref l) >>= _) _ _ s
  refine wpAny_bind (wpAny_seqItems hol hdl ?_)
  simp only [Int.toNat_natCast, hx]
  exact wpAny_bind (wpAny_rule (tail_hot hot hne ho hd (by simp) hE))
theorem next_tuple_hot {it t x1 : Addr} {i : Nat} {items} {Q : Option Value → Shared → Prop} (hot : HotAt A x1 s.heap) (hne : x1 ≠ it) (hit : IsTupIter s.heap it t i) (ht : IsTup s.heap t items) (hx : items[i]? = none)
    (hQ : ∀ h', Heap.ExtBut it s.heap h' → Q none { s with heap := h' }) : wpAny (model prog w) A (pyNext (.ref it)) Q E s := by
  obtain ⟨o, ho, hc, hd⟩ := id hit
  obtain ⟨ol, hol, _, nl, hdl⟩ := ht
  unfold pyNext
  refine wpAny_bind (wpAny_attempt (wpAny_callSpecial?_slot (name := Str.ofString "__next__") hit.typeIs slot_tupleiter_next (wpAny_call_entry slot_tupleiter_next hit.typeIs entry_tupleiter_next ?_ (args_tupleiter_next _))))
  show wpAny _ _ (field (.ref it) 0 >>= _) _ _ s
  refine wpAny_bind (wpAny_field ho hd (x := .ref t) rfl ?_)
  show wpAny _ _ (if (Value.ref t == Value.none) = true then _ else _) _ _ s
  rw [if_neg (show ¬ ((Value.ref t == Value.none) = true) from Bool.false_ne_true)]
  show wpAny _ _ (field (.ref it) 1 >>= _) _ _ s
  refine wpAny_bind (wpAny_field ho hd (x := .int i 0) rfl ?_)
  show wpAny _ _ (seqItems? (.ref t) >>= _) _ _ s
  refine wpAny_bind (wpAny_seqItems hol hdl ?_)
  simp only [Int.toNat_natCast, hx]
  refine wpAny_bind (wpAny_rule (tail_hot hot hne ho hd (by simp) fun h' e k st => ?_))
  obtain ⟨oe, he, hce⟩ := st
  refine wpAny_bind (wpAny_isInstance (T := "StopIteration") (b := true) ⟨_, he, hce⟩ isSubtype_stop ?_)
  exact wpAny_pure (hQ _ k)
theorem zip_next_hot {z TI TO i1 i2 l1 l2 x1 : Addr} {k1 k2 : Nat} {xs ys : Array Value} {a b : Value} {Q : Fin → Shared → Prop} (hot : HotAt A x1 s.heap) (nz : x1 ≠ z) (nO : x1 ≠ TO) (n1 : x1 ≠ i1) (n2 : x1 ≠ i2) (D : ZipApart z TI TO i1 i2 l1 l2)
    (hz : IsZip s.heap z TI TO .none) (hTI : IsPair s.heap TI (.ref i1) (.ref i2)) (hTO : IsPair s.heap TO a b) (h1 : s.heap.IsListIter i1 l1 k1) (h2 : s.heap.IsListIter i2 l2 k2) (hl1 : s.heap.IsList l1 xs) (hl2 : s.heap.IsList l2 ys) (hend : xs[k1]? = none ∨ ys[k2]? = none)
    (hE : ∀ h' e, (∀ c o, c ≠ z → c ≠ TO → c ≠ i1 → c ≠ i2 → s.heap.get? c = some o → h'.get? c = some o) → (∃ o, h'.get? e = some o ∧ o.cls = .type "StopIteration") → E (.ref e) { s with heap := h' }) :
    wpAny (model prog w) A (Builtin.«zip.__next__» ⟨[.ref z], []⟩) Q E s := by
  obtain ⟨hh, o1, vs1, g1, d1, c1⟩ := hot
  show wpAny _ _ (field (.ref z) 2 >>= _) _ _ _
  refine wpAny_bind (wpAny_field hz rfl (x := .bool false) rfl ?_)
  show wpAny _ _ (field (.ref z) 3 >>= _) _ _ _
  refine wpAny_bind (wpAny_field hz rfl (x := .ref TI) rfl ?_)
  refine wpAny_bind (wpAny_seqItems hTI rfl ?_)
  show wpAny _ _ (Builtin.SmallTypes.ownedTupleIsFree (.ref z) >>= _) _ _ _
  refine wpAny_bind ?_
  unfold Builtin.SmallTypes.ownedTupleIsFree
  refine wpAny_bind (wpAny_field hz rfl (x := .none) rfl (wpAny_pure ?_))
  simp only [if_true]
  refine wpAny_bind (wpAny_rule ?_)
  refine wpAny_bind (wpAny_field hz rfl (x := .ref TO) rfl ?_)
  refine wpAny_bind (wpAny_setField_rec hz (by simp) fun h₁ hz₁ hs₁ => ?_)
  replace hz₁ : IsZip h₁ z TI TO .ellipsis := hz₁
  have g₁ := hs₁.extBut _ _ nz g1
  refine wpAny_bind ?_
  simp only [List.zipIdx_cons, List.zipIdx_nil, List.forIn_cons, List.forIn_nil]
  refine wpAny_bind (wpAny_bind (wpAny_onRaise ?_))
  show wpAny _ _ (Builtin.SmallTypes.nextOf (.ref i1) >>= _) _ _ _
  -- the end at either
  have fin : ∀ {h₂ : Heap} {e : Addr}, h₂.get? z = some _ → (∀ c o, c ≠ z → c ≠ TO → c ≠ i1 → c ≠ i2 → s.heap.get? c = some o → h₂.get? c = some o) → (∃ o, h₂.get? e = some o ∧ o.cls = .type "StopIteration") →
      wpAny (model prog w) A (setField (.ref z) 0 .none) (fun _ s' => E (.ref e) s') E { s with heap := h₂ } := fun {h₂ e} hz₂ k he => by
    obtain ⟨oe, hoe, hce⟩ := he
    have hz₂ : IsZip h₂ z TI TO .ellipsis := hz₂
    have hez : e ≠ z := fun x => by subst x; rw [hz₂] at hoe; cases hoe; simp at hce
    refine wpAny_setField_rec hz₂ (by simp) fun h₃ _ hs₃ => hE h₃ e (fun c o c1 c2 c3 c4 x => hs₃.extBut _ _ c1 (k c o c1 c2 c3 c4 x)) ⟨oe, hs₃.extBut _ _ hez hoe, hce⟩
  cases hx : xs[k1]? with
  | none =>
    refine wpAny_bind (nextOf_list_hot ⟨hh, o1, vs1, g₁, d1, c1⟩ n1 (h1.extBut hs₁.extBut D.i1z) (hl1.extBut hs₁.extBut D.l1z) hx fun h₂ e hs₂ he => ?_)
    exact fin (hs₂ _ _ D.i1z.symm hz₁) (fun c o q1 _ q3 _ x => hs₂ _ _ q3 (hs₁.extBut _ _ q1 x)) he
  | some x =>
    have hy : ys[k2]? = none := by rcases hend with h | h; rw [hx] at h; cases h; exact h
    refine wpAny_bind (wpAny_nextOf_list_item (h1.extBut hs₁.extBut D.i1z) (hl1.extBut hs₁.extBut D.l1z) hx fun h₂ h1₂ hs₂ => wpAny_pure ?_)
    have hTO₂ : IsPair h₂ TO a b := hs₂.extBut _ _ D.TOi1 (hs₁.extBut _ _ D.TOz hTO)
    refine wpAny_bind (wpAny_seqItems hTO₂ rfl ?_)
    refine wpAny_bind (wpAny_updateSeq_pair hTO₂ fun h₃ hTO₃ hs₃ => ?_)
    refine wpAny_bind (wpAny_letGo (wpAny_pure ?_))
    refine wpAny_bind (wpAny_bind (wpAny_onRaise ?_))
    show wpAny _ _ (Builtin.SmallTypes.nextOf (.ref i2) >>= _) _ _ _
    have g₃ := hs₃.extBut _ _ nO (hs₂.extBut _ _ n1 g₁)
    refine wpAny_bind (nextOf_list_hot ⟨hh, o1, vs1, g₃, d1, c1⟩ n2 (((h2.extBut hs₁.extBut D.i2z).extBut hs₂.extBut D.i12.symm).extBut hs₃.extBut D.TOi2.symm)
      (((hl2.extBut hs₁.extBut D.l2z).extBut hs₂.extBut D.l2i1).extBut hs₃.extBut D.l2TO) hy fun h₄ e hs₄ he => ?_)
    exact fin (hs₄ _ _ D.i2z.symm (hs₃.extBut _ _ D.TOz.symm (hs₂.extBut _ _ D.i1z.symm hz₁))) (fun c o q1 q2 q3 q4 x => hs₄ _ _ q4 (hs₃.extBut _ _ q2 (hs₂.extBut _ _ q3 (hs₁.extBut _ _ q1 x)))) he
theorem pyNext_zip_hot {z TI TO i1 i2 l1 l2 x1 : Addr} {k1 k2 : Nat} {xs ys : Array Value} {a b : Value} {Q : Option Value → Shared → Prop} (hot : HotAt A x1 s.heap) (nz : x1 ≠ z) (nO : x1 ≠ TO) (n1 : x1 ≠ i1) (n2 : x1 ≠ i2) (D : ZipApart z TI TO i1 i2 l1 l2)
    (hz : IsZip s.heap z TI TO .none) (hTI : IsPair s.heap TI (.ref i1) (.ref i2)) (hTO : IsPair s.heap TO a b) (h1 : s.heap.IsListIter i1 l1 k1) (h2 : s.heap.IsListIter i2 l2 k2) (hl1 : s.heap.IsList l1 xs) (hl2 : s.heap.IsList l2 ys) (hend : xs[k1]? = none ∨ ys[k2]? = none)
    (hQ : ∀ h', (∀ c o, c ≠ z → c ≠ TO → c ≠ i1 → c ≠ i2 → s.heap.get? c = some o → h'.get? c = some o) → Q none { s with heap := h' }) : wpAny (model prog w) A (pyNext (.ref z)) Q E s := by
  have hT : s.TypeIs (.ref z) "zip" := ⟨_, hz, rfl⟩
  unfold pyNext
  refine wpAny_bind (wpAny_attempt (wpAny_callSpecial?_slot (name := Str.ofString "__next__") hT F.slot_zip_next
    (wpAny_call_entry F.slot_zip_next hT F.entry_zip_next (zip_next_hot hot nz nO n1 n2 D hz hTI hTO h1 h2 hl1 hl2 hend fun h' e hk he => ?_) (F.args_zip_next_1 _))))
  obtain ⟨o, ho, hc⟩ := he
  refine wpAny_bind (wpAny_isInstance (T := "StopIteration") (b := true) ⟨o, ho, hc⟩ isSubtype_stop ?_)
  exact wpAny_pure (hQ _ hk)
/-- a, b = t -/
theorem unpackItems_hot {t x1 : Addr} {items : Array Value} {Q : List Value → Shared → Prop} (hot : HotAt A x1 s.heap) (ht : IsTup s.heap t items)
    (hQ : ∀ h', Heap.ExtBut s.heap.objs.size s.heap h' → Q items.toList { s with heap := h' }) : wpAny (model prog w) A (unpackItems (.ref t) items.size none) Q E s := by
  have hlt : t ≠ s.heap.objs.size := by obtain ⟨o, ho, _⟩ := ht; exact Nat.ne_of_lt (Heap.lt_size ho)
  obtain ⟨hh, o1, vs1, g1, d1, c1⟩ := hot
  have hx1 : x1 ≠ s.heap.objs.size := Nat.ne_of_lt (Heap.lt_size g1)
  unfold unpackItems
  refine wpAny_bind ?_
  · unfold notIterableAtAll
    refine wpAny_bind (wpAny_specialOf ht.typeIs slot_tuple_iter.lookup ?_)
    refine wpAny_pure ?_
    simp only [Bool.false_eq_true, if_false]
    refine wpAny_bind (wpAny_holding (iter_tuple ht ?_))
    refine wpAny_bind (wpAny_holding (draw_tuple hlt items.size 0 _ _ ⟨_, Heap.get?_push_size _ rfl, rfl, rfl⟩ (ht.push _) (by omega) fun h₁ hit₁ hs₁ => ?_))
    have hall : List.take items.size (List.drop 0 items.toList) = items.toList := by
      rw [List.drop_zero]; exact List.take_of_length_le (by simp)
    rw [hall]
    rw [if_neg (by simp)]
    have ht₁ : IsTup h₁ t items := (ht.push _).extBut hs₁.extBut hlt
    refine wpAny_bind (wpAny_holding (next_tuple_hot ⟨hh, o1, vs1, hs₁.extBut _ _ hx1 (Heap.get?_push_of_some _ g1), d1, c1⟩ hx1 hit₁ ht₁ (by simp) fun h₂ he₂ => ?_))
    simp only [Option.isSome_none, Bool.false_eq_true, if_false]
    refine wpAny_pure (hQ h₂ fun b o hb e => he₂ b o hb (hs₁.extBut b o hb (Heap.get?_push_of_some _ e)))
theorem assign_tuple_hot {env : Env} {elts : List Expr} {k} {pos : Pos} {t x1 : Addr} {items : Array Value} {Q : Unit → Shared → Prop} (hot : HotAt A x1 s.heap) (ht : IsTup s.heap t items)
    (hn : (assignEach elts env).length = items.size) (hstar : (assignEach elts env).findIdx? (·.1) = none)
    (h : ∀ h', Heap.ExtBut s.heap.objs.size s.heap h' → wpAny (model prog w) A (assignInOrder ((assignEach elts env).map (·.2)) items.toList) Q E { s with heap := h' }) :
    wpAny (model prog w) A (assign (.Tuple elts k pos) env (.ref t)) Q E s := by
  rw [assign_Tuple]
  refine wpAny_bind (wpAny_standAt ?_)
  unfold unpack
  rw [hn, hstar]
  exact wpAny_bind (wpAny_holding (unpackItems_hot hot ht h))
end
/-! ### contexts in which an exception is handled -/
/-- whatever state of the context: the handled exception stands there, its context None -/
def HotW (X : Cx) : Prop := ∀ (pins : List (Addr × Obj)) (σ : L2.St) (H : Hp) (s : Shared), Inv X pins σ H s → ∃ p : Addr × Obj, X.A.handled = some (.ref p.1) ∧ (∃ vs : Array Value, p.2.data = .fields vs ∧ vs[2]? = some .none) ∧ s.heap.get? p.1 = some p.2
theorem HotW.at {X : Cx} {pins : List (Addr × Obj)} {σ : L2.St} {H : Hp} {s : Shared} (c : HotW X) (I : Inv X pins σ H s) : ∃ x1, HotAt X.A x1 s.heap := by
  obtain ⟨p, hh, ⟨vs, e1, e2⟩, hg⟩ := c pins σ H s I
  exact ⟨p.1, hh, p.2, vs, hg, e1, e2⟩
theorem hotW_of {X : Cx} (c : L2H.HotC X) : HotW X := fun pins σ H s I => by
  obtain ⟨p, ⟨hh, v1, e1, c1⟩, hp⟩ := c
  exact ⟨p, hh, ⟨v1, e1, c1⟩, (I.pin p (List.mem_append_left _ hp)).1⟩
theorem pg_tupH {X : Cx} {es : List Expr} {k : Nat} {t : TGs} {n : Nat} {pos : Pos} (hc : HotW X) (h : PGs X es t)
    (hn : (assignEach es X.env).length = n := by rfl) (hst : (assignEach es X.env).findIdx? (·.1) = none := by rfl) : PG X (.Tuple es k pos) (gTup X.K n t) := by
  refine ⟨fun pins s σ H v u Q I r hw => ?_⟩
  obtain ⟨a, xs, e1, hq, hl, hw⟩ := hw
  subst e1
  cases r
  obtain ⟨its, rv, ht, hz⟩ := I.tuple hq
  obtain ⟨x1, hot⟩ := hc.at I
  refine assign_tuple_hot hot ht (by simp [hn, ← hl, rv.length]) hst fun h' hx => ?_
  have I1 : Inv X pins σ H { s with heap := h' } := I.kept (t' := s.toks) fun b o e => hx b o (Nat.ne_of_lt (Heap.lt_size e)) e
  exact h.run pins _ σ H xs _ Q I1 (by simpa using rv) hw
end M


namespace M
open PySem PySem.Spec PyProof.Rows L2 HotX

/-! ### zip walked by a comprehension while an exception is handled -/
structure TurnW (P : Program) (w : World) (K : PySem.W.Frag) (tg : Expr) (J : It) (fp : List Addr) (it : Addr) (tn : Nat → Heap → Prop) : Prop where
  obj : ∀ i h, tn i h → ∀ b ∈ fp, ∃ o, h.get? b = some o ∧ ∀ v, o.data ≠ .cell v
  keep : ∀ i h h', tn i h → (∀ b ∈ fp, ∀ o, h.get? b = some o → h'.get? b = some o) → tn i h'
  item : ∀ (X : Cx), X.prog = P → X.w = w → X.K = K → HotW X → ∀ (i : Nat) (pins : List (Addr × Obj)) (s : Shared) (σ : L2.St) (H : Hp) (E : Value → Shared → Prop), Inv X pins σ H s → (∀ b ∈ fp, FpOk X pins H b) → tn i s.heap → J.go i H →
    wpAny (model P w) X.A (pyNext (.ref it)) (fun r s1 => ∃ u, r = some u ∧
      wpAny (model P w) X.A (letOwnedTupleGo tg (.ref it) u) (fun _ s2 => ∃ x H', Inv X pins σ H' s2 ∧ RelV x u ∧ J.yld i H x H' ∧ tn (i + 1) s2.heap ∧ ∀ b ∈ fp, H' b = none) E s1) E s
  done : ∀ (X : Cx), X.prog = P → X.w = w → X.K = K → HotW X → ∀ (i : Nat) (pins : List (Addr × Obj)) (s : Shared) (σ : L2.St) (H : Hp) (E : Value → Shared → Prop), Inv X pins σ H s → (∀ b ∈ fp, FpOk X pins H b) → tn i s.heap → J.stop i H →
    wpAny (model P w) X.A (pyNext (.ref it)) (fun r s1 => r = none ∧ Inv X pins σ H s1) E s
  self : ∀ (A : Around) (i : Nat) (s : Shared) (Q : Value → Shared → Prop) (E : Value → Shared → Prop), tn i s.heap → Q (.ref it) s → wpAny (model P w) A (pyIter (.ref it)) Q E s
/-- the handled exception's record is none of zip's -/
theorem hot_apart {h : Heap} {x1 z TI TO i1 i2 a b : Addr} {o : Obj} {vs : Array Value} {i j : Nat} {u v : Value} (g : h.get? x1 = some o) (d : o.data = .fields vs) (c : vs[2]? = some .none) (hz : IsZip h z TI TO .none) (hTO : IsPair h TO u v) (h1 : h.IsListIter i1 a i) (h2 : h.IsListIter i2 b j) :
    x1 ≠ z ∧ x1 ≠ TO ∧ x1 ≠ i1 ∧ x1 ≠ i2 := by
  refine ⟨fun q => ?_, fun q => ?_, fun q => ?_, fun q => ?_⟩ <;> subst q
  · rw [hz] at g; cases g; cases d; simp at c
  · rw [hTO] at g; cases g; cases d
  · obtain ⟨o1, e1, _, e3⟩ := h1
    rw [e1] at g; cases g; rw [e3] at d; cases d; simp at c
  · obtain ⟨o1, e1, _, e3⟩ := h2
    rw [e1] at g; cases g; rw [e3] at d; cases d; simp at c
theorem turn_zipW {P : Program} {w : World} {K : PySem.W.Frag} {elts : List Expr} {kk : Nat} {tpos : Pos} {a b z TI TO i1 i2 : Addr} (D : ZipApart z TI TO i1 i2 a b) :
    TurnW P w K (.Tuple elts kk tpos) (Itz K a b) [z, TI, TO, i1, i2] z (fun i h => IsZip h z TI TO .none ∧ IsPair h TI (.ref i1) (.ref i2) ∧ (∃ x y, IsPair h TO x y) ∧ h.IsListIter i1 a i ∧ h.IsListIter i2 b i) where
  obj := (turn_zip (P := P) (w := w) (K := K) (elts := elts) (kk := kk) (tpos := tpos) D).obj
  keep := (turn_zip (P := P) (w := w) (K := K) (elts := elts) (kk := kk) (tpos := tpos) D).keep
  item := by
    intro X hP hw hK hc i pins s σ H E I hf st hg
    subst hP hw hK
    obtain ⟨hz, hTI, ⟨x0, y0, hTO⟩, h1, h2⟩ := st
    obtain ⟨xs, ys, x, y, hqx, hqy, hx, hy⟩ := hg
    obtain ⟨its, rv, p, _⟩ := I.list hqx
    obtain ⟨its2, rv2, p2, _⟩ := I.list hqy
    obtain ⟨u, hu, ru⟩ := rv.get hx
    obtain ⟨u2, hu2, ru2⟩ := rv2.get hy
    have hzl : z < s.heap.objs.size := Heap.lt_size hz
    refine wpAny_pyNext_zip_item D hz hTI hTO h1 h2 p.isList p2.isList (x := u) (y := u2) (by simpa using hu) (by simpa using hu2) fun h' z' TO' h1' h2' hT hsz hk => ?_
    refine ⟨_, rfl, wpAny_letOwnedTupleGo_zip (s := { s with heap := h' }) z' fun h'' z'' sb => ?_⟩
    have hT2 : h''.get? s.heap.objs.size = some { cls := .type "tuple", data := .seq #[u, u2] } := (sb.2 _ (Nat.ne_of_gt hzl)).trans hT
    have new : ObjOk X.prog X.w (upd H s.heap.objs.size (.tup [x, y])) h'' s.heap.objs.size (.tup [x, y]) := ⟨by show 2 ≤ sizeLine; decide, [u, u2], .cons ru (.cons ru2 .nil), ⟨_, hT2, rfl, _, rfl⟩⟩
    have I1 : Inv X pins σ (upd H s.heap.objs.size (.tup [x, y])) { s with heap := h'' } :=
      I.turnedNew (t' := s.toks) (ch := [z, TI, TO, i1, i2]) (fun c o hb q => (sb.2 c (fun q' => hb (by simp [q']))).trans (hk c o (fun q' => hb (by simp [q'])) (fun q' => hb (by simp [q'])) (fun q' => hb (by simp [q'])) (fun q' => hb (by simp [q'])) q)) hf (Nat.le_refl _) new
    have lt : ∀ c, c ∈ [z, TI, TO, i1, i2] → c < s.heap.objs.size := fun c hc => by
      obtain ⟨o, e, _⟩ := (turn_zip (P := X.prog) (w := X.w) (K := X.K) (elts := elts) (kk := kk) (tpos := tpos) D).obj i s.heap ⟨hz, hTI, ⟨x0, y0, hTO⟩, h1, h2⟩ c hc
      exact Heap.lt_size e
    refine ⟨.ref s.heap.objs.size, _, I1, rfl, ⟨_, x, y, rfl, I.hok.fresh (Nat.le_refl _), rfl, fun l hl => by rw [I.list_inj hl hqx]; exact hx, fun l hl => by rw [I.list_inj hl hqy]; exact hy⟩, ⟨z'', ?_, ⟨u, u2, ?_⟩, ?_, ?_⟩, fun c hcm => ?_⟩
    · exact (sb.2 _ D.TIz).trans (hk _ _ D.TIz D.TITO D.TIi1 D.TIi2 hTI)
    · exact (sb.2 _ D.TOz).trans TO'
    · exact h1'.at fun o q => (sb.2 _ D.i1z).trans q
    · exact h2'.at fun o q => (sb.2 _ D.i2z).trans q
    · rw [upd_ne (Nat.ne_of_lt (lt c hcm))]
      exact (hf c hcm).1
  done := by
    intro X hP hw hK hc i pins s σ H E I hf st hg
    subst hP hw hK
    obtain ⟨hz, hTI, ⟨x0, y0, hTO⟩, h1, h2⟩ := st
    obtain ⟨xs, ys, hqx, hqy, hend⟩ := hg
    obtain ⟨its, rv, p, _⟩ := I.list hqx
    obtain ⟨its2, rv2, p2, _⟩ := I.list hqy
    have l1 := rv.length
    have l2 := rv2.length
    have he : its.toArray[i]? = none ∨ its2.toArray[i]? = none := by
      rcases hend with q | q
      · exact .inl (by simp; omega)
      · exact .inr (by simp; omega)
    obtain ⟨pp, hh, ⟨vs, e1, e2⟩, hgp⟩ := hc pins σ H s I
    obtain ⟨n1, n2, n3, n4⟩ := hot_apart hgp e1 e2 hz hTO h1 h2
    exact pyNext_zip_hot ⟨hh, pp.2, vs, hgp, e1, e2⟩ n1 n2 n3 n4 D hz hTI hTO h1 h2 p.isList p2.isList he fun h' hk => ⟨rfl, I.turnedL (t' := s.toks) (ch := [z, TI, TO, i1, i2]) (fun c o hb q =>
      hk c o (fun q' => hb (by simp [q'])) (fun q' => hb (by simp [q'])) (fun q' => hb (by simp [q'])) (fun q' => hb (by simp [q'])) q) hf⟩
  self := fun A i s Q E st h => wpAny_pyIter_zip st.1 h
def PIEW (X : Cx) (pins : List (Addr × Obj)) (σ : L2.St) (tg : Expr) (R : It → Hp → Prop) (itv : Value) (s2 : Shared) : Prop :=
  ∃ (it : Addr) (fp : List Addr) (tn : Nat → Heap → Prop) (J : It) (H' : Hp), itv = .ref it ∧ Inv X pins σ H' s2 ∧ TurnW X.prog X.w X.K tg J fp it tn ∧ tn 0 s2.heap ∧ (∀ b ∈ fp, FpOk X pins H' b) ∧ R J H'
structure PIW (X : Cx) (tg iter : Expr) (wi : TI) : Prop where
  run : ∀ (pins : List (Addr × Obj)) (s : Shared) (σ : L2.St) (H : Hp) (R : It → Hp → Prop), Inv X pins σ H s → wi σ H R →
    wpAny (model X.prog X.w) X.A (eval iter X.env) (fun v s1 => wpAny (model X.prog X.w) X.A (pyIter v) (PIEW X pins σ tg R) X.xe s1) X.xe s
theorem pi_zipW {X : Cx} {e e2 : Expr} {ta : TA} {p pos tpos : Pos} {elts : List Expr} {kk : Nat} (hg : Gl X "zip") (hm : X.mg "zip" = none) (ha : PA X [e, e2] ta)
    (hs : starEach [e, e2] X.env = (false, eval e X.env) :: starEach [e2] X.env := by rfl) (hpl : (backTo pos (starEach [e2] X.env)).any (·.1) = false := by rfl) :
    PIW X (.Tuple elts kk tpos) (.Call (.Name "zip" p) [e, e2] [] pos) (iZip X.K ta) := by
  refine ⟨fun pins s σ H R I h => ?_⟩
  refine Call_ (ld_blt I hg hm PyProof.Rows.boot_zip (PyProof.Rows.callWith_type1 (thn (ha.run pos pins s σ H _ I h) fun us s1 ⟨vs, H1, I1, r1, q1⟩ => ?_) hs hpl))
  obtain ⟨a, b, xs, ys, ex, hqx, hqy, q⟩ := q1
  subst ex
  cases r1 with
  | cons r rr =>
    cases rr with
    | cons r' rr =>
      cases rr
      cases r
      cases r'
      obtain ⟨its, rv, p1, _⟩ := I1.list hqx
      obtain ⟨its2, rv2, p2, _⟩ := I1.list hqy
      refine call_zip_2 p1.isList p2.isList fun h' hz hTI hTO h1 h2 hsz hk => wpAny_pyIter_zip hz ?_
      have I2 : Inv X pins σ H1 { s1 with heap := h' } := I1.kept (t' := s1.toks) hk
      refine ⟨s1.heap.objs.size + 4, [s1.heap.objs.size + 4, s1.heap.objs.size + 2, s1.heap.objs.size + 3, s1.heap.objs.size, s1.heap.objs.size + 1], _, _, H1, rfl, I2, turn_zipW (PySem.W.ktu_apart s1.heap.objs.size a b p1.lt p2.lt), ⟨hz, hTI, ⟨_, _, hTO⟩, h1, h2⟩, fun c hcm => ?_, q⟩
      have hle : s1.heap.objs.size ≤ c := by
        simp only [List.mem_cons, List.not_mem_nil, or_false] at hcm
        rcases hcm with z | z | z | z | z <;> rw [z] <;> first | exact Nat.le_refl _ | exact Nat.le_add_right _ _
      exact I1.fpOk hle (I1.hok.fresh hle)
/-- the block's states bear the handled exception, too -/
theorem hotW_blk {X : Cx} {pins : List (Addr × Obj)} {σ : L2.St} {H : Hp} {s : Shared} {scope : Scope} {ce : Env} {fp : List Addr} (c : L2H.HotC X) (I : Inv X pins σ H s) (hfp : ∀ b ∈ fp, FpOk X pins H b) : HotW (X.blk s H scope ce fp) := fun pins' σ' H' s' I' => by
  obtain ⟨p, ⟨hh, v1, e1, c1⟩, hp⟩ := c
  obtain ⟨g1, g2, g3, g4, g5⟩ := I.pin p (List.mem_append_left _ hp)
  refine ⟨p, hh, ⟨v1, e1, c1⟩, I'.base.keep p.1 p.2 g1 g2 (fun hm => ?_) fun hm => ?_⟩
  · rcases List.mem_cons.mp (I.stkSub p.1 hm) with z | z
    · exact g3 z
    · exact g4 z
  · obtain ⟨_, _, _, _, _, z⟩ := hfp p.1 hm
    exact z p (List.mem_append_left _ hp) rfl
/-- [elt for .. in .. if ..] -/
theorem pe_lcW {X : Cx} {elt tg iter : Expr} {ifs : List Expr} {scope : Scope} {own : List (Str × Nat)} {pos : Pos} {wi : TI} {g : TG} {tt : TT} {te : TE} (hc : L2H.HotC X) (hN : X.N.Nodup) (hi : PIW X tg iter wi) (ok : BlkOk X.N X.env.scope scope own)
    (hg : ∀ (s : Shared) (H : Hp) (C : Addr) (cl : List (Str × Addr)) (fp : List Addr), HotW (X.blk s H scope (compEnvC scope cl C X.env) fp) → PG (X.blk s H scope (compEnvC scope cl C X.env) fp) tg g) (ht : ∀ (s : Shared) (H : Hp) (C : Addr) (cl : List (Str × Addr)) (fp : List Addr), PTs (X.blk s H scope (compEnvC scope cl C X.env) fp) ifs tt)
    (he : ∀ (s : Shared) (H : Hp) (C : Addr) (cl : List (Str × Addr)) (fp : List Addr), PE (X.blk s H scope (compEnvC scope cl C X.env) fp) elt te) (hs : ∀ x, foldedSetIterable iter X.env x = pure x := by intro _; rfl) :
    PE X (.ListComp elt [⟨tg, iter, ifs, 0⟩] scope pos) (tLc wi g tt te (own.map (·.2))) := by
  refine ⟨fun pins s σ H Q I h => ?_⟩
  rw [eval_ListComp]
  have hfree : ∀ y ∈ scope.names, y.2 = .free → ∃ c, X.env.cells.lookup y.1 = some c := fun y hy e => by
    rcases ok.free y hy e with k | k
    · exact I.ok.has _ (.inl k)
    · exact I.ok.has _ (.inr k)
  refine wpAny_comprehension_free (use := none) rfl hs (closure_ok hfree) ok.kind (fun y hy e => by rw [ok.uniq y hy, e])
    (thn (hi.run pins s σ H _ I h) fun xv s1 hx => thn hx fun itv s2 h2 => ?_)
  obtain ⟨it, fp, tn, J, H2, e, I2, T, st2, f2, q⟩ := h2
  subst e
  refine wpAny_newObj_type (newEnv_comp ?_) (by show 0 ≤ sizeLine; decide)
  generalize hD : s2.heap.objs.size = D
  have hDn : H2 D = none := I2.hok.fresh (Nat.le_of_eq hD)
  obtain ⟨W, ⟨m0, w0⟩, turn⟩ := q D hDn
  generalize hs3 : ({ s2 with heap := s2.heap.push { cls := .type "list", data := .seq ([] : List Value).toArray } } : Shared) = s3
  have I3 : Inv X pins σ (upd H2 D (.lst [])) s3 := by
    rw [← hs3]
    refine I2.laid (t' := s2.toks) (fun b o e => Heap.get?_push_of_some _ e) (Nat.le_of_eq hD) ⟨Nat.zero_le _, [], 0, .nil, ?_⟩
    rw [← hD]
    exact Heap.get?_push_size _ rfl
  have h3 : s3.heap = s2.heap.push { cls := .type "list", data := .seq ([] : List Value).toArray } := by rw [← hs3]
  have f3 : ∀ b ∈ fp, FpOk X pins (upd H2 D (.lst [])) b ∧ b < s3.heap.objs.size := fun b hb => by
    obtain ⟨o, e, _⟩ := T.obj _ _ st2 b hb
    have hlt := Heap.lt_size e
    refine ⟨⟨?_, (f2 b hb).2⟩, by rw [h3, Heap.size_push]; exact Nat.lt_succ_of_lt hlt⟩
    rw [upd_ne (by rw [← hD]; exact Nat.ne_of_lt hlt)]
    exact (f2 b hb).1
  have st3 : tn 0 s3.heap := T.keep _ _ _ st2 fun b _ o e => by rw [h3]; exact Heap.get?_push_of_some _ e
  have I4 := block_start I3 ok hN f3
  show codeAny _ _ (.compStart (.ListComp elt [⟨tg, iter, ifs, 0⟩] scope pos) 0 (.ref it) (.ref D) (compEnvC scope (cellsFrom (s3.heap.objs.size + 1) scope.names (cloFrom X.env.cells scope.names [])) s3.heap.objs.size X.env)) (compPost (model X.prog X.w) X.A X.xe none (EP X pins σ Q) (.ref D) s3.heap.objs.size) { s3 with heap := pushCells (s3.heap.push { cls := .type "dict", data := .dict #[] }) scope.names }
  generalize hcl : cellsFrom (s3.heap.objs.size + 1) scope.names (cloFrom X.env.cells scope.names []) = cl at I4 ⊢
  have hot : HotW (X.blk s3 (upd H2 D (.lst [])) scope (compEnvC scope cl s3.heap.objs.size X.env) fp) := hotW_blk hc I3 fun b hb => (f3 b hb).1
  have pg := hg s3 (upd H2 D (.lst [])) s3.heap.objs.size cl fp hot
  have pt := ht s3 (upd H2 D (.lst [])) s3.heap.objs.size cl fp
  have pe := he s3 (upd H2 D (.lst [])) s3.heap.objs.size cl fp
  have nfp : ∀ b ∈ fp, (upd H2 D (.lst [])) b = none := fun b hb => (f3 b hb).1.1
  generalize hce : compEnvC scope cl s3.heap.objs.size X.env = ce at I4 pg pt pe hot ⊢
  have cL : ce.locals = s3.heap.objs.size := by subst hce; rfl
  generalize hH3 : upd H2 D (.lst []) = H3 at I3 I4 pg pt pe w0 nfp f3 hot
  generalize hs4 : ({ s3 with heap := pushCells (s3.heap.push { cls := .type "dict", data := .dict #[] }) scope.names } : Shared) = s4 at I4 ⊢
  have st4 : tn 0 s4.heap := T.keep _ _ _ st3 fun b _ o e => by rw [← hs4]; exact pushCells_keeps _ _ _ _ (Heap.get?_push_of_some _ e)
  have stat : ∀ {σ' : L2.St} {H' : Hp} {s' : Shared}, Inv (X.blk s3 H3 scope ce fp) [] σ' H' s' → (∀ b ∈ fp, H' b = none) → ∀ b ∈ fp, FpOk (X.blk s3 H3 scope ce fp) [] H' b := fun {σ' H' s'} I' hn b hb =>
    ⟨hn b hb, (I'.ok.exf b hb).1, I'.ok.exfs b hb, .inl hb, fun x c e => (I'.ok.exf b hb).2 x c e, fun p hp => absurd (show p ∈ ([] : List (Addr × Obj)) ++ [] from hp) (by simp)⟩
  refine codeAny_compStart_list ?_ (T.self X.A 0 _ _ _ st4 ?_) <;> skip
  all_goals
    refine compLoop_any (fun n s' => ∃ i H', Inv (X.blk s3 H3 scope ce fp) [] (wipe σ (own.map (·.2))) H' s' ∧ tn i s'.heap ∧ (∀ b ∈ fp, H' b = none) ∧ W i n H') ?_ m0 ⟨0, H3, I4, st4, nfp, w0⟩
    rintro n s5 ⟨i, H5, I5, st5, n5, w5⟩
    rcases turn i n H5 w5 with ⟨stop, qq⟩ | ⟨go, Nx, hNx, step⟩
    · have td := T.done (X.blk s3 H3 scope ce fp) rfl rfl rfl hot i [] s5 _ H5 (fun _ _ => False) I5 (stat I5 n5) st5 stop
      refine thnF td fun r s6 ⟨hr, I6⟩ => ?_
      subst hr
      have I7 : Inv X pins σ H5 s6 := I3.call' (ch := fp) I6.os I6.base I6.hok I6.bare fun b hb => ⟨(f3 b hb).1.2.2.2.1, (f3 b hb).1.2.1, (f3 b hb).1.2.2.2.2.1, (f3 b hb).1.2.2.2.2.2⟩
      have nC : H5 s3.heap.objs.size = none := by
        have z : H5 ce.locals = none := I6.free
        rw [cL] at z
        exact z
      obtain ⟨m, hn, _⟩ := I6.loc
      have hn : s6.heap.Ns ce.locals m := hn
      rw [cL] at hn
      obtain ⟨f0, f1, f2, f3, f4, f5⟩ := I3.fpOk (Nat.le_refl _) nC
      exact ⟨m, hn, fun h'' sb => ⟨.ref D, H5, I7.turned (t' := s6.toks) (fun b o hb e => (sb.2 b hb).trans e) f0 f1 f3 f4 f5, rfl, qq⟩⟩
    · have ti := T.item (X.blk s3 H3 scope ce fp) rfl rfl rfl hot i [] s5 _ H5 (fun _ _ => False) I5 (stat I5 n5) st5 go
      refine thnF ti fun r s6 ⟨u, hr, h6⟩ => ?_
      subst hr
      refine thnF h6 fun _ s7 ⟨x, H7, I7, r7, y7, st7, n7⟩ => ?_
      have I7' := I7.pinned (stat I7 n7) (T.obj _ _ st7)
      refine thnF (pg.run _ s7 _ H7 x u _ I7' r7 (step x H7 y7)) fun _ s8 ⟨σ8, H8, I8, hw8, q8⟩ => ?_
      refine thnF (pt.run _ s8 σ8 H8 _ I8 q8) fun b s9 ⟨H9, I9, q9⟩ => ?_
      have fin : ∀ {s' : Shared} {H' : Hp}, Inv (X.blk s3 H3 scope ce fp) ([] ++ pinsAt fp s7.heap) σ8 H' s' → Nx H' → ∃ m, m < n ∧ ∃ i H', Inv (X.blk s3 H3 scope ce fp) [] (wipe σ (own.map (·.2))) H' s' ∧ tn i s'.heap ∧ (∀ b ∈ fp, H' b = none) ∧ W i m H' := fun {s' H'} I' nx => by
        obtain ⟨m', hm, w'⟩ := hNx H' nx
        have pin' : ∀ b ∈ fp, ∀ o, s7.heap.get? b = some o → s'.heap.get? b = some o ∧ H' b = none := fun b hb o e =>
          let z := I'.pin (b, o) (List.mem_append_right _ (List.mem_append_right _ (mem_pinsAt hb e)))
          ⟨z.1, z.2.1⟩
        have hl : (wipe σ (own.map (·.2))).length = σ8.length := by rw [← hw8, wipe_length]
        refine ⟨m', hm, i + 1, H', (I'.unpinned (pins := [])).weak hl (fun j v e => ?_), T.keep _ _ _ st7 fun b hb o e => (pin' b hb o e).1, fun b hb => ?_, w'⟩
        · rw [← hw8] at e
          exact (wipe_some e).1
        · obtain ⟨o, e, _⟩ := T.obj _ _ st7 b hb
          exact (pin' b hb o e).2
      cases b with
      | false =>
        simp only [Bool.false_eq_true, if_false] at q9 ⊢
        exact fin I9 q9
      | true =>
        simp only [if_true] at q9 ⊢
        refine thnF (pe.run _ s9 σ8 H9 _ I9 q9) fun z s10 ⟨yv, H10, I10, r10, acc, hD10, hz10, nx⟩ => ?_
        exact app_ok (X := X.blk s3 H3 scope ce fp) I10 hD10 hz10 r10 fun s11 I11 => fin I11 nx
end M


namespace M
open PySem PySem.Spec PyProof.Rows L2 HotX

section
variable {X : Cx} {e a b elt tg iter : Expr} {es ifs : List Expr} {te ta tb to : TE} {fe fa fb fo : En → Option PyData} {pos apos cpos : Pos} {wi : TI} {g : TG} {src : En → Option (List PyData)} {gt : Tg} {tt : TT} {cc : En → Option Bool} {scope : Scope} {vs : List Nat} {o : Expr}
theorem pe_weak {t t' : TE} (h : PE X e t) (k : ∀ σ H Q, t' σ H Q → t σ H Q) : PE X e t' := ⟨fun pins s σ H Q I w => h.run pins s σ H Q I (k σ H Q w)⟩
/-! ### isinstance of the handled exception -/
/-- class C's instances are instances of what y names: b -/
structure IsA (K : PySem.W.Frag) (mg : Str → Option Value) (C : Addr) (y : Str) (b : Bool) : Prop where
  ex : (∃ c, mg y = some (.ref c) ∧ PySem.W.kitOne K (.ref C) (.ref c) = some b) ∨ (mg y = none ∧ ∃ T, bootBuiltins y = some (.type T) ∧ PySem.W.kitOne K (.ref C) (.type T) = some b)
theorem call_isP {a D : Addr} {oe : Obj} (hp : (a, oe) ∈ X.pn) (C : ExcC X.K D) (hz : Zc (.ref D) none oe) (hf : ∃ vs, oe.data = .fields vs) : CallR X (.builtin "isinstance") (rIsE X.K D a) := by
  intro pins s σ H xs us Q I r h
  obtain ⟨c, cv, b, rfl, hcv, e, q⟩ := h
  cases r with
  | cons rx rr =>
    cases rr with
    | cons rt rr =>
      cases rr
      cases rx
      have ec := hcv _ rt
      subst ec
      obtain ⟨hget, _⟩ := I.pin (a, oe) (List.mem_append_left _ hp)
      obtain ⟨vs, hv⟩ := hf
      have J : PySem.W.InstAt s.heap a oe D none := by
        obtain ⟨oc, od, oda, osl⟩ := oe
        obtain ⟨h1, h2⟩ := hz
        dsimp only at h1 h2 hv
        subst h1 h2 hv
        exact ⟨hget, rfl, rfl, trivial⟩
      exact PySem.W.kia_one (PySem.W.handS_kitx_exc C.hg C.hk C.hs C.hd C.ha C.hn C.ht C.hm) I.kIn J e (fun z => nomatch z) fun tk => ⟨.bl b, H, I.kept (t' := tk) fun _ _ z => z, rfl, q⟩
def tIsE (i : Nat) (a : Addr) (b : Bool) : TE := fun σ H Q => σ[i]? = some (some (.ref a)) ∧ Q (.bl b) H
def isEF (i : Nat) (a : Addr) (b : Bool) : En → Option PyData := fun ε => (getS i ε).bind fun s => match s with
  | some (.v (.ref a')) => if a' = a then some (.bool b) else none
  | _ => none
theorem de_isE {x y : Str} {p p1 p2 : Pos} {a D : Addr} {oe : Obj} {b : Bool} (i : Nat) (hp : (a, oe) ∈ X.pn) (C : ExcC X.K D) (hz : Zc (.ref D) none oe) (hf : ∃ vs, oe.data = .fields vs) (hi : IsA X.K X.mg D y b) (hm : X.mg "isinstance" = none) (hg : Gl X "isinstance" := by rfl) (hgT : Gl X y := by rfl)
    (hN : X.N[i]? = some x := by rfl) (hv : Vis X.env.scope x := by first | exact Or.inl rfl | exact Or.inr (Or.inl rfl) | exact Or.inr (Or.inr rfl)) (hd : (x == ("__debug__" : Str)) = false := by decide) (hcd : (x == ("__classdict__" : Str)) = false := by decide)
    (hn : y ≠ "__name__" := by decide) (hdy : (y == ("__debug__" : Str)) = false := by decide)
    (h1 : starEach (Expr.Name x p1 :: [Expr.Name y p2]) X.env = (false, eval (.Name x p1) X.env) :: starEach [Expr.Name y p2] X.env := by rfl) (h2 : starEach (Expr.Name y p2 :: []) X.env = (false, eval (.Name y p2) X.env) :: starEach [] X.env := by rfl) (hpl : (backTo pos (starEach [Expr.Name y p2] X.env)).any (·.1) = false := by rfl) :
    DE X (.Call (.Name "isinstance" p) [.Name x p1, .Name y p2] [] pos) (tIsE i a b) (isEF i a b) := by
  refine ⟨?_, fun F H ε σ d Q r e k => ?_⟩
  · rcases hi.ex with ⟨c, hc, hk⟩ | ⟨hc, T, hT, hk⟩
    · refine pe_weak (pe_callB (call_isP hp C hz hf) hg hm (by decide +kernel) (pa_cons (pe_var (i := i) hN hv hd hcd) (pa_cons (pe_glob (v := .ref c) hgT hc rfl hdy) pa_nil h2) h1) (by decide) (by decide) h1 hpl) fun σ H Q ⟨q1, q2⟩ => ?_
      exact ⟨_, q1, .ref c, .ref c, b, rfl, fun u r => r, hk, q2⟩
    · refine pe_weak (pe_callB (call_isP hp C hz hf) hg hm (by decide +kernel) (pa_cons (pe_var (i := i) hN hv hd hcd) (pa_cons (pe_bltn (v := .ty T) hgT hc hT rfl hn hdy) pa_nil h2) h1) (by decide) (by decide) h1 hpl) fun σ H Q ⟨q1, q2⟩ => ?_
      exact ⟨_, q1, .ty T, .type T, b, rfl, fun u r => r, hk, q2⟩
  · unfold isEF at e
    obtain ⟨s, e1, e2⟩ := Option.bind_eq_some_iff.mp e
    split at e2
    · split at e2
      · rename_i a' hz'
        subst hz'
        cases e2
        obtain ⟨v, h1, h2⟩ := r.sl i _ e1
        have h2 : v = .ref a' := h2
        subst h2
        exact ⟨h1, k _ F H (.refl r.sub) (.bl b)⟩
      · cases e2
    · cases e2
/-! ### x.split(y) -/
def splitL : PyData → PyData → Option (List PyData)
  | .str a, .str b => if (b.length == 0) = false ∧ a.length + 2 ≤ sizeLine ∧ (Txt.split a b).all PyData.strOk = true then some ((Txt.split a b).map .str) else none
  | _, _ => none
theorem dl_split (ho : DB X o to fo) (he : DB X e te fe) (hbase : attributeBase o "split" X.env (eval o X.env) = eval o X.env := by rfl)
    (hfew : ((backTo cpos (starEach [e] X.env)).all (fun x => !x.1) && (backToKw cpos (keywordEach [] X.env)).all (fun x => x.1.isSome)
      && decide ([e].length + ([] : List Keyword).length + (if ([] : List Keyword).isEmpty then 0 else 1) < 30)) = true := by rfl)
    (hline : (apos.endLine == cpos.line) = true := by rfl) (hs : starEach [e] X.env = (false, eval e X.env) :: starEach [] X.env := by rfl) (hplain : (backTo cpos (starEach [] X.env)).any (·.1) = false := by rfl) :
    DL X (.Call (.Attribute o "split" apos) [e] [] cpos) (tBM X.K "str" (fun x xs H Q => ∃ a b, x = .str a ∧ xs = [.str b] ∧ (b.length == 0) = false ∧ a.length + 2 ≤ sizeLine ∧ rNewStrs (Txt.split a b) H Q) to (tCons te tNil)) (dOpL splitL fo fe) :=
  ⟨pe_bm PySem.F.plainAttrs_str PySem.F.slot_str_split PySem.F.type_str_split mt_split ho.p (pa_cons he.p pa_nil hs) hbase hfew hline hs hplain, fun F H ε σ ds Q r e1 k => by
    obtain ⟨x, e2, e3⟩ := Option.bind_eq_some_iff.mp e1
    obtain ⟨y, e4, e5⟩ := Option.bind_eq_some_iff.mp e3
    refine ho.r F H ε σ x _ r e2 fun v F1 H1 s1 d1 => ?_
    unfold splitL at e5
    split at e5
    · split at e5
      · rename_i hc
        cases e5
        obtain ⟨rfl, o1⟩ := d1.str
        refine ⟨rfl, he.r F1 H1 ε σ _ _ (r.step s1) e4 fun w F2 H2 s2 d2 => ?_⟩
        obtain ⟨rfl, o2⟩ := d2.str
        refine ⟨_, _, rfl, rfl, hc.1, hc.2.1, fun p hp => ?_⟩
        obtain ⟨st, nf, hp'⟩ := new_lst (vs := (Txt.split _ _).map V.str) s2.s hp
        exact k p _ F2 _ (s1.trans (s2.trans st)) (s1.fr _ (s2.fr _ hp)) nf hp' (strs_dn (List.all_eq_true.mp hc.2.2))
      · cases e5
    · cases e5⟩
/-! ### [elt for a, b in zip(xs, ys) if ..] while an exception is handled -/
structure DIW (X : Cx) (tg iter : Expr) (wi : TI) (f : En → Option (List PyData)) : Prop where
  p : PIW X tg iter wi
  r : RI X.K wi f
def zipLD : List PyData → Option (List PyData)
  | [.list a, .list b] => some (zipL a b)
  | _ => none
theorem di_zipW {e2 : Expr} {ta' : TA} {fa' : En → Option (List PyData)} {p tpos : Pos} {elts : List Expr} {kk : Nat} (hg : Gl X "zip") (hm : X.mg "zip" = none) (ha : DA X [e, e2] ta' fa')
    (hs : starEach [e, e2] X.env = (false, eval e X.env) :: starEach [e2] X.env := by rfl) (hpl : (backTo pos (starEach [e2] X.env)).any (·.1) = false := by rfl) :
    DIW X (.Tuple elts kk tpos) (.Call (.Name "zip" p) [e, e2] [] pos) (iZip X.K ta') (fun ε => (fa' ε).bind zipLD) :=
  ⟨pi_zipW hg hm ha.p hs hpl, fun F H ε σ ds R r e k => by
    obtain ⟨d, e1, e2⟩ := Option.bind_eq_some_iff.mp e
    refine ha.r F H ε σ d _ r e1 fun vs F1 H1 s1 d1 => ?_
    unfold zipLD at e2
    split at e2
    · cases e2
      cases d1 with | cons a b => cases b with | cons b c => cases c; cases a with | lst sa aa => cases b with | lst sb ab =>
        exact ⟨_, _, _, _, rfl, seqL s1.s sa, seqL s1.s sb, k _ F1 H1 s1 (walks_zip sa sb aa ab)⟩
    · cases e2⟩
theorem dg_tupW {is : List Nat} {k : Nat} (hc : HotW X) (h : DGs X es is) (hn : es.length = is.length := by rfl) (h1 : (assignEach es X.env).length = es.length := by rfl) (h2 : (assignEach es X.env).findIdx? (fun x => x.1) = none := by rfl) : DG X (.Tuple es k pos) (gTup X.K es.length (gNames is)) (.tp is) := by
  refine ⟨pg_tupH hc h.p (hn := h1) (hst := h2), fun F0 H0 F H ε σ v d ε' Q r dn e k => ?_, fun F H ε σ v d ε' Q r dn e k => ?_⟩
  · obtain ⟨ds, rfl, hl, rfl⟩ := put_tp e
    cases dn with
    | tup sq al => exact ⟨_, _, rfl, seqT r.e.sub sq, by rw [al.length, hl, hn], putAll_rel r al hl k⟩
  · obtain ⟨ds, rfl, hl, rfl⟩ := put_tp e
    cases dn with
    | tup sq al => exact ⟨_, _, rfl, seqT r.sub sq, by rw [al.length, hl, hn], putAll_relE r al hl k⟩
theorem rge_tup {K : PySem.W.Frag} {is : List Nat} {n : Nat} (hn : n = is.length) : RGE K (gTup K n (gNames is)) (.tp is) := fun F H ε σ v d ε' Q r dn e k => by
  obtain ⟨ds, rfl, hl, rfl⟩ := put_tp e
  cases dn with
  | tup sq al => exact ⟨_, _, rfl, seqT r.sub sq, by rw [al.length, hl, hn], putAll_relE r al hl k⟩
theorem dl_lcW {ns : List Expr} {is : List Nat} {tpos : Pos} {kk : Nat} (own : List (Str × Nat)) (hc : L2H.HotC X) (hN : X.N.Nodup) (ok : BlkOk X.N X.env.scope scope own) (hi : DIW X (.Tuple ns kk tpos) iter wi src)
    (hg : ∀ (s : Shared) (H : Hp) (C : Addr) (cl : List (Str × Addr)) (fp : List Addr), HotW (X.blk s H scope (compEnvC scope cl C X.env) fp) → DG (X.blk s H scope (compEnvC scope cl C X.env) fp) (.Tuple ns kk tpos) (gTup X.K ns.length (gNames is)) (.tp is))
    (ht : ∀ (s : Shared) (H : Hp) (C : Addr) (cl : List (Str × Addr)) (fp : List Addr), DTs (X.blk s H scope (compEnvC scope cl C X.env) fp) ifs tt cc)
    (he : ∀ (s : Shared) (H : Hp) (C : Addr) (cl : List (Str × Addr)) (fp : List Addr), DE (X.blk s H scope (compEnvC scope cl C X.env) fp) elt te fe)
    (hn : ns.length = is.length := by rfl) (hvs : own.map (·.2) = vs := by rfl) (hT : ∀ j ∈ is, j ∈ vs := by decide) (hs : ∀ x, foldedSetIterable iter X.env x = pure x := by intro _; rfl) :
    DL X (.ListComp elt [⟨.Tuple ns kk tpos, iter, ifs, 0⟩] scope pos) (tLc wi (gTup X.K ns.length (gNames is)) tt te vs) (dLc src (.tp is) vs cc fe) := by
  subst hvs
  exact ⟨pe_lcW hc hN hi.p ok (fun s H C cl fp hw => (hg s H C cl fp hw).p) (fun s H C cl fp => (ht s H C cl fp).p) (fun s H C cl fp => (he s H C cl fp).p) hs,
    rl_lc hi.r (rge_tup hn) hT (ht X.s_0 X.H_0 0 [] []).r (he X.s_0 X.H_0 0 [] []).r⟩
end
/-! ### a def that is called while an exception is handled, with that exception -/
/-- it tells the text txt of the instances of the class at C -/
structure FnE (P : Program) (w : World) (K : PySem.W.Frag) (mg : Str → Option Value) (base : Heap) (k : Nat) (f : Addr) (fd : FuncData) (ps : List Str) (C : Addr) (txt : Str) : Prop where
  run : ∀ (A : Around) (outer : List Env) (s : Shared) (H F : Hp) (args : Args) (u : Value) (Q : VK) (p : Addr × Obj), L2H.RoomH k A → L2H.Hot1 A p → Zc (.ref C) none p.2 → L2H.PinOk outer H s p → Env0 P w K mg base A outer s H → BindsTo s fd args (ps.zip [u]) → RelV (.ref p.1) u → Lies F H → (∀ F' H', Step F H F' H' → Q (.str txt) H') →
    codeAny (model P w) A (.call (.ref f) args) (CR CX0 outer P w H s Q E0) s
section
variable {P : Program} {w : World} {K : PySem.W.Frag} {mg : Str → Option Value} {base : Heap}
def startV (N : List Str) (v : V) : En := some (.v v) :: List.replicate (N.length - 1) none
theorem startV_rel {N : List Str} {F H : Hp} {v : V} (hN : 0 < N.length) (s : Lies F H) : Rel K F H F H (startV N v) (L2.start N [v]) := by
  have no : ∀ (i : Nat) (s : Slot), (startV N v)[i]? = some (some s) → i = 0 ∧ s = .v v := fun i s e => by
    cases i with
    | zero => cases e; exact ⟨rfl, rfl⟩
    | succ i =>
      have e : (List.replicate (N.length - 1) (none : Option Slot))[i]? = some (some s) := e
      rw [List.getElem?_replicate] at e
      split at e <;> cases e
  refine ⟨⟨s, by simp [startV, L2.start] <;> omega, fun i s' e => ?_⟩, .refl s, fun i p ⟨s', h1, h2, _⟩ => ?_, fun i j p ⟨s', h1, h2, _⟩ => ?_⟩
  · obtain ⟨rfl, rfl⟩ := no i s' e
    exact ⟨v, rfl, rfl⟩
  · obtain ⟨_, rfl⟩ := no i s' h1
    cases h2
  · obtain ⟨_, rfl⟩ := no i s' h1
    cases h2
theorem defE {x qual : Str} {st : Stmt} {f : Addr} {fd : FuncData} {N : List Str} {y : Str} {k : Nat} {C : Addr} {txt : Str} {T : Addr → TD} (F : Fun K x qual st f fd) (S : FnScope N [y] (defScope st)) (hok : PyData.strOk txt = true)
    (body : ∀ (cdv : Value) (A : Around) (outer : List Env) (s : Shared) (H : Hp) (p : Addr × Obj), Zc (.ref C) none p.2 → L2H.Hot1 A p → ∃ t, DSs (L2H.cxH CX0 P w K mg base N qual (defScope st) f cdv A outer s H E0 p) (defBody st) t (T p.1))
    (pure : ∀ a, T a { nx := fun _ => False, rt := fun s => s.val = some (.str txt) } (startV N (.ref a))) : FnE P w K mg base (k + 1) f fd [y] C txt := by
  obtain ⟨oc, od, kV, doc, pm, an, cdv, ct, osl, rfl, lk, hcd⟩ := F.ex
  refine ⟨fun A outer s H F0 args u Q p hr hot hz hpin e0 hb ru sl hq => ?_⟩
  have KX : K.In s.heap := e0.mod.kin.keeps fun b o e => (e0.bs b o e).1
  have lim : s.heap.NoLimit := e0.mod.nolimit.keeps fun b o e => (e0.bs b o e).1
  have hkind : ∀ z ∈ [y].zip [u], (defScope st).names.lookup z.1 = some .local ∨ ((defScope st).names.lookup z.1 = some .cell ∧ ((cellsFrom (s.heap.objs.size + 1) (defScope st).names []).lookup z.1).isSome = true) := fun ⟨n, v⟩ hy => by
    rcases S.par n (List.of_mem_zip hy).1 with q | q
    · exact .inl q
    · exact .inr ⟨q, PySem.W.cellsFrom_some _ _ _ (.inl q)⟩
  refine codeAny_call_function hr.depth (KX _ _ lk) rfl S.co S.gen rfl (PySem.W.codeRec_of KX hcd) (hb _ _ _ _ ?_)
  refine wpAny_newFunctionEnv_cells S.kind hkind fun env he s1 x => ?_
  subst he
  refine ⟨lim.keeps x.toInCall.keep, codeAny_func ?_⟩
  obtain ⟨t, ht⟩ := body cdv A outer s H p hz hot
  have I : Inv (L2H.cxH CX0 P w K mg base N qual (defScope st) f cdv A outer s H E0 p) [] (L2.start N [.ref p.1]) H s1 := L2H.inv_startH S hpin e0 rfl (.cons ru .nil) x
  have hN : 0 < N.length := by
    have := congrArg List.length S.pre
    rw [List.length_take] at this
    simp only [List.length_cons, List.length_nil] at this
    omega
  have hq' := ht.r F0 H F0 H _ _ _ { nx := fun _ H' => Q .non H', rt := Q } (startV_rel (v := .ref p.1) hN sl) (pure p.1) ⟨fun _ _ _ _ _ _ h => h.elim, fun sv v H' ⟨F', st', h1, h2⟩ h3 => ?_, fun _ _ _ _ _ _ h => h.elim, fun _ _ _ _ _ _ h => h.elim⟩
  · refine wpAny_mono (ht.p.run [] s1 (L2.start N [.ref p.1]) H _ I hq') (fun fl s' hs => ?_) fun e s' hs => hs
    have fin : ∀ {σ' : L2.St} {H' : Hp} {v : V} {u : Value}, Inv (L2H.cxH CX0 P w K mg base N qual (defScope st) f cdv A outer s H E0 p) [] σ' H' s' → L2.RelV v u → Q v H' → CE outer P w H s Q u s' :=
      fun {σ' H' v u} J rv q => ⟨v, H', J.os, J.bare, J.base, J.hok, rv, q⟩
    cases fl with
    | ret u =>
      obtain ⟨v, σ', H', J, rv, q⟩ := hs
      exact fin J rv q
    | next =>
      obtain ⟨σ', H', J, q⟩ := hs
      exact fin (v := V.non) (u := Value.none) J rfl q
    | brk =>
      obtain ⟨_, _, _, q⟩ := hs
      exact False.elim q
    | cont =>
      obtain ⟨_, _, _, q⟩ := hs
      exact False.elim q
  · cases sv with
    | f d' =>
      cases h3
      cases h1
      exact hq F' H' st'
    | o ds' => cases h3
    | od ds' => cases h3
    | v y => cases h3
    | oa p ds => cases h3
    | tf d' T => cases h3; cases h1.1; exact hq F' H' st'
end
end M


namespace M
open PySem PySem.Spec PyProof.Rows L2 HotX

/-! ### lambdas handed to a def, exceptions of context None -/
/-- the table at P may have grown, all else stands -/
structure Grew (P : Addr) (q : Str) (H H1 : Hp) : Prop where
  k : ∀ b o, b ≠ P → H b = some o → H1 b = some o
  fr : ∀ b, H1 b = none → H b = none
  t : LamX.TabS H1 P q
theorem Grew.refl {P : Addr} {q : Str} {H : Hp} (t : LamX.TabS H P q) : Grew P q H H := ⟨fun _ _ _ h => h, fun _ h => h, t⟩
section
variable {X : Cx} {pins : List (Addr × Obj)} {σ : L2.St} {H HZ : Hp} {s s1 : Shared}
theorem lam_make3 {c P : Addr} {params : Arguments} {body : Expr} {scope : Scope} {pos : Pos} {E : Value → Shared → Prop} {Q : Value → Shared → Prop} (I : Inv X pins σ H s) (TB : LamX.TabB X.base X.mg c P) (hcode : X.env.code = .ref c)
    (hT : LamX.TabS H P (X.env.qual ++ "<lambda>")) (hdef : defaultsOf params X.env = ([], [])) (hfree : ∀ y ∈ scope.names, y.2 = .free → ∃ c, X.env.cells.lookup y.1 = some c)
    (h : ∀ (f c' : Addr) (pm ctv : Value) (H1 : Hp) (s' : Shared), Inv X pins σ H1 s' → Grew P (X.env.qual ++ "<lambda>") H H1 →
      s'.heap.get? f = some (PySem.W.kla_obj "<lambda>" (X.env.qual ++ "<lambda>") params body scope (cloFrom X.env.cells scope.names []) pm c' ctv) → H1 f = none → f ∉ frs X.stack → H1 c' = some (LamX.CodeO c' (X.env.qual ++ "<lambda>")) → Q (.ref f) s') :
    wpAny (model X.prog X.w) X.A (eval (.Lambda params body scope pos) X.env) Q E s := by
  obtain ⟨ps, hP, ht, ha⟩ := hT
  refine PySem.W.kla_eval hdef ?_
  have bP : s.heap.BuiltinsAt X.mg P := TB.bm.keeps I.bk
  have hP' : s.heap.get? P = some { cls := .none, data := .fields ps } := I.hok P _ hP
  have nofr : ∀ f, s.heap.objs.size ≤ f → f ∉ frs X.stack := fun f hf z => by
    rcases List.mem_cons.mp (I.stkSub _ z) with e | e
    · have h1 := I.lt
      rw [← e] at h1
      exact Nat.lt_irrefl _ (Nat.lt_of_lt_of_le h1 hf)
    · exact I.nofs hf e
  cases hc : codeAmong pos ps.toList with
  | none =>
    refine PySem.W.kla_makeFunction (mg := X.mg) (c := c) (P := P) (ps := ps) (closure_ok hfree) I.ok.glob (I.mod.glob.keeps I.bk) hcode (TB.code.keeps I.bk) hP' ht hc TB.gP bP fun c' ctv h' tk hx hge hlt hrec htb => ?_
    obtain ⟨c2, oc, vs, t, e2, hoc, hd, hv⟩ := hrec
    cases e2
    have hsz : s.heap.objs.size ≤ h'.objs.size := Nat.le_trans hge (Nat.le_of_lt hlt)
    have nC : H c' = none := I.hok.fresh hge
    have nPc : P ≠ c' := ne_of_none hP nC
    have I1 := LamX.inv_table (t' := tk) (more := #[rawInt pos.line, rawInt pos.col, .ref c']) (h' := h'.push (PySem.W.kla_obj "<lambda>" (X.env.qual ++ "<lambda>") params body scope (cloFrom X.env.cells scope.names []) ((X.mg "__name__").getD .none) c' ctv)) I hP
      (fun b o hb e => Heap.get?_push_of_some _ (hx b o hb e)) (Heap.get?_push_of_some _ htb) hge ⟨oc, vs, t, Heap.get?_push_of_some _ hoc, hd, hv⟩
    have hE : ∀ b o, b ≠ P → H b = some o → (upd (upd H P (.tbl (ps ++ #[rawInt pos.line, rawInt pos.col, .ref c']))) c' (LamX.CodeO c' (X.env.qual ++ "<lambda>"))) b = some o := fun b o n e => by
      rw [upd_ne (ne_of_none e nC), upd_ne n]
      exact e
    have eL : (ps ++ #[rawInt pos.line, rawInt pos.col, .ref c']).toList = ps.toList ++ [rawInt pos.line, rawInt pos.col, .ref c'] := by simp
    refine h h'.objs.size c' ((X.mg "__name__").getD .none) ctv _ _ I1 ⟨hE, fun b hb => upd_some (upd_some hb), ⟨_, by rw [upd_ne nPc, upd_same], by rw [eL]; exact PySem.TriplesOk_snoc _ _ _ _ ht, fun p' cv hcv => ?_⟩⟩ (Heap.get?_push_size _ rfl) ?_ (nofr _ hsz) upd_same
    · rw [eL] at hcv
      rcases LamX.among_app _ ht hcv with z | z
      · obtain ⟨c0, e1, e2⟩ := ha p' cv z
        refine ⟨c0, e1, hE _ _ (fun q => ?_) e2⟩
        rw [q, hP] at e2
        unfold LamX.CodeO at e2
        cases e2
      · exact ⟨c', z, upd_same⟩
    · have n1 : h'.objs.size ≠ c' := Nat.ne_of_gt hlt
      have n2 : h'.objs.size ≠ P := Nat.ne_of_gt (Nat.lt_of_lt_of_le (Heap.lt_size hP') hsz)
      rw [upd_ne n1, upd_ne n2]
      exact I.hok.fresh hsz
  | some cv =>
    obtain ⟨c', e, hco⟩ := ha pos cv hc
    subst e
    refine PySem.W.kla_makeFunctionHit (mg := X.mg) (c := c) (P := P) (ps := ps) (closure_ok hfree) I.ok.glob (I.mod.glob.keeps I.bk) hcode (TB.code.keeps I.bk) hP' ht hc bP fun ctv h' tk hx hsz => ?_
    have I1 : Inv X pins σ H { s with heap := h'.push (PySem.W.kla_obj "<lambda>" (X.env.qual ++ "<lambda>") params body scope (cloFrom X.env.cells scope.names []) ((X.mg "__name__").getD .none) c' ctv), toks := tk } := I.kept fun b o e => Heap.get?_push_of_some _ (hx b o e)
    exact h h'.objs.size c' ((X.mg "__name__").getD .none) ctv H _ I1 (.refl ⟨ps, hP, ht, ha⟩) (Heap.get?_push_size _ rfl) (I.hok.fresh hsz) (nofr _ hsz) hco
/-- the context of the lambda's body -/
def lamCxN (X : Cx) (A : Around) (outer : List Env) (s : Shared) (H : Hp) (E : XK) (scope : Scope) (f c' : Addr) : Cx :=
  (LamX.lamCx X A outer s H E scope f c').tr [] fun e s' => wpAny (model X.prog X.w) (A.deeper (LamX.lamEnv X scope s.heap.objs.size f c')) (leaving (LamX.lamEnv X scope s.heap.objs.size f c') e) (fun _ s'' => L2N.CX X.prog X.w outer H s E e s'') (fun e' s'' => L2N.CX X.prog X.w outer H s E e' s'') s'
theorem takes_lam {A : Around} {outer : List Env} {E : XK} {scope : Scope} {f c' : Addr} : L2N.Takes (lamCxN X A outer s HZ E scope f c') (fun cls d _ H => E cls d H) := L2N.takes_of rfl rfl rfl rfl
/-- x(), in the def that got the lambda -/
theorem pe_actN {CXg : CXT} {Eg : XK} {Ng : List Str} {qg : Str} {sg : Scope} {g f c' : Addr} {cdg pm ctv : Value} {params : Arguments} {body : Expr} {scope : Scope} {k i : Nat} {a : Str} {pn : List (Addr × Obj)} {xe : Value → Shared → Prop} {W : WX} {E : XK} {tb : TE} {p1 p2 : Pos}
    (I : Inv X pins σ H s) (L : LamX.LamS X.env.scope scope) (hf : s.heap.get? f = some (PySem.W.kla_obj "<lambda>" (X.env.qual ++ "<lambda>") params body scope (cloFrom X.env.cells scope.names []) pm c' ctv)) (hfn : H f = none) (hfr : f ∉ frs X.stack)
    (hbind : bindArgs (PySem.W.kla_fn "<lambda>" (X.env.qual ++ "<lambda>") params body scope (cloFrom X.env.cells scope.names []) pm (.ref c') ctv) ⟨[], []⟩ = pure [])
    (tk : L2N.Takes ((cxOf CXg X.prog X.w X.K X.mg X.base Ng qg sg g cdg X.A X.stack s H Eg).tr pn xe) W) (hW : ∀ cls d σ' H', E cls d H' → W cls d σ' H') (hr : Room (k + 1) (X.A.deeper (envOfC qg sg s.heap.objs.size g cdg)))
    (hbody : ∀ (A : Around) (outer : List Env) (s : Shared) (H : Hp), Room k (A.deeper (LamX.lamEnv X scope s.heap.objs.size f c')) → PE (lamCxN X A outer s H E scope f c') body tb)
    (hN : Ng[i]? = some a) (hv : Vis sg a) (hd : (a == ("__debug__" : Str)) = false := by decide) (hcd : (a == ("__classdict__" : Str)) = false := by decide) :
    PE ((cxOf CXg X.prog X.w X.K X.mg X.base Ng qg sg g cdg X.A X.stack s H Eg).tr pn xe) (.Call (.Name a p1) [] [] p2)
      (fun σZ HZ Q => σZ[i]? = some (some (.ref f)) ∧ HZ c' = some (LamX.CodeO c' (X.env.qual ++ "<lambda>")) ∧ tb σ HZ Q) := by
  refine ⟨fun pinsZ sZ σZ HZ Q IZ h => ?_⟩
  obtain ⟨hs, hc, ht⟩ := h
  refine wpAny_Call_Name_kw (thn ((pe_var (pos := p1) (i := i) hN hv hd hcd).run pinsZ sZ σZ HZ (fun v H1 => v = .ref f ∧ H1 = HZ) IZ ⟨.ref f, hs, rfl, rfl⟩) fun u s1 ⟨v, H1, I1, r1, q1⟩ => ?_)
  obtain ⟨ev, eH⟩ := q1
  subst ev
  rw [eH] at I1
  obtain rfl : u = Value.ref f := r1
  have of1 : s1.heap.get? f = some (PySem.W.kla_obj "<lambda>" (X.env.qual ++ "<lambda>") params body scope (cloFrom X.env.cells scope.names []) pm c' ctv) := I1.base.keep f _ hf hfn hfr (fun z => nomatch (show f ∈ ([] : List Addr) from z))
  refine PySem.W.callWith_F0 ⟨_, _, _, _, of1⟩ ?_
  have un : Un (frs X.stack) [] H HZ s.heap s1.heap := I1.base
  obtain ⟨⟨oc, vs, t, hoc, hdc, hvc⟩, _, _⟩ := I1.hok c' _ hc
  have rc : codeAny (model X.prog X.w) (X.A.deeper (envOfC qg sg s.heap.objs.size g cdg)) (.call (.ref f) ⟨[], []⟩) (CR (L2N.CX X.prog X.w) (envOfC qg sg s.heap.objs.size g cdg :: X.stack) X.prog X.w HZ s1 Q E) s1 := by
    refine PySem.W.kla_callFunE hr.depth of1 rfl L.co L.gen rfl ⟨c', oc, vs, t, rfl, hoc, hdc, hvc⟩ ?_
    rw [hbind]
    refine wpAny_pure (wpAny_newFunctionEnv (fun y hy => (L.own y hy).2) (fun y hy => absurd hy (by simp)) (fun h₁ hns hsb => ⟨I1.nolimit.fresh _ hsb, ?_⟩) L.kind)
    show codeAny _ _ (.expr body (LamX.lamEnv X scope s1.heap.objs.size f c')) _ _
    have kp : ∀ b o, s1.heap.get? b = some o → h₁.get? b = some o := fun b o e => hsb.extBut b o (Nat.ne_of_lt (Heap.lt_size e)) (Heap.get?_push_of_some _ e)
    have J : Inv (lamCxN X (X.A.deeper (envOfC qg sg s.heap.objs.size g cdg)) (envOfC qg sg s.heap.objs.size g cdg :: X.stack) s1 HZ E scope f c') [] σ HZ { s1 with heap := h₁, toks := s1.toks + ([] : List (Str × Value)).length } :=
      (LamX.lam_start2 (E := E) (X := X) I L I1.env0 hr.hd un hns kp).toTry _
    refine PySem.W.kla_codeExpr (wpAny_mono ((hbody _ _ s1 HZ (hr.deeper _)).run [] _ _ HZ Q J ht) (fun v s' hq => ?_) fun e s' hq => hq)
    obtain ⟨w', H', J', rv, q⟩ := hq
    exact ⟨w', H', J'.os, J'.bare, J'.base, J'.hok, rv, q⟩
  have hx : Passes (L2N.CX X.prog X.w) ((cxOf CXg X.prog X.w X.K X.mg X.base Ng qg sg g cdg X.A X.stack s H Eg).tr pn xe) E := L2N.passes_call tk hW
  refine wpAny_call (codeAny_mono rc fun r s' hq => ?_)
  cases r with
  | error e => exact hx pinsZ σZ HZ s1 e s' I1 hq
  | ok fl =>
    cases fl with
    | ret u => exact I1.after hq
    | next => exact False.elim hq
    | brk => exact False.elim hq
    | cont => exact False.elim hq
end
/-- what a def makes of the lambda that it gets -/
def GivesN (X : Cx) (Ng : List Str) (x : Str) (sg : Scope) (g : Addr) (cdg : Value) (bg : List Stmt) (a : Str) (q : Str) (k : Nat) (TT : (XK → Hp → VK → Prop) → Hp → VK → Prop) : Prop :=
  ∀ (f c' : Addr) (s : Shared) (H : Hp) (Q : VK) (tl : XK → Hp → VK → Prop), Room k (X.A.deeper (envOfC x sg s.heap.objs.size g cdg)) →
    (∀ (W : WX) (pn : List (Addr × Obj)) (xe : Value → Shared → Prop) (E : XK) (p1 p2 : Pos), L2N.Takes ((cxOf CX0 X.prog X.w X.K X.mg X.base Ng x sg g cdg X.A X.stack s H E0).tr pn xe) W → (∀ cls d σ' H', E cls d H' → W cls d σ' H') →
      PE ((cxOf CX0 X.prog X.w X.K X.mg X.base Ng x sg g cdg X.A X.stack s H E0).tr pn xe) (.Call (.Name a p1) [] [] p2) (fun σZ HZ Q => σZ[0]? = some (some (.ref f)) ∧ HZ c' = some (LamX.CodeO c' q) ∧ tl E HZ Q)) →
    H c' = some (LamX.CodeO c' q) → TT tl H Q →
    ∃ t, PSs (cxOf CX0 X.prog X.w X.K X.mg X.base Ng x sg g cdg X.A X.stack s H E0).nox bg t ∧ t { nx := fun _ H' => Q .non H', rt := Q } (L2.start Ng [.ref f]) H
def tLamN (P : Addr) (q : Str) (TT : (XK → Hp → VK → Prop) → Hp → VK → Prop) (t : XK → TE) : TE := fun σ H Q => LamX.TabS H P q ∧ ∀ H1, Grew P q H H1 → TT (fun E H' Q' => t E σ H' Q') H1 Q
/-- the def that gets lambdas -/
structure LamDef (P : Program) (w : World) (K : PySem.W.Frag) (mg : Str → Option Value) (base : Heap) (x a : Str) (g : Addr) (k : Nat) (TT : (XK → Hp → VK → Prop) → Hp → VK → Prop) : Prop where
  gm : mg x = some (.ref g)
  kp : PySem.W.keepIn K (.ref g) = true
  ex : ∃ (pg : Arguments) (bg : List Stmt) (sg : Scope) (dV kV doc pm cdv ct oc : Value) (an od : Option Addr) (osl : Array (Option Value)) (Ng : List Str), K.lookup g = some ⟨oc, od, .func (PySem.W.fnOf x x pg bg sg dV kV doc pm an cdv ct), osl⟩ ∧ PySem.W.codeIn K cdv x = true ∧
    L2.Binds K (PySem.W.fnOf x x pg bg sg dV kV doc pm an cdv ct) [a] [] ∧ FnScope Ng [a] sg ∧ Ng[0]? = some a ∧ Vis sg a ∧ ∀ (X : Cx) (q : Str), X.prog = P → X.w = w → X.K = K → X.mg = mg → X.base = base → GivesN X Ng x sg g cdv bg a q k TT
theorem pe_lamcallN {X : Cx} {TT : (XK → Hp → VK → Prop) → Hp → VK → Prop} {x a : Str} {g c P : Addr} {k : Nat} {params : Arguments} {body : Expr} {scope : Scope} {t : XK → TE} {p lpos pos : Pos} (hg : Gl X x) (D : LamDef X.prog X.w X.K X.mg X.base x a g k TT)
    (TB : LamX.TabB X.base X.mg c P) (hcode : X.env.code = .ref c) (hr : Room (k + 1) X.A) (hk1 : 1 ≤ k) (L : LamX.LamS X.env.scope scope) (hdef : defaultsOf params X.env = ([], []))
    (hbind : ∀ (q : Str) (cl : List (Str × Addr)) (pm cv ctv : Value), bindArgs (PySem.W.kla_fn "<lambda>" q params body scope cl pm cv ctv) ⟨[], []⟩ = pure [])
    (hbody : ∀ (A : Around) (outer : List Env) (s : Shared) (H : Hp) (E : XK) (f c' : Addr), Room (k - 1) (A.deeper (LamX.lamEnv X scope s.heap.objs.size f c')) → PE (lamCxN X A outer s H E scope f c') body (t E))
    (hdb : (x == ("__debug__" : Str)) = false := by decide) (hd : (a == ("__debug__" : Str)) = false := by decide) (hcd : (a == ("__classdict__" : Str)) = false := by decide) :
    PE X (.Call (.Name x p) [.Lambda params body scope lpos] [] pos) (tLamN P (X.env.qual ++ "<lambda>") TT t) := by
  obtain ⟨pg, bg, sg, dV, kV, doc, pm, cdv, ct, oc, an, od, osl, Ng, lk, hcg, hb, Sg, hNg, hva, hG0⟩ := D.ex
  have hG := hG0 X (X.env.qual ++ "<lambda>") rfl rfl rfl rfl rfl
  refine ⟨fun pins s σ H Q I h => ?_⟩
  obtain ⟨hT, h⟩ := h
  refine wpAny_Call_Name_kw (ld_glob I hg D.gm ?_ hdb)
  refine PySem.W.callWith_K (h₀ := X.base) I.ok.mod.kin D.kp ?_ (by rfl) (by rfl)
  show wpAny _ _ (spliced ((false, eval (.Lambda params body scope lpos) X.env) :: backTo pos (starEach [] X.env))) _ _ s
  refine Calls.spliced_cons (lam_make3 I TB hcode hT hdef (L.has I.ok) fun f c' pm' ctv H1 s' I1 gr hf hfn hfr hco => ?_)
  refine Calls.spliced_nil ⟨I1.kIn, ?_⟩
  have rc : codeAny (model X.prog X.w) X.A (.call (.ref g) ⟨[.ref f], []⟩) (CR CX0 X.stack X.prog X.w H1 s' Q E0) s' := by
    refine LamX.run_ofS (N := Ng) (ps := [a]) (us := [.ref f]) (vs := [.ref f]) lk hcg Sg hr I1.env0 (hb s' [.ref f] I1.kIn rfl) (.cons rfl .nil) rfl fun hr' => ?_
    have hr1 : Room (k - 1 + 1) (X.A.deeper (envOfC x sg s'.heap.objs.size g cdv)) := by rw [Nat.sub_add_cancel hk1]; exact hr'
    obtain ⟨t', ht', hq'⟩ := hG f c' s' H1 Q (fun E H' Q' => t E σ H' Q') hr' (fun W pn xe E p1 p2 tk hW => pe_actN (i := 0) I1 L hf hfn hfr (hbind _ _ _ _ _) tk hW hr1 (fun A outer s H hr2 => hbody A outer s H E f c' hr2) hNg hva hd hcd) hco (h H1 gr)
    exact ⟨t', ht'.nox, hq'⟩
  refine wpAny_call (codeAny_mono rc fun r s2 hq => ?_)
  cases r with
  | error e => exact (show False from hq).elim
  | ok fl =>
    cases fl with
    | ret u => exact I1.after hq
    | next => exact False.elim hq
    | brk => exact False.elim hq
    | cont => exact False.elim hq
end M


namespace M
open PySem PySem.Spec PyProof.Rows L2 HotX

/-! ### defs that raise -/
/-- a value, or an error by its class's name -/
abbrev GX := List PyData → Option (Except Str PyData)
def XSp (K : PySem.W.Frag) (ec : Str → Addr) (g : GX) : Sp := fun vs H Q E => ∃ F ds r, Lies F H ∧ DnAll K F vs ds ∧ g ds = some r ∧ (∀ d, r = .ok d → ∀ v F' H', Step F H F' H' → Dn K F' v d → Q v H') ∧ (∀ n, r = .error n → ∀ F' H', Step F H F' H' → E (.ref (ec n)) none H')
/-- statements that may raise -/
def RSX (K : PySem.W.Frag) (ec : Str → Addr) (E : XK) (t : TS) (T : TD) : Prop := ∀ (F0 H0 F H : Hp) (ε : En) (σ : L2.St) (R : DEnds) (D : Ends), Rel K F0 H0 F H ε σ → T R ε → Cor K F0 H0 F R D → (∀ n F' H', Step F0 H0 F' H' → R.er n → E (.ref (ec n)) none H') → t D σ H
structure DSX (X : Cx) (ec : Str → Addr) (E : XK) (sts : List Stmt) (t : TS) (T : TD) : Prop where
  p : PSs X sts t
  r : RSX X.K ec E t T
structure DX1 (X : Cx) (ec : Str → Addr) (E : XK) (st : Stmt) (t : TS) (T : TD) : Prop where
  p : PS X st t
  r : RSX X.K ec E t T
/-- expressions that may raise -/
abbrev FX := En → Option (Except Str PyData)
def REX (K : PySem.W.Frag) (ec : Str → Addr) (E : XK) (t : TE) (f : FX) : Prop := ∀ (F H : Hp) (ε : En) (σ : L2.St) (r : Except Str PyData) (Q : VK), RelE K F H ε σ → f ε = some r →
  (∀ d, r = .ok d → ∀ v F' H', Step F H F' H' → Dn K F' v d → Q v H') → (∀ n, r = .error n → ∀ F' H', Step F H F' H' → E (.ref (ec n)) none H') → t σ H Q
structure DEX (X : Cx) (ec : Str → Addr) (E : XK) (e : Expr) (t : TE) (f : FX) : Prop where
  p : PE X e t
  r : REX X.K ec E t f
/-- the calls of such a def -/
structure CalX (P : Program) (w : World) (K : PySem.W.Frag) (mg : Str → Option Value) (base : Heap) (x : Str) (k : Nat) (sp : Sp) : Prop where
  ex : ∃ (fa : Addr) (fd : FuncData) (ps : List Str), FnOk P w K mg base (L2N.CX P w) k fa fd ps sp ∧ mg x = some (.ref fa) ∧ PySem.W.keepIn K (.ref fa) = true ∧ Binds K fd ps []
/-- a class of errors: what the text makes of it -/
structure ErrC (K : PySem.W.Frag) (mg : Str → Option Value) (n : Str) (C : Addr) : Prop where
  gP : mg n = some (.ref C)
  xP : PySem.W.excIn K C [.type "ValueError", .type "Exception", .type "BaseException", .type "object"] "ValueError.__new__" = true
  kP : PySem.W.keepIn K (.ref C) = true
  bP : PySem.W.subIn K (.ref C) (.type "BaseException") = some true
  tP : PySem.W.typeIn K (.ref C) = some (.type "type")
section
variable {X : Cx} {ec : Str → Addr} {E : XK} {e : Expr} {es : List Expr} {t : TA} {te tb : TE} {f : En → Option (List PyData)} {fx : FX} {x : Str} {p pos : Pos} {st : Stmt} {sts : List Stmt} {ts u : TS} {T U : TD}
theorem dex_cal {g : GX} {k j : Nat} (c : CalX X.prog X.w X.K X.mg X.base x k (XSp X.K ec g)) (hr : Room j X.A) (hx : Passes (L2N.CX X.prog X.w) X E) (ha : DA X (e :: es) t f) (hj : k ≤ j := by decide) (hg : Gl X x := by rfl) (hdb : (x == ("__debug__" : Str)) = false := by decide)
    (he : starEach (e :: es) X.env = (false, eval e X.env) :: starEach es X.env := by rfl) (hpl : (backTo pos (starEach es X.env)).any (·.1) = false := by rfl) : DEX X ec E (.Call (.Name x p) (e :: es) [] pos) (tCall (XSp X.K ec g) [] E t) (fun ε => (f ε).bind g) :=
  let ⟨_, _, _, G, hm, hk, hb⟩ := c.ex
  ⟨pe_call G (hr.mono hj) hg hm hk hb .nil hx ha.p hdb he hpl, fun F H ε σ r Q rel e1 q1 q2 => by
    obtain ⟨ds, e2, e3⟩ := Option.bind_eq_some_iff.mp e1
    refine ha.r F H ε σ ds _ rel e2 fun vs F1 H1 s1 d1 => ?_
    rw [List.append_nil]
    exact ⟨F1, ds, r, s1.s, d1, e3, fun d h v F' H' s d' => q1 d h v F' H' (s1.trans s) d', fun n h F' H' s => q2 n h F' H' (s1.trans s)⟩⟩
/-- a call that raises nothing -/
@[simp] def okX : Except Str PyData → Option PyData
  | .ok d => some d
  | .error _ => none
theorem passN {X : Cx} : Passes (L2N.CX X.prog X.w) X fun _ _ _ => False := fun _ _ _ _ _ _ _ h => by
  obtain ⟨_, _, _, _, _, _, _, _, _, _, _, _, z⟩ := h
  exact z.elim
theorem de_calX {g : GX} {k j : Nat} (c : CalX X.prog X.w X.K X.mg X.base x k (XSp X.K ec g)) (hr : Room j X.A) (ha : DA X (e :: es) t f) (hj : k ≤ j := by decide) (hg : Gl X x := by rfl) (hdb : (x == ("__debug__" : Str)) = false := by decide)
    (he : starEach (e :: es) X.env = (false, eval e X.env) :: starEach es X.env := by rfl) (hpl : (backTo pos (starEach es X.env)).any (·.1) = false := by rfl) : DE X (.Call (.Name x p) (e :: es) [] pos) (tCall (XSp X.K ec g) [] (fun _ _ _ => False) t) (fun ε => (f ε).bind fun ds => (g ds).bind okX) :=
  let ⟨_, _, _, G, hm, hk, hb⟩ := c.ex
  ⟨pe_call G (hr.mono hj) hg hm hk hb .nil passN ha.p hdb he hpl, fun F H ε σ d Q rel e1 q => by
    obtain ⟨ds, e2, e3⟩ := Option.bind_eq_some_iff.mp e1
    obtain ⟨r, e4, e5⟩ := Option.bind_eq_some_iff.mp e3
    refine ha.r F H ε σ ds _ rel e2 fun vs F1 H1 s1 d1 => ?_
    rw [List.append_nil]
    refine ⟨F1, ds, r, s1.s, d1, e4, fun d' h v F' H' s d' => ?_, fun n h F' H' s => ?_⟩
    · subst h; cases e5; exact q v F' H' (s1.trans s) d'
    · subst h; cases e5⟩
/-- what raises nothing -/
@[simp] def xOk (f : En → Option PyData) : FX := fun ε => (f ε).map .ok
theorem dex_pure {fe : En → Option PyData} (h : DE X e te fe) : DEX X ec E e te (xOk fe) := ⟨h.p, fun F H ε σ r Q rel e1 q1 _ => by
  obtain ⟨d, e2, rfl⟩ := Option.map_eq_some_iff.mp e1
  exact h.r F H ε σ d Q rel e2 fun v F' H' s d' => q1 d rfl v F' H' s d'⟩
/-! statements -/
def xOn (R : DEnds) (r : Except Str PyData) (k : PyData → Prop) : Prop := match r with
  | .ok d => k d
  | .error n => R.er n
def xDrop (f : FX) : TD := fun R ε => ∃ r, f ε = some r ∧ xOn R r fun _ => R.nx ε
theorem dx1_expr (h : DEX X ec E e te fx) (hs : swapsWith e none pos.line X.env = pure false := by rfl) : DX1 X ec E (.Expr e pos) (tDrop te) (xDrop fx) := ⟨ps_expr h.p hs, fun F0 H0 F H ε σ R D r ⟨d, e1, h'⟩ c ce =>
  h.r F H ε σ d _ r.e e1 (fun d' z v F' H' s _ => by subst z; exact c.nx _ _ _ _ (r.step s) s.f h') fun n z F' H' s => by subst z; exact ce n F' H' (r.st.trans s) h'⟩
def xRet (f : FX) : TD := fun R ε => ∃ r, f ε = some r ∧ xOn R r fun d => R.rt (.f d)
theorem dx1_ret (h : DEX X ec E e te fx) : DX1 X ec E (.Return (some e) pos) (tRet te) (xRet fx) := ⟨ps_ret h.p, fun F0 H0 F H ε σ R D r ⟨d, e1, h'⟩ c ce =>
  h.r F H ε σ d _ r.e e1 (fun d' z v F' H' s dv => by subst z; exact c.rt _ _ _ ⟨F', r.st.trans s, (show SlotR X.K F' H' v (.f d') from dv), fun p z => by cases z⟩ h') fun n z F' H' s => by subst z; exact ce n F' H' (r.st.trans s) h'⟩
def xAsg (i : Nat) (f : FX) : TD := fun R ε => ∃ r, f ε = some r ∧ xOn R r fun d => R.nx (ε.set i (some (.f d)))
theorem dx1_set (i : Nat) {y : Str} {pos' : Pos} (hN : X.N.Nodup) (h : DEX X ec E e te fx) (hi : X.N[i]? = some y := by rfl) (hx : Loc X.env.scope y := by first | exact Or.inl rfl | exact Or.inr rfl) (hs : swapsWith e (some (.Name y pos')) pos.line X.env = pure false := by rfl)
    (hf : X.fn y = true ∨ X.env.scope.names.lookup y = some .local := by first | exact .inl rfl | exact .inr rfl | assumption) : DX1 X ec E (.Assign [.Name y pos'] e pos) (tAsg te (gName i)) (xAsg i fx) := ⟨ps_set hN hi hx h.p hs hf, fun F0 H0 F H ε σ R D r ⟨d, e1, h'⟩ c ce =>
  h.r F H ε σ d _ r.e e1 (fun d' z v F' H' s dv => by subst z; exact c.nx _ _ _ _ (r.setF s dv) s.f h') fun n z F' H' s => by subst z; exact ce n F' H' (r.st.trans s) h'⟩
/-- raise C('..') -/
def xRaise (n : Str) : TD := fun R _ => R.er n
theorem exm_of {K : PySem.W.Frag} {C : Addr} {cls : Value} {b : Bool} (h1 : PySem.W.subIn K (.ref C) (.type "BaseException") = some true) (hdct : PySem.W.hasDictIn K C = true) (ht : PySem.W.typeIn K (.ref C) = some (.type "type")) (h4 : PySem.W.subIn K cls (.ref C) = some b) : PySem.W.exmOne K cls (.ref C) = some b := PySem.W.exm_ref h1 hdct ht h4
theorem dx1_raise {n m : Str} {j : Nat} {p2 p3 : Pos} (hc : X.calm = true) (tk : L2N.Takes X (fun cls d _ H => E cls d H)) (k : ErrC X.K X.mg n (ec n)) (hg : Gl X n := by rfl) (hdb : (n == ("__debug__" : Str)) = false := by decide) :
    DX1 X ec E (.Raise (some (.Call (.Name n p) [.Constant (.str m) j p2] [] p3)) none pos) (fun _ σ H => E (.ref (ec n)) none H) (xRaise n) :=
  ⟨L2N.ps_raise hc tk (L2N.pmk_own PySem.F.excBase_ValueError k.xP k.gP k.kP (raises_own k.bP k.tP) hg hdb), fun F0 H0 F H ε σ R D r h c ce => ce n F H r.st h⟩
/-- what comes behind raises nothing, or may -/
theorem dsx_nox (h : DSs X.nox sts ts T) : DSX X ec E sts ts T := ⟨h.p.nox, fun F0 H0 F H ε σ R D r h' c _ => h.r F0 H0 F H ε σ R D r h' c⟩
theorem dsx_one (h : DX1 X ec E st ts T) : DSX X ec E [st] ts T := ⟨pss_one h.p, h.r⟩
theorem dsx_cons (h1 : DX1 X ec E st ts T) (h2 : DSX X ec E sts u U) : DSX X ec E (st :: sts) (tSeq ts u) (dSeq T U) := ⟨pss_cons h1.p h2.p, fun F0 H0 F H ε σ R D r h c ce =>
  h1.r F0 H0 F H ε σ { R with nx := U R } { D with nx := u D } r h ⟨fun ε σ F' H' r' z h' => h2.r F0 H0 F' H' ε σ R D r' h' (c.mono z) ce, c.rt, c.bk, c.ct⟩ ce⟩
theorem dx1_plain (h : DS X st ts T) : DX1 X ec E st ts T := ⟨h.p, fun F0 H0 F H ε σ R D r h' c _ => h.r F0 H0 F H ε σ R D r h' c⟩
theorem dx1_nox (h : DS X.nox st ts T) : DX1 X ec E st ts T := ⟨ps_nox h.p, fun F0 H0 F H ε σ R D r h' c _ => h.r F0 H0 F H ε σ R D r h' c⟩
theorem dx1_if {c : Expr} {sa sb : List Stmt} {tc : TT} {g : En → Option Bool} (hc : DT X c tc g) (ha : DSX X ec E sa ts T) (hb : DSX X ec E sb u U) : DX1 X ec E (.If c sa sb pos) (tIfS tc ts u) (dIf g T U) := ⟨ps_if hc.p ha.p hb.p, fun F0 H0 F H ε σ R D r ⟨k, e1, h'⟩ c ce =>
  hc.r F H ε σ k _ r.e e1 fun F' H' s => by
    cases k with
    | true => exact iteT (ha.r F0 H0 F' H' ε σ R D (r.step s) (by simpa using h') (c.mono s.f) ce)
    | false => exact iteF (hb.r F0 H0 F' H' ε σ R D (r.step s) (by simpa using h') (c.mono s.f) ce)⟩
theorem dx1_frz (i : Nat) (h : DX1 X ec E st ts T) : DX1 X ec E st ts (dFrz i T) := ⟨h.p, fun F0 H0 F H ε σ R D r h' c ce => by
  obtain ⟨F', r', z⟩ := r.frzAt (i := i)
  exact h.r F0 H0 F' H _ σ R D r' h' (c.mono z) ce⟩
end
@[simp ↓] theorem xDrop_e {f : FX} {R : DEnds} {ε : En} : xDrop f R ε = exO (f ε) (fun r => xOn R r fun _ => R.nx ε) ⟨⟩ := rfl
@[simp ↓] theorem xRet_e {f : FX} {R : DEnds} {ε : En} : xRet f R ε = exO (f ε) (fun r => xOn R r fun d => R.rt (.f d)) ⟨⟩ := rfl
@[simp ↓] theorem xAsg_e {i : Nat} {f : FX} {R : DEnds} {ε : En} : xAsg i f R ε = exO (f ε) (fun r => xOn R r fun d => atE (ε.set i (some (.f d))) R.nx ⟨⟩) ⟨⟩ := rfl
@[simp ↓] theorem xRaise_e {n : Str} {R : DEnds} {ε : En} : xRaise n R ε = R.er n := rfl
@[simp] theorem xOn_ok {R : DEnds} {d : PyData} {k : PyData → Prop} : xOn R (.ok d) k = k d := rfl
@[simp] theorem xOn_er {R : DEnds} {n : Str} {k : PyData → Prop} : xOn R (.error n) k = R.er n := rfl
section
variable {P : Program} {w : World} {K : PySem.W.Frag} {mg : Str → Option Value} {base : Heap} {ec : Str → Addr}
theorem slot_val {F' H' H0 F0 : Hp} {sl : Slot} {v : V} {d : PyData} (st : Step F0 H0 F' H') (h1 : SlotR K F' H' v sl) (h2 : ∀ p, sl.own = true → v = .ref p → H0 p = none) (h3 : sl.val = some d) : ∃ F'', Step F0 H0 F'' H' ∧ Dn K F'' v d := by
  cases sl with
  | f d' => cases h3; exact ⟨F', st, h1⟩
  | o ds' =>
    cases h3
    obtain ⟨p, vs', rfl, hp, hF, al⟩ := h1
    obtain ⟨s', d'⟩ := frz_new st (h2 p rfl rfl) hF hp al
    exact ⟨_, s', d'⟩
  | od ds' =>
    cases h3
    obtain ⟨p, vs', rfl, hp, hF, al⟩ := h1
    exact ⟨_, frz_step st (h2 p rfl rfl) rfl hp hF, .dic upd_same (al.mv (same_frz hF))⟩
  | v y => cases h3
  | oa p ds => cases h3
  | tf d' T => cases h3; exact ⟨F', st, h1.1⟩
theorem defX {x qual : Str} {st : Stmt} {f : Addr} {fd : FuncData} {N ps : List Str} {k : Nat} {g : GX} {T : TD} (F : Fun K x qual st f fd) (S : FnScope N ps (defScope st))
    (body : ∀ (cdv : Value) (A : Around) (outer : List Env) (s : Shared) (H : Hp) (E : XK), Room k (A.deeper (envOfC qual (defScope st) s.heap.objs.size f cdv)) → L2N.Takes (cxOf (L2N.CX P w) P w K mg base N qual (defScope st) f cdv A outer s H E) (fun cls d _ H => E cls d H) →
      ∃ t, DSX (cxOf (L2N.CX P w) P w K mg base N qual (defScope st) f cdv A outer s H E) ec E (defBody st) t T)
    (pure : ∀ ds r, g ds = some r → ds.length = ps.length ∧ T { nx := fun _ => r = .ok .none, rt := fun s => ∃ d, s.val = some d ∧ r = .ok d, er := fun n => r = .error n } (startE N ds)) : FnOk P w K mg base (L2N.CX P w) (k + 1) f fd ps (XSp K ec g) := by
  obtain ⟨oc, od, kV, doc, pm, an, cdv, ct, osl, rfl, lk, hcd⟩ := F.ex
  refine fn_of lk hcd S (fun vs H Q E ⟨F1, ds, r, s1, a, e, q1, q2⟩ => by rw [a.length]; exact (pure ds r e).1) fun A outer s H vs Q E hr ⟨F1, ds, r, s1, a, e, q1, q2⟩ => ?_
  obtain ⟨t, ht⟩ := body cdv A outer s H E hr (L2N.takes_of rfl rfl rfl rfl)
  refine ⟨t, ht.p, ht.r F1 H F1 H _ _ _ _ (startE_rel s1 a) (pure ds r e).2 ⟨fun ε σ F' H' r' _ h => ?_, fun sl v H' ⟨F', st', h1, h2⟩ ⟨d, h3, h4⟩ => ?_, fun _ _ _ _ _ _ h => h.elim, fun _ _ _ _ _ _ h => h.elim⟩ fun n F' H' s h => q2 n h F' H' s⟩
  · exact q1 _ h _ F' H' r'.st .non
  · obtain ⟨F'', s2, d2⟩ := slot_val st' h1 h2 h3
    exact q1 d h4 v F'' H' s2 d2
end
end M


namespace M
open PySem PySem.Spec PyProof.Rows L2 HotX

/-! ### the def that tells an error's name, called in an except suite -/
structure FnEC (P : Program) (w : World) (K : PySem.W.Frag) (mg : Str → Option Value) (base : Heap) (x : Str) (k : Nat) (tx : Str → Option Str) (ec : Str → Addr) (S : Addr) : Prop where
  ex : ∃ (g : Addr) (fd : FuncData) (y : Str), mg x = some (.ref g) ∧ PySem.W.keepIn K (.ref g) = true ∧ Binds K fd [y] [] ∧ ∀ n t, tx n = some t → FnE P w K mg base k g fd [y] (ec n) t ∧ PySem.W.exmOne K (.ref (ec n)) (.ref S) = some true
def tCallE (P : Program) (w : World) (K : PySem.W.Frag) (mg : Str → Option Value) (base : Heap) (tx : Str → Option Str) (ec : Str → Addr) (i : Nat) (a : Addr) (oe : Obj) : TE := fun σ H Q =>
  σ[i]? = some (some (.ref a)) ∧ ∃ n t F, Zc (.ref (ec n)) none oe ∧ tx n = some t ∧ Lies F H ∧ ∀ F' H', Step F H F' H' → Q (.str t) H'
section
variable {X : Cx} {x y : Str} {a S : Addr} {oe : Obj} {k i : Nat} {tx : Str → Option Str} {ec : Str → Addr} {q p1 pos : Pos}
theorem pe_callE (D : FnEC X.prog X.w X.K X.mg X.base x k tx ec S) (hp : (a, oe) ∈ X.pn) (hot : L2H.Hot1 X.A (a, oe)) (hr : L2H.RoomH k X.A) (hg : Gl X x) (hN : X.N[i]? = some y) (hv : Vis X.env.scope y) (hd : (y == ("__debug__" : Str)) = false := by decide) (hcd : (y == ("__classdict__" : Str)) = false := by decide)
    (hdb : (x == ("__debug__" : Str)) = false := by decide) (he : starEach [.Name y p1] X.env = (false, eval (.Name y p1) X.env) :: starEach [] X.env := by rfl) (hpl : (backTo pos (starEach [] X.env)).any (·.1) = false := by rfl) :
    PE X (.Call (.Name x q) [.Name y p1] [] pos) (tCallE X.prog X.w X.K X.mg X.base tx ec i a oe) := by
  obtain ⟨g, fd, z, hm, hk, hb, hE⟩ := D.ex
  refine ⟨fun pins s σ H Q I h => ?_⟩
  obtain ⟨h1, n, t, F0, hz, ht, sl, hq⟩ := h
  obtain ⟨hFn, _⟩ := hE n t ht
  refine wpAny_Call_Name_kw (ld_glob I hg hm ?_ hdb)
  have ha : PA X [.Name y p1] (tCons (tVar i) tNil) := pa_cons (pe_var (i := i) hN hv hd hcd) pa_nil he
  refine PySem.W.callWith_K (h₀ := X.base) I.ok.mod.kin hk (thn (ha.run pos pins s σ H (fun vs H1 => vs = [.ref a] ∧ H1 = H) I ⟨_, h1, rfl, rfl⟩) fun us s1 ⟨vs, H1, I1, r, ev, eH⟩ => ⟨I1.kIn, ?_⟩) he hpl
  subst ev
  rw [eH] at I1
  rcases us with _ | ⟨u, us'⟩
  · cases r
  cases r with
  | cons ru rr =>
    cases rr
    have b := hb s1 [u] I1.kIn rfl
    rw [List.append_nil] at b
    have P1 := I1.pin (a, oe) (List.mem_append_left _ hp)
    have hpin : L2H.PinOk X.stack H s1 (a, oe) := ⟨P1.1, P1.2.1, fun hm => (List.mem_cons.mp (I1.stkSub a hm)).elim P1.2.2.1 P1.2.2.2.1, P1.2.2.2.2⟩
    refine wpAny_call (codeAny_mono (hFn.run X.A X.stack s1 H F0 ⟨[u], []⟩ u Q (a, oe) hr hot hz hpin I1.env0 b ru sl hq) fun r s' hq => ?_)
    cases r with
    | error e => exact (show False from hq).elim
    | ok fl =>
      cases fl with
      | ret u => exact I1.after hq
      | next => exact False.elim hq
      | brk => exact False.elim hq
      | cont => exact False.elim hq
theorem takes_len {W : WX} (t : L2N.Takes X W) : L2N.Takes X (fun c d σ H => σ.length = X.N.length → W c d σ H) := fun u s' ⟨a, B, sI, pins, σ, H, cls, d, e, I, nb, up, sky, na, os, ag, w⟩ => t u s' ⟨a, B, sI, pins, σ, H, cls, d, e, I, nb, up, sky, na, os, ag, w I.len⟩
end
/-- what is wished of an error that is caught -/
def errK (tx : Str → Option Str) (ec : Str → Addr) : Value → Option Addr → Hp → (Str → Hp → Prop) → Prop := fun cls d H' kk => ∃ n t F, cls = .ref (ec n) ∧ d = none ∧ tx n = some t ∧ Lies F H' ∧ ∀ F'' H'', Step F H' F'' H'' → kk t H''
/-- try: a() except S as e: return x(e); return "" -/
def TTerr (tx : Str → Option Str) (ec : Str → Addr) : (XK → Hp → VK → Prop) → Hp → VK → Prop := fun tl H Q => tl (fun cls d H' => errK tx ec cls d H' fun t H'' => Q (.str t) H'') H (fun _ H' => Q (.str "") H')
/-- try: return (a(), "") except S as e: return (None, x(e)) -/
def TTtold (tx : Str → Option Str) (ec : Str → Addr) : (XK → Hp → VK → Prop) → Hp → VK → Prop := fun tl H Q => tl (fun cls d H' => errK tx ec cls d H' fun t H'' => ∀ p, H'' p = none → Q (.ref p) (upd H'' p (.tup [.non, .str t]))) H (fun v H' => ∀ p, H' p = none → Q (.ref p) (upd H' p (.tup [v, .str ""])))
theorem roomH_mark {k : Nat} {A : Around} {o : Option Value} (r : Room k A) : L2H.RoomH k (A.mark o) := ⟨r.dp, r.un⟩
theorem hot_mark {A : Around} {a : Addr} {oe : Obj} {cls : Value} {d : Option Addr} (z : L2N.Zn cls d oe) (hd : ∃ vs, oe.data = .fields vs) : L2H.Hot1 (A.mark (some (.ref a))) (a, oe) := by
  obtain ⟨vs, e⟩ := hd
  exact ⟨rfl, vs, e, z.2.2 vs e⟩
theorem err_gives {X : Cx} {Ng : List Str} {x x2 a e sn q : Str} {sg : Scope} {g S : Addr} {cdg : Value} {j k k2 : Nat} {tx : Str → Option Str} {ec : Str → Addr} {p1 p2 p3 p4 p5 p6 p7 p8 p9 p10 p11 p12 : Pos} (D : FnEC X.prog X.w X.K X.mg X.base x2 k2 tx ec S) (hk : k2 ≤ k) (hge : sg.names.lookup sn = some .globalImplicit) (hme : X.mg sn = some (.ref S)) (hde : (sn == ("__debug__" : Str)) = false)
    (h0 : ∀ f : Addr, (L2.start Ng [V.ref f])[0]? = some (some (V.ref f))) (hNg : Ng.Nodup) (hi : Ng[1]? = some e) (he : sg.names.lookup e = some .local) (hg2 : sg.names.lookup x2 = some .globalImplicit) (hd : (e == ("__debug__" : Str)) = false := by decide) (hcd : (e == ("__classdict__" : Str)) = false := by decide)
    (hdb : (x2 == ("__debug__" : Str)) = false := by decide) :
    GivesN X Ng x sg g cdg [.Try [.Expr (.Call (.Name a p1) [] [] p2) p3] [.ExceptHandler (some (.Name sn p4)) (some e) [.Return (some (.Call (.Name x2 p9) [.Name e p10] [] p11)) p6] p7] [] [] p8, .Return (some (.Constant (.str "") j p5)) p12] a q k (TTerr tx ec) := by
  intro f c' s H Q tl hr act hc h
  obtain ⟨gE, fdE, yE, hmE, hkE, hbE, hE⟩ := D.ex
  have hgl : Gl (cxOf CX0 X.prog X.w X.K X.mg X.base Ng x sg g cdg X.A X.stack s H E0).nox sn := hge
  have h1N : 1 < Ng.length := (List.getElem?_eq_some_iff.mp hi).1
  refine ⟨_, pss_cons (L2N.ps_try_as (X := (cxOf CX0 X.prog X.w X.K X.mg X.base Ng x sg g cdg X.A X.stack s H E0).nox) (c := .ref S) (i := 1) (n := e) (Wout := fun _ _ _ _ => False)
      (tb := fun W D σ H => ∃ Ech : XK, (∀ cls d σ' H', Ech cls d H' → σ'.length = Ng.length → W cls d σ' H') ∧ σ[0]? = some (some (.ref f)) ∧ H c' = some (LamX.CodeO c' q) ∧ tl Ech H fun _ H' => D.nx σ H')
      (ts := fun a0 cls d D σ H => σ[1]? = some (some (.ref a0)) ∧ ∃ n t F, cls = .ref (ec n) ∧ d = none ∧ tx n = some t ∧ Lies F H ∧ ∀ F' H', Step F H F' H' → D.rt (.str t) H')
      rfl rfl hNg hi he ⟨hgl, hde, .inl hme⟩ (fun _ _ xx => ?_) (fun W pn xe tk _ => ?_) (fun a0 oe cls d pn hz hf => ?_)) (pss_one (ps_ret pe_str)), ?_⟩
  · obtain ⟨_, _, _, _, _, _, _, _, _, _, _, _, _, _, _, _, z⟩ := xx
    exact z.elim
  · refine ⟨fun pins s' σ H' D I h' => ?_⟩
    obtain ⟨Ech, hW, h1, h2, h3⟩ := h'
    have hp := act _ pn xe Ech p1 p2 (takes_len tk) (fun cls d σ' H' w l => hW cls d σ' H' w l)
    have hq := pss_one (ps_expr (pos := p3) hp (by rfl))
    exact hq.run pins s' σ H' D I ⟨h1, h2, h3⟩
  · have hx : HOk X.prog X.w H s.heap → True := fun _ => trivial
    refine ⟨fun pins s' σ H' D' I h' => ?_⟩
    obtain ⟨h1, n, t, F0, e1, e2, e3, sl, hq⟩ := h'
    subst e1 e2
    have hcall := pe_callE (X := (cxOf CX0 X.prog X.w X.K X.mg X.base Ng x sg g cdg X.A X.stack s H E0).nox.suite a0 ((a0, oe) :: pn)) (q := p9) (p1 := p10) (pos := p11) (i := 1) (y := e) D List.mem_cons_self (hot_mark hz hf) (L2H.RoomH.mono (roomH_mark hr) hk) (show Gl _ x2 from hg2) hi (.inl he) hd hcd hdb
    exact (pss_one (ps_ret (pos := p6) hcall)).run pins s' σ H' D' I ⟨h1, n, t, F0, hz.zc, e3, sl, hq⟩
  · refine ⟨fun cls d H' => errK tx ec cls d H' fun t H'' => Q (.str t) H'', fun cls d σ' H' ⟨n, t, F, e1, e2, e3, sl, hq⟩ hl => ⟨true, ?_, fun _ a0 _ => ?_, fun z => nomatch z⟩, h0 f, hc, h⟩
    · rw [e1]; exact (hE n t e3).2
    · refine ⟨?_, n, t, F, e1, e2, e3, sl, hq⟩
      rw [List.getElem?_set_self (by omega)]
theorem told_gives {X : Cx} {Ng : List Str} {x x2 a e sn q : Str} {sg : Scope} {g S : Addr} {cdg : Value} {j j2 j3 j4 k k2 : Nat} {tx : Str → Option Str} {ec : Str → Addr} {p1 p2 p3 p4 p5 p6 p7 p8 p9 p10 p11 p12 p13 : Pos} (D : FnEC X.prog X.w X.K X.mg X.base x2 k2 tx ec S) (hk : k2 ≤ k) (hge : sg.names.lookup sn = some .globalImplicit) (hme : X.mg sn = some (.ref S)) (hde : (sn == ("__debug__" : Str)) = false)
    (h0 : ∀ f : Addr, (L2.start Ng [V.ref f])[0]? = some (some (V.ref f))) (hNg : Ng.Nodup) (hi : Ng[1]? = some e) (he : sg.names.lookup e = some .local) (hg2 : sg.names.lookup x2 = some .globalImplicit) (hd : (e == ("__debug__" : Str)) = false := by decide) (hcd : (e == ("__classdict__" : Str)) = false := by decide)
    (hdb : (x2 == ("__debug__" : Str)) = false := by decide) :
    GivesN X Ng x sg g cdg [.Try [.Return (some (.Tuple [.Call (.Name a p1) [] [] p2, .Constant (.str "") j p5] j2 p12)) p3] [.ExceptHandler (some (.Name sn p4)) (some e) [.Return (some (.Tuple [.Constant .none j3 p13, .Call (.Name x2 p9) [.Name e p10] [] p11] j4 p6)) p6] p7] [] [] p8] a q k (TTtold tx ec) := by
  intro f c' s H Q tl hr act hc h
  obtain ⟨gE, fdE, yE, hmE, hkE, hbE, hE⟩ := D.ex
  have hgl : Gl (cxOf CX0 X.prog X.w X.K X.mg X.base Ng x sg g cdg X.A X.stack s H E0).nox sn := hge
  have h1N : 1 < Ng.length := (List.getElem?_eq_some_iff.mp hi).1
  refine ⟨_, pss_one (L2N.ps_try_as (X := (cxOf CX0 X.prog X.w X.K X.mg X.base Ng x sg g cdg X.A X.stack s H E0).nox) (c := .ref S) (i := 1) (n := e) (Wout := fun _ _ _ _ => False)
      (tb := fun W D σ H => ∃ Ech : XK, (∀ cls d σ' H', Ech cls d H' → σ'.length = Ng.length → W cls d σ' H') ∧ σ[0]? = some (some (.ref f)) ∧ H c' = some (LamX.CodeO c' q) ∧ tl Ech H fun v H' => ∀ p, H' p = none → D.rt (.ref p) (upd H' p (.tup [v, .str ""])))
      (ts := fun a0 cls d D σ H => σ[1]? = some (some (.ref a0)) ∧ ∃ n t F, cls = .ref (ec n) ∧ d = none ∧ tx n = some t ∧ Lies F H ∧ ∀ F' H', Step F H F' H' → ∀ p, H' p = none → D.rt (.ref p) (upd H' p (.tup [.non, .str t])))
      rfl rfl hNg hi he ⟨hgl, hde, .inl hme⟩ (fun _ _ xx => ?_) (fun W pn xe tk _ => ?_) (fun a0 oe cls d pn hz hf => ?_)), ?_⟩
  · obtain ⟨_, _, _, _, _, _, _, _, _, _, _, _, _, _, _, _, z⟩ := xx
    exact z.elim
  · refine ⟨fun pins s' σ H' D I h' => ?_⟩
    obtain ⟨Ech, hW, h1, h2, h3⟩ := h'
    have hp := act _ pn xe Ech p1 p2 (takes_len tk) (fun cls d σ' H' w l => hW cls d σ' H' w l)
    have hq := pss_one (ps_ret (pos := p3) (pe_tup (pos := p12) (x1 := j2) (pa_cons hp (pa_cons (pe_str (x := "") (j := j) (pos := p5)) pa_nil))))
    exact hq.run pins s' σ H' D I ⟨h1, h2, by
      have e : (fun v (H' : Hp) => ∀ p, H' p = none → D.rt (.ref p) (upd H' p (.tup [v, .str ""]))) = fun v H' => ([v, V.str ""].length ≤ sizeLine ∧ ∀ p, H' p = none → D.rt (.ref p) (upd H' p (.tup [v, .str ""]))) := by
        funext v H'
        exact propext ⟨fun z => ⟨by show 2 ≤ sizeLine; decide, z⟩, fun z => z.2⟩
      rw [e] at h3
      exact h3⟩
  · refine ⟨fun pins s' σ H' D' I h' => ?_⟩
    obtain ⟨h1, n, t, F0, e1, e2, e3, sl, hq⟩ := h'
    subst e1 e2
    have hcall := pe_callE (X := (cxOf CX0 X.prog X.w X.K X.mg X.base Ng x sg g cdg X.A X.stack s H E0).nox.suite a0 ((a0, oe) :: pn)) (q := p9) (p1 := p10) (pos := p11) (i := 1) (y := e) D List.mem_cons_self (hot_mark hz hf) (L2H.RoomH.mono (roomH_mark hr) hk) (show Gl _ x2 from hg2) hi (.inl he) hd hcd hdb
    exact (pss_one (ps_ret (pos := p6) (pe_tup (pos := p6) (x1 := j4) (pa_cons (pe_non (j := j3) (pos := p13)) (pa_cons hcall pa_nil))))).run pins s' σ H' D' I ⟨h1, n, t, F0, hz.zc, e3, sl, fun F' H' st => ⟨by show 2 ≤ sizeLine; decide, hq F' H' st⟩⟩
  · refine ⟨fun cls d H' => errK tx ec cls d H' fun t H'' => ∀ p, H'' p = none → Q (.ref p) (upd H'' p (.tup [.non, .str t])), fun cls d σ' H' ⟨n, t, F, e1, e2, e3, sl, hq⟩ hl => ⟨true, ?_, fun _ a0 _ => ?_, fun z => nomatch z⟩, h0 f, hc, h⟩
    · rw [e1]; exact (hE n t e3).2
    · refine ⟨?_, n, t, F, e1, e2, e3, sl, hq⟩
      rw [List.getElem?_set_self (by omega)]
end M


namespace M
open PySem PySem.Spec PyProof.Rows L2 HotX

/-! ### defs that make lambdas: the first parameter's slot bears the mark of the table -/
def PSpT (T : List (Addr × Str)) (K : PySem.W.Frag) (g : List PyData → Option PyData) : Sp := fun vs H Q _ => ∃ F ds d, Lies F H ∧ (∀ p ∈ T, F p.1 = some (Mk p.2)) ∧ DnAll K F vs ds ∧ g ds = some d ∧ ∀ v F' H', Step F H F' H' → Dn K F' v d → Q v H'
def startT (N : List Str) (T : List (Addr × Str)) (ds : List PyData) : En := match ds with
  | [] => List.replicate N.length none
  | d :: ds => some (.tf d T) :: ds.map (fun d => some (.f d)) ++ List.replicate (N.length - (ds.length + 1)) none
theorem startT_rel {K : PySem.W.Frag} {N : List Str} {T : List (Addr × Str)} {F H : Hp} {vs : List V} {ds : List PyData} (s : Lies F H) (m : ∀ p ∈ T, F p.1 = some (Mk p.2)) (a : DnAll K F vs ds) (hn : ds ≠ []) : Rel K F H F H (startT N T ds) (L2.start N vs) := by
  have r := startE_rel (N := N) s a
  cases a with
  | nil => exact absurd rfl hn
  | cons h0 a =>
    rename_i v vs d ds
    have hlen : (L2.start N (v :: vs)).length = (startE N (d :: ds)).length := r.e.len.symm
    have e0 : (startE N (d :: ds)).set 0 (some (.tf d T)) = startT N T (d :: ds) := by
      simp [startE, startT]
    have r2 := r.e.set (i := 0) (v := v) (s := .tf d T) ⟨h0, m⟩
    have e1 : (L2.start N (v :: vs)).set 0 (some v) = L2.start N (v :: vs) := by simp [L2.start]
    rw [e0, e1] at r2
    have no : ∀ i p, ¬ OwnAt (startT N T (d :: ds)) (L2.start N (v :: vs)) i p := fun i p ⟨s', h1, h2, _⟩ => by
      rw [← e0] at h1
      by_cases hi : 0 = i
      · subst hi
        rw [List.getElem?_set_self (by simp [startE])] at h1
        cases h1; cases h2
      · rw [List.getElem?_set_ne hi] at h1
        unfold startE at h1
        by_cases hl : i < (d :: ds).length
        · rw [List.getElem?_append_left (by rw [List.length_map]; exact hl), List.getElem?_map] at h1
          obtain ⟨d', _, z⟩ := Option.map_eq_some_iff.mp h1
          cases z; cases h2
        · rw [List.getElem?_append_right (by rw [List.length_map]; omega), List.getElem?_replicate] at h1
          split at h1 <;> cases h1
    exact ⟨r2, .refl s, fun i p h => absurd h (no i p), fun i j p h _ => absurd h (no i p)⟩
/-- a def, its code's place known -/
structure FunC (K : PySem.W.Frag) (x qual : Str) (st : Stmt) (f : Addr) (fd : FuncData) (c : Addr) : Prop where
  ex : ∃ (oc : Value) (od : Option Addr) (kV doc pm : Value) (an : Option Addr) (ct : Value) (osl : Array (Option Value)),
    fd = PySem.W.fnOf x qual (defArgs st) (defBody st) (defScope st) .none kV doc pm an (.ref c) ct ∧ K.lookup f = some ⟨oc, od, .func fd, osl⟩ ∧ PySem.W.codeIn K (.ref c) qual = true
  kp : PySem.W.keepIn K (.ref f) = true
theorem funC_mk {K : PySem.W.Frag} {x qual : Str} {st : Stmt} {f c : Addr} {oc : Value} {od an : Option Addr} {osl : Array (Option Value)} {kV doc pm ct : Value} (l : K.lookup f = some ⟨oc, od, .func (PySem.W.fnOf x qual (defArgs st) (defBody st) (defScope st) .none kV doc pm an (.ref c) ct), osl⟩)
    (hc : PySem.W.codeIn K (.ref c) qual = true) (k : PySem.W.keepIn K (.ref f) = true) : FunC K x qual st f (PySem.W.fnOf x qual (defArgs st) (defBody st) (defScope st) .none kV doc pm an (.ref c) ct) c := ⟨⟨oc, od, kV, doc, pm, an, ct, osl, rfl, l, hc⟩, k⟩
theorem FunC.fun {K : PySem.W.Frag} {x qual : Str} {st : Stmt} {f : Addr} {fd : FuncData} {c : Addr} (F : FunC K x qual st f fd c) : Fun K x qual st f fd := by
  obtain ⟨oc, od, kV, doc, pm, an, ct, osl, h⟩ := F.ex
  exact ⟨⟨oc, od, kV, doc, pm, an, .ref c, ct, osl, h⟩, F.kp⟩
section
variable {P : Program} {w : World} {K : PySem.W.Frag} {mg : Str → Option Value} {base : Heap}
theorem defPT {x qual : Str} {st : Stmt} {f c : Addr} {fd : FuncData} {N ps : List Str} {k : Nat} {tt : List (Addr × Str)} {g : List PyData → Option PyData} {T : TD} (F : FunC K x qual st f fd c) (S : FnScope N ps (defScope st)) (hps : ps ≠ [])
    (body : ∀ (A : Around) (outer : List Env) (s : Shared) (H : Hp) (E : XK), Room k (A.deeper (envOfC qual (defScope st) s.heap.objs.size f (.ref c))) → ∃ t, DSs (cxOf CX0 P w K mg base N qual (defScope st) f (.ref c) A outer s H E).nox (defBody st) t T)
    (pure : ∀ ds d, g ds = some d → ds.length = ps.length ∧ T { nx := fun _ => d = .none, rt := fun s => s.val = some d } (startT N tt ds)) : FnOk P w K mg base CX0 (k + 1) f fd ps (PSpT tt K g) := by
  obtain ⟨oc, od, kV, doc, pm, an, ct, osl, rfl, lk, hcd⟩ := F.ex
  refine fn_of lk hcd S (fun vs H Q E ⟨F1, ds, d, s1, m, a, e, q⟩ => by rw [a.length]; exact (pure ds d e).1) fun A outer s H vs Q E hr ⟨F1, ds, d, s1, m, a, e, q⟩ => ?_
  obtain ⟨t, ht⟩ := body A outer s H E hr
  refine ⟨t, ht.p.nox, ht.r F1 H F1 H _ _ _ _ (startT_rel s1 m a (fun z => hps (List.length_eq_zero_iff.mp (by rw [← (pure ds d e).1, z]; rfl)))) (pure ds d e).2 ⟨fun ε σ F' H' r _ h => ?_, fun sl v H' ⟨F', st', h1, h2⟩ h3 => ?_, fun _ _ _ _ _ _ h => h.elim, fun _ _ _ _ _ _ h => h.elim⟩⟩
  · subst h
    exact q _ F' H' r.st .non
  · obtain ⟨F'', s2, d2⟩ := slot_val st' h1 h2 h3
    exact q v F'' H' s2 d2
end
theorem Grew.step {F H H1 : Hp} {P : Addr} {q : Str} (s : Lies F H) (m : F P = some (Mk q)) (g : Grew P q H H1) : Step F H F H1 := by
  obtain ⟨ps, hP, _⟩ := s.t P q m
  have np : ∀ b o, H b = some o → isTbl o = false → b ≠ P := fun b o h z e => by
    rw [e, hP] at h; cases h; cases z
  have nf : ∀ b o, F b = some o → isTbl o = false → b ≠ P := fun b o h z e => by
    rw [e, m] at h; cases h; cases z
  refine ⟨Same.refl _, fun b o h z => g.k b o (np b o h z) h, g.fr, ⟨fun b o h z => g.k b o (nf b o h z) (s.e b o h z), fun P' q' e => ?_, s.m⟩, fun _ _ h => h⟩
  by_cases hb : P' = P
  · subst hb
    rw [m] at e
    have : q = q' := by
      unfold Mk at e
      injection e with e
      injection e with e
      simpa using e
    subst this
    exact g.t
  · obtain ⟨ps', h1, h2, h3⟩ := s.t P' q' e
    refine ⟨ps', g.k _ _ hb h1, h2, fun pos cv hc => ?_⟩
    obtain ⟨c, e1, e2⟩ := h3 pos cv hc
    refine ⟨c, e1, g.k _ _ (fun z => ?_) e2⟩
    rw [z, hP] at e2
    unfold LamX.CodeO at e2
    cases e2
/-- x(lambda: ..): what the lambda gives, then h of it -/
def dLam (T : List (Addr × Str)) (fx : FX) (h : Except Str PyData → Option PyData) : En → Option PyData := fun ε => (getS 0 ε).bind fun s => match s with
  | some (.tf _ T') => if T' = T then (fx ε).bind h else none
  | _ => none
@[simp] theorem dLam_e {T : List (Addr × Str)} {fx : FX} {h : Except Str PyData → Option PyData} {d : PyData} {ε : En} : dLam T fx h (some (.tf d T) :: ε) = (fx (some (.tf d T) :: ε)).bind h := by simp [dLam]
@[simp] def errD (tx : Str → Option Str) : Except Str PyData → Option PyData
  | .ok _ => some (.str "")
  | .error n => (tx n).map .str
@[simp] def toldD (tx : Str → Option Str) : Except Str PyData → Option PyData
  | .ok d => some (.tuple [d, .str ""])
  | .error n => (tx n).map fun t => .tuple [.none, .str t]
section
variable {X : Cx} {ec : Str → Addr} {tx : Str → Option Str} {x a : Str} {g c P : Addr} {k : Nat} {T : List (Addr × Str)} {params : Arguments} {body : Expr} {scope : Scope} {t : XK → TE} {fx : FX} {p lpos pos : Pos}
theorem DEX.kk {E : XK} {e : Expr} {te te' : TE} (h : DEX X ec E e te fx) (ht : te = te' := by first | rfl | dsimp only [lamCxN, Cx.tr, LamX.lamCx]) : DEX X ec E e te' fx := ht ▸ h
theorem lam_rel {K : PySem.W.Frag} {F H : Hp} {ε : En} {σ : L2.St} {h : Except Str PyData → Option PyData} {d : PyData} {q : Str} (r : RelE K F H ε σ) (hT : (P, q) ∈ T) (e : dLam T fx h ε = some d) : F P = some (Mk q) ∧ ∃ r0, fx ε = some r0 ∧ h r0 = some d := by
  unfold dLam at e
  obtain ⟨s, e1, e2⟩ := Option.bind_eq_some_iff.mp e
  split at e2
  · split at e2
    · rename_i d' T' hTT
      subst hTT
      obtain ⟨v, h1, h2⟩ := r.sl 0 _ e1
      obtain ⟨r0, e3, e4⟩ := Option.bind_eq_some_iff.mp e2
      exact ⟨h2.2 _ hT, r0, e3, e4⟩
    · cases e2
  · cases e2
theorem de_lamE (htx : ∀ n s, tx n = some s → PyData.strOk s = true) (D : LamDef X.prog X.w X.K X.mg X.base x a g k (TTerr tx ec)) (TB : LamX.TabB X.base X.mg c P) (hr : Room (k + 1) X.A) (hT : (P, X.env.qual ++ "<lambda>") ∈ T)
    (hbody : ∀ (A : Around) (outer : List Env) (s : Shared) (H : Hp) (E : XK) (f c' : Addr), Room (k - 1) (A.deeper (LamX.lamEnv X scope s.heap.objs.size f c')) → DEX (lamCxN X A outer s H E scope f c') ec E body (t E) fx)
    (hcode : X.env.code = .ref c := by rfl) (L : LamX.LamS X.env.scope scope := by exact LamX.lamS_by (by decide +kernel)) (hk1 : 1 ≤ k := by decide) (hg : Gl X x := by rfl) (hdef : defaultsOf params X.env = ([], []) := by rfl)
    (hbind : ∀ (q : Str) (cl : List (Str × Addr)) (pm cv ctv : Value), bindArgs (PySem.W.kla_fn "<lambda>" q params body scope cl pm cv ctv) ⟨[], []⟩ = pure [] := by intros; rfl)
    (hdb : (x == ("__debug__" : Str)) = false := by decide) (hd : (a == ("__debug__" : Str)) = false := by decide) (hcd : (a == ("__classdict__" : Str)) = false := by decide) :
    DE X (.Call (.Name x p) [.Lambda params body scope lpos] [] pos) (tLamN P (X.env.qual ++ "<lambda>") (TTerr tx ec) t) (dLam T fx (errD tx)) := by
  refine ⟨pe_lamcallN hg D TB hcode hr hk1 L hdef hbind (fun A outer s H E f c' hr' => (hbody A outer s H E f c' hr').p) hdb hd hcd, fun F H ε σ d Q r e q => ?_⟩
  obtain ⟨m, r0, e1, e2⟩ := lam_rel r hT e
  refine ⟨r.sub.t _ _ m, fun H1 gr => ?_⟩
  have st := gr.step r.sub m
  have hR := fun E => (hbody X.A [] X.s_0 X.H_0 E 0 0 ((hr.deeper _).mono (Nat.sub_le _ _))).r
  refine hR _ F H1 ε σ r0 _ (r.step st) e1 (fun d' z v F' H' s' dv => ?_) (fun n z F' H' s' => ?_)
  · subst z
    cases e2
    exact q _ F' H' (st.trans s') (.str _ (by decide +kernel))
  · subst z
    obtain ⟨tt, e3, rfl⟩ := Option.map_eq_some_iff.mp e2
    exact ⟨n, tt, F', rfl, rfl, e3, s'.s, fun F'' H'' s'' => q _ F'' H'' (st.trans (s'.trans s'')) (.str _ (htx n tt e3))⟩
theorem de_lamT (htx : ∀ n s, tx n = some s → PyData.strOk s = true) (D : LamDef X.prog X.w X.K X.mg X.base x a g k (TTtold tx ec)) (TB : LamX.TabB X.base X.mg c P) (hr : Room (k + 1) X.A) (hT : (P, X.env.qual ++ "<lambda>") ∈ T)
    (hbody : ∀ (A : Around) (outer : List Env) (s : Shared) (H : Hp) (E : XK) (f c' : Addr), Room (k - 1) (A.deeper (LamX.lamEnv X scope s.heap.objs.size f c')) → DEX (lamCxN X A outer s H E scope f c') ec E body (t E) fx)
    (hcode : X.env.code = .ref c := by rfl) (L : LamX.LamS X.env.scope scope := by exact LamX.lamS_by (by decide +kernel)) (hk1 : 1 ≤ k := by decide) (hg : Gl X x := by rfl) (hdef : defaultsOf params X.env = ([], []) := by rfl)
    (hbind : ∀ (q : Str) (cl : List (Str × Addr)) (pm cv ctv : Value), bindArgs (PySem.W.kla_fn "<lambda>" q params body scope cl pm cv ctv) ⟨[], []⟩ = pure [] := by intros; rfl)
    (hdb : (x == ("__debug__" : Str)) = false := by decide) (hd : (a == ("__debug__" : Str)) = false := by decide) (hcd : (a == ("__classdict__" : Str)) = false := by decide) :
    DE X (.Call (.Name x p) [.Lambda params body scope lpos] [] pos) (tLamN P (X.env.qual ++ "<lambda>") (TTtold tx ec) t) (dLam T fx (toldD tx)) := by
  refine ⟨pe_lamcallN hg D TB hcode hr hk1 L hdef hbind (fun A outer s H E f c' hr' => (hbody A outer s H E f c' hr').p) hdb hd hcd, fun F H ε σ d Q r e q => ?_⟩
  obtain ⟨m, r0, e1, e2⟩ := lam_rel r hT e
  refine ⟨r.sub.t _ _ m, fun H1 gr => ?_⟩
  have st := gr.step r.sub m
  have hR := fun E => (hbody X.A [] X.s_0 X.H_0 E 0 0 ((hr.deeper _).mono (Nat.sub_le _ _))).r
  refine hR _ F H1 ε σ r0 _ (r.step st) e1 (fun d' z v F' H' s' dv => ?_) (fun n z F' H' s' => ?_)
  · subst z
    cases e2
    intro p hp
    obtain ⟨s2, d2⟩ := new_tup s'.s hp (.cons dv (.one (.str "" (by decide +kernel))))
    exact q _ _ _ (st.trans (s'.trans s2)) d2
  · subst z
    obtain ⟨tt, e3, rfl⟩ := Option.map_eq_some_iff.mp e2
    refine ⟨n, tt, F', rfl, rfl, e3, s'.s, fun F'' H'' s'' p hp => ?_⟩
    obtain ⟨s2, d2⟩ := new_tup (K := X.K) s''.s hp (.cons .non (.one (.str tt (htx n tt e3))))
    exact q _ _ _ (st.trans (s'.trans (s''.trans s2))) d2
end
/-- the facts of a def that gets lambdas, together -/
theorem lamDef_mk {P : Program} {w : World} {K : PySem.W.Frag} {mg : Str → Option Value} {base : Heap} {x a : Str} {st : Stmt} {g : Addr} {fd : FuncData} {Ng : List Str} {k : Nat} {TT : (XK → Hp → VK → Prop) → Hp → VK → Prop} (F : Fun K x x st g fd) (hm : mg x = some (.ref g)) (hb : Binds K fd [a] []) (S : FnScope Ng [a] (defScope st)) (h0 : Ng[0]? = some a) (hv : Vis (defScope st) a)
    (hG : ∀ (X : Cx) (q : Str) (cdv : Value), X.prog = P → X.w = w → X.K = K → X.mg = mg → X.base = base → GivesN X Ng x (defScope st) g cdv (defBody st) a q k TT) : LamDef P w K mg base x a g k TT := by
  obtain ⟨oc, od, kV, doc, pm, an, cdv, ct, osl, rfl, lk, hcd⟩ := F.ex
  exact ⟨hm, F.kp, _, _, _, _, _, _, _, _, _, _, _, _, _, Ng, lk, hcd, hb, S, h0, hv, fun X q h1 h2 h3 h4 h5 => hG X q cdv h1 h2 h3 h4 h5⟩
end M


namespace M
open PySem PySem.Spec PyProof.Rows L2 HotX

/-! ### the end of a law that makes lambdas -/
theorem pspT_in {K : PySem.W.Frag} {Pt a : Addr} {q : Str} {H : Hp} {g : List PyData → Option PyData} {ns : List Int} (hT : H Pt = some (.tbl #[])) (h : SqL K H a (ns.map V.int)) (hg : g [.list (ns.map .int)] = some (.bool true))
    (hi : ∀ F : Hp, DnAll K F (ns.map V.int) (ns.map PyData.int)) : PSpT [(Pt, q)] K g [.ref a] H (fun v _ => v = .bl true) fun _ _ _ => False := by
  have mk : ∀ F0 : Hp, SameN F0 H → (∀ P ps, F0 P ≠ some (.tbl ps)) → SqL K F0 a (ns.map V.int) → PSpT [(Pt, q)] K g [.ref a] H (fun v _ => v = .bl true) fun _ _ _ => False := fun F0 s0 n0 h0 => by
    refine ⟨fun b => if b = Pt then some (Mk q) else F0 b, [.list (ns.map .int)], .bool true, ⟨fun b o e z => ?_, fun P q' e => ?_, fun P ps e => ?_⟩, fun p hp => ?_, .cons (.lst (seqLN (F := F0) (fun b o e z => ?_) h0) (hi _)) .nil, hg, fun v F' H' _ d => dn_bool d⟩
    · by_cases hb : b = Pt
      · simp only [hb, if_pos] at e; cases e; cases z
      · simp only [if_neg hb] at e; exact s0 b o e z
    · by_cases hb : P = Pt
      · simp only [hb, if_pos] at e
        refine ⟨#[], by rw [hb]; exact hT, ?_, fun pos cv hc => ?_⟩
        · first | exact trivial | exact LamX.triples_nil | decide
        · cases hc
      · simp only [if_neg hb] at e; exact absurd e (n0 P _)
    · by_cases hb : P = Pt
      · simp only [hb, if_pos] at e
        unfold Mk at e
        injection e with e
        injection e with e
        exact ⟨q, e.symm⟩
      · simp only [if_neg hb] at e; exact absurd e (n0 P _)
    · cases List.mem_singleton.mp hp
      exact if_pos rfl
    · by_cases hb : b = Pt
      · rw [hb] at e
        have := s0 Pt o e z
        rw [hT] at this; cases this; cases z
      · simp only [if_neg hb]; exact e
  have one : ∀ o, H a = some o → isTbl o = false → SqL K (fun b => if b = a then some o else none) a (ns.map V.int) → PSpT [(Pt, q)] K g [.ref a] H (fun v _ => v = .bl true) fun _ _ _ => False := fun o e z k =>
    mk _ (fun b o' e' _ => by
      by_cases hb : b = a
      · simp only [hb, if_pos] at e'; rw [hb, e]; exact e'
      · simp only [if_neg hb] at e'; cases e') (fun P ps e' => by
      by_cases hb : P = a
      · simp only [hb, if_pos] at e'; cases e'; cases z
      · simp only [if_neg hb] at e'; cases e') k
  rcases h with (h | ⟨o, h⟩) | h
  · exact one _ h rfl (.inl (.inl (if_pos rfl)))
  · exact one _ h rfl (.inl (.inr ⟨o, if_pos rfl⟩))
  · exact mk (fun _ => none) (fun _ _ e => nomatch e) (fun _ _ e => nomatch e) (.inr h)
theorem psp_in {K : PySem.W.Frag} {a : Addr} {H : Hp} {g : List PyData → Option PyData} {ns : List Int} (h : SqL K H a (ns.map V.int)) (hg : g [.list (ns.map .int)] = some (.bool true))
    (hi : ∀ F : Hp, DnAll K F (ns.map V.int) (ns.map PyData.int)) : PSp K g [.ref a] H (fun v _ => v = .bl true) fun _ _ _ => False := by
  have mk : ∀ F0 : Hp, SameN F0 H → (∀ P ps, F0 P ≠ some (.tbl ps)) → SqL K F0 a (ns.map V.int) → PSp K g [.ref a] H (fun v _ => v = .bl true) fun _ _ _ => False := fun F0 s0 n0 h0 =>
    ⟨F0, [.list (ns.map .int)], .bool true, ⟨s0, fun P q' e => absurd e (n0 P _), fun P ps e => absurd e (n0 P _)⟩, .cons (.lst h0 (hi _)) .nil, hg, fun v F' H' _ d => dn_bool d⟩
  have one : ∀ o, H a = some o → isTbl o = false → SqL K (fun b => if b = a then some o else none) a (ns.map V.int) → PSp K g [.ref a] H (fun v _ => v = .bl true) fun _ _ _ => False := fun o e z k =>
    mk _ (fun b o' e' _ => by
      by_cases hb : b = a
      · simp only [hb, if_pos] at e'; rw [hb, e]; exact e'
      · simp only [if_neg hb] at e'; cases e') (fun P ps e' => by
      by_cases hb : P = a
      · simp only [hb, if_pos] at e'; cases e'; cases z
      · simp only [if_neg hb] at e'; cases e') k
  rcases h with (h | ⟨o, h⟩) | h
  · exact one _ h rfl (.inl (.inl (if_pos rfl)))
  · exact one _ h rfl (.inl (.inr ⟨o, if_pos rfl⟩))
  · exact mk (fun _ => none) (fun _ _ e => nomatch e) (fun _ _ e => nomatch e) (.inr h)
theorem law_atT {l : PySem.W.OpenLaw} {w : World} {K : PySem.W.Frag} {mg : Str → Option Value} {fa cc Pt : Addr} {h : Heap} {k : Nat} {q : Str} {g : List PyData → Option PyData} (hT : h.get? Pt = some { cls := .none, data := .fields #[] }) (nT : K.lookup Pt = none) (C : PySem.W.CodeHd h cc Pt)
    (A : ∃ fd : FuncData, (∀ (s : Shared) (v : Value), BindsTo s fd ⟨[v], []⟩ [("script", v)]) ∧ ∀ base : Heap, K.In base → base.Ns mainGlobals mg → LamX.TabB base mg cc Pt → FnOk l.prog w K mg base CX0 k fa fd ["script"] (PSpT [(Pt, q)] K g))
    (hg : ∀ ns : List Int, ns.length ≤ 63 → g [.list (ns.map .int)] = some (.bool true)) (hi : ∀ (F : Hp) (ns : List Int), DnAll K F (ns.map V.int) (ns.map PyData.int)) : LamX.LawAtS l w K CX0 k 63 "script" mg fa h := by
  obtain ⟨fd, hb, hF⟩ := A
  refine ⟨fd, [(cc, Pt)], PSpT [(Pt, q)] K g, fun p hp => ?_, fun p hp => ?_, fun p hp => ?_, hb, fun H a ns hl _ hH hS => pspT_in (hH _ List.mem_cons_self) hS (hg ns hl) fun F => hi F ns, fun base h1 h2 h3 => hF base h1 h2 (h3 _ List.mem_cons_self)⟩
  all_goals cases List.mem_singleton.mp hp; assumption
end M


namespace L2
open PySem PySem.Spec PyProof.Rows HT
/-! ### t[::-1] of a tuple -/
section
variable {prog : Program} {w : World} {A : Around} {E : Value → Shared → Prop} {s : Shared}
theorem fm_congr {α β : Type} {f g : α → Option β} : ∀ {l : List α}, (∀ a ∈ l, f a = g a) → l.filterMap f = l.filterMap g
  | [], _ => rfl
  | a :: l, h => by rw [List.filterMap_cons, List.filterMap_cons, h a List.mem_cons_self, fm_congr fun b hb => h b (List.mem_cons_of_mem _ hb)]
theorem adjust_rev (n : Nat) : Builtin.Slice.sliceAdjust none none (-1) (n : Int) = ((n : Int) - 1, -1) := by
  unfold Builtin.Slice.sliceAdjust
  simp
theorem places_rev (n : Nat) : Builtin.Slice.slicePlaces ((n : Int) - 1) (-1) (-1) = n := by
  unfold Builtin.Slice.slicePlaces
  have h1 : ¬ ((-1 : Int) > 0) := by omega
  simp only [h1, if_false]
  by_cases h : (n : Int) - 1 > -1
  · simp only [h, if_true]
    rw [show (- -1 : Int) = 1 by decide, Int.ediv_one]
    omega
  · simp only [h, if_false]
    omega
theorem pick_rev (xs : Array Value) : ((List.range xs.size).filterMap fun (k : Nat) => xs[(((xs.size : Int) - 1) + (k : Int) * (-1)).toNat]?).toArray = xs.toList.reverse.toArray := by
  have e : ((List.range xs.size).filterMap fun (k : Nat) => xs[(((xs.size : Int) - 1) + (k : Int) * (-1)).toNat]?) = xs.toList.reverse := by
    have h1 : ((List.range xs.size).filterMap fun (k : Nat) => xs[(((xs.size : Int) - 1) + (k : Int) * (-1)).toNat]?) = ((List.range xs.size).map fun k => xs.size - 1 - k).filterMap (xs[·]?) := by
      rw [List.filterMap_map]
      refine fm_congr fun k hk => ?_
      have := List.mem_range.mp hk
      show xs[(((xs.size : Int) - 1) + (k : Int) * (-1)).toNat]? = xs[xs.size - 1 - k]?
      rw [show (((xs.size : Int) - 1) + (k : Int) * (-1)).toNat = xs.size - 1 - k by omega]
    rw [h1, PySem.W.krv_range, List.filterMap_reverse, PySem.W.krv_all]
  rw [e]
theorem getItem_tuple_rev {t sl : Addr} {items : Array Value} {vl vu vs : Value} {Q : Value → Shared → Prop} (ht : IsTup s.heap t items) (hs : s.heap.IsSliceOf sl vl vu vs) (pl : IsPart vl none) (pu : IsPart vu none) (ps : IsPart vs (some (-1)))
    (h : Q (.ref s.heap.objs.size) { s with heap := s.heap.push { cls := .type "tuple", data := .seq items.toList.reverse.toArray } })
    (hsz : items.size ≤ sizeLine) : wpAny (model prog w) A (getItem (.ref t) (.ref sl)) Q E s := by
  have htake : sizeOk (.seq items.toList.reverse.toArray) := by
    show items.toList.reverse.toArray.size ≤ sizeLine
    rw [List.size_toArray, List.length_reverse, Array.length_toList]
    exact hsz
  obtain ⟨os, hos, hcs, hds⟩ := id hs
  have hTs : s.TypeIs (.ref sl) "slice" := ⟨os, hos, hcs⟩
  unfold getItem
  try with_reducible refine wpAny_holding ?_
  first | refine wpAny_bind (wpAny_pure ?_) | skip
  refine wpAny_bind (wpAny_sequenceKey ht.typeIs (by decide) ?_)
  refine wpAny_bind (wpAny_callSpecial?_slot (name := Str.ofString "__getitem__") ht.typeIs PyProof.Rows.slot_tuple_getitem
    (wpAny_call_entry PyProof.Rows.slot_tuple_getitem ht.typeIs entry_tuple_getitem ?_ (args_tuple_getitem _ _)))
  show wpAny _ _ (Builtin.Tuple.tupleItemsOf (.ref t) >>= _) _ _ s
  refine wpAny_bind (tupleItemsOf_ ht ?_)
  refine wpAny_bind (wpAny_typeOf hTs ?_)
  rw [if_pos (by decide)]
  have key : ∀ {B : Around} {R : Int × Int × Nat → Shared → Prop}, R ((items.size : Int) - 1, -1, items.size) s → wpAny (model prog w) B (Builtin.Slice.sliceApplied (.ref sl) (pure (items.size : Int))) R E s := by
    intro B R hR
    unfold Builtin.Slice.sliceApplied Builtin.Slice.sliceFields
    refine wpAny_bind (wpAny_bind (wpAny_field hos hds (x := vl) rfl (wpAny_bind (wpAny_field hos hds (x := vu) rfl (wpAny_bind (wpAny_field hos hds (x := vs) rfl (wpAny_pure ?_)))))))
    refine wpAny_bind (slicePart_ ps ?_)
    show wpAny _ _ (if ((-1 : Int) == 0) = true then _ else _) _ _ s
    rw [if_neg (by decide)]
    refine wpAny_bind (slicePart_ pl (wpAny_bind (slicePart_ pu (wpAny_bind (wpAny_pure ?_)))))
    show wpAny _ _ (match Builtin.Slice.sliceAdjust none none (-1) (items.size : Int) with | (lo, hi) => pure (lo, (-1 : Int), Builtin.Slice.slicePlaces lo hi (-1))) _ _ s
    rw [adjust_rev]
    show wpAny _ _ (pure ((items.size : Int) - 1, (-1 : Int), Builtin.Slice.slicePlaces ((items.size : Int) - 1) (-1) (-1))) _ _ s
    rw [places_rev]
    exact wpAny_pure hR
  refine wpAny_bind (key ?_)
  have hno : ¬ (((((items.size : Int) - 1) == 0) && ((-1 : Int) == 1) && (items.size == items.size)) = true) := by
    intro q
    rw [Bool.and_eq_true, Bool.and_eq_true] at q
    exact absurd q.1.2 (by decide)
  show wpAny _ _ (if ((((items.size : Int) - 1) == 0) && ((-1 : Int) == 1) && (items.size == items.size)) = true then _ else _) _ _ s
  rw [if_neg hno, pick_rev]
  first
    | exact wpAny_bind (m := Builtin.Tuple.tupleExact _) (wpAny_newObj_type (wpAny_pure ⟨_, rfl, wpAny_pure h⟩) htake)
    | exact wpAny_bind (m := Builtin.Tuple.tupleExact _) (wpAny_newObj_type (wpAny_bind (wpAny_pure (wpAny_pure ⟨_, rfl, wpAny_pure h⟩))) htake)
    | exact wpAny_bind (wpAny_bind (m := Builtin.Tuple.tupleExact _) (wpAny_newObj_type (wpAny_pure (wpAny_pure ⟨_, rfl, wpAny_pure h⟩)) htake))
    | exact wpAny_bind (wpAny_bind (m := Builtin.Tuple.tupleExact _) (wpAny_newObj_type (wpAny_pure ⟨_, rfl, wpAny_pure h⟩) htake))
end
def tRevT (K : PySem.W.Frag) (te : TE) : TE := fun σ H Q => te σ H fun x H1 => ∃ a xs, x = .ref a ∧ SqT K H1 a xs ∧ ∀ p, H1 p = none → Q (.ref p) (upd H1 p (.tup xs.reverse))
theorem pe_revT {X : Cx} {e : Expr} {te : TE} {k : Nat} {p1 p2 p3 pos : Pos} (he : PE X e te) : PE X (.Subscript e (.Slice none none (some (.UnaryOp .USub (.Constant (.int 1) k p1) p2)) p3) pos) (tRevT X.K te) := by
  refine ⟨fun pins s σ H Q I h => ?_⟩
  refine Subscript_ (thn (he.run pins s σ H _ I h) fun v s1 ⟨x, H1, I1, r1, q1⟩ => ?_)
  obtain ⟨a, xs, ex, hx, q⟩ := q1
  subst ex
  cases r1
  have hst : PO X (some (.UnaryOp .USub (.Constant (.int 1) k p1) p2)) (tPart (tUn (rU fun i => .int (-i)) (tC (.int 1)))) := po_some (pe_un un_neg pe_int)
  refine wpAny_Slice (thn (po_none.run pins s1 σ H1 (fun o H2 => o = none ∧ H2 = H1) I1 ⟨rfl, rfl⟩) fun vl s2 ⟨l, H2, I2, pl, el, e2⟩ => ?_)
  subst el e2
  refine thn (po_none.run pins s2 σ H2 (fun o H3 => o = none ∧ H3 = H2) I2 ⟨rfl, rfl⟩) fun vu s3 ⟨u, H3, I3, pu, eu, e3⟩ => ?_
  subst eu e3
  refine thn (hst.run pins s3 σ H3 (fun o H4 => o = some (-1) ∧ H4 = H3) I3 ⟨1, rfl, -1, rfl, rfl, rfl⟩) fun vs s4 ⟨o, H4, I4, ps, eo, e4⟩ => ?_
  subst eo e4
  have I5 : Inv X pins σ H4 { s4 with heap := s4.heap.push { cls := .type "slice", data := .fields #[vl, vu, vs] } } := I4.kept (t' := s4.toks) fun b ob q => Heap.get?_push_of_some _ q
  obtain ⟨its, r, ht, hz⟩ := I5.tuple hx
  have hlen := r.length
  show wpAny (model X.prog X.w) X.A (subscriptTail e (.Slice none none (some (.UnaryOp .USub (.Constant (.int 1) k p1) p2)) p3) (.ref a) (.ref s4.heap.objs.size)) (EP X pins σ Q) X.xe { s4 with heap := s4.heap.push { cls := .type "slice", data := .fields #[vl, vu, vs] } }
  refine tail_any (ops := [.ref a, .ref s4.heap.objs.size]) ht.typeIs (PyProof.Rows.slot_tuple_getitem.lookup) ?_ (by with_unfolding_all rfl)
  refine getItem_tuple_rev ht (Heap.IsSliceOf.new _ vl vu vs) pl pu ps ?_ (by rw [List.size_toArray]; omega)
  refine ⟨.ref _, _, I5.laid (t' := s4.toks) (o := .tup xs.reverse) (fun b ob q => Heap.get?_push_of_some _ q) (Nat.le_refl _) ?_, rfl, q _ (I5.hok.fresh (Nat.le_refl _))⟩
  exact ⟨by rw [List.length_reverse]; exact hz, its.reverse, r.reverse, _, Heap.get?_push_size _ rfl, rfl, 0, rfl⟩
end L2
namespace M
open PySem PySem.Spec PyProof.Rows L2
def revD : PyData → Option PyData
  | .tuple ds => some (.tuple ds.reverse)
  | _ => none
@[simp] theorem revD_tuple (ds : List PyData) : revD (.tuple ds) = some (.tuple ds.reverse) := rfl
section
variable {X : Cx} {e : Expr} {te : TE} {fe : En → Option PyData} {k : Nat} {p1 p2 p3 pos : Pos}
theorem de_rev (he : DE X e te fe) : DE X (.Subscript e (.Slice none none (some (.UnaryOp .USub (.Constant (.int 1) k p1) p2)) p3) pos) (tRevT X.K te) (fun ε => (fe ε).bind revD) :=
  ⟨pe_revT he.p, fun F H ε σ d Q r e1 q => by
    obtain ⟨d0, e2, e3⟩ := Option.bind_eq_some_iff.mp e1
    refine he.r F H ε σ d0 _ r e2 fun v F1 H1 s1 d1 => ?_
    unfold revD at e3
    split at e3
    · cases e3
      cases d1 with
      | tup hv av =>
        refine ⟨_, _, rfl, seqT s1.s hv, fun p' hp => ?_⟩
        obtain ⟨st, dn⟩ := new_tup s1.s hp av.rev
        exact q _ _ _ (s1.trans st) dn
    · cases e3⟩
end
end M


namespace M
open PySem PySem.Spec PyProof.Rows L2
/-- a ten -/
def isTen (w : List Nat) : Bool := match w with | [c, _] => decide (50 ≤ c ∧ c ≤ 57) | _ => false
def isJoint (one other : List Nat) : Bool := isTen one && (match other with | [c] => c != 48 | _ => false)
/-- the figures of a word read by itself -/
def digitsOf (w : List Nat) : List Nat := match w with
  | [] => []
  | c :: r => if c = 100 then List.replicate 2 (r.getLast?.getD c) else if c = 116 then List.replicate 3 (r.getLast?.getD c) else w
/-- the utterances that the laws lay: few words, none empty, none long -/
def okW (ws : List (List Nat)) : Bool := decide (ws.length ≤ 40) && ws.all fun w => decide (w ≠ []) && decide (w.length ≤ 8)
theorem okW_iff {ws : List (List Nat)} : okW ws = true ↔ ws.length ≤ 40 ∧ ∀ w ∈ ws, w ≠ [] ∧ w.length ≤ 8 := by simp [okW]
def jw (ws : List (List Nat)) (i : Nat) : Bool := match ws[i]?, ws[i + 1]? with | some a, some b => isJoint a b | _, _ => false
def jointsOf (ws : List (List Nat)) : List Nat := (List.range (ws.length - 1)).filter (jw ws)
/-- one datum that is an utterance -/
theorem one_W {ds : List PyData} {d : PyData} {f : List (List Nat) → PyData} (h : (match ds with | [d] => (deW d).bind fun ws => if okW ws = true then some (f ws) else none | _ => none) = some d) : ∃ ws : List (List Nat), ds = [.tuple (ws.map S)] ∧ okW ws = true ∧ d = f ws := by
  split at h
  · obtain ⟨ws, e1, e2⟩ := Option.bind_eq_some_iff.mp h
    rw [deW_eq e1]
    split at e2
    · rename_i h1
      cases e2
      exact ⟨ws, rfl, h1, rfl⟩
    · cases e2
  · cases h
/-- what an utterance may stand for, in the order the program finds it -/
def rd : List (List Nat) → List (List Nat)
  | [] => [[]]
  | [a] => [digitsOf a]
  | a :: b :: r => if isJoint a b = true then (rd r).map ((a ++ b) ++ ·) ++ (rd r).map ((a.take 1 ++ b) ++ ·) else (rd (b :: r)).map (digitsOf a ++ ·)
theorem isJoint_one {a b : List Nat} (h : isJoint a b = true) : b.length = 1 ∧ a.length = 2 := by
  unfold isJoint isTen at h
  match a, b, h with
  | [_, _], [_], _ => exact ⟨rfl, rfl⟩
  | [], _, h => simp at h
  | [_], _, h => simp at h
  | _ :: _ :: _ :: _, _, h => simp at h
  | [_, _], [], h => simp at h
  | [_, _], _ :: _ :: _, h => simp at h
theorem isJoint_two {b : List Nat} (h : b.length = 1) (c : List Nat) : isJoint b c = false := by
  match b, h with
  | [x], _ => simp [isJoint, isTen]
theorem rd_joint {a b : List Nat} {r : List (List Nat)} (h : isJoint a b = true) : rd (a :: b :: r) = (rd r).map ((a ++ b) ++ ·) ++ (rd r).map ((a.take 1 ++ b) ++ ·) := by
  rw [rd, if_pos h]
theorem rd_not {a : List Nat} {r : List (List Nat)} (h : ∀ b r', r = b :: r' → isJoint a b = false) : rd (a :: r) = (rd r).map (digitsOf a ++ ·) := by
  match r with
  | [] => simp [rd]
  | b :: r => rw [rd, if_neg (by rw [h b r rfl]; decide)]
theorem digitsOf_len (w : List Nat) (h : w.length ≤ 8) : (digitsOf w).length ≤ 8 := by
  unfold digitsOf
  split
  · simp
  · split
    · simp
    · split
      · simp
      · exact h
theorem rd_ne : ∀ ws : List (List Nat), rd ws ≠ []
  | [] => by simp [rd]
  | [a] => by simp [rd]
  | a :: b :: r => by
    have h1 := rd_ne r
    have h2 := rd_ne (b :: r)
    rw [rd]
    split <;> simp [h1, h2]
theorem rd_len : ∀ (ws : List (List Nat)), (∀ w ∈ ws, w.length ≤ 8) → ∀ t ∈ rd ws, t.length ≤ 8 * ws.length
  | [], _, t, ht => by simp [rd] at ht; subst ht; simp
  | [a], h, t, ht => by
    simp [rd] at ht
    subst ht
    exact digitsOf_len a (h a List.mem_cons_self)
  | a :: b :: r, h, t, ht => by
    have h1 := rd_len r (fun w hw => h w (by simp [hw]))
    have h2 := rd_len (b :: r) (fun w hw => h w (by simp at hw; simp [hw]))
    have ha := h a (by simp)
    have hb := h b (by simp)
    have hd := digitsOf_len a ha
    rw [rd] at ht
    split at ht
    · simp only [List.mem_append, List.mem_map] at ht
      rcases ht with ⟨x, hx, rfl⟩ | ⟨x, hx, rfl⟩ <;> have := h1 x hx <;> simp only [List.length_append, List.length_cons, List.length_take] <;> omega
    · simp only [List.mem_map] at ht
      obtain ⟨x, hx, rfl⟩ := ht
      have := h2 x hx
      simp only [List.length_append, List.length_cons] at *
      omega
theorem rd_size : ∀ (ws : List (List Nat)), (rd ws).length * (rd ws).length ≤ 2 ^ ws.length
  | [] => by simp [rd]
  | [a] => by simp [rd]
  | a :: b :: r => by
    have h1 := rd_size r
    have h2 := rd_size (b :: r)
    rw [rd]
    split
    · simp only [List.length_append, List.length_map, List.length_cons, Nat.pow_succ]
      have : ((rd r).length + (rd r).length) * ((rd r).length + (rd r).length) = 4 * ((rd r).length * (rd r).length) := by rw [← Nat.two_mul, Nat.mul_mul_mul_comm]
      omega
    · rw [List.length_map]
      refine Nat.le_trans h2 ?_
      rw [List.length_cons (a := a), Nat.pow_succ]
      omega
theorem rd_size' {ws : List (List Nat)} (h : ws.length ≤ 40) : (rd ws).length ≤ 1048576 := by
  have h1 := rd_size ws
  have h2 : 2 ^ ws.length ≤ 2 ^ 40 := Nat.pow_le_pow_right (by decide) h
  apply Decidable.byContradiction
  intro hn
  have h3 : 1048577 * 1048577 ≤ (rd ws).length * (rd ws).length := Nat.mul_le_mul (by omega) (by omega)
  omega
/-- found, with every end put on, is all -/
def putEnds (F rest : List (List Nat)) : List (List Nat) := F.flatMap fun x => (rd rest).map (x ++ ·)
theorem putEnds_len (F rest : List (List Nat)) : F.length ≤ (putEnds F rest).length := by
  have : 1 ≤ (rd rest).length := by
    have := rd_ne rest
    cases h : rd rest with
    | nil => exact absurd h this
    | cons _ _ => simp
  induction F with
  | nil => simp
  | cons x F ih =>
    simp only [putEnds, List.flatMap_cons, List.length_append, List.length_map, List.length_cons] at ih ⊢
    omega
theorem putEnds_text {F rest all : List (List Nat)} (h : putEnds F rest = all) {n : Nat} (hn : ∀ t ∈ all, t.length ≤ n) : ∀ x ∈ F, x.length ≤ n := by
  intro x hx
  obtain ⟨t, ht⟩ := List.exists_mem_of_ne_nil _ (rd_ne rest)
  have : x ++ t ∈ all := by
    rw [← h]
    exact List.mem_flatMap.mpr ⟨x, hx, List.mem_map.mpr ⟨t, ht, rfl⟩⟩
  have := hn _ this
  rw [List.length_append] at this
  omega
theorem putEnds_joint {F : List (List Nat)} {a b : List Nat} {r : List (List Nat)} (h : isJoint a b = true) : putEnds (F.flatMap fun x => [x ++ (a ++ b), x ++ (a.take 1 ++ b)]) r = putEnds F (a :: b :: r) := by
  unfold putEnds
  rw [rd_joint h, List.flatMap_assoc]
  congr 1
  funext x
  simp [List.map_map, Function.comp_def]
theorem putEnds_not {F : List (List Nat)} {a : List Nat} {r : List (List Nat)} (h : ∀ b r', r = b :: r' → isJoint a b = false) : putEnds (F.map (· ++ digitsOf a)) r = putEnds F (a :: r) := by
  unfold putEnds
  rw [rd_not h, List.flatMap_map]
  congr 1
  funext x
  simp [List.map_map, Function.comp_def]
theorem jw_at {ws : List (List Nat)} {i : Nat} {a b : List Nat} (h1 : ws[i]? = some a) (h2 : ws[i + 1]? = some b) : jw ws i = isJoint a b := by simp [jw, h1, h2]
theorem mem_jointsOf {ws : List (List Nat)} {i : Nat} : i ∈ jointsOf ws ↔ jw ws i = true := by
  unfold jointsOf
  rw [List.mem_filter, List.mem_range]
  constructor
  · exact fun h => h.2
  · intro h
    refine ⟨?_, h⟩
    unfold jw at h
    cases h1 : ws[i + 1]? with
    | none => rw [h1] at h; cases h0 : ws[i]? <;> simp [h0] at h
    | some b => have := (List.getElem?_eq_some_iff.mp h1).1; omega
theorem drop_at {ws : List (List Nat)} {i : Nat} {a : List Nat} (h : ws[i]? = some a) : ws.drop i = a :: ws.drop (i + 1) := by
  obtain ⟨h1, h2⟩ := List.getElem?_eq_some_iff.mp h
  rw [List.drop_eq_getElem_cons h1, h2]
def mostOf (ws : List (List Nat)) : Nat := (ws.map fun w => (digitsOf w).length).sum
@[simp] theorem intsD_map {α : Type} (f : α → Int) : ∀ xs : List α, intsD (xs.map fun x => .int (f x)) = some (xs.map f)
  | [] => rfl
  | x :: xs => by simp [intsD, intsD_map f xs]
theorem sum_cast {α : Type} (f : α → Nat) : ∀ xs : List α, (xs.map fun x => (f x : Int)).sum = ((xs.map f).sum : Nat)
  | [] => rfl
  | x :: xs => by simp [sum_cast f xs]
/-- a row of the triangle -/
def prow : Nat → List Nat
  | 0 => [1]
  | n + 1 => List.zipWith (· + ·) (0 :: prow n) (prow n ++ [0])
def cntL (ws : List (List Nat)) (L : Int) : Nat := if (mostOf ws : Int) - (jointsOf ws).length ≤ L ∧ L ≤ mostOf ws then (prow (jointsOf ws).length).getD (L - ((mostOf ws : Int) - (jointsOf ws).length)).toNat 0 else 0
theorem prow_length : ∀ n, (prow n).length = n + 1
  | 0 => rfl
  | n + 1 => by simp [prow, prow_length n]
theorem zipL_map {α β : Type} (f : α → PyData) (g : β → PyData) : ∀ (xs : List α) (ys : List β), zipL (xs.map f) (ys.map g) = (xs.zip ys).map fun p => .tuple [f p.1, g p.2]
  | [], _ => by simp
  | _ :: _, [] => by simp
  | x :: xs, y :: ys => by simp [zipL_map f g xs ys]
theorem jointsOf_len (ws : List (List Nat)) : (jointsOf ws).length ≤ ws.length := Nat.le_trans (List.length_filter_le _ _) (by rw [List.length_range]; omega)
/-- two data: an utterance and an int -/
theorem one_WI {ds : List PyData} {d : PyData} {f : List (List Nat) → Int → PyData} (h : (match ds with | [d, .int L] => (deW d).bind fun ws => if okW ws = true then some (f ws L) else none | _ => none) = some d) : ∃ (ws : List (List Nat)) (L : Int), ds = [.tuple (ws.map S), .int L] ∧ okW ws = true ∧ d = f ws L := by
  split at h
  · obtain ⟨ws, e1, e2⟩ := Option.bind_eq_some_iff.mp h
    rw [deW_eq e1]
    split at e2
    · rename_i h1
      cases e2
      exact ⟨ws, _, rfl, h1, rfl⟩
    · cases e2
  · cases h
theorem intsD_eq : ∀ {ds : List PyData} {ns : List Int}, intsD ds = some ns → ds = ns.map .int
  | [], ns, h => by cases h; rfl
  | .int i :: ds, ns, h => by
    obtain ⟨ns', e1, rfl⟩ := Option.map_eq_some_iff.mp h
    rw [intsD_eq e1]; rfl
  | .none :: _, _, h => by cases h
  | .bool _ :: _, _, h => by cases h
  | .str _ :: _, _, h => by cases h
  | .list _ :: _, _, h => by cases h
  | .tuple _ :: _, _, h => by cases h
  | .dict _ :: _, _, h => by cases h
/-- a number's text -/
def nT (k : Nat) : List Nat := (strI (k : Int)).cps.toList
/-- the 48 words -/
def lawWords : List (List Nat) := ((List.range 20).map nT ++ (List.range 8).map fun k => nT (10 * (2 + k))) ++ ((List.range 10).map fun k => [100, 111, 117, 98, 108, 101, 32] ++ nT k) ++ ((List.range 10).map fun k => [116, 114, 105, 112, 108, 101, 32] ++ nT k)
theorem nT_ok (n : Nat) (h : n < 1000) : (n.log2 < 1920 ∧ PyData.strOk (strI (n : Int)) = true) ∧ (nT n).length ≤ 3 := by
  have key : ∀ n : Nat, n < 1000 → (n.log2 < 1920 ∧ PyData.strOk (strI (n : Int)) = true) ∧ (nT n).length ≤ 3 := by decide +kernel
  exact key n h
theorem strI_nT (n : Nat) : strI (n : Int) = mkS (nT n) := mkS_eta _
theorem strD_nat {n : Nat} (h : n < 1000) : strD [.int (n : Int)] = some (.str (mkS (nT n))) := by
  have := (nT_ok n h).1
  rw [strD, ← strI_nT]
  exact if_pos this
theorem strD_ok {i : Int} (h0 : 0 ≤ i) (h : i < 1000) : strD [.int i] = some (.str (mkS (nT i.toNat))) := by
  obtain ⟨n, rfl⟩ := Int.eq_ofNat_of_zero_le h0
  exact strD_nat (by omega)
theorem lawWords_ok : ∀ w ∈ lawWords, w ≠ [] ∧ w.length ≤ 8 := by decide +kernel
theorem lawWords_len : lawWords.length = 48 := by decide +kernel
theorem nT_mem : (∀ k, k < 10 → nT k ∈ lawWords) ∧ ∀ k, k < 8 → nT (20 + 10 * k) ∈ lawWords := by decide +kernel
theorem okW_mem {ws : List (List Nat)} (h : ws.length ≤ 40) (hm : ∀ w ∈ ws, w ∈ lawWords) : okW ws = true := okW_iff.mpr ⟨h, fun w hw => lawWords_ok w (hm w hw)⟩
theorem single_ok : ∀ a ∈ lawWords, ∀ b ∈ lawWords, isJoint a b = true → digitsOf a = a ∧ digitsOf b = b := by decide +kernel
/-- what a value is, told by its kind -/
def isStr : PyData → Bool
  | .str _ => true
  | _ => false
def isBl : PyData → Bool
  | .bool _ => true
  | _ => false
theorem isi_str (d : PyData) : isiD "str" d = some (.bool (isStr d)) := by cases d <;> rfl
theorem isi_bool (d : PyData) : isiD "bool" d = some (.bool (isBl d)) := by cases d <;> rfl
/-- a value that the laws draw: no dict within, no long text -/
def shortD (n : Nat) : PyData → Bool
  | .str s => decide (s.length ≤ n)
  | _ => true
def gv (d : PyData) : Bool := okD 50 d && shortD 1000 d
theorem gv_S {l : List Nat} (h : l.length ≤ 1000) : gv (S l) = true := by simp [gv, S, shortD, h]
theorem gv_iff {d : PyData} : gv d = true ↔ okD 50 d = true ∧ shortD 1000 d = true := by simp [gv]
def wordD : PyData → Bool
  | .str s => decide (s.cps.toList ∈ lawWords)
  | _ => false
def digT (l : List Nat) : Bool := decide (l.length ≤ 24) && l.all fun c => decide (48 ≤ c ∧ c ≤ 57)
def digD : PyData → Bool
  | .str s => digT s.cps.toList
  | _ => false
theorem inB_non {d : PyData} (h : isStr d = false) (xs : List (List Nat)) : inB d (xs.map S) = false := by
  unfold inB
  rw [List.any_eq_false]
  intro z hz
  obtain ⟨l, _, rfl⟩ := List.mem_map.mp hz
  cases d <;> first | (simp [isStr] at h; done) | simp [S, PyData.eqv]
theorem okD_mono : ∀ (n m : Nat) (d : PyData), n ≤ m → okD n d = true → okD m d = true := by
  intro n
  induction n with
  | zero =>
    intro m d h o
    cases d with
    | list xs => rw [okD_zl] at o; cases o
    | tuple xs => rw [okD_zt] at o; cases o
    | dict xs => simp at o
    | none => simp
    | bool b => simp
    | int i => simp
    | str s => simp
  | succ n ih =>
    intro m d h o
    obtain ⟨m, rfl⟩ : ∃ k, m = k + 1 := ⟨m - 1, by omega⟩
    cases d with
    | list xs =>
      rw [okD_list, List.all_eq_true] at *
      exact fun x hx => ih m x (by omega) (o x hx)
    | tuple xs =>
      rw [okD_tuple, List.all_eq_true] at *
      exact fun x hx => ih m x (by omega) (o x hx)
    | dict xs => simp at o
    | none => simp
    | bool b => simp
    | int i => simp
    | str s => simp
theorem forB_id {tt : Tg} {B : TD} {R : DEnds} (xs : List PyData) (P : Nat → En → Prop) {ε : En} {u : Blk (B, R)} (h : P 0 ε) (hs : ∀ i x ε (nx : En → Prop), xs[i]? = some x → P i ε → (∀ ε', P (i + 1) ε' → nx ε') → ∃ ε', tt.put x ε = some ε' ∧ B ⟨nx, R.rt, R.nx, nx, R.er⟩ ε') (k : ∀ ε, P xs.length ε → R.nx ε) :
    forB tt B xs R ε u := by
  have := forB_ix (tt := tt) (B := B) (R := R) id xs P (u := u) h hs k
  rwa [List.map_id] at this
/-- what words stand for, and what tens stand for that are read together with a unit -/
def pcs1 (ws : List (List Nat)) (a : List Nat) : List (List Nat) := (ws.filter (isJoint a)).map fun b => a.take 1 ++ b
def pcsL (ws : List (List Nat)) : List (List Nat) := ws.map digitsOf ++ ws.flatMap (pcs1 ws)
def okM (ws : List (List Nat)) : Bool := decide (ws.length ≤ 12) && ws.all fun w => decide (w ∈ lawWords)
theorem okM_iff {ws : List (List Nat)} : okM ws = true ↔ ws.length ≤ 12 ∧ ∀ w ∈ ws, w ∈ lawWords := by simp [okM]
theorem pcs1_len (ws : List (List Nat)) (a : List Nat) : (pcs1 ws a).length ≤ ws.length := by
  unfold pcs1
  rw [List.length_map]
  exact List.length_filter_le ..
theorem pcsF_len (ws us : List (List Nat)) : (us.flatMap (pcs1 ws)).length ≤ us.length * ws.length := by
  induction us with
  | nil => simp
  | cons a us ih =>
    have := pcs1_len ws a
    rw [List.flatMap_cons, List.length_append, List.length_cons, Nat.succ_mul]
    omega
theorem take_flat {ws us : List (List Nat)} {i : Nat} {a : List Nat} (h : us[i]? = some a) : (us.take (i + 1)).flatMap (pcs1 ws) = (us.take i).flatMap (pcs1 ws) ++ pcs1 ws a := by
  rw [List.take_add_one, h, Option.toList_some, List.flatMap_append, List.flatMap_singleton]
theorem digitsOf_sm : ∀ w ∈ lawWords, 1 ≤ (digitsOf w).length ∧ (digitsOf w).length ≤ 3 ∧ ∀ c ∈ digitsOf w, 48 ≤ c ∧ c ≤ 57 := by decide +kernel
theorem joined_sm : ∀ a ∈ lawWords, ∀ b ∈ lawWords, isJoint a b = true → (a.take 1 ++ b).length = 2 ∧ ∀ c ∈ a.take 1 ++ b, 48 ≤ c ∧ c ≤ 57 := by decide +kernel
theorem pcsL_sm {ws : List (List Nat)} (hm : ∀ w ∈ ws, w ∈ lawWords) : ∀ p ∈ pcsL ws, 1 ≤ p.length ∧ p.length ≤ 3 ∧ ∀ c ∈ p, 48 ≤ c ∧ c ≤ 57 := by
  intro p hp
  rcases List.mem_append.mp hp with hp | hp
  · obtain ⟨w, hw, rfl⟩ := List.mem_map.mp hp
    exact digitsOf_sm w (hm w hw)
  · obtain ⟨a, ha, hp⟩ := List.mem_flatMap.mp hp
    obtain ⟨b, hb, rfl⟩ := List.mem_map.mp hp
    obtain ⟨h1, h2⟩ := List.mem_filter.mp hb
    obtain ⟨g1, g2⟩ := joined_sm a (hm a ha) b (hm b h1) h2
    exact ⟨by omega, by omega, g2⟩
theorem pcsL_len {ws : List (List Nat)} (h : ws.length ≤ 12) : (pcsL ws).length ≤ 156 := by
  have h1 := pcsF_len ws ws
  have h2 : ws.length * ws.length ≤ 12 * 12 := Nat.mul_le_mul h h
  unfold pcsL
  rw [List.length_append, List.length_map]
  omega
theorem nT_sm : ∀ k, k < 10 → (nT k).length = 1 ∧ ∀ c ∈ nT k, 48 ≤ c ∧ c ≤ 57 := by decide +kernel
/-! ### the ways to say figures -/
def hitW (x p : List Nat) (e : Nat) : Bool := decide (p.length ≤ e) && ((x.drop (e - p.length)).take p.length == p)
def nxtW (P : List (List Nat)) (x : List Nat) (rows : List Nat) (e : Nat) : Nat := ((P.filter fun p => hitW x p e).map fun p => rows.getD (e - p.length) 0).sum
def rowsW (P : List (List Nat)) (x : List Nat) : Nat → List Nat
  | 0 => [1]
  | n + 1 => rowsW P x n ++ [nxtW P x (rowsW P x n) (n + 1)]
def waysW (P : List (List Nat)) (x : List Nat) : Nat := (rowsW P x x.length).getD x.length 0
theorem rowsW_len (P : List (List Nat)) (x : List Nat) : ∀ n, (rowsW P x n).length = n + 1
  | 0 => rfl
  | n + 1 => by rw [rowsW, List.length_append, rowsW_len P x n]; rfl
theorem rowsW_at (P : List (List Nat)) (x : List Nat) : ∀ (m n k : Nat), k ≤ n → (rowsW P x (n + m)).getD k 0 = (rowsW P x n).getD k 0
  | 0, _, _, _ => rfl
  | m + 1, n, k, h => by
    have ih := rowsW_at P x m n k h
    have hl := rowsW_len P x (n + m)
    rw [← ih, ← Nat.add_assoc, rowsW, List.getD_eq_getElem?_getD, List.getD_eq_getElem?_getD, List.getElem?_append_left (by omega)]
def wv (P : List (List Nat)) (x : List Nat) (k : Nat) : Nat := (rowsW P x k).getD k 0
theorem wv_zero (P : List (List Nat)) (x : List Nat) : wv P x 0 = 1 := rfl
theorem wv_succ {P : List (List Nat)} {x : List Nat} (hp : ∀ p ∈ P, 1 ≤ p.length) (n : Nat) : wv P x (n + 1) = ((P.filter fun p => hitW x p (n + 1)).map fun p => wv P x (n + 1 - p.length)).sum := by
  have hl := rowsW_len P x n
  unfold wv
  rw [rowsW, List.getD_eq_getElem?_getD, List.getElem?_append_right (by omega), hl, Nat.sub_self]
  show nxtW P x (rowsW P x n) (n + 1) = _
  unfold nxtW
  congr 1
  refine List.map_congr_left fun p hp' => ?_
  have h1 := hp p (List.mem_filter.mp hp').1
  have := rowsW_at P x (n - (n + 1 - p.length)) (n + 1 - p.length) (n + 1 - p.length) (Nat.le_refl _)
  rw [show n + 1 - p.length + (n - (n + 1 - p.length)) = n by omega] at this
  exact this
theorem sum_le {α : Type} {f g : α → Nat} : ∀ {xs : List α}, (∀ a ∈ xs, f a ≤ g a) → (xs.map f).sum ≤ (xs.map g).sum
  | [], _ => Nat.le_refl _
  | a :: xs, h => by
    have := sum_le (xs := xs) fun b hb => h b (List.mem_cons_of_mem _ hb)
    have h1 := h a List.mem_cons_self
    simp only [List.map_cons, List.sum_cons]; omega
theorem sum_filter_le {α : Type} {f g : α → Nat} {p q : α → Bool} : ∀ {xs : List α}, (∀ a ∈ xs, p a = true → q a = true ∧ f a ≤ g a) → ((xs.filter p).map f).sum ≤ ((xs.filter q).map g).sum
  | [], _ => Nat.le_refl _
  | a :: xs, h => by
    have ih := sum_filter_le (xs := xs) fun b hb => h b (List.mem_cons_of_mem _ hb)
    have h1 := h a List.mem_cons_self
    rw [List.filter_cons, List.filter_cons]
    by_cases hp : p a = true
    · obtain ⟨h2, h3⟩ := h1 hp
      rw [if_pos hp, if_pos h2]
      simp only [List.map_cons, List.sum_cons]; omega
    · rw [if_neg hp]
      split
      · simp only [List.map_cons, List.sum_cons]; omega
      · exact ih
theorem sum_mul {α : Type} (c : Nat) (f : α → Nat) : ∀ xs : List α, c * (xs.map f).sum = (xs.map fun a => c * f a).sum
  | [] => rfl
  | a :: xs => by simp only [List.map_cons, List.sum_cons, Nat.mul_add, sum_mul c f xs]
theorem wv_app {P : List (List Nat)} {x y : List Nat} (hp : ∀ p ∈ P, 1 ≤ p.length) : ∀ k, k ≤ x.length → wv P (x ++ y) k = wv P x k := by
  intro k
  induction k using Nat.strongRecOn with
  | ind k ih =>
    intro hk
    cases k with
    | zero => rfl
    | succ k =>
      rw [wv_succ hp, wv_succ hp]
      have e : (P.filter fun p => hitW (x ++ y) p (k + 1)) = P.filter fun p => hitW x p (k + 1) := by
        refine List.filter_congr fun p hpm => ?_
        unfold hitW
        by_cases h : p.length ≤ k + 1
        · rw [List.drop_append_of_le_length (by omega), List.take_append_of_le_length (by rw [List.length_drop]; omega)]
        · simp [h]
      rw [e]
      congr 1
      refine List.map_congr_left fun p hpm => ?_
      have h1 := hp p (List.mem_filter.mp hpm).1
      exact ih _ (by omega) (by omega)
theorem wv_mul {P : List (List Nat)} {x y : List Nat} (hp : ∀ p ∈ P, 1 ≤ p.length) : ∀ e, e ≤ y.length → wv P x x.length * wv P y e ≤ wv P (x ++ y) (x.length + e) := by
  intro e
  induction e using Nat.strongRecOn with
  | ind e ih =>
    intro he
    cases e with
    | zero => rw [wv_zero, Nat.mul_one, Nat.add_zero, wv_app hp _ (Nat.le_refl _)]; exact Nat.le_refl _
    | succ e =>
      rw [wv_succ hp, sum_mul, ← Nat.add_assoc, wv_succ hp]
      refine sum_filter_le fun p hpm hh => ?_
      have h1 := hp p hpm
      unfold hitW at hh ⊢
      simp only [Bool.and_eq_true, decide_eq_true_eq, beq_iff_eq] at hh ⊢
      obtain ⟨g1, g2⟩ := hh
      refine ⟨⟨by omega, ?_⟩, ?_⟩
      · rw [show x.length + e + 1 - p.length = x.length + (e + 1 - p.length) by omega, List.drop_append, List.drop_eq_nil_of_le (by omega : x.length ≤ x.length + (e + 1 - p.length)), List.nil_append, Nat.add_sub_cancel_left]
        exact g2
      · rw [show x.length + e + 1 - p.length = x.length + (e + 1 - p.length) by omega]
        exact ih _ (by omega) (by omega)
/-- one behind the other -/
theorem ways_app {P : List (List Nat)} (hp : ∀ p ∈ P, 1 ≤ p.length) (x y : List Nat) : waysW P x * waysW P y ≤ waysW P (x ++ y) := by
  have := wv_mul (P := P) (x := x) (y := y) hp y.length (Nat.le_refl _)
  unfold waysW
  rw [List.length_append]
  exact this
/-! ### names of errors -/
def isEB (n y : Str) : Bool := decide (n = y) || decide (y = "ValueError")
def txA (n : Str) : Option Str :=
  if n = "InvalidWord" then some (mkS [119, 111, 114, 100, 32, 118, 97, 108, 117, 101])
  else if n = "InvalidDigits" then some (mkS [100, 105, 103, 105, 116, 115, 32, 118, 97, 108, 117, 101])
  else if n = "InvalidManner" then some (mkS [109, 97, 110, 110, 101, 114, 32, 118, 97, 108, 117, 101])
  else if n = "InvalidLength" then some (mkS [108, 101, 110, 103, 116, 104, 32, 118, 97, 108, 117, 101])
  else if n = "TooMany" then some (mkS [109, 97, 110, 121, 32, 118, 97, 108, 117, 101])
  else if n = "NothingToUndo" then some (mkS [117, 110, 100, 111, 32, 118, 97, 108, 117, 101])
  else none
def txOn (ns : List Str) (n : Str) : Option Str := if n ∈ ns then txA n else none
theorem txA_cases {n t : Str} (h : txA n = some t) : (n = "InvalidWord" ∧ t = mkS [119, 111, 114, 100, 32, 118, 97, 108, 117, 101]) ∨ (n = "InvalidDigits" ∧ t = mkS [100, 105, 103, 105, 116, 115, 32, 118, 97, 108, 117, 101]) ∨ (n = "InvalidManner" ∧ t = mkS [109, 97, 110, 110, 101, 114, 32, 118, 97, 108, 117, 101]) ∨
    (n = "InvalidLength" ∧ t = mkS [108, 101, 110, 103, 116, 104, 32, 118, 97, 108, 117, 101]) ∨ (n = "TooMany" ∧ t = mkS [109, 97, 110, 121, 32, 118, 97, 108, 117, 101]) ∨ (n = "NothingToUndo" ∧ t = mkS [117, 110, 100, 111, 32, 118, 97, 108, 117, 101]) := by
  unfold txA at h
  split at h
  · cases h; exact .inl ⟨by assumption, rfl⟩
  split at h
  · cases h; exact .inr (.inl ⟨by assumption, rfl⟩)
  split at h
  · cases h; exact .inr (.inr (.inl ⟨by assumption, rfl⟩))
  split at h
  · cases h; exact .inr (.inr (.inr (.inl ⟨by assumption, rfl⟩)))
  split at h
  · cases h; exact .inr (.inr (.inr (.inr (.inl ⟨by assumption, rfl⟩))))
  split at h
  · cases h; exact .inr (.inr (.inr (.inr (.inr ⟨by assumption, rfl⟩))))
  cases h
theorem txA_ok {n t : Str} (h : txA n = some t) : PyData.strOk t = true := by
  rcases txA_cases h with ⟨_, rfl⟩ | ⟨_, rfl⟩ | ⟨_, rfl⟩ | ⟨_, rfl⟩ | ⟨_, rfl⟩ | ⟨_, rfl⟩ <;> decide +kernel
theorem txOn_some {ns : List Str} {n t : Str} (h : txOn ns n = some t) : n ∈ ns ∧ txA n = some t := by
  unfold txOn at h
  split at h
  · exact ⟨by assumption, h⟩
  · cases h
theorem txOn_ok {ns : List Str} : ∀ n t : Str, txOn ns n = some t → PyData.strOk t = true := fun n t h => txA_ok (txOn_some h).2
theorem isA_of {K : PySem.W.Frag} {mg : Str → Option Value} {C c : Addr} {y n : Str} {b : Bool} (hm : mg y = some (.ref c)) (h : PySem.W.kitOne K (.ref C) (.ref c) = some b) (e : isEB n y = b) : IsA K mg C y (isEB n y) := ⟨.inl ⟨c, hm, by rw [e]; exact h⟩⟩
theorem isA_blt {K : PySem.W.Frag} {mg : Str → Option Value} {C : Addr} {y n : Str} {T : String} {b : Bool} (hm : mg y = none) (hT : bootBuiltins y = some (.type T)) (h : PySem.W.kitOne K (.ref C) (.type T) = some b) (e : isEB n y = b) : IsA K mg C y (isEB n y) := ⟨.inr ⟨hm, T, hT, by rw [e]; exact h⟩⟩
def digs : List Nat := [48, 49, 50, 51, 52, 53, 54, 55, 56, 57]
def allWords : List (List Nat) := digs.map (fun c => [c]) ++ digs.map (fun c => [49, c]) ++ (digs.drop 2).map (fun c => [c, 48]) ++ digs.map (fun c => [100, 111, 117, 98, 108, 101, 32, c]) ++ digs.map (fun c => [116, 114, 105, 112, 108, 101, 32, c])
theorem allWords_eq : allWords = lawWords := by decide +kernel
def m_all_words : List PyData → Option PyData
  | [] => some (.list (lawWords.map S))
  | _ => none
def N_all_words : List Str := ["found", "digit"]
def T_all_words : TD := (dSeq (dAsg 0 (fun ε => ((dOp addA (fun ε => ((dLc (fun ε => ((fun _ => some (PyData.str (mkS [48, 49, 50, 51, 52, 53, 54, 55, 56, 57]))) ε).bind seqD) (.nm 1) [1] (fun _ => some true) (getF 1)) ε).map PyData.list) (fun ε => ((dLc (fun ε => ((fun _ => some (PyData.str (mkS [48, 49, 50, 51, 52, 53, 54, 55, 56, 57]))) ε).bind seqD) (.nm 1) [1] (fun _ => some true) (dOp addA (fun _ => some (PyData.str (mkS [49]))) (getB 1))) ε).map PyData.list)) ε).map Slot.f))
    (dSeq (dAsg 0 (fun ε => ((dOp addA (getB 0) (fun ε => ((dLc (fun ε => ((dSl (fun _ => some (PyData.str (mkS [48, 49, 50, 51, 52, 53, 54, 55, 56, 57]))) (fun ε => intOf ((fun _ => some (PyData.int 2)) ε)) (fun _ => some none)) ε).bind seqD) (.nm 1) [1] (fun _ => some true) (dOp addA (getB 1) (fun _ => some (PyData.str (mkS [48]))))) ε).map PyData.list)) ε).map Slot.f))
    (dRet (fun ε => ((dOp addA (dOp addA (getB 0) (fun ε => ((dLc (fun ε => ((fun _ => some (PyData.str (mkS [48, 49, 50, 51, 52, 53, 54, 55, 56, 57]))) ε).bind seqD) (.nm 1) [1] (fun _ => some true) (dOp addA (fun _ => some (PyData.str (mkS [100, 111, 117, 98, 108, 101, 32]))) (getB 1))) ε).map PyData.list)) (fun ε => ((dLc (fun ε => ((fun _ => some (PyData.str (mkS [48, 49, 50, 51, 52, 53, 54, 55, 56, 57]))) ε).bind seqD) (.nm 1) [1] (fun _ => some true) (dOp addA (fun _ => some (PyData.str (mkS [116, 114, 105, 112, 108, 101, 32]))) (getB 1))) ε).map PyData.list)) ε).map Slot.f))))
theorem st_all_words : startE N_all_words [] = [none, none] := rfl
theorem pure_all_words : ∀ ds d, m_all_words ds = some d → ds.length = ([] : List Str).length ∧ T_all_words { nx := fun _ => d = .none, rt := fun s => s.val = some d } (startE N_all_words ds) := by
  intro ds d h
  unfold m_all_words at h
  split at h
  · cases h
    refine ⟨rfl, ?_⟩
    rw [st_all_words, ← allWords_eq]
    have hd : ∀ x ∈ digs, True := fun _ _ => trivial
    simp -dsimp -implicitDefEqProofs (disch := first | omega | simp) [T_all_words]
    rw [dLc_all digs (fun c => S [c]) (fun c => S [c]), Option.map_some, bnd_some, dLc_e, dLc_all digs (fun c => S [c]) (fun c => S [49, c])]
    · simp -dsimp -implicitDefEqProofs (disch := first | omega | simp) [digs]
      rw [dLc_all (digs.drop 2) (fun c => S [c]) (fun c => S [c, 48])]
      · simp -dsimp -implicitDefEqProofs (disch := first | omega | simp) [digs]
        rw [dLc_all digs (fun c => S [c]) (fun c => S [100, 111, 117, 98, 108, 101, 32, c]), Option.map_some, bnd_some]
        · simp -dsimp -implicitDefEqProofs (disch := first | omega | simp) [digs]
          rw [dLc_all digs (fun c => S [c]) (fun c => S [116, 114, 105, 112, 108, 101, 32, c]), Option.map_some, bnd_some]
          · simp -dsimp -implicitDefEqProofs (disch := first | omega | simp) [digs, allWords]
          · simp -dsimp -implicitDefEqProofs (disch := first | omega | simp) [digs]
          · intro c _
            simp -dsimp -implicitDefEqProofs (disch := first | omega | simp) [S]
          · decide
        · simp -dsimp -implicitDefEqProofs (disch := first | omega | simp) [digs]
        · intro c _
          simp -dsimp -implicitDefEqProofs (disch := first | omega | simp) [S]
        · decide
      · simp -dsimp -implicitDefEqProofs (disch := first | omega | simp) [digs]
      · intro c _
        simp -dsimp -implicitDefEqProofs (disch := first | omega | simp) [S]
      · decide
    · simp -dsimp -implicitDefEqProofs (disch := first | omega | simp) [digs]
    · intro c _
      simp -dsimp -implicitDefEqProofs (disch := first | omega | simp) [S]
    · decide
    · simp -dsimp -implicitDefEqProofs (disch := first | omega | simp) [digs]
    · intro c _
      simp -dsimp -implicitDefEqProofs (disch := first | omega | simp) [S]
    · decide
  · cases h
def m_is_word : List PyData → Option PyData
  | [d] => if okD 60 d = true then some (.bool (wordD d)) else none
  | _ => none
def N_is_word : List Str := ["value"]
def T_is_word : TD := (dRet (fun ε => ((dAndV (fun ε => ((getB 0) ε).bind (isiD "str")) (dOp inD (getB 0) (fun ε => (some []).bind m_all_words))) ε).map Slot.f))
theorem st_is_word (a0 : PyData) : startE N_is_word [a0] = [some (.f a0)] := rfl
theorem pure_is_word : ∀ ds d, m_is_word ds = some d → ds.length = ["value"].length ∧ T_is_word { nx := fun _ => d = .none, rt := fun s => s.val = some d } (startE N_is_word ds) := by
  intro ds d h
  unfold m_is_word at h
  split at h
  · rename_i v
    split at h
    · rename_i ho
      cases h
      refine ⟨rfl, ?_⟩
      rw [st_is_word]
      cases v with
      | str s =>
        rw [mkS_eta s]
        generalize s.cps.toList = l
        simp -dsimp -implicitDefEqProofs (disch := first | omega | simp) [T_is_word, isi_str, isStr, wordD, m_all_words, inB_S, -isiD]
      | _ => simp -dsimp -implicitDefEqProofs (disch := first | omega | simp) [T_is_word, isi_str, isStr, wordD, -isiD]
    · cases h
  · cases h
theorem m_is_word_S (l : List Nat) : m_is_word [.str (mkS l)] = some (.bool (decide (l ∈ lawWords))) := by simp [m_is_word, wordD]
def m_is_ten : List PyData → Option PyData
  | [.str s] => if s.length ≤ 1000 then some (.bool (isTen s.cps.toList)) else none
  | _ => none
def N_is_ten : List Str := ["word"]
def T_is_ten : TD := (dRet (fun ε => ((dAndV (dOp eqD (fun ε => ((dCons (getB 0) (fun _ => some [])) ε).bind lenD) (fun _ => some (PyData.int 2))) (dOp inD (dOp ixD (getB 0) (fun _ => some (PyData.int 0))) (dSl (fun _ => some (PyData.str (mkS [48, 49, 50, 51, 52, 53, 54, 55, 56, 57]))) (fun ε => intOf ((fun _ => some (PyData.int 2)) ε)) (fun _ => some none)))) ε).map Slot.f))
theorem st_is_ten (a0 : PyData) : startE N_is_ten [a0] = [some (.f a0)] := rfl
theorem pure_is_ten : ∀ ds d, m_is_ten ds = some d → ds.length = ["word"].length ∧ T_is_ten { nx := fun _ => d = .none, rt := fun s => s.val = some d } (startE N_is_ten ds) := by
  intro ds d h
  unfold m_is_ten at h
  split at h
  · rename_i s
    split at h
    · rename_i hl
      cases h
      refine ⟨rfl, ?_⟩
      rw [mkS_eta s] at hl ⊢
      generalize s.cps.toList = l at hl ⊢
      rw [mkS_length] at hl
      match l with
      | [] => simp -dsimp -implicitDefEqProofs (disch := first | omega | simp) [T_is_ten, startE, N_is_ten, isTen]
      | [c] => simp -dsimp -implicitDefEqProofs (disch := first | omega | simp) [T_is_ten, startE, N_is_ten, isTen]
      | [c, e] =>
        simp -dsimp -implicitDefEqProofs (disch := first | omega | simp) [T_is_ten, startE, N_is_ten, isTen]
        rw [Bool.eq_iff_iff]; simp; omega
      | c :: e :: f :: r =>
        simp only [List.length_cons] at hl
        have : ¬ ((r.length : Int) + 1 + 1 + 1 = 2) := by omega
        simp -dsimp -implicitDefEqProofs (disch := first | omega | simp) [T_is_ten, startE, N_is_ten, isTen, this]
    · cases h
  · cases h
@[simp] theorem m_is_ten_S (l : List Nat) (h : l.length ≤ 1000) : m_is_ten [.str (mkS l)] = some (.bool (isTen l)) := by simp [m_is_ten, h]
def m_is_joint : List PyData → Option PyData
  | [.str s, .str t] => if s.length ≤ 1000 ∧ t.length ≤ 1000 then some (.bool (isJoint s.cps.toList t.cps.toList)) else none
  | _ => none
def N_is_joint : List Str := ["one", "other"]
def T_is_joint : TD := (dRet (fun ε => ((dAndV (fun ε => ((dCons (getF 0) (fun _ => some [])) ε).bind m_is_ten) (dAndV (dOp eqD (fun ε => ((dCons (getB 1) (fun _ => some [])) ε).bind lenD) (fun _ => some (PyData.int 1))) (dOp neD (getB 1) (fun _ => some (PyData.str (mkS [48])))))) ε).map Slot.f))
theorem st_is_joint (a0 a1 : PyData) : startE N_is_joint [a0, a1] = [some (.f a0), some (.f a1)] := rfl
theorem pure_is_joint : ∀ ds d, m_is_joint ds = some d → ds.length = ["one", "other"].length ∧ T_is_joint { nx := fun _ => d = .none, rt := fun s => s.val = some d } (startE N_is_joint ds) := by
  intro ds d h
  unfold m_is_joint at h
  split at h
  · rename_i s t
    split at h
    · rename_i hl
      cases h
      refine ⟨rfl, ?_⟩
      rw [mkS_eta s, mkS_eta t] at hl ⊢
      generalize s.cps.toList = l at hl ⊢
      generalize t.cps.toList = k at hl ⊢
      rw [mkS_length, mkS_length] at hl
      obtain ⟨h1, h2⟩ := hl
      cases ht : isTen l with
      | false => simp -dsimp -implicitDefEqProofs (disch := first | omega | simp) [T_is_joint, startE, N_is_joint, isJoint, ht]
      | true =>
        match k with
        | [] => simp -dsimp -implicitDefEqProofs (disch := first | omega | simp) [T_is_joint, startE, N_is_joint, isJoint, ht]
        | [c] =>
          simp -dsimp -implicitDefEqProofs (disch := first | omega | simp) [T_is_joint, startE, N_is_joint, isJoint, ht, bne]
        | c :: e :: r =>
          simp only [List.length_cons] at h2
          have : ¬ ((r.length : Int) + 1 + 1 = 1) := by omega
          simp -dsimp -implicitDefEqProofs (disch := first | omega | simp) [T_is_joint, startE, N_is_joint, isJoint, ht, this]
    · cases h
  · cases h
@[simp] theorem m_is_joint_S (l k : List Nat) (h : l.length ≤ 1000) (h' : k.length ≤ 1000) : m_is_joint [.str (mkS l), .str (mkS k)] = some (.bool (isJoint l k)) := by simp [m_is_joint, h, h']
def m_digits_of : List PyData → Option PyData
  | [.str s] => if s.length ≤ 1000 ∧ s.cps.toList ≠ [] then some (S (digitsOf s.cps.toList)) else none
  | _ => none
def N_digits_of : List Str := ["word"]
def T_digits_of : TD := (dSeq (dIf (fun ε => boolOf (dOp eqD (dOp ixD (getB 0) (fun _ => some (PyData.int 0))) (fun _ => some (PyData.str (mkS [100]))) ε)) (dRet (fun ε => ((dOp mulD (dOp ixD (getB 0) (fun ε => ((fun _ => some (PyData.int 1)) ε).bind negD)) (fun _ => some (PyData.int 2))) ε).map Slot.f)) dNext)
    (dRet (fun ε => ((dIfE (fun ε => boolOf (dOp eqD (dOp ixD (getB 0) (fun _ => some (PyData.int 0))) (fun _ => some (PyData.str (mkS [116]))) ε)) (dOp mulD (dOp ixD (getB 0) (fun ε => ((fun _ => some (PyData.int 1)) ε).bind negD)) (fun _ => some (PyData.int 3))) (getF 0)) ε).map Slot.f)))
theorem st_digits_of (a0 : PyData) : startE N_digits_of [a0] = [some (.f a0)] := rfl
theorem pure_digits_of : ∀ ds d, m_digits_of ds = some d → ds.length = ["word"].length ∧ T_digits_of { nx := fun _ => d = .none, rt := fun s => s.val = some d } (startE N_digits_of ds) := by
  intro ds d h
  unfold m_digits_of at h
  split at h
  · rename_i s
    split at h
    · rename_i hl
      cases h
      refine ⟨rfl, ?_⟩
      rw [mkS_eta s] at hl ⊢
      generalize s.cps.toList = l at hl ⊢
      rw [mkS_length] at hl
      obtain ⟨h1, h2⟩ := hl
      match l with
      | [] => exact absurd rfl h2
      | c :: r =>
        simp only [List.length_cons] at h1
        by_cases h3 : c = 100
        · simp -dsimp -implicitDefEqProofs (disch := first | omega | simp) [T_digits_of, startE, N_digits_of, digitsOf, h3, List.getLast?_cons]
        · by_cases h4 : c = 116
          · simp -dsimp -implicitDefEqProofs (disch := first | omega | simp) [T_digits_of, startE, N_digits_of, digitsOf, h3, h4, List.getLast?_cons]
          · simp -dsimp -implicitDefEqProofs (disch := first | omega | simp) [T_digits_of, startE, N_digits_of, digitsOf, h3, h4]
    · cases h
  · cases h
@[simp] theorem m_digits_of_S (l : List Nat) (h : l.length ≤ 1000) (h' : l ≠ []) : m_digits_of [.str (mkS l)] = some (.str (mkS (digitsOf l))) := by simp [m_digits_of, h, h', S]
/-- words of a manner: one to twelve, in order -/
def ascB (ws : List (List Nat)) : Bool := (ws.zip ws.tail).all fun p => decide (p.1 < p.2)
def okMn (ws : List (List Nat)) : Bool := okM ws && decide (ws ≠ []) && ascB ws
def manD (d : PyData) : Bool := match deW d with
  | some ws => okMn ws
  | none => false
def m_is_manner : List PyData → Option PyData
  | [d] => if okD 50 d = true then some (.bool (manD d)) else none
  | _ => none
def N_is_manner : List Str := ["value", "word", "one", "other"]
def T_is_manner : TD := (dSeq (dIf (dOr (fun ε => ((fun ε => ((fun ε => ((getB 0) ε).bind (isiD "tuple")) ε).bind truD) ε).map not) (dOr (fun ε => ((fun ε => boolOf (dChain leD leD (fun _ => some (PyData.int 1)) (fun ε => ((dCons (getB 0) (fun _ => some [])) ε).bind lenD) (fun _ => some (PyData.int 12)) ε)) ε).map not) (fun ε => ((fun ε => ((fun ε => ((dCons (fun ε => ((dLc (fun ε => ((getF 0) ε).bind seqD) (.nm 1) [1] (fun _ => some true) (fun ε => ((dCons (getF 1) (fun _ => some [])) ε).bind m_is_word)) ε).map PyData.list) (fun _ => some [])) ε).bind allD) ε).bind truD) ε).map not))) (dRet (fun ε => ((fun _ => some (PyData.bool false)) ε).map Slot.f)) dNext)
    (dRet (fun ε => ((fun ε => ((dCons (fun ε => ((dLc (fun ε => ((dCons (getF 0) (dCons (dSl (getB 0) (fun ε => intOf ((fun _ => some (PyData.int 1)) ε)) (fun _ => some none)) (fun _ => some []))) ε).bind zipD) (.tp [2, 3]) [2, 3] (fun _ => some true) (dOp ltD (getB 2) (getB 3))) ε).map PyData.list) (fun _ => some [])) ε).bind allD) ε).map Slot.f)))
theorem st_is_manner (a0 : PyData) : startE N_is_manner [a0] = [some (.f a0), none, none, none] := rfl
theorem okMn_iff {ws : List (List Nat)} : okMn ws = true ↔ okM ws = true ∧ ws ≠ [] ∧ ascB ws = true := by simp [okMn, and_assoc]
theorem boolsD_all {α : Type} (f : α → Bool) : ∀ xs : List α, boolsD (xs.map fun x => .bool (f x)) = some (xs.map f)
  | [] => rfl
  | x :: xs => by simp [boolsD, boolsD_all f xs]
theorem allD_is {α : Type} (f : α → Bool) (xs : List α) : allD [.list (xs.map fun x => .bool (f x))] = some (.bool (xs.all f)) := by
  rw [allD, boolsD_all, Option.map_some, List.all_map]
  rfl
theorem allD_all {α : Type} (f : α → Bool) (xs : List α) (h : xs.all f = true) : allD [.list (xs.map fun x => .bool (f x))] = some (.bool true) := by rw [allD_is, h]
theorem words_all : ∀ {xs : List PyData}, xs.all wordD = true → ∃ ws : List (List Nat), xs = ws.map S ∧ ∀ w ∈ ws, w ∈ lawWords
  | [], _ => ⟨[], rfl, by simp⟩
  | x :: xs, h => by
    rw [List.all_cons, Bool.and_eq_true] at h
    obtain ⟨ws, rfl, hm⟩ := words_all h.2
    cases x with
    | str s =>
      refine ⟨s.cps.toList :: ws, ?_, fun w hw => ?_⟩
      · rw [List.map_cons, S, ← mkS_eta]
      · rcases List.mem_cons.mp hw with rfl | hw
        · simpa [wordD] using h.1
        · exact hm w hw
    | _ => simp [wordD] at h
theorem all_words_S (ws : List (List Nat)) : (ws.map S).all wordD = ws.all fun w => decide (w ∈ lawWords) := by
  rw [List.all_map]; congr 1
theorem pure_is_manner : ∀ ds d, m_is_manner ds = some d → ds.length = ["value"].length ∧ T_is_manner { nx := fun _ => d = .none, rt := fun s => s.val = some d } (startE N_is_manner ds) := by
  intro ds d h
  unfold m_is_manner at h
  split at h
  · rename_i v
    split at h
    · rename_i ho
      cases h
      refine ⟨rfl, ?_⟩
      rw [st_is_manner]
      cases v with
      | tuple xs =>
        rw [okD_tuple, List.all_eq_true] at ho
        have mt : manD (.tuple xs) = true → xs.length ≤ 12 ∧ 1 ≤ xs.length ∧ xs.all wordD = true := fun e => by
          unfold manD at e
          split at e
          · rename_i ws hw
            have := deW_eq hw
            cases this
            obtain ⟨h1, h2, h3⟩ := okMn_iff.mp e
            obtain ⟨h4, h5⟩ := okM_iff.mp h1
            have h6 := List.length_pos_iff.mpr h2
            refine ⟨by simpa using h4, by rw [List.length_map]; exact h6, ?_⟩
            rw [all_words_S]
            exact List.all_eq_true.mpr fun w hw => decide_eq_true (h5 w hw)
          · cases e
        by_cases hl : 1 ≤ xs.length ∧ xs.length ≤ 12
        · have k1 : (1 : Int) ≤ xs.length := by omega
          have k2 : (xs.length : Int) ≤ 12 := by omega
          simp -dsimp -implicitDefEqProofs (disch := first | omega | simp) [T_is_manner, k1, k2, show kitB "tuple" "tuple" = some true from rfl]
          rw [dLc_all xs id (fun x => .bool (wordD x))]
          · have a1 := allD_is wordD xs
            cases hw : xs.all wordD with
            | false =>
              rw [hw] at a1
              have hf : manD (.tuple xs) = false := by
                cases e : manD (.tuple xs) with
                | false => rfl
                | true => rw [(mt e).2.2] at hw; cases hw
              rw [hf]
              simp -dsimp -implicitDefEqProofs (disch := first | omega | simp) [a1, -allD]
            | true =>
              rw [hw] at a1
              obtain ⟨ws, hx, hm⟩ := words_all hw
              have hlx : xs.length = ws.length := by rw [hx, List.length_map]
              have hme : manD (.tuple xs) = ascB ws := by
                unfold manD
                rw [hx, deW_S]
                have h1 : okM ws = true := okM_iff.mpr ⟨by omega, hm⟩
                have h2 : ws ≠ [] := List.length_pos_iff.mp (by omega)
                simp [okMn, h1, h2]
              rw [hme]
              have a2 := allD_is (fun p : List Nat × List Nat => decide (p.1 < p.2)) (ws.zip ws.tail)
              have hz : zipL xs xs.tail = (ws.zip ws.tail).map fun p => .tuple [S p.1, S p.2] := by rw [hx, ← List.map_tail, zipL_map]
              have hzl : (ws.zip ws.tail).length ≤ 12 := by rw [List.length_zip]; omega
              simp -dsimp -implicitDefEqProofs (disch := first | omega | simp) [a1, -allD]
              rw [dLc_pair (ws.zip ws.tail) (fun p => S p.1) (fun p => S p.2) (fun _ => true) (fun p => .bool (decide (p.1 < p.2)))]
              · rw [List.filter_eq_self.mpr (fun _ _ => rfl)]
                simp -dsimp -implicitDefEqProofs (disch := first | omega | simp) [a2, -allD]
                rfl
              · simp -dsimp -implicitDefEqProofs (disch := first | omega | simp) [hz]
              · intro p hp
                simp -dsimp -implicitDefEqProofs (disch := first | omega | simp)
              · intro p hp _
                simp -dsimp -implicitDefEqProofs (disch := first | omega | simp) [S]
              · rw [List.filter_eq_self.mpr (fun _ _ => rfl)]
                omega
          · simp -dsimp -implicitDefEqProofs (disch := first | omega | simp)
          · intro x hx
            have := okD_mono 49 60 x (by decide) (ho x hx)
            simp -dsimp -implicitDefEqProofs (disch := first | omega | simp) [m_is_word, this]
          · omega
        · have hf : manD (.tuple xs) = false := by
            cases e : manD (.tuple xs) with
            | false => rfl
            | true => exact absurd ⟨(mt e).2.1, (mt e).1⟩ hl
          rw [hf]
          by_cases h1 : (1 : Int) ≤ xs.length
          · have h2 : ¬ (xs.length : Int) ≤ 12 := by omega
            simp -dsimp -implicitDefEqProofs (disch := first | omega | simp) [T_is_manner, h1, h2, show kitB "tuple" "tuple" = some true from rfl]
          · simp -dsimp -implicitDefEqProofs (disch := first | omega | simp) [T_is_manner, h1, show kitB "tuple" "tuple" = some true from rfl]
      | list xs => simp -dsimp -implicitDefEqProofs (disch := first | omega | simp) [T_is_manner, manD, deW, show kitB "list" "tuple" = some false from rfl]
      | none => simp -dsimp -implicitDefEqProofs (disch := first | omega | simp) [T_is_manner, manD, deW, show kitB "NoneType" "tuple" = some false from rfl]
      | bool b => simp -dsimp -implicitDefEqProofs (disch := first | omega | simp) [T_is_manner, manD, deW, show kitB "bool" "tuple" = some false from rfl]
      | int i => simp -dsimp -implicitDefEqProofs (disch := first | omega | simp) [T_is_manner, manD, deW, show kitB "int" "tuple" = some false from rfl]
      | str s => simp -dsimp -implicitDefEqProofs (disch := first | omega | simp) [T_is_manner, manD, deW, show kitB "str" "tuple" = some false from rfl]
      | dict kv => simp at ho
    · cases h
  · cases h
theorem m_is_manner_S (ws : List (List Nat)) (h : okMn ws = true) : m_is_manner [.tuple (ws.map S)] = some (.bool true) := by simp [m_is_manner, manD, h]
def m_need_manner : GX
  | [d] => if okD 50 d = true then some (if manD d = true then .ok .none else .error "InvalidManner") else none
  | _ => none
def N_need_manner : List Str := ["manner"]
def T_need_manner : TD := (dIf (fun ε => ((fun ε => ((fun ε => ((dCons (getF 0) (fun _ => some [])) ε).bind m_is_manner) ε).bind truD) ε).map not) (xRaise "InvalidManner") dNext)
theorem st_need_manner (a0 : PyData) : startE N_need_manner [a0] = [some (.f a0)] := rfl
theorem pure_need_manner : ∀ ds r, m_need_manner ds = some r → ds.length = ["manner"].length ∧ T_need_manner { nx := fun _ => r = .ok .none, rt := fun s => ∃ d, s.val = some d ∧ r = .ok d, er := fun n => r = .error n } (startE N_need_manner ds) := by
  intro ds r h
  unfold m_need_manner at h
  split at h
  · rename_i d
    split at h
    · rename_i hok
      refine ⟨rfl, ?_⟩
      rw [st_need_manner]
      have h1 : m_is_manner [d] = some (.bool (manD d)) := by simp [m_is_manner, hok]
      split at h
      · rename_i hm
        cases h
        rw [hm] at h1
        simp -dsimp -implicitDefEqProofs (disch := first | omega | simp) [T_need_manner, h1]
      · rename_i hm
        cases h
        rw [Bool.eq_false_iff.mpr hm] at h1
        simp -dsimp -implicitDefEqProofs (disch := first | omega | simp) [T_need_manner, h1]
    · cases h
  · cases h
theorem m_need_manner_d {d : PyData} (h : okD 50 d = true) : m_need_manner [d] = some (if manD d = true then .ok .none else .error "InvalidManner") := by simp [m_need_manner, h]
def figB (x : List Nat) : Bool := decide (x.length ≤ 200) && x.all fun c => decide (48 ≤ c ∧ c ≤ 57)
def figD : PyData → Bool
  | .str s => figB s.cps.toList
  | _ => false
def m_is_figures : List PyData → Option PyData
  | [d] => if shortD 16777216 d = true then some (.bool (figD d)) else none
  | _ => none
def N_is_figures : List Str := ["value", "sign"]
def T_is_figures : TD := (dRet (fun ε => ((dAndV (fun ε => ((getB 0) ε).bind (isiD "str")) (dAndV (dOp leD (fun ε => ((dCons (getB 0) (fun _ => some [])) ε).bind lenD) (fun _ => some (PyData.int 200))) (fun ε => ((dCons (fun ε => ((dLc (fun ε => ((getF 0) ε).bind seqD) (.nm 1) [1] (fun _ => some true) (dOp inD (getB 1) (fun _ => some (PyData.str (mkS [48, 49, 50, 51, 52, 53, 54, 55, 56, 57]))))) ε).map PyData.list) (fun _ => some [])) ε).bind allD))) ε).map Slot.f))
theorem st_is_figures (a0 : PyData) : startE N_is_figures [a0] = [some (.f a0), none] := rfl
theorem figB_iff {x : List Nat} : figB x = true ↔ x.length ≤ 200 ∧ ∀ c ∈ x, 48 ≤ c ∧ c ≤ 57 := by simp [figB]
theorem pure_is_figures : ∀ ds d, m_is_figures ds = some d → ds.length = ["value"].length ∧ T_is_figures { nx := fun _ => d = .none, rt := fun s => s.val = some d } (startE N_is_figures ds) := by
  intro ds d h
  unfold m_is_figures at h
  split at h
  · rename_i v
    split at h
    · rename_i ho
      cases h
      refine ⟨rfl, ?_⟩
      rw [st_is_figures]
      cases v with
      | str s =>
        have hl : s.length ≤ 16777216 := by simpa [shortD] using ho
        clear ho
        rw [mkS_eta s] at hl ⊢
        generalize s.cps.toList = x at hl ⊢
        rw [mkS_length] at hl
        simp -dsimp -implicitDefEqProofs (disch := first | omega | simp) [T_is_figures, isi_str, isStr, figD, figB, -isiD]
        by_cases h24 : x.length ≤ 200
        · have h24' : (x.length : Int) ≤ 200 := by omega
          simp -dsimp -implicitDefEqProofs (disch := first | omega | simp) [h24, h24']
          rw [dLc_all x (fun c => S [c]) (fun c => .bool (decide (48 ≤ c ∧ c ≤ 57)))]
          · simp -dsimp -implicitDefEqProofs (disch := first | omega | simp) [allD_is, figD, figB, h24, -allD]
          · simp -dsimp -implicitDefEqProofs
          · intro c _
            simp -dsimp -implicitDefEqProofs (disch := first | omega | simp) [S]
            rw [Bool.eq_iff_iff]
            simp
            omega
          · omega
        · have h24' : ¬ (x.length : Int) ≤ 200 := by omega
          simp -dsimp -implicitDefEqProofs (disch := first | omega | simp) [h24, h24', figD, figB]
      | _ => simp -dsimp -implicitDefEqProofs (disch := first | omega | simp) [T_is_figures, isi_str, isStr, figD, -isiD]
    · cases h
  · cases h
theorem m_is_figures_d {d : PyData} (h : shortD 16777216 d = true) : m_is_figures [d] = some (.bool (figD d)) := by simp [m_is_figures, h]
def m_need_figures : GX
  | [d] => if shortD 16777216 d = true then some (if figD d = true then .ok .none else .error "InvalidDigits") else none
  | _ => none
def N_need_figures : List Str := ["figures"]
def T_need_figures : TD := (dIf (fun ε => ((fun ε => ((fun ε => ((dCons (getF 0) (fun _ => some [])) ε).bind m_is_figures) ε).bind truD) ε).map not) (xRaise "InvalidDigits") dNext)
theorem st_need_figures (a0 : PyData) : startE N_need_figures [a0] = [some (.f a0)] := rfl
theorem pure_need_figures : ∀ ds r, m_need_figures ds = some r → ds.length = ["figures"].length ∧ T_need_figures { nx := fun _ => r = .ok .none, rt := fun s => ∃ d, s.val = some d ∧ r = .ok d, er := fun n => r = .error n } (startE N_need_figures ds) := by
  intro ds r h
  unfold m_need_figures at h
  split at h
  · rename_i d
    split at h
    · rename_i hok
      refine ⟨rfl, ?_⟩
      rw [st_need_figures]
      have h1 : m_is_figures [d] = some (.bool (figD d)) := by simp [m_is_figures, hok]
      split at h
      · rename_i hm
        cases h
        rw [hm] at h1
        simp -dsimp -implicitDefEqProofs (disch := first | omega | simp) [T_need_figures, h1]
      · rename_i hm
        cases h
        rw [Bool.eq_false_iff.mpr hm] at h1
        simp -dsimp -implicitDefEqProofs (disch := first | omega | simp) [T_need_figures, h1]
    · cases h
  · cases h
theorem m_need_figures_d {d : PyData} (h : shortD 16777216 d = true) : m_need_figures [d] = some (if figD d = true then .ok .none else .error "InvalidDigits") := by simp [m_need_figures, h]
/-- the words of a manner | the figures of a text -/
def wsD (d : PyData) : List (List Nat) := (deW d).getD []
def fgD : PyData → List Nat
  | .str s => s.cps.toList
  | _ => []
theorem manD_eq {d : PyData} (h : manD d = true) : ∃ ws : List (List Nat), d = .tuple (ws.map S) ∧ okMn ws = true ∧ wsD d = ws := by
  unfold manD at h
  split at h
  · rename_i ws hw
    exact ⟨ws, deW_eq hw, h, by rw [wsD, hw]; rfl⟩
  · cases h
theorem figD_eq {d : PyData} (h : figD d = true) : ∃ x : List Nat, d = .str (mkS x) ∧ figB x = true ∧ fgD d = x := by
  cases d <;> first | (simp [figD] at h; done) | skip
  rename_i s
  exact ⟨s.cps.toList, by rw [← mkS_eta], h, rfl⟩
theorem manD_S {ws : List (List Nat)} (h : okMn ws = true) : manD (.tuple (ws.map S)) = true := by simp [manD, h]
theorem okD_W (n : Nat) (ws : List (List Nat)) : okD (n + 1) (.tuple (ws.map S)) = true := by simp [S]
def m_pieces_of : List PyData → Option PyData
  | [d] => (deW d).bind fun ws => if okM ws = true then some (.list ((pcsL ws).map S)) else none
  | _ => none
def N_pieces_of : List Str := ["words", "found", "word", "other"]
def T_pieces_of : TD := (dSeq (dFrzB 1 (dAsg 1 fun ε => ((dLc (fun ε => ((getF 0) ε).bind seqD) (.nm 2) [2] (fun _ => some true) (fun ε => ((dCons (getF 2) (fun _ => some [])) ε).bind m_digits_of)) ε).map Slot.o))
    (dSeq (dFor (fun ε => ((getF 0) ε).bind seqD) (.nm 2) (dAsg 1 (fun ε => ((dOp addA (getB 1) (fun ε => ((dLc (fun ε => ((getF 0) ε).bind seqD) (.nm 3) [3] (fun ε => ((fun ε => ((dCons (getF 2) (dCons (getF 3) (fun _ => some []))) ε).bind m_is_joint) ε).bind truD) (dOp addA (dOp ixD (getB 2) (fun _ => some (PyData.int 0))) (getB 3))) ε).map PyData.list)) ε).map Slot.f)))
    (dRet (fun ε => ((getF 1) ε).map Slot.f))))
theorem st_pieces_of (a0 : PyData) : startE N_pieces_of [a0] = [some (.f a0), none, none, none] := rfl
theorem pure_pieces_of : ∀ ds d, m_pieces_of ds = some d → ds.length = ["words"].length ∧ T_pieces_of { nx := fun _ => d = .none, rt := fun s => s.val = some d } (startE N_pieces_of ds) := by
  intro ds d h
  unfold m_pieces_of at h
  split at h
  · obtain ⟨ws, e1, e2⟩ := Option.bind_eq_some_iff.mp h
    rw [deW_eq e1]
    split at e2
    · rename_i hok
      cases e2
      refine ⟨rfl, ?_⟩
      obtain ⟨hl, hm⟩ := okM_iff.mp hok
      have hw : ∀ w ∈ ws, w ≠ [] ∧ w.length ≤ 8 := fun w h => lawWords_ok w (hm w h)
      have hsq : ws.length * ws.length ≤ 144 := Nat.le_trans (Nat.mul_le_mul hl hl) (by decide)
      rw [st_pieces_of]
      simp -dsimp -implicitDefEqProofs (disch := first | omega | simp) [T_pieces_of]
      rw [dLc_all ws S (fun w => S (digitsOf w))]
      · rw [show (ws.map fun w => S (digitsOf w)) = (ws.map digitsOf).map S by rw [List.map_map]; rfl]
        simp -dsimp -implicitDefEqProofs (disch := first | omega | simp) [-List.map_map]
        refine forB_ix S ws (fun i ε => ∃ a c : Option Slot, ε = [some (.f (.tuple (ws.map S))), some (.f (.list ((ws.map digitsOf ++ (ws.take i).flatMap (pcs1 ws)).map S))), a, c]) ?_ ?_ ?_
        · exact ⟨_, _, by rw [List.take_zero, List.flatMap_nil, List.append_nil]⟩
        · rintro i a ε nx hi ⟨a2, c, rfl⟩ kk
          have ham := List.mem_of_getElem? hi
          obtain ⟨ha1, ha2⟩ := hw a ham
          obtain ⟨a0, ar, rfl⟩ : ∃ a0 ar, a = a0 :: ar := by cases a with | nil => exact absurd rfl ha1 | cons x y => exact ⟨x, y, rfl⟩
          simp only [List.length_cons] at ha2
          have hfl := pcsF_len ws (ws.take i)
          have hfl2 : (ws.take i).length * ws.length ≤ 144 := Nat.le_trans (Nat.mul_le_mul (by rw [List.length_take]; omega) (Nat.le_refl _)) hsq
          rw [take_flat hi] at kk
          have hGl : (ws.map digitsOf ++ (ws.take i).flatMap (pcs1 ws)).length ≤ 200 := by rw [List.length_append, List.length_map]; omega
          rw [← List.append_assoc] at kk
          generalize ws.map digitsOf ++ (ws.take i).flatMap (pcs1 ws) = G at kk hGl ⊢
          have hpl := pcs1_len ws (a0 :: ar)
          refine ⟨_, rfl, ?_⟩
          simp -dsimp -implicitDefEqProofs (disch := first | omega | simp)
          rw [dLc_map ws S (isJoint (a0 :: ar)) (fun b => S ((a0 :: ar).take 1 ++ b))]
          · rw [show ((ws.filter (isJoint (a0 :: ar))).map fun b => S ((a0 :: ar).take 1 ++ b)) = (pcs1 ws (a0 :: ar)).map S by unfold pcs1; rw [List.map_map]; rfl]
            have kk : ∀ a c, nx [some (.f (.tuple (ws.map S))), some (.f (.list ((G ++ pcs1 ws (a0 :: ar)).map S))), a, c] := fun a c => kk _ ⟨_, _, rfl⟩
            simp only [List.map_append] at kk
            simp -dsimp -implicitDefEqProofs (disch := first | omega | simp)
            exact kk _ _
          · simp -dsimp -implicitDefEqProofs (disch := first | omega | simp)
          · intro b hb
            have := (hw b hb).2
            have hj := m_is_joint_S (a0 :: ar) b (by simp only [List.length_cons]; omega) (by omega)
            simp -dsimp -implicitDefEqProofs (disch := first | omega | simp) [S, hj]
          · intro b hb _
            have := (hw b hb).2
            simp -dsimp -implicitDefEqProofs (disch := first | omega | simp) [S]
          · have := List.length_filter_le (isJoint (a0 :: ar)) ws
            omega
        · rintro ε ⟨a, c, rfl⟩
          rw [List.take_length]
          simp -dsimp -implicitDefEqProofs (disch := first | omega | simp) [-List.map_append]
          rfl
      · simp -dsimp -implicitDefEqProofs (disch := first | omega | simp)
      · intro w hwm
        obtain ⟨w1, w2⟩ := hw w hwm
        have := m_digits_of_S w (by omega) w1
        simp -dsimp -implicitDefEqProofs (disch := first | omega | simp) [S, this]
      · omega
    · cases e2
  · cases h
theorem m_pieces_of_S (ws : List (List Nat)) (h : okM ws = true) : m_pieces_of [.tuple (ws.map S)] = some (.list ((pcsL ws).map S)) := by simp [m_pieces_of, h]
def m_ways_of : List PyData → Option PyData
  | [d, .str s] => (deW d).bind fun ws => if okM ws = true ∧ s.length ≤ 1000 then some (.int (waysW (pcsL ws) s.cps.toList : Nat)) else none
  | _ => none
def N_ways_of : List Str := ["words", "figures", "pieces", "found", "end", "piece"]
def T_ways_of : TD := (dSeq (dAsg 2 (fun ε => ((fun ε => ((dCons (getF 0) (fun _ => some [])) ε).bind m_pieces_of) ε).map Slot.f))
    (dSeq (dAsg 3 (fun ε => ((fun ε => limL ((fun _ => some []) ε)) ε).map Slot.o))
    (dSeq (dApp 3 (fun _ => some (PyData.int 1)))
    (dSeq (dFor (fun ε => ((dCons (fun _ => some (PyData.int 1)) (dCons (dOp addA (fun ε => ((dCons (getB 1) (fun _ => some [])) ε).bind lenD) (fun _ => some (PyData.int 1))) (fun _ => some []))) ε).bind rng2D) (.nm 4) (dApp 3 (fun ε => ((dCons (fun ε => ((dLc (fun ε => ((getF 2) ε).bind seqD) (.nm 5) [5] (fun ε => ((dOp endsD (dSl (getB 1) (fun _ => some none) (fun ε => intOf ((getB 4) ε))) (getB 5)) ε).bind truD) (dOp ixD (getB 3) (dOp subD (getB 4) (fun ε => ((dCons (getB 5) (fun _ => some [])) ε).bind lenD)))) ε).map PyData.list) (fun _ => some [])) ε).bind sumD)))
    (dRet (fun ε => ((dOp ixD (getB 3) (fun ε => ((dCons (getB 1) (fun _ => some [])) ε).bind lenD)) ε).map Slot.f))))))
theorem st_ways_of (a0 a1 : PyData) : startE N_ways_of [a0, a1] = [some (.f a0), some (.f a1), none, none, none, none] := rfl
theorem ends_hit {x p : List Nat} {e : Nat} (h : e ≤ x.length) : endsL (x.take e) p = hitW x p e := by
  unfold endsL hitW
  rw [List.length_take, Nat.min_eq_left h]
  by_cases hp : p.length ≤ e
  · rw [List.drop_take, show e - (e - p.length) = p.length by omega]
  · simp [hp]
theorem pure_ways_of : ∀ ds d, m_ways_of ds = some d → ds.length = ["words", "figures"].length ∧ T_ways_of { nx := fun _ => d = .none, rt := fun s => s.val = some d } (startE N_ways_of ds) := by
  intro ds d h
  unfold m_ways_of at h
  split at h
  · rename_i d0 s
    obtain ⟨ws, e1, e2⟩ := Option.bind_eq_some_iff.mp h
    rw [deW_eq e1]
    split at e2
    · rename_i hc
      obtain ⟨hok, hx⟩ := hc
      cases e2
      refine ⟨rfl, ?_⟩
      rw [st_ways_of]
      rw [mkS_eta s] at hx ⊢
      rw [mkS_toList]
      generalize s.cps.toList = x at hx ⊢
      rw [mkS_length] at hx
      obtain ⟨hl, hm⟩ := okM_iff.mp hok
      have h1 := m_pieces_of_S ws hok
      have hsm := pcsL_sm hm
      have hpl := pcsL_len hl
      generalize pcsL ws = P at h1 hsm hpl ⊢
      simp -dsimp -implicitDefEqProofs (disch := first | omega | simp) [T_ways_of, h1]
      refine ⟨by decide, ?_⟩
      refine forB_ix (fun (k : Nat) => .int ((1 : Int) + (k : Int))) (List.range x.length) (fun i ε => ∃ a b : Option Slot, ε = [some (.f (.tuple (ws.map S))), some (.f (S x)), some (.f (.list (P.map S))), some (.o ((rowsW P x i).map fun (k : Nat) => .int (k : Int))), a, b]) ?_ ?_ ?_
      · exact ⟨_, _, rfl⟩
      · rintro i k ε nx hi ⟨a, b, rfl⟩ kk
        have hk : k = i ∧ i < x.length := by
          have hl := (List.getElem?_eq_some_iff.mp hi).1
          rw [List.length_range] at hl
          rw [List.getElem?_range hl] at hi
          cases hi
          exact ⟨rfl, hl⟩
        obtain ⟨rfl, hk⟩ := hk
        have hrl := rowsW_len P x k
        have hst : rowsW P x (k + 1) = rowsW P x k ++ [nxtW P x (rowsW P x k) (k + 1)] := rfl
        generalize rowsW P x k = R at hrl hst ⊢
        rw [hst] at kk
        refine ⟨_, rfl, ?_⟩
        have hk1 : ((1 : Int) + (k : Int)).toNat = k + 1 := by omega
        simp -dsimp -implicitDefEqProofs (disch := first | omega | simp)
        rw [dLc_map P S (fun p => hitW x p (k + 1)) (fun p => .int ((R.getD (k + 1 - p.length) 0 : Nat) : Int))]
        · have hsum := sum_cast (fun p : List Nat => R.getD (k + 1 - p.length) 0) (P.filter fun p => hitW x p (k + 1))
          have hin := intsD_map (fun p : List Nat => ((R.getD (k + 1 - p.length) 0 : Nat) : Int)) (P.filter fun p => hitW x p (k + 1))
          have kk : ∀ a b, nx [some (.f (.tuple (ws.map S))), some (.f (S x)), some (.f (.list (P.map S))), some (.o ((R ++ [nxtW P x R (k + 1)]).map fun (k : Nat) => .int (k : Int))), a, b] := fun a b => kk _ ⟨_, _, rfl⟩
          simp only [List.map_append] at kk
          unfold nxtW at kk
          have hz : R.length < sizeLine := szl _ (by omega)
          simp -dsimp -implicitDefEqProofs (disch := first | omega | simp) [hin, hsum, hz, -List.getD_eq_getElem?_getD]
          exact kk _ _
        · simp -dsimp -implicitDefEqProofs (disch := first | omega | simp)
        · intro p hp
          obtain ⟨p1, p2, _⟩ := hsm p hp
          have he := endsD_S (x.take (k + 1)) p
          rw [ends_hit (by omega)] at he
          simp -dsimp -implicitDefEqProofs (disch := first | omega | simp) [S, hk1, he]
        · intro p hp hh
          obtain ⟨p1, p2, _⟩ := hsm p hp
          have hle : p.length ≤ k + 1 := by
            unfold hitW at hh
            simp only [Bool.and_eq_true, decide_eq_true_eq] at hh
            exact hh.1
          have i1 : (1 : Int) + (k : Int) - (p.length : Int) = ((k + 1 - p.length : Nat) : Int) := by omega
          have i2 : R[k + 1 - p.length]? = some (R.getD (k + 1 - p.length) 0) := by rw [List.getD_eq_getElem?_getD, List.getElem?_eq_getElem (by omega)]; rfl
          simp -dsimp -implicitDefEqProofs (disch := first | omega | simp) [S, i1, i2, -List.getD_eq_getElem?_getD]
          rw [List.getD_eq_getElem?_getD, List.getElem?_eq_getElem (by omega)]; rfl
        · have := List.length_filter_le (fun p => hitW x p (k + 1)) P
          omega
      · rintro ε ⟨a, b, rfl⟩
        rw [List.length_range]
        have hrl := rowsW_len P x x.length
        unfold waysW
        generalize rowsW P x x.length = R at hrl ⊢
        have hg : R[x.length]? = some (R.getD x.length 0) := by rw [List.getD_eq_getElem?_getD, List.getElem?_eq_getElem (by omega)]; rfl
        simp -dsimp -implicitDefEqProofs (disch := first | omega | simp) [S, hg]
    · cases e2
  · cases h
theorem m_ways_of_S (ws : List (List Nat)) (x : List Nat) (h : okM ws = true) (h' : x.length ≤ 1000) : m_ways_of [.tuple (ws.map S), .str (mkS x)] = some (.int (waysW (pcsL ws) x : Nat)) := by simp [m_ways_of, h, h']
def m_can_say : GX
  | [d, x] => if okD 50 d = true ∧ shortD 16777216 x = true then some (if manD d = true then (if figD x = true then .ok (.bool (decide (0 < waysW (pcsL (wsD d)) (fgD x)))) else .error "InvalidDigits") else .error "InvalidManner") else none
  | _ => none
def N_can_say : List Str := ["manner", "figures"]
def T_can_say : TD := (dSeq (xDrop (fun ε => ((dCons (getF 0) (fun _ => some [])) ε).bind m_need_manner))
    (dSeq (xDrop (fun ε => ((dCons (getF 1) (fun _ => some [])) ε).bind m_need_figures))
    (dRet (fun ε => ((dOp gtD (fun ε => ((dCons (getF 0) (dCons (getF 1) (fun _ => some []))) ε).bind m_ways_of) (fun _ => some (PyData.int 0))) ε).map Slot.f))))
theorem st_can_say (a0 a1 : PyData) : startE N_can_say [a0, a1] = [some (.f a0), some (.f a1)] := rfl
theorem pure_can_say : ∀ ds r, m_can_say ds = some r → ds.length = ["manner", "figures"].length ∧ T_can_say { nx := fun _ => r = .ok .none, rt := fun s => ∃ d, s.val = some d ∧ r = .ok d, er := fun n => r = .error n } (startE N_can_say ds) := by
  intro ds r h
  unfold m_can_say at h
  split at h
  · rename_i d x
    split at h
    · rename_i hok
      refine ⟨rfl, ?_⟩
      rw [st_can_say]
      have h1 := m_need_manner_d hok.1
      have h2 := m_need_figures_d hok.2
      split at h
      · rename_i hm
        rw [if_pos hm] at h1
        obtain ⟨ws, hd, hw, e1⟩ := manD_eq hm
        split at h
        · rename_i hf
          rw [if_pos hf] at h2
          obtain ⟨xs, hx, hw2, e2⟩ := figD_eq hf
          cases h
          rw [e1, e2]
          have h3 := m_ways_of_S ws xs (okMn_iff.mp hw).1 (by have := (figB_iff.mp hw2).1; omega)
          rw [← hd, ← hx] at h3
          simp -dsimp -implicitDefEqProofs (disch := first | omega | simp) [T_can_say, h1, h2, h3]
        · rename_i hf
          rw [if_neg hf] at h2
          cases h
          simp -dsimp -implicitDefEqProofs (disch := first | omega | simp) [T_can_say, h1, h2]
      · rename_i hm
        rw [if_neg hm] at h1
        cases h
        simp -dsimp -implicitDefEqProofs (disch := first | omega | simp) [T_can_say, h1]
    · cases h
  · cases h
theorem m_can_say_d {d x : PyData} (h : okD 50 d = true) (h' : shortD 16777216 x = true) : m_can_say [d, x] = some (if manD d = true then (if figD x = true then .ok (.bool (decide (0 < waysW (pcsL (wsD d)) (fgD x)))) else .error "InvalidDigits") else .error "InvalidManner") := by simp [m_can_say, h, h']
theorem m_can_say_S (ws : List (List Nat)) (x : List Nat) (h : okMn ws = true) (h' : figB x = true) : m_can_say [.tuple (ws.map S), .str (mkS x)] = some (.ok (.bool (decide (0 < waysW (pcsL ws) x)))) := by
  rw [m_can_say_d (okD_W 49 ws) (by have := (figB_iff.mp h').1; simp [shortD]; omega), if_pos (manD_S h), if_pos (by simpa [figD] using h')]
  simp [wsD, fgD]
def lawCell (ns : List Int) (i : Nat) : Int := match ns[i]? with
  | some n => n
  | none => if ns.length = 0 then 7919 * (i : Int) + 101 else ns.getD (i % ns.length) 0 % 1000003 + 7919 * (i : Int)
def m__law_cell : List PyData → Option PyData
  | [.list ds, .int i] => (intsD ds).bind fun ns => if 0 ≤ i ∧ ns.length ≤ 1000 then some (.int (lawCell ns i.toNat)) else none
  | _ => none
def N__law_cell : List Str := ["script", "k"]
def T__law_cell : TD := (dSeq (dIf (fun ε => boolOf (dOp ltD (getB 1) (fun ε => ((dCons (getB 0) (fun _ => some [])) ε).bind lenD) ε)) (dRet (fun ε => ((dOp ixD (getB 0) (getB 1)) ε).map Slot.f)) dNext)
    (dSeq (dIf (fun ε => boolOf (dOp eqD (fun ε => ((dCons (getB 0) (fun _ => some [])) ε).bind lenD) (fun _ => some (PyData.int 0)) ε)) (dRet (fun ε => ((dOp addA (dOp mulD (fun _ => some (PyData.int 7919)) (getB 1)) (fun _ => some (PyData.int 101))) ε).map Slot.f)) dNext)
    (dRet (fun ε => ((dOp addA (dOp modD (dOp ixD (getB 0) (dOp modD (getB 1) (fun ε => ((dCons (getB 0) (fun _ => some [])) ε).bind lenD))) (fun _ => some (PyData.int 1000003))) (dOp mulD (fun _ => some (PyData.int 7919)) (getB 1))) ε).map Slot.f))))
theorem st__law_cell (a0 a1 : PyData) : startE N__law_cell [a0, a1] = [some (.f a0), some (.f a1)] := rfl
theorem pure__law_cell : ∀ ds d, m__law_cell ds = some d → ds.length = ["script", "index"].length ∧ T__law_cell { nx := fun _ => d = .none, rt := fun s => s.val = some d } (startE N__law_cell ds) := by
  intro ds d h
  unfold m__law_cell at h
  split at h
  · rename_i ds i
    obtain ⟨ns, e1, e2⟩ := Option.bind_eq_some_iff.mp h
    split at e2
    · rename_i hc
      cases e2
      obtain ⟨h0, h1⟩ := hc
      obtain ⟨i, rfl⟩ := Int.eq_ofNat_of_zero_le h0
      refine ⟨rfl, ?_⟩
      rw [st__law_cell, intsD_eq e1]
      by_cases hi : i < ns.length
      · simp -dsimp -implicitDefEqProofs (disch := first | omega | simp) [T__law_cell, hi, lawCell]
      · have hi' : ns.length ≤ i := by omega
        by_cases hz : ns = []
        · subst hz
          have hn0 : ¬ (i : Int) < 0 := by omega
          simp -dsimp -implicitDefEqProofs (disch := first | omega | simp) [T__law_cell, lawCell, CMul, hn0]
        · have hp : 0 < ns.length := List.length_pos_iff.mpr hz
          have hne : ¬ ns.length = 0 := by omega
          have hne' : ¬ (ns.length : Int) = 0 := by omega
          have hm := Nat.mod_lt i hp
          have e : (i : Int) % (ns.length : Int) = ((i % ns.length : Nat) : Int) := rfl
          simp -dsimp -implicitDefEqProofs (disch := first | omega | simp) [T__law_cell, hi, lawCell, CMul, hz, hp, hm]
          rw [e, atI_cast]
          simp -dsimp -implicitDefEqProofs (disch := first | omega | simp) [hm, CMul, lawCell, hi', hz]
    · cases e2
  · cases h
def prs : List Int := [2147483647, 2147483629, 2147483587, 2147483579, 2147483563, 2147483549, 2147483543, 2147483497]
def prN (n : Nat) : Int := prs.getD (n % 8) 1
def lawMix (cell : Int) (i k : Nat) : Int :=
  let c := (cell % prN k * (48271 + 2 * (k : Int) * (k : Int)) + 7919 * ((k : Int) + 1) * ((k : Int) + 1) + 104729 * (i : Int)) % prN (3 * k + i)
  c * c * c % prN (k + 5)
def lawDigs (cell : Int) (i : Nat) (base : Int) : Nat → Int × List Int
  | 0 => (if 1000000000000000000 ≤ cell then cell else 0, [])
  | n + 1 => ((lawDigs cell i base n).1 / base, (lawDigs cell i base n).2 ++ [(if 0 < (lawDigs cell i base n).1 then (lawDigs cell i base n).1 else lawMix cell i n) % base])
def lawDigits (ns : List Int) (i n : Nat) (base : Int) : List Int := (lawDigs (lawCell ns i) i base n).2
def m__law_draws : List PyData → Option (List PyData)
  | [.list ds, .int i, .int n, .int base] => (intsD ds).bind fun ns => if 0 ≤ i ∧ i ≤ 1000 ∧ ns.length ≤ 1000 ∧ 0 ≤ n ∧ n ≤ 1000 ∧ 0 < base ∧ base < 1073741824 then some ((lawDigits ns i.toNat n.toNat base).map .int) else none
  | _ => none
def N__law_draws : List Str := ["script", "k", "many", "base", "primes", "cell", "rest", "row", "j", "mash"]
def T__law_draws : TD := (dSeq (dAsg 4 (fun ε => ((fun ε => (limL ((dCons (fun _ => some (PyData.int 2147483647)) (dCons (fun _ => some (PyData.int 2147483629)) (dCons (fun _ => some (PyData.int 2147483587)) (dCons (fun _ => some (PyData.int 2147483579)) (dCons (fun _ => some (PyData.int 2147483563)) (dCons (fun _ => some (PyData.int 2147483549)) (dCons (fun _ => some (PyData.int 2147483543)) (dCons (fun _ => some (PyData.int 2147483497)) (fun _ => some []))))))))) ε)).map PyData.tuple) ε).map Slot.f))
    (dSeq (dAsg 5 (fun ε => ((fun ε => ((dCons (getF 0) (dCons (getF 1) (fun _ => some []))) ε).bind m__law_cell) ε).map Slot.f))
    (dSeq (dAsg 6 (fun ε => ((fun _ => some (PyData.int 0)) ε).map Slot.f))
    (dSeq (dIf (fun ε => boolOf (dOp geD (getB 5) (dOp powD (fun _ => some (PyData.int 10)) (fun _ => some (PyData.int 18))) ε)) (dAsg 6 (fun ε => ((getF 5) ε).map Slot.f)) dNext)
    (dSeq (dAsg 7 (fun ε => ((fun ε => limL ((fun _ => some []) ε)) ε).map Slot.o))
    (dSeq (dFor (fun ε => ((dCons (getF 2) (fun _ => some [])) ε).bind rng1D) (.nm 8) (dSeq (dAsg 9 (fun ε => ((dOp mulD (dOp modD (getB 5) (dOp ixD (getB 4) (dOp modD (getB 8) (fun _ => some (PyData.int 8))))) (dOp addA (fun _ => some (PyData.int 48271)) (dOp mulD (dOp mulD (fun _ => some (PyData.int 2)) (getB 8)) (getB 8)))) ε).map Slot.f))
    (dSeq (dAsg 9 (fun ε => ((dOp addA (dOp addA (getB 9) (dOp mulD (dOp mulD (fun _ => some (PyData.int 7919)) (dOp addA (getB 8) (fun _ => some (PyData.int 1)))) (dOp addA (getB 8) (fun _ => some (PyData.int 1))))) (dOp mulD (fun _ => some (PyData.int 104729)) (getB 1))) ε).map Slot.f))
    (dSeq (dAsg 9 (fun ε => ((dOp modD (getB 9) (dOp ixD (getB 4) (dOp modD (dOp addA (dOp mulD (fun _ => some (PyData.int 3)) (getB 8)) (getB 1)) (fun _ => some (PyData.int 8))))) ε).map Slot.f))
    (dSeq (dAsg 9 (fun ε => ((dOp modD (dOp mulD (dOp mulD (getB 9) (getB 9)) (getB 9)) (dOp ixD (getB 4) (dOp modD (dOp addA (getB 8) (fun _ => some (PyData.int 5))) (fun _ => some (PyData.int 8))))) ε).map Slot.f))
    (dSeq (dIf (fun ε => boolOf (dOp gtD (getB 6) (fun _ => some (PyData.int 0)) ε)) (dAsg 9 (fun ε => ((getF 6) ε).map Slot.f)) dNext)
    (dSeq (dApp 7 (dOp modD (getB 9) (getB 3)))
    (dAsg 6 (fun ε => ((dOp fdivD (getB 6) (getB 3)) ε).map Slot.f)))))))))
    (dRetV 7)))))))
theorem st__law_draws (a0 a1 a2 a3 : PyData) : startE N__law_draws [a0, a1, a2, a3] = [some (.f a0), some (.f a1), some (.f a2), some (.f a3), none, none, none, none, none, none] := rfl
theorem prs_pos : ∀ j, j < 8 → 0 < prs.getD j 1 ∧ prs.getD j 1 < 2147483648 := by decide +kernel
theorem prN_pos (n : Nat) : 0 < prN n := (prs_pos _ (Nat.mod_lt n (by decide))).1
theorem prN_lt (n : Nat) : prN n < 2147483648 := (prs_pos _ (Nat.mod_lt n (by decide))).2
theorem pr_at (n : Nat) : atI (prs.map PyData.int) ((n : Int) % 8) = some (.int (prN n)) := by
  have e : (n : Int) % 8 = ((n % 8 : Nat) : Int) := by omega
  have hl : n % 8 < prs.length := Nat.mod_lt n (by decide)
  rw [e, atI_cast, List.getElem?_map, List.getElem?_eq_getElem hl, prN, List.getD_eq_getElem?_getD, List.getElem?_eq_getElem hl]
  rfl
theorem pr_at3 (k i : Nat) : atI (prs.map PyData.int) ((3 * (k : Int) + (i : Int)) % 8) = some (.int (prN (3 * k + i))) := by
  have := pr_at (3 * k + i)
  rw [← this]; congr 2
theorem pr_at5 (k : Nat) : atI (prs.map PyData.int) (((k : Int) + 5) % 8) = some (.int (prN (k + 5))) := by
  have := pr_at (k + 5)
  rw [← this]; congr 2
theorem mod_pr (x : Int) (n : Nat) : 0 ≤ x % prN n ∧ x % prN n < 2147483648 := by
  have h1 := prN_pos n
  have h2 := prN_lt n
  have h3 := Int.emod_nonneg x (show prN n ≠ 0 by omega)
  have h4 := Int.emod_lt_of_pos x h1
  omega
theorem CMul_l {i : Int} (j : Int) (h1 : -18446744073709551616 < i) (h2 : i < 18446744073709551616) : CMul i j := .inl ⟨h1, h2⟩
theorem CMul_r (i : Int) {j : Int} (h1 : -18446744073709551616 < j) (h2 : j < 18446744073709551616) : CMul i j := .inr ⟨h1, h2⟩
theorem lawDigs_len (cell : Int) (i : Nat) (base : Int) : ∀ n, (lawDigs cell i base n).2.length = n
  | 0 => rfl
  | n + 1 => by simp [lawDigs, lawDigs_len cell i base n]
theorem lawDigs_mem (cell : Int) (i : Nat) {base : Int} (hb : 0 < base) : ∀ n, ∀ x ∈ (lawDigs cell i base n).2, 0 ≤ x ∧ x < base
  | 0 => by simp [lawDigs]
  | n + 1 => by
    intro x hx
    simp only [lawDigs, List.mem_append, List.mem_singleton] at hx
    rcases hx with h | rfl
    · exact lawDigs_mem cell i hb n x h
    · exact ⟨Int.emod_nonneg _ (by omega), Int.emod_lt_of_pos _ hb⟩
@[simp] theorem lawDigits_length (ns : List Int) (i n : Nat) (base : Int) : (lawDigits ns i n base).length = n := lawDigs_len ..
theorem lawDigits_mem {ns : List Int} {i n : Nat} {base : Int} (hb : 0 < base) : ∀ x ∈ lawDigits ns i n base, 0 ≤ x ∧ x < base := lawDigs_mem _ _ hb n
def digInv (ns : List Int) (i : Nat) (n base : Int) (cell : Int) (k : Nat) (ε : En) : Prop := ∃ a b : Option Slot, ε = [some (.f (.list (ns.map .int))), some (.f (.int i)), some (.f (.int n)), some (.f (.int base)), some (.f (.tuple (prs.map .int))), some (.f (.int cell)), some (.f (.int (lawDigs cell i base k).1)), some (.o ((lawDigs cell i base k).2.map .int)), a, b]
theorem pure__law_draws : ∀ ds d, m__law_draws ds = some d → ds.length = ["script", "k", "many", "base"].length ∧ T__law_draws { nx := fun _ => False, rt := fun s => s = .o d } (startE N__law_draws ds) := by
  intro ds d h
  unfold m__law_draws at h
  split at h
  · rename_i ds i n base
    obtain ⟨ns, e1, e2⟩ := Option.bind_eq_some_iff.mp h
    split at e2
    · rename_i hc
      cases e2
      obtain ⟨h0, hi, h1, hn0, hn, hb, hb2⟩ := hc
      obtain ⟨i, rfl⟩ := Int.eq_ofNat_of_zero_le h0
      obtain ⟨n, rfl⟩ := Int.eq_ofNat_of_zero_le hn0
      refine ⟨rfl, ?_⟩
      have hcell : m__law_cell [PyData.list (ns.map .int), .int i] = some (.int (lawCell ns i)) := by
        simp [m__law_cell, h1]
        have := intsD_map (fun x : Int => x) ns
        simp at this
        rw [this]; simp [h1]
      rw [st__law_draws, intsD_eq e1]
      generalize hcl : lawCell ns i = cell at hcell
      have hpow : CPow 10 18 := by decide
      have hb0 : lawDigs cell i base 0 = (if 1000000000000000000 ≤ cell then cell else 0, []) := rfl
      by_cases hg : 1000000000000000000 ≤ cell
      all_goals
        simp -dsimp -implicitDefEqProofs (disch := first | omega | simp) [T__law_draws, hcell, hpow, hg]
        refine forB_ix (fun (k : Nat) => .int (k : Int)) (List.range n) (digInv ns i n base cell) ?_ ?_ ?_
        · unfold digInv
          rw [hb0]
          first | rw [if_pos hg] | rw [if_neg hg]
          exact ⟨_, _, rfl⟩
        · rintro k x ε nx hx ⟨a, b, rfl⟩ kk
          have hxL := (List.getElem?_eq_some_iff.mp hx).1
          rw [List.length_range] at hxL
          have hxe : x = k := by rw [List.getElem?_eq_getElem (by rw [List.length_range]; exact hxL), List.getElem_range] at hx; cases hx; rfl
          subst hxe
          refine ⟨_, rfl, ?_⟩
          have b1 := mod_pr cell x
          have b2 := mod_pr (cell % prN x * (48271 + 2 * (x : Int) * (x : Int)) + 7919 * ((x : Int) + 1) * ((x : Int) + 1) + 104729 * (i : Int)) (3 * x + i)
          have hpp := prN_pos
          have hlen := lawDigs_len cell i base x
          have hdv : CDiv (lawDigs cell i base x).1 base := ⟨hb, hb2⟩
          have hpos : ∀ y : Int, (0 < (lawDigs cell i base x).1) → True := fun _ _ => trivial
          have hne : base ≠ 0 := by omega
          by_cases hr : 0 < (lawDigs cell i base x).1
          · simp -dsimp -implicitDefEqProofs (disch := first | omega | simp) [pr_at, pr_at3, pr_at5, hpp, CMul_l, CMul_r, hdv, hr, hb]
            refine ⟨szl _ (by omega), kk _ ?_⟩
            unfold digInv
            simp only [lawDigs, if_pos hr, List.map_append, List.map_cons, List.map_nil]
            exact ⟨_, _, rfl⟩
          · simp -dsimp -implicitDefEqProofs (disch := first | omega | simp) [pr_at, pr_at3, pr_at5, hpp, CMul_l, CMul_r, hdv, hr, hb]
            refine ⟨szl _ (by omega), kk _ ?_⟩
            unfold digInv
            simp only [lawDigs, if_neg hr, List.map_append, List.map_cons, List.map_nil]
            exact ⟨_, _, rfl⟩
        · rintro ε ⟨a, b, rfl⟩
          rw [List.length_range]
          first | simp -dsimp -implicitDefEqProofs [lawDigits, hcl] | (unfold lawDigits; rw [hcl]; simp -dsimp -implicitDefEqProofs)
    · cases e2
  · cases h
def m__law_bag : List PyData → Option (List PyData)
  | [.list ds, .int i] => (intsD ds).bind fun ns => if 0 ≤ i ∧ i ≤ 1000 ∧ ns.length ≤ 1000 then some ((lawDigits ns i.toNat 150 27720).map .int) else none
  | _ => none
def N__law_bag : List Str := ["script", "k"]
def T__law_bag : TD := (dRet (fun ε => ((fun ε => ((dCons (getF 0) (dCons (getF 1) (dCons (fun _ => some (PyData.int 150)) (dCons (fun _ => some (PyData.int 27720)) (fun _ => some []))))) ε).bind m__law_draws) ε).map Slot.o))
theorem st__law_bag (a0 a1 : PyData) : startE N__law_bag [a0, a1] = [some (.f a0), some (.f a1)] := rfl
theorem pure__law_bag : ∀ ds d, m__law_bag ds = some d → ds.length = ["script", "k"].length ∧ T__law_bag { nx := fun _ => False, rt := fun s => s = .o d } (startE N__law_bag ds) := by
  intro ds d h
  unfold m__law_bag at h
  split at h
  · rename_i ds i
    obtain ⟨ns, e1, e2⟩ := Option.bind_eq_some_iff.mp h
    split at e2
    · rename_i hc
      refine ⟨rfl, ?_⟩
      rw [st__law_bag]
      have this : m__law_draws [.list ds, .int i, .int 150, .int 27720] = some d := by
        rw [m__law_draws, e1, Option.bind_some, if_pos (by omega), show (150 : Int).toNat = 150 from rfl]
        exact e2
      clear e2
      simp -dsimp -implicitDefEqProofs (disch := first | omega | simp) [T__law_bag, this]
    · cases e2
  · cases h
theorem m__law_bag_S (ns : List Int) (i : Nat) (h : i ≤ 1000) (h' : ns.length ≤ 1000) : m__law_bag [.list (ns.map .int), .int (i : Int)] = some ((lawDigits ns i 150 27720).map .int) := by
  have := intsD_map (fun x : Int => x) ns
  rw [m__law_bag, show intsD (ns.map PyData.int) = some ns by simpa using this, Option.bind_some, if_pos (by omega), Int.toNat_natCast]
/-- what a bag of numbers gives next, and what is left -/
def tkN (b : List Int) (m : Nat) : Nat := (b.headD 0 % (m : Int)).toNat
def m__law_take : GB
  | b, [.int m] => (intsD b).bind fun ns => if 0 < m ∧ m < 1000000 then some (.int (tkN ns m.toNat : Nat), ns.tail.map .int) else none
  | _, _ => none
def N__law_take : List Str := ["bag", "many", "draw"]
def T__law_take : TB := (bSeq (dAsgZ 2 (zIf (fun ε => boolOf (dOp neD (getB 0) (fun ε => ((fun ε => limL ((fun _ => some []) ε)) ε).map PyData.list) ε)) (zPop 0) (zP (fun _ => some (PyData.int 0)))))
    (bRet (zP (dOp modD (fun ε => ((dCons (getB 2) (fun _ => some [])) ε).bind intD) (getB 1)))))
theorem st__law_take (p : Addr) (b : List PyData) (a0 : PyData) : startB N__law_take p b [a0] = [some (.oa p b), some (.f a0), none] := rfl
theorem tkN_lt (b : List Int) {m : Nat} (h : 0 < m) : tkN b m < m := by
  unfold tkN
  have h1 := Int.emod_nonneg (b.headD 0) (show (m : Int) ≠ 0 by omega)
  have h2 := Int.emod_lt_of_pos (b.headD 0) (show (0 : Int) < m by omega)
  omega
theorem pure__law_take : ∀ b ds r, m__law_take b ds = some r → ds.length + 1 = ["bag", "many"].length ∧ ∀ p, T__law_take (fun d s => d = r.1 ∧ s = some (some (.oa p r.2))) (startB N__law_take p b ds) := by
  intro b ds r h
  unfold m__law_take at h
  split at h
  · rename_i m
    obtain ⟨ns, e1, e2⟩ := Option.bind_eq_some_iff.mp h
    split at e2
    · rename_i hc
      cases e2
      refine ⟨rfl, fun p => ?_⟩
      rw [st__law_take, intsD_eq e1]
      have hm := Int.emod_nonneg (ns.headD 0) (show m ≠ 0 by omega)
      have hmt : ((m.toNat : Nat) : Int) = m := by omega
      cases ns with
      | nil =>
        simp -dsimp -implicitDefEqProofs (disch := first | omega | simp) [T__law_take, tkN, hc.1]
      | cons n ns =>
        simp only [List.headD_cons] at hm
        simp -dsimp -implicitDefEqProofs (disch := first | omega | simp) [T__law_take, tkN, hc.1, hmt]
        omega
    · cases e2
  · cases h
theorem m__law_take_S (ns : List Int) {m : Nat} (h : 0 < m) (h' : m < 1000000) : m__law_take (ns.map .int) [.int (m : Int)] = some (.int (tkN ns m : Nat), ns.tail.map .int) := by
  have := intsD_map (fun x : Int => x) ns
  rw [m__law_take, show intsD (ns.map PyData.int) = some ns by simpa using this, Option.bind_some, if_pos (by omega), Int.toNat_natCast]
theorem rangeIx {n i x : Nat} (h : (List.range n)[i]? = some x) : x = i ∧ i < n := by
  have hl := (List.getElem?_eq_some_iff.mp h).1
  rw [List.length_range] at hl
  rw [List.getElem?_eq_getElem (by rw [List.length_range]; exact hl), List.getElem_range] at h
  cases h
  exact ⟨rfl, hl⟩
def m__law_choice : GB
  | b, [.list ds] => (intsD b).bind fun ns => if 0 < ds.length ∧ ds.length < 1000000 then (ds[tkN ns ds.length]?).map fun d => (d, ns.tail.map .int) else none
  | _, _ => none
def N__law_choice : List Str := ["bag", "some"]
def T__law_choice : TB := (bRet (zOp ixD (getF 1) (zCall 0 m__law_take (dCons (fun ε => ((dCons (getB 1) (fun _ => some [])) ε).bind lenD) (fun _ => some [])))))
theorem st__law_choice (p : Addr) (b : List PyData) (a0 : PyData) : startB N__law_choice p b [a0] = [some (.oa p b), some (.f a0)] := rfl
theorem pure__law_choice : ∀ b ds r, m__law_choice b ds = some r → ds.length + 1 = ["bag", "some"].length ∧ ∀ p, T__law_choice (fun d s => d = r.1 ∧ s = some (some (.oa p r.2))) (startB N__law_choice p b ds) := by
  intro b ds r h
  unfold m__law_choice at h
  split at h
  · rename_i ds
    obtain ⟨ns, e1, e2⟩ := Option.bind_eq_some_iff.mp h
    split at e2
    · rename_i hc
      obtain ⟨d, e3, rfl⟩ := Option.map_eq_some_iff.mp e2
      refine ⟨rfl, fun p => ?_⟩
      rw [st__law_choice, intsD_eq e1]
      have ht := m__law_take_S ns hc.1 hc.2
      simp -dsimp -implicitDefEqProofs (disch := first | omega | simp) [T__law_choice, ht, e3]
    · cases e2
  · cases h
theorem m__law_choice_S (ns : List Int) (ls : List (List Nat)) (h : 0 < ls.length) (h' : ls.length < 1000000) : m__law_choice (ns.map .int) [.list (ls.map S)] = some (S (ls.getD (tkN ns ls.length) []), ns.tail.map .int) := by
  have := intsD_map (fun x : Int => x) ns
  rw [m__law_choice, show intsD (ns.map PyData.int) = some ns by simpa using this, Option.bind_some, List.length_map, if_pos ⟨h, h'⟩, List.getElem?_map, List.getD_eq_getElem?_getD, List.getElem?_eq_getElem (tkN_lt ns h)]
  rfl
def dblT : List Nat := [100, 111, 117, 98, 108, 101, 32]
def trpT : List Nat := [116, 114, 105, 112, 108, 101, 32]
def menu1 (c : Nat) : List (List Nat) := [[c], [c], dblT ++ [c], trpT ++ [c], [49, c]] ++ if c = 48 ∨ c = 49 then [] else [[c, 48], [c, 48]]
def menuL (x : List Nat) : List (List Nat) := x.flatMap menu1
def sgL : List (List Nat) := [[50], [50, 53], [50, 51, 53], [48, 49, 50, 51], [53, 48], [55]]
def m__law_menu : GB
  | b, [] => (intsD b).bind fun ns => some (.list ((menuL (sgL.getD (tkN ns 6) [])).map S), ns.tail.map .int)
  | _, _ => none
def N__law_menu : List Str := ["bag", "signs", "found", "sign"]
def T__law_menu : TB := (bSeq (dAsgZ 1 (zCall 0 m__law_choice (dCons (fun ε => ((fun ε => limL ((dCons (fun _ => some (PyData.str (mkS [50]))) (dCons (fun _ => some (PyData.str (mkS [50, 53]))) (dCons (fun _ => some (PyData.str (mkS [50, 51, 53]))) (dCons (fun _ => some (PyData.str (mkS [48, 49, 50, 51]))) (dCons (fun _ => some (PyData.str (mkS [53, 48]))) (dCons (fun _ => some (PyData.str (mkS [55]))) (fun _ => some []))))))) ε)) ε).map PyData.list) (fun _ => some []))))
    (bSeq (dAsg 2 (fun ε => ((fun ε => ((fun ε => limL ((fun _ => some []) ε)) ε).map PyData.list) ε).map Slot.f))
    (bSeq (dFor (fun ε => ((getF 1) ε).bind seqD) (.nm 3) (dSeq (dAsg 2 (fun ε => ((dOp addA (getB 2) (fun ε => ((fun ε => limL ((dCons (getF 3) (dCons (getF 3) (dCons (dOp addA (fun _ => some (PyData.str (mkS [100, 111, 117, 98, 108, 101, 32]))) (getB 3)) (dCons (dOp addA (fun _ => some (PyData.str (mkS [116, 114, 105, 112, 108, 101, 32]))) (getB 3)) (dCons (dOp addA (fun _ => some (PyData.str (mkS [49]))) (getB 3)) (fun _ => some [])))))) ε)) ε).map PyData.list)) ε).map Slot.f))
    (dIf (fun ε => boolOf (dOp notInD (getB 3) (fun _ => some (PyData.str (mkS [48, 49]))) ε)) (dAsg 2 (fun ε => ((dOp addA (getB 2) (fun ε => ((fun ε => limL ((dCons (dOp addA (getB 3) (fun _ => some (PyData.str (mkS [48])))) (dCons (dOp addA (getB 3) (fun _ => some (PyData.str (mkS [48])))) (fun _ => some []))) ε)) ε).map PyData.list)) ε).map Slot.f)) dNext)))
    (bRet (zP (getF 2))))))
theorem st__law_menu (p : Addr) (b : List PyData) : startB N__law_menu p b [] = [some (.oa p b), none, none, none] := rfl
theorem sgL_at (k : Nat) (h : k < 6) : (sgL.getD k []).length ≤ 4 ∧ (menuL (sgL.getD k [])).length ≤ 28 := by
  have key : ∀ k : Nat, k < 6 → (sgL.getD k []).length ≤ 4 ∧ (menuL (sgL.getD k [])).length ≤ 28 := by decide
  exact key k h
theorem menu1_len (c : Nat) : (menu1 c).length ≤ 7 := by
  unfold menu1
  split <;> simp
theorem menuL_len (x : List Nat) : (menuL x).length ≤ 7 * x.length := by
  unfold menuL
  induction x with
  | nil => simp
  | cons c x ih =>
    have := menu1_len c
    rw [List.flatMap_cons, List.length_append, List.length_cons]
    omega
theorem pure__law_menu : ∀ b ds r, m__law_menu b ds = some r → ds.length + 1 = ["bag"].length ∧ ∀ p, T__law_menu (fun d s => d = r.1 ∧ s = some (some (.oa p r.2))) (startB N__law_menu p b ds) := by
  intro b ds r h
  unfold m__law_menu at h
  split at h
  · obtain ⟨ns, e1, e2⟩ := Option.bind_eq_some_iff.mp h
    cases e2
    refine ⟨rfl, fun p => ?_⟩
    rw [st__law_menu, intsD_eq e1]
    have hc := m__law_choice_S ns sgL (by decide) (by decide)
    have hl := (sgL_at _ (tkN_lt ns (m := 6) (by decide))).1
    have e6 : sgL.length = 6 := rfl
    rw [e6] at hc
    generalize sgL.getD (tkN ns 6) [] = x at hc hl
    simp only [sgL, List.map_cons, List.map_nil, S] at hc
    generalize ns.tail.map PyData.int = B at hc ⊢
    simp -dsimp -implicitDefEqProofs (disch := first | omega | simp) [T__law_menu, hc]
    refine forB_ix (fun c => S [c]) x (fun i ε => ∃ a : Option Slot, ε = [some (.oa p B), some (.f (S x)), some (.f (.list ((menuL (x.take i)).map S))), a]) ?_ ?_ ?_
    · exact ⟨_, rfl⟩
    · rintro i c ε nx hi ⟨a, rfl⟩ kk
      have hiL := (List.getElem?_eq_some_iff.mp hi).1
      have hm := menuL_len (x.take i)
      rw [List.length_take] at hm
      have hs : menuL (x.take (i + 1)) = menuL (x.take i) ++ menu1 c := by
        unfold menuL
        rw [List.take_add_one, hi, Option.toList_some, List.flatMap_append, List.flatMap_singleton]
      generalize menuL (x.take i) = L at hm hs
      refine ⟨_, rfl, ?_⟩
      have hk : ∀ a, nx [some (.oa p B), some (.f (S x)), some (.f (.list ((L ++ menu1 c).map S))), a] := by
        intro a
        refine kk _ ?_
        rw [hs]
        exact ⟨_, rfl⟩
      by_cases hcc : c = 48 ∨ c = 49
      · have hP := eq_true hcc
        have hk := hk (some (.f (S [c])))
        rw [show menu1 c = [[c], [c], dblT ++ [c], trpT ++ [c], [49, c]] by unfold menu1; rw [if_pos hcc]; simp, List.map_append] at hk
        simp -dsimp -implicitDefEqProofs (disch := first | omega | simp) [S]
        rw [if_neg (by omega)]
        exact hk
      · have hP := eq_false hcc
        have hk := hk (some (.f (S [c])))
        rw [show menu1 c = [[c], [c], dblT ++ [c], trpT ++ [c], [49, c]] ++ [[c, 48], [c, 48]] by unfold menu1; rw [if_neg hcc], ← List.append_assoc, List.map_append, List.map_append] at hk
        simp -dsimp -implicitDefEqProofs (disch := first | omega | simp) [S]
        rw [if_pos (by omega)]
        simp [S, dblT, trpT] at hk
        exact hk
    · rintro ε ⟨a, rfl⟩
      rw [List.take_length]
      simp -dsimp -implicitDefEqProofs
  · cases h
theorem m__law_menu_S (ns : List Int) : m__law_menu (ns.map .int) [] = some (.list ((menuL (sgL.getD (tkN ns 6) [])).map S), ns.tail.map .int) := by
  have := intsD_map (fun x : Int => x) ns
  rw [m__law_menu, show intsD (ns.map PyData.int) = some ns by simpa using this, Option.bind_some]
/-- words drawn from a menu, each once -/
def manL (menu : List (List Nat)) (b : List Int) : Nat → List (List Nat) × List Int
  | 0 => ([], b)
  | n + 1 => let w := menu.getD (tkN (manL menu b n).2 menu.length) []
    (if w ∈ (manL menu b n).1 then (manL menu b n).1 else (manL menu b n).1 ++ [w], (manL menu b n).2.tail)
def manO (ns : List Int) (m : Nat) : List (List Nat) × List Int := manL (menuL (sgL.getD (tkN ns 6) [])) ns.tail.tail (1 + tkN ns.tail m)
def m__law_manner : GB
  | b, [.int m] => (intsD b).bind fun ns => if 0 < m ∧ m ≤ 12 then some (.tuple ((sortT (manO ns m.toNat).1).map S), (manO ns m.toNat).2.map .int) else none
  | _, _ => none
def N__law_manner : List Str := ["bag", "most", "menu", "found", "turn_so", "word"]
def T__law_manner : TB := (bSeq (dParZ [2, 3] (azC (zCall 0 m__law_menu (fun _ => some [])) (azP (fun ε => ((fun ε => ((fun ε => ((fun ε => limL ((fun _ => some []) ε)) ε).map PyData.list) ε).map Slot.f) ε).bind fun d => ((fun _ => some []) ε).map (d :: ·)))))
    (bSeq (dForZ (zRng (zOp addA (fun _ => some (PyData.int 1)) (zCall 0 m__law_take (dCons (getF 1) (fun _ => some []))))) (.nm 4) (dSeq (dAsgZ 5 (zCall 0 m__law_choice (dCons (getF 2) (fun _ => some []))))
    (dAsg 3 (fun ε => ((dOp addA (getB 3) (dIfE (fun ε => boolOf (dOp notInD (getB 5) (getB 3) ε)) (fun ε => ((fun ε => limL ((dCons (getF 5) (fun _ => some [])) ε)) ε).map PyData.list) (fun ε => ((fun ε => limL ((fun _ => some []) ε)) ε).map PyData.list))) ε).map Slot.f))))
    (bRet (zP (fun ε => ((dCons (fun ε => ((fun ε => ((dCons (getB 3) (fun _ => some [])) ε).bind sortedSL) ε).map PyData.list) (fun _ => some [])) ε).bind tupleSD)))))
theorem st__law_manner (p : Addr) (b : List PyData) (a0 : PyData) : startB N__law_manner p b [a0] = [some (.oa p b), some (.f a0), none, none, none, none] := rfl
theorem manL_len (menu : List (List Nat)) (b : List Int) : ∀ n, (manL menu b n).1.length ≤ n
  | 0 => by simp [manL]
  | n + 1 => by
    have := manL_len menu b n
    simp only [manL]
    split
    · omega
    · rw [List.length_append, List.length_singleton]; omega
theorem manL_nodup (menu : List (List Nat)) (b : List Int) : ∀ n, (manL menu b n).1.Nodup
  | 0 => by simp [manL]
  | n + 1 => by
    have := manL_nodup menu b n
    simp only [manL]
    split
    · exact this
    · rename_i hn
      refine List.nodup_append.mpr ⟨this, by simp, fun a ha c hc e => hn ?_⟩
      rw [List.mem_singleton.mp hc] at e
      rw [← e]; exact ha
theorem manL_mem {menu : List (List Nat)} (hm : 0 < menu.length) (b : List Int) : ∀ n, ∀ w ∈ (manL menu b n).1, w ∈ menu
  | 0 => by simp [manL]
  | n + 1 => by
    have ih := manL_mem hm b n
    have hw : menu.getD (tkN (manL menu b n).2 menu.length) [] ∈ menu := by
      rw [List.getD_eq_getElem?_getD, List.getElem?_eq_getElem (tkN_lt _ hm)]
      exact List.getElem_mem _
    simp only [manL]
    split
    · exact ih
    · intro w h
      rcases List.mem_append.mp h with h | h
      · exact ih w h
      · rw [List.mem_singleton.mp h]; exact hw
theorem manL_ne (menu : List (List Nat)) (b : List Int) (n : Nat) : (manL menu b (n + 1)).1 ≠ [] := by
  simp only [manL]
  split
  · rename_i h
    intro e
    rw [e] at h
    cases h
  · simp
theorem sgL_menu (k : Nat) (h : k < 6) : 0 < (menuL (sgL.getD k [])).length ∧ ∀ w ∈ menuL (sgL.getD k []), w ∈ lawWords ∧ w.length ≤ 8 := by
  have key : ∀ k : Nat, k < 6 → 0 < (menuL (sgL.getD k [])).length ∧ ∀ w ∈ menuL (sgL.getD k []), w ∈ lawWords ∧ w.length ≤ 8 := by decide +kernel
  exact key k h
theorem pure__law_manner : ∀ b ds r, m__law_manner b ds = some r → ds.length + 1 = ["bag", "most"].length ∧ ∀ p, T__law_manner (fun d s => d = r.1 ∧ s = some (some (.oa p r.2))) (startB N__law_manner p b ds) := by
  intro b ds r h
  unfold m__law_manner at h
  split at h
  · rename_i m
    obtain ⟨ns, e1, e2⟩ := Option.bind_eq_some_iff.mp h
    split at e2
    · rename_i hc
      cases e2
      refine ⟨rfl, fun p => ?_⟩
      obtain ⟨m, rfl⟩ := Int.eq_ofNat_of_zero_le (show 0 ≤ m by omega)
      rw [st__law_manner, intsD_eq e1, Int.toNat_natCast]
      have h1 := m__law_menu_S ns
      have h2 := m__law_take_S ns.tail (m := m) (by omega) (by omega)
      have ht := tkN_lt ns.tail (m := m) (by omega)
      obtain ⟨s1, s2⟩ := sgL_menu _ (tkN_lt ns (m := 6) (by decide))
      have s3 := (sgL_at _ (tkN_lt ns (m := 6) (by decide))).2
      unfold manO
      generalize menuL (sgL.getD (tkN ns 6) []) = M at h1 s1 s2 s3 ⊢
      generalize tkN ns.tail m = n0 at h2 ht ⊢
      have hcc := fun b' : List Int => m__law_choice_S b' M s1 (by omega)
      generalize hb0 : ns.tail.tail = b0 at h2 ⊢
      generalize ns.tail.map PyData.int = B1 at h1 h2
      simp -dsimp -implicitDefEqProofs (disch := first | omega | simp) [T__law_manner, h1, h2, setE]
      rw [show ((1 : Int) + (n0 : Int)).toNat = 1 + n0 by omega]
      refine forB_ix (fun (k : Nat) => .int (k : Int)) (List.range (1 + n0)) (fun i ε => ∃ a w : Option Slot, ε = [some (.oa p ((manL M b0 i).2.map .int)), some (.f (.int (m : Int))), some (.f (.list (M.map S))), some (.f (.list ((manL M b0 i).1.map S))), a, w]) ?_ ?_ ?_
      · exact ⟨_, _, rfl⟩
      · rintro i k ε nx hi ⟨a, w, rfl⟩ kk
        obtain ⟨rfl, hk⟩ := rangeIx hi
        have hl := manL_len M b0 k
        have hst : manL M b0 (k + 1) = ((if M.getD (tkN (manL M b0 k).2 M.length) [] ∈ (manL M b0 k).1 then (manL M b0 k).1 else (manL M b0 k).1 ++ [M.getD (tkN (manL M b0 k).2 M.length) []]), (manL M b0 k).2.tail) := rfl
        have hc2 := hcc (manL M b0 k).2
        generalize M.getD (tkN (manL M b0 k).2 M.length) [] = wd at hst hc2
        generalize (manL M b0 k).2 = bk at hst hc2 ⊢
        generalize (manL M b0 k).1 = L at hst hl ⊢
        have hk2 : ∀ a w, nx [some (.oa p (bk.tail.map .int)), some (.f (.int (m : Int))), some (.f (.list (M.map S))), some (.f (.list ((if wd ∈ L then L else L ++ [wd]).map S))), a, w] := by
          intro a w
          refine kk _ ?_
          rw [hst]
          exact ⟨_, _, rfl⟩
        generalize bk.tail.map PyData.int = Bt at hc2 hk2
        have hin := inB_S wd L
        refine ⟨_, rfl, ?_⟩
        by_cases hw : wd ∈ L
        · rw [decide_eq_true hw] at hin
          simp only [if_pos hw] at hk2
          simp -dsimp -implicitDefEqProofs (disch := first | omega | simp) [hc2, hin]
          exact hk2 _ _
        · rw [decide_eq_false hw] at hin
          simp only [if_neg hw, List.map_append] at hk2
          simp -dsimp -implicitDefEqProofs (disch := first | omega | simp) [hc2, hin]
          exact hk2 _ _
      · rintro ε ⟨a, w, rfl⟩
        rw [List.length_range]
        simp -dsimp -implicitDefEqProofs (disch := first | omega | simp) [srtOk_S, sortD_S]
    · cases e2
  · cases h
theorem m__law_manner_S (ns : List Int) {m : Nat} (h : 0 < m) (h' : m ≤ 12) : m__law_manner (ns.map .int) [.int (m : Int)] = some (.tuple ((sortT (manO ns m).1).map S), (manO ns m).2.map .int) := by
  have := intsD_map (fun x : Int => x) ns
  rw [m__law_manner, show intsD (ns.map PyData.int) = some ns by simpa using this, Option.bind_some, if_pos (by omega), Int.toNat_natCast]
theorem manO_ok (ns : List Int) {m : Nat} (h : 0 < m) : (manO ns m).1 ≠ [] ∧ (manO ns m).1.length ≤ m ∧ (manO ns m).1.Nodup ∧ ∀ w ∈ (manO ns m).1, w ∈ lawWords ∧ w.length ≤ 8 := by
  obtain ⟨s1, s2⟩ := sgL_menu _ (tkN_lt ns (m := 6) (by decide))
  have ht := tkN_lt ns.tail h
  unfold manO
  refine ⟨?_, Nat.le_trans (manL_len _ _ _) (by omega), manL_nodup _ _ _, fun w hw => s2 w (manL_mem s1 _ _ w hw)⟩
  rw [Nat.add_comm]
  exact manL_ne _ _ _

def N__law_named_error : List Str := ["e", "some", "words", "word", "good"]
def T__law_named_error (n : Str) (a : Addr) : TD := (dSeq (dAsg 1 (fun ε => ((fun ε => ((fun ε => limL ((dCons (isEF 0 a (isEB n "InvalidWord")) (dCons (isEF 0 a (isEB n "InvalidDigits")) (dCons (isEF 0 a (isEB n "InvalidManner")) (fun _ => some [])))) ε)) ε).map PyData.list) ε).map Slot.f))
    (dSeq (dAsg 1 (fun ε => ((dOp addA (getB 1) (fun ε => ((fun ε => limL ((dCons (isEF 0 a (isEB n "InvalidLength")) (dCons (isEF 0 a (isEB n "TooMany")) (dCons (isEF 0 a (isEB n "NothingToUndo")) (fun _ => some [])))) ε)) ε).map PyData.list)) ε).map Slot.f))
    (dSeq (dAsg 1 (fun ε => ((dOp addA (getB 1) (fun ε => ((fun ε => limL ((dCons (isEF 0 a (isEB n "ValueError")) (fun _ => some [])) ε)) ε).map PyData.list)) ε).map Slot.f))
    (dSeq (dAsg 2 (fun ε => ((fun _ => some (PyData.str (mkS [119, 111, 114, 100, 32, 100, 105, 103, 105, 116, 115, 32, 109, 97, 110, 110, 101, 114, 32, 108, 101, 110, 103, 116, 104, 32, 109, 97, 110, 121, 32, 117, 110, 100, 111, 32, 118, 97, 108, 117, 101]))) ε).map Slot.f))
    (dRet (fun ε => ((dOp joinD (fun _ => some (PyData.str (mkS [32]))) (fun ε => ((dLc (fun ε => ((dCons (fun ε => ((dOpL splitL (getB 2) (fun _ => some (PyData.str (mkS [32])))) ε).map PyData.list) (dCons (getF 1) (fun _ => some []))) ε).bind zipLD) (.tp [3, 4]) [3, 4] (fun ε => ((getB 4) ε).bind truD) (getF 3)) ε).map PyData.list)) ε).map Slot.f))))))
theorem st__law_named_error (a : Addr) : startV N__law_named_error (.ref a) = [some (.v (.ref a)), none, none, none, none] := rfl
theorem named_split : splitL (.str (mkS [119, 111, 114, 100, 32, 100, 105, 103, 105, 116, 115, 32, 109, 97, 110, 110, 101, 114, 32, 108, 101, 110, 103, 116, 104, 32, 109, 97, 110, 121, 32, 117, 110, 100, 111, 32, 118, 97, 108, 117, 101])) (.str (mkS [32])) = some ([[119, 111, 114, 100], [100, 105, 103, 105, 116, 115], [109, 97, 110, 110, 101, 114], [108, 101, 110, 103, 116, 104], [109, 97, 110, 121], [117, 110, 100, 111], [118, 97, 108, 117, 101]].map S) := by
  have h : Txt.split (mkS [119, 111, 114, 100, 32, 100, 105, 103, 105, 116, 115, 32, 109, 97, 110, 110, 101, 114, 32, 108, 101, 110, 103, 116, 104, 32, 109, 97, 110, 121, 32, 117, 110, 100, 111, 32, 118, 97, 108, 117, 101]) (mkS [32]) = [[119, 111, 114, 100], [100, 105, 103, 105, 116, 115], [109, 97, 110, 110, 101, 114], [108, 101, 110, 103, 116, 104], [109, 97, 110, 121], [117, 110, 100, 111], [118, 97, 108, 117, 101]].map mkS := by decide +kernel
  rw [splitL, h, if_pos ⟨by decide +kernel, by decide +kernel, by decide +kernel⟩]
  rfl
theorem named_err (a : Addr) (n t : Str) (b1 b2 b3 b4 b5 b6 b7 : Bool) (h1 : isEB n "InvalidWord" = b1) (h2 : isEB n "InvalidDigits" = b2) (h3 : isEB n "InvalidManner" = b3) (h4 : isEB n "InvalidLength" = b4) (h5 : isEB n "TooMany" = b5) (h6 : isEB n "NothingToUndo" = b6) (h7 : isEB n "ValueError" = b7)
    (ht : mkS (joinL [32] ((([[119, 111, 114, 100], [100, 105, 103, 105, 116, 115], [109, 97, 110, 110, 101, 114], [108, 101, 110, 103, 116, 104], [109, 97, 110, 121], [117, 110, 100, 111], [118, 97, 108, 117, 101]].zip [b1, b2, b3, b4, b5, b6, b7]).filter (·.2)).map (·.1))) = t) : T__law_named_error n a { nx := fun _ => False, rt := fun s => s.val = some (.str t) } (startV N__law_named_error (.ref a)) := by
  rw [st__law_named_error]
  subst ht
  simp -dsimp -implicitDefEqProofs (disch := first | omega | simp) [T__law_named_error, isEF, h1, h2, h3, h4, h5, h6, h7, named_split]
  rw [dLc_pair ([[119, 111, 114, 100], [100, 105, 103, 105, 116, 115], [109, 97, 110, 110, 101, 114], [108, 101, 110, 103, 116, 104], [109, 97, 110, 121], [117, 110, 100, 111], [118, 97, 108, 117, 101]].zip [b1, b2, b3, b4, b5, b6, b7]) (fun p => S p.1) (fun p => .bool p.2) (fun p => p.2) (fun p => S p.1)]
  · have hl : ∀ l : List (List Nat × Bool), (l.filter (·.2)).map (fun p => S p.1) = ((l.filter (·.2)).map (·.1)).map S := fun l => by rw [List.map_map]; rfl
    rw [hl, Option.map_some, bnd_some]
    rw [joinD_S _ _ ?_]
    · simp -dsimp -implicitDefEqProofs
    · cases b1 <;> cases b2 <;> cases b3 <;> cases b4 <;> cases b5 <;> cases b6 <;> cases b7 <;> decide
  · simp -dsimp -implicitDefEqProofs (disch := first | omega | simp) [zipLD, zipL, named_split]
  · intro p hp
    simp -dsimp -implicitDefEqProofs (disch := first | omega | simp)
  · intro p hp _
    simp -dsimp -implicitDefEqProofs (disch := first | omega | simp)
  · have := List.length_filter_le (fun p : List Nat × Bool => p.2) ([[119, 111, 114, 100], [100, 105, 103, 105, 116, 115], [109, 97, 110, 110, 101, 114], [108, 101, 110, 103, 116, 104], [109, 97, 110, 121], [117, 110, 100, 111], [118, 97, 108, 117, 101]].zip [b1, b2, b3, b4, b5, b6, b7])
    simp at this ⊢
    omega
theorem pure__law_named_error (n t : Str) (h : txA n = some t) : ∀ a, T__law_named_error n a { nx := fun _ => False, rt := fun s => s.val = some (.str t) } (startV N__law_named_error (.ref a)) := by
  intro a
  rcases txA_cases h with ⟨rfl, rfl⟩ | ⟨rfl, rfl⟩ | ⟨rfl, rfl⟩ | ⟨rfl, rfl⟩ | ⟨rfl, rfl⟩ | ⟨rfl, rfl⟩
  · exact named_err a _ _ true false false false false false true (by decide +kernel) (by decide +kernel) (by decide +kernel) (by decide +kernel) (by decide +kernel) (by decide +kernel) (by decide +kernel) (by decide +kernel)
  · exact named_err a _ _ false true false false false false true (by decide +kernel) (by decide +kernel) (by decide +kernel) (by decide +kernel) (by decide +kernel) (by decide +kernel) (by decide +kernel) (by decide +kernel)
  · exact named_err a _ _ false false true false false false true (by decide +kernel) (by decide +kernel) (by decide +kernel) (by decide +kernel) (by decide +kernel) (by decide +kernel) (by decide +kernel) (by decide +kernel)
  · exact named_err a _ _ false false false true false false true (by decide +kernel) (by decide +kernel) (by decide +kernel) (by decide +kernel) (by decide +kernel) (by decide +kernel) (by decide +kernel) (by decide +kernel)
  · exact named_err a _ _ false false false false true false true (by decide +kernel) (by decide +kernel) (by decide +kernel) (by decide +kernel) (by decide +kernel) (by decide +kernel) (by decide +kernel) (by decide +kernel)
  · exact named_err a _ _ false false false false false true true (by decide +kernel) (by decide +kernel) (by decide +kernel) (by decide +kernel) (by decide +kernel) (by decide +kernel) (by decide +kernel) (by decide +kernel)

def N__law_error : List Str := ["call", "e"]

def m__law_truly : List PyData → Option PyData
  | [.bool a, .bool b] => some (.bool (a == b))
  | _ => none
def N__law_truly : List Str := ["found", "due"]
def T__law_truly : TD := (dRet (fun ε => ((dAndV (fun ε => ((getB 0) ε).bind (isiD "bool")) (dOp eqD (getB 0) (getB 1))) ε).map Slot.f))
theorem st__law_truly (a0 a1 : PyData) : startE N__law_truly [a0, a1] = [some (.f a0), some (.f a1)] := rfl
theorem kit_bb : kitB "bool" "bool" = some true := by decide +kernel
theorem pure__law_truly : ∀ ds d, m__law_truly ds = some d → ds.length = 2 ∧ T__law_truly { nx := fun _ => d = .none, rt := fun s => s.val = some d } (startE N__law_truly ds) := by
  intro ds d h
  rcases ds with _ | ⟨x, _ | ⟨y, _ | ⟨z, r⟩⟩⟩
  · cases h
  · cases x <;> cases h
  · refine ⟨rfl, ?_⟩
    rw [st__law_truly]
    unfold m__law_truly at h
    split at h
    · rename_i a b heq
      cases heq
      cases h
      simp -dsimp -implicitDefEqProofs (disch := first | omega | simp) [T__law_truly]
      cases a <;> cases b <;> simp [kit_bb, PyData.eqv]
    · cases h
  · unfold m__law_truly at h
    split at h
    · rename_i heq; cases heq
    · cases h
def aw1 (c : Nat) : List (List Nat) := [[c], [49, c], [100, 111, 117, 98, 108, 101, 32, c], [116, 114, 105, 112, 108, 101, 32, c]] ++ if c = 48 ∨ c = 49 then [] else [[c, 48]]
def awD : List Nat := [48, 49, 50, 51, 52, 53, 54, 55, 56, 57]
def lawAll : List (List Nat) := awD.flatMap aw1
def m__law_all_words : List PyData → Option PyData
  | [] => some (.list (lawAll.map S))
  | _ => none
def N__law_all_words : List Str := ["found", "sign"]
def T__law_all_words : TD := (dSeq (dAsg 0 (fun ε => ((fun ε => limL ((fun _ => some []) ε)) ε).map Slot.o))
    (dSeq (dFor (fun ε => ((fun _ => some (PyData.str (mkS [48, 49, 50, 51, 52, 53, 54, 55, 56, 57]))) ε).bind seqD) (.nm 1) (dSeq (dAsg 0 (fun ε => ((dOpL catL (getB 0) (fun ε => ((fun ε => limL ((dCons (getF 1) (dCons (dOp addA (fun _ => some (PyData.str (mkS [49]))) (getB 1)) (dCons (dOp addA (fun _ => some (PyData.str (mkS [100, 111, 117, 98, 108, 101, 32]))) (getB 1)) (dCons (dOp addA (fun _ => some (PyData.str (mkS [116, 114, 105, 112, 108, 101, 32]))) (getB 1)) (fun _ => some []))))) ε)) ε).map PyData.list)) ε).map Slot.o))
    (dIf (fun ε => boolOf (dOp notInD (getB 1) (fun _ => some (PyData.str (mkS [48, 49]))) ε)) (dApp 0 (dOp addA (getB 1) (fun _ => some (PyData.str (mkS [48]))))) dNext)))
    (dRetV 0)))
theorem st__law_all_words : startE N__law_all_words [] = [none, none] := rfl
theorem lawAll_perm : lawAll.Perm lawWords := by decide +kernel
theorem lawAll_mem (w : List Nat) : w ∈ lawAll ↔ w ∈ lawWords := lawAll_perm.mem_iff
theorem aw_len (x : List Nat) : (x.flatMap aw1).length ≤ 5 * x.length := by
  induction x with
  | nil => simp
  | cons c x ih =>
    have : (aw1 c).length ≤ 5 := by unfold aw1; split <;> simp
    rw [List.flatMap_cons, List.length_append, List.length_cons]
    omega
theorem pure__law_all_words : ∀ ds d, m__law_all_words ds = some d → ds.length = ([] : List Str).length ∧ T__law_all_words { nx := fun _ => d = .none, rt := fun s => s.val = some d } (startE N__law_all_words ds) := by
  intro ds d h
  unfold m__law_all_words at h
  split at h
  · cases h
    refine ⟨rfl, ?_⟩
    rw [st__law_all_words]
    simp -dsimp -implicitDefEqProofs (disch := first | omega | simp) [T__law_all_words]
    refine forB_ix (fun c => S [c]) awD (fun i ε => ∃ a : Option Slot, ε = [some (.o (((awD.take i).flatMap aw1).map S)), a]) ?_ ?_ ?_
    · exact ⟨_, rfl⟩
    · rintro i c ε nx hi ⟨a, rfl⟩ kk
      have hm := aw_len (awD.take i)
      rw [List.length_take] at hm
      have h10 : awD.length = 10 := rfl
      have hs : (awD.take (i + 1)).flatMap aw1 = (awD.take i).flatMap aw1 ++ aw1 c := by
        rw [List.take_add_one, hi, Option.toList_some, List.flatMap_append, List.flatMap_singleton]
      generalize (awD.take i).flatMap aw1 = L at hm hs ⊢
      have hk : ∀ a, nx [some (.o ((L ++ aw1 c).map S)), a] := by
        intro a
        refine kk _ ?_
        rw [hs]
        exact ⟨_, rfl⟩
      refine ⟨_, rfl, ?_⟩
      have hz : L.length + 4 < sizeLine := szl _ (by omega)
      by_cases hcc : c = 48 ∨ c = 49
      · have hk := hk (some (.f (S [c])))
        unfold aw1 at hk
        rw [if_pos hcc, List.append_nil, List.map_append] at hk
        simp -dsimp -implicitDefEqProofs (disch := first | omega | simp) [S, hz]
        rw [if_neg (by omega)]
        exact hk
      · have hk := hk (some (.f (S [c])))
        unfold aw1 at hk
        rw [if_neg hcc, ← List.append_assoc, List.map_append, List.map_append] at hk
        simp -dsimp -implicitDefEqProofs (disch := first | omega | simp) [S, hz]
        rw [if_pos (by omega)]
        simp [S] at hk
        first
          | exact hk
          | exact ⟨hz, hk⟩
          | (simp [hz]; exact hk)
    · rintro ε ⟨a, rfl⟩
      rw [List.take_length]
      simp -dsimp -implicitDefEqProofs [lawAll]
  · cases h
theorem m__law_all_words_S : m__law_all_words [] = some (.list (lawAll.map S)) := rfl
def m__law_good : List PyData → Option PyData
  | [d] => if okD 50 d = true then some (.bool (manD d)) else none
  | _ => none
def N__law_good : List Str := ["value", "word", "k"]
def T__law_good : TD := (dSeq (dIf (dOr (fun ε => ((fun ε => ((fun ε => ((getB 0) ε).bind (isiD "tuple")) ε).bind truD) ε).map not) (fun ε => ((fun ε => boolOf (dChain leD leD (fun _ => some (PyData.int 1)) (fun ε => ((dCons (getB 0) (fun _ => some [])) ε).bind lenD) (fun _ => some (PyData.int 12)) ε)) ε).map not)) (dRet (fun ε => ((fun _ => some (PyData.bool false)) ε).map Slot.f)) dNext)
    (dSeq (dIf (fun ε => boolOf (dOp neD (fun ε => ((dLc (fun ε => ((getF 0) ε).bind seqD) (.nm 1) [1] (dOr (fun ε => ((fun ε => ((fun ε => ((getB 1) ε).bind (isiD "str")) ε).bind truD) ε).map not) (fun ε => boolOf (dOp notInD (getB 1) (fun ε => (some []).bind m__law_all_words) ε))) (getF 1)) ε).map PyData.list) (fun ε => ((fun ε => limL ((fun _ => some []) ε)) ε).map PyData.list) ε)) (dRet (fun ε => ((fun _ => some (PyData.bool false)) ε).map Slot.f)) dNext)
    (dRet (fun ε => ((dOp eqD (fun ε => ((dLc (fun ε => ((dCons (dOp subD (fun ε => ((dCons (getB 0) (fun _ => some [])) ε).bind lenD) (fun _ => some (PyData.int 1))) (fun _ => some [])) ε).bind rng1D) (.nm 2) [2] (fun ε => ((fun ε => boolOf (dOp ltD (dOp ixD (getB 0) (getB 2)) (dOp ixD (getB 0) (dOp addA (getB 2) (fun _ => some (PyData.int 1)))) ε)) ε).map not) (getF 2)) ε).map PyData.list) (fun ε => ((fun ε => limL ((fun _ => some []) ε)) ε).map PyData.list)) ε).map Slot.f))))
theorem st__law_good (a0 : PyData) : startE N__law_good [a0] = [some (.f a0), none, none] := rfl
theorem asc_range : ∀ (ws : List (List Nat)), (((List.range (ws.length - 1)).filter fun k => !decide (ws.getD k [] < ws.getD (k + 1) [])) = []) ↔ ascB ws = true := by
  intro ws
  unfold ascB
  rw [List.filter_eq_nil_iff, List.all_eq_true]
  constructor
  · rintro h ⟨a, b⟩ hp
    obtain ⟨k, hk⟩ := List.mem_iff_getElem?.mp hp
    rw [List.getElem?_zip_eq_some] at hk
    obtain ⟨h1, h2⟩ := hk
    rw [List.getElem?_tail] at h2
    have hl := (List.getElem?_eq_some_iff.mp h2).1
    have := h k (List.mem_range.mpr (by omega))
    rw [List.getD_eq_getElem?_getD, List.getD_eq_getElem?_getD, h1, h2] at this
    simpa using this
  · intro h k hk
    have hk := List.mem_range.mp hk
    have h1 : ws[k]? = some ws[k] := List.getElem?_eq_getElem (by omega)
    have h2 : ws[k + 1]? = some ws[k + 1] := List.getElem?_eq_getElem (by omega)
    have := h (ws[k], ws[k + 1]) (List.mem_iff_getElem?.mpr ⟨k, by rw [List.getElem?_zip_eq_some, List.getElem?_tail]; exact ⟨h1, h2⟩⟩)
    rw [List.getD_eq_getElem?_getD, List.getD_eq_getElem?_getD, h1, h2]
    simpa using this
theorem pure__law_good : ∀ ds d, m__law_good ds = some d → ds.length = ["value"].length ∧ T__law_good { nx := fun _ => d = .none, rt := fun s => s.val = some d } (startE N__law_good ds) := by
  intro ds d h
  unfold m__law_good at h
  split at h
  · rename_i v
    split at h
    · rename_i ho
      cases h
      refine ⟨rfl, ?_⟩
      rw [st__law_good]
      cases v with
      | tuple xs =>
        rw [okD_tuple, List.all_eq_true] at ho
        have mt : manD (.tuple xs) = true → xs.length ≤ 12 ∧ 1 ≤ xs.length ∧ xs.all wordD = true := fun e => by
          unfold manD at e
          split at e
          · rename_i ws hw
            have := deW_eq hw
            cases this
            obtain ⟨h1, h2, h3⟩ := okMn_iff.mp e
            obtain ⟨h4, h5⟩ := okM_iff.mp h1
            have h6 := List.length_pos_iff.mpr h2
            refine ⟨by simpa using h4, by rw [List.length_map]; exact h6, ?_⟩
            rw [all_words_S]
            exact List.all_eq_true.mpr fun w hw => decide_eq_true (h5 w hw)
          · cases e
        by_cases hl : 1 ≤ xs.length ∧ xs.length ≤ 12
        · have k1 : (1 : Int) ≤ xs.length := by omega
          have k2 : (xs.length : Int) ≤ 12 := by omega
          have hfl := List.length_filter_le (fun x => !wordD x) xs
          simp -dsimp -implicitDefEqProofs (disch := first | omega | simp) [T__law_good, k1, k2, show kitB "tuple" "tuple" = some true from rfl]
          rw [dLc_map xs id (fun x => !wordD x) id, List.map_id]
          · have hok : (xs.filter fun x => !wordD x).all (okD 59) = true := by
              rw [List.all_eq_true]
              exact fun x hx => okD_mono 49 59 x (by decide) (ho x (List.mem_filter.mp hx).1)
            cases hw : xs.all wordD with
            | false =>
              have hf : manD (.tuple xs) = false := by
                cases e : manD (.tuple xs) with
                | false => rfl
                | true => rw [(mt e).2.2] at hw; cases hw
              have hne : (xs.filter fun x => !wordD x) ≠ [] := by
                intro e
                rw [List.filter_eq_nil_iff] at e
                have : xs.all wordD = true := List.all_eq_true.mpr fun x hx => by simpa using e x hx
                rw [hw] at this; cases this
              rw [hf]
              generalize (xs.filter fun x => !wordD x) = ys at hok hne
              have he : PyData.eqvAll ys [] = false := by cases ys with | nil => exact absurd rfl hne | cons p F => rfl
              rw [List.all_eq_true] at hok
              simp -dsimp -implicitDefEqProofs (disch := first | omega | simp) [he]
              rw [if_pos hok]
              simp -dsimp -implicitDefEqProofs (disch := first | omega | simp)
            | true =>
              obtain ⟨ws, hx, hm⟩ := words_all hw
              have hlx : xs.length = ws.length := by rw [hx, List.length_map]
              have hme : manD (.tuple xs) = ascB ws := by
                unfold manD
                rw [hx, deW_S]
                have h1 : okM ws = true := okM_iff.mpr ⟨by omega, hm⟩
                have h2 : ws ≠ [] := List.length_pos_iff.mp (by omega)
                simp [okMn, h1, h2]
              have hnil : (xs.filter fun x => !wordD x) = [] := by
                rw [List.filter_eq_nil_iff]
                intro x hx
                have := List.all_eq_true.mp hw x hx
                simp [this]
              rw [hme, hnil]
              clear hme hnil hok hfl
              subst hx
              have hi1 : ((ws.length : Int) - 1).toNat = ws.length - 1 := by omega
              have hfl := List.length_filter_le (fun k => !decide (ws.getD k [] < ws.getD (k + 1) [])) (List.range (ws.length - 1))
              rw [List.length_range] at hfl
              simp -dsimp -implicitDefEqProofs (disch := first | omega | simp) [hi1]

              rw [dLc_map (List.range (ws.length - 1)) (fun k => .int (k : Int)) (fun k => !decide (ws.getD k [] < ws.getD (k + 1) [])) (fun k => .int (k : Int))]
              · have hr := asc_range ws
                generalize ((List.range (ws.length - 1)).filter fun k => !decide (ws.getD k [] < ws.getD (k + 1) [])) = ys at hr
                simp -dsimp -implicitDefEqProofs (disch := first | omega | simp)
                cases ys with
                | nil => rw [hr.mp rfl]; rfl
                | cons y ys =>
                  have : ascB ws = false := by
                    cases e : ascB ws with
                    | false => rfl
                    | true => cases hr.mpr e
                  rw [this]; rfl
              · simp -dsimp -implicitDefEqProofs (disch := first | omega | simp) [hi1]
              · intro k hk
                have hk := List.mem_range.mp hk
                have h1 : ws[k]? = some ws[k] := List.getElem?_eq_getElem (by omega)
                have h2 : ws[k + 1]? = some ws[k + 1] := List.getElem?_eq_getElem (by omega)
                simp -dsimp -implicitDefEqProofs (disch := first | omega | simp) [h1, h2, S]
              · intro k hk _
                simp -dsimp -implicitDefEqProofs (disch := first | omega | simp)
              · omega
          · simp -dsimp -implicitDefEqProofs (disch := first | omega | simp)
          · intro x hx
            cases hs : isStr x with
            | true =>
              obtain ⟨l, rfl⟩ : ∃ l, x = S l := by
                cases x with
                | str s => exact ⟨_, by rw [S, ← mkS_eta]⟩
                | _ => cases hs
              have hin := inB_S l lawAll
              have hd : decide (l ∈ lawAll) = decide (l ∈ lawWords) := by rw [decide_eq_decide]; exact lawAll_mem l
              rw [hd] at hin
              have ha := m__law_all_words_S
              have hA : ∀ x ∈ lawAll.map S, okD 59 x = true := by
                intro x hx
                obtain ⟨l, _, rfl⟩ := List.mem_map.mp hx
                simp [S]
              generalize lawAll.map S = A at ha hin hA
              simp -dsimp -implicitDefEqProofs (disch := first | omega | simp) [isi_str, isStr, S, wordD, ha, hin, -isiD]
              rw [if_pos hA]
              cases decide (l ∈ lawWords) <;> rfl
            | false =>
              have hwd : wordD x = false := by cases x <;> first | rfl | cases hs
              simp -dsimp -implicitDefEqProofs (disch := first | omega | simp) [isi_str, hs, hwd, -isiD]
          · intro x hx _
            simp -dsimp -implicitDefEqProofs (disch := first | omega | simp)
          · omega
        · have hf : manD (.tuple xs) = false := by
            cases e : manD (.tuple xs) with
            | false => rfl
            | true => exact absurd ⟨(mt e).2.1, (mt e).1⟩ hl
          rw [hf]
          by_cases h1 : (1 : Int) ≤ xs.length
          · have h2 : ¬ (xs.length : Int) ≤ 12 := by omega
            simp -dsimp -implicitDefEqProofs (disch := first | omega | simp) [T__law_good, h1, h2, show kitB "tuple" "tuple" = some true from rfl]
          · simp -dsimp -implicitDefEqProofs (disch := first | omega | simp) [T__law_good, h1, show kitB "tuple" "tuple" = some true from rfl]
      | list xs => simp -dsimp -implicitDefEqProofs (disch := first | omega | simp) [T__law_good, manD, deW, show kitB "list" "tuple" = some false from rfl]
      | none => simp -dsimp -implicitDefEqProofs (disch := first | omega | simp) [T__law_good, manD, deW, show kitB "NoneType" "tuple" = some false from rfl]
      | bool b => simp -dsimp -implicitDefEqProofs (disch := first | omega | simp) [T__law_good, manD, deW, show kitB "bool" "tuple" = some false from rfl]
      | int i => simp -dsimp -implicitDefEqProofs (disch := first | omega | simp) [T__law_good, manD, deW, show kitB "int" "tuple" = some false from rfl]
      | str s => simp -dsimp -implicitDefEqProofs (disch := first | omega | simp) [T__law_good, manD, deW, show kitB "str" "tuple" = some false from rfl]
      | dict kv => simp at ho
    · cases h
  · cases h
theorem m__law_good_d {d : PyData} (h : okD 50 d = true) : m__law_good [d] = some (.bool (manD d)) := by simp [m__law_good, h]
def odds21 : List PyData := [.int 0, .none, S [], S [100, 111, 117, 98, 108, 101], S [100, 111, 117, 98, 108, 101, 32, 49, 48], S [48, 48], S [48, 49, 48], S [116, 114, 105, 112, 108, 101, 32, 53, 32], .tuple [S [50]], .bool true, S [57, 57]]
def spoL (ws : List (List Nat)) (at' : Nat) (odd : PyData) : List PyData := [.list (ws.map S), .tuple ((ws.take at').map S ++ (ws.drop (at' + 1)).map S), .tuple (ws.map S ++ [S (ws.getD at' [])]), .tuple (ws.map S).reverse,
  .tuple ((ws.take at').map S ++ [odd] ++ (ws.drop (at' + 1)).map S), .tuple (ws.map S ++ [odd]), .tuple ((sortT (ws.take at' ++ [[56, 48]])).map S), .tuple ((ws.take at').map S ++ [S [116, 114, 105, 112, 108, 101, 32, 57]] ++ (ws.drop at').map S)]
def spoO (ws : List (List Nat)) (ns : List Int) : PyData := (spoL ws (tkN ns ws.length) (odds21.getD (tkN ns.tail.tail 11) .none)).getD (tkN ns.tail 8) .none
def m__law_spoilt : GB
  | b, [d] => (intsD b).bind fun ns => (deW d).bind fun ws => if okM ws = true ∧ ws ≠ [] then some (spoO ws ns, ns.tail.tail.tail.map .int) else none
  | _, _ => none
def N__law_spoilt : List Str := ["bag", "value", "at", "way", "odd", "ways_so"]
def T__law_spoilt : TB := (bSeq (dParZ [2, 3] (azC (zCall 0 m__law_take (dCons (fun ε => ((dCons (getB 1) (fun _ => some [])) ε).bind lenD) (fun _ => some []))) (azC (zCall 0 m__law_take (dCons (fun _ => some (PyData.int 8)) (fun _ => some []))) (azP (fun _ => some [])))))
    (bSeq (dAsgZ 4 (zCall 0 m__law_choice (dCons (fun ε => ((fun ε => limL ((dCons (fun _ => some (PyData.int 0)) (dCons (fun _ => some PyData.none) (dCons (fun _ => some (PyData.str (mkS []))) (dCons (fun _ => some (PyData.str (mkS [100, 111, 117, 98, 108, 101]))) (dCons (fun _ => some (PyData.str (mkS [100, 111, 117, 98, 108, 101, 32, 49, 48]))) (dCons (fun _ => some (PyData.str (mkS [48, 48]))) (dCons (fun _ => some (PyData.str (mkS [48, 49, 48]))) (dCons (fun _ => some (PyData.str (mkS [116, 114, 105, 112, 108, 101, 32, 53, 32]))) (dCons (fun ε => (limL ((dCons (fun _ => some (PyData.str (mkS [50]))) (fun _ => some [])) ε)).map PyData.tuple) (dCons (fun _ => some (PyData.bool true)) (dCons (fun _ => some (PyData.str (mkS [57, 57]))) (fun _ => some [])))))))))))) ε)) ε).map PyData.list) (fun _ => some []))))
    (bSeq (dAsg 5 (fun ε => ((fun ε => ((fun ε => limL ((dCons (fun ε => ((fun ε => ((dCons (getB 1) (fun _ => some [])) ε).bind listSL) ε).map PyData.list) (dCons (dOp addA (dSl (getB 1) (fun _ => some none) (fun ε => intOf ((getB 2) ε))) (dSl (getB 1) (fun ε => intOf ((dOp addA (getB 2) (fun _ => some (PyData.int 1))) ε)) (fun _ => some none))) (dCons (dOp addA (getB 1) (fun ε => (limL ((dCons (dOp ixD (getB 1) (getB 2)) (fun _ => some [])) ε)).map PyData.tuple)) (dCons (fun ε => ((getF 1) ε).bind revD) (fun _ => some []))))) ε)) ε).map PyData.list) ε).map Slot.f))
    (bSeq (dAsg 5 (fun ε => ((dOp addA (getB 5) (fun ε => ((fun ε => limL ((dCons (dOp addA (dOp addA (dSl (getB 1) (fun _ => some none) (fun ε => intOf ((getB 2) ε))) (fun ε => (limL ((dCons (getF 4) (fun _ => some [])) ε)).map PyData.tuple)) (dSl (getB 1) (fun ε => intOf ((dOp addA (getB 2) (fun _ => some (PyData.int 1))) ε)) (fun _ => some none))) (dCons (dOp addA (getB 1) (fun ε => (limL ((dCons (getF 4) (fun _ => some [])) ε)).map PyData.tuple)) (dCons (fun ε => ((dCons (fun ε => ((fun ε => ((dCons (dOp addA (dSl (getB 1) (fun _ => some none) (fun ε => intOf ((getB 2) ε))) (fun ε => (limL ((dCons (fun _ => some (PyData.str (mkS [56, 48]))) (fun _ => some [])) ε)).map PyData.tuple)) (fun _ => some [])) ε).bind sortedSL) ε).map PyData.list) (fun _ => some [])) ε).bind tupleSD) (fun _ => some [])))) ε)) ε).map PyData.list)) ε).map Slot.f))
    (bRet (zP (dOp ixD (dOp addA (getB 5) (fun ε => ((fun ε => limL ((dCons (dOp addA (dOp addA (dSl (getB 1) (fun _ => some none) (fun ε => intOf ((getB 2) ε))) (fun ε => (limL ((dCons (fun _ => some (PyData.str (mkS [116, 114, 105, 112, 108, 101, 32, 57]))) (fun _ => some [])) ε)).map PyData.tuple)) (dSl (getB 1) (fun ε => intOf ((getB 2) ε)) (fun _ => some none))) (fun _ => some [])) ε)) ε).map PyData.list)) (getB 3))))))))
theorem st__law_spoilt (p : Addr) (b : List PyData) (a0 : PyData) : startB N__law_spoilt p b [a0] = [some (.oa p b), some (.f a0), none, none, none, none] := rfl
theorem odds21_ok : ∀ d ∈ odds21, okD 49 d = true := by decide +kernel
theorem choice_at (ns : List Int) (ds : List PyData) (h : 0 < ds.length) (h' : ds.length < 1000000) : m__law_choice (ns.map .int) [.list ds] = some (ds.getD (tkN ns ds.length) .none, ns.tail.map .int) := by
  have := intsD_map (fun x : Int => x) ns
  rw [m__law_choice, show intsD (ns.map PyData.int) = some ns by simpa using this, Option.bind_some, if_pos ⟨h, h'⟩, List.getD_eq_getElem?_getD, List.getElem?_eq_getElem (tkN_lt ns h)]
  rfl
theorem pure__law_spoilt : ∀ b ds r, m__law_spoilt b ds = some r → ds.length + 1 = ["bag", "value"].length ∧ ∀ p, T__law_spoilt (fun d s => d = r.1 ∧ s = some (some (.oa p r.2))) (startB N__law_spoilt p b ds) := by
  intro b ds r h
  unfold m__law_spoilt at h
  split at h
  · rename_i d0
    obtain ⟨ns, e1, e2⟩ := Option.bind_eq_some_iff.mp h
    obtain ⟨ws, e3, e4⟩ := Option.bind_eq_some_iff.mp e2
    split at e4
    · rename_i hc
      obtain ⟨hok, hne⟩ := hc
      cases e4
      refine ⟨rfl, fun p => ?_⟩
      rw [st__law_spoilt, intsD_eq e1, deW_eq e3]
      obtain ⟨hl, hm⟩ := okM_iff.mp hok
      have hpos : 0 < ws.length := List.length_pos_iff.mpr hne
      have t1 := m__law_take_S ns hpos (by omega)
      have t2 : m__law_take (ns.tail.map .int) [.int 8] = some (.int (tkN ns.tail 8 : Nat), ns.tail.tail.map .int) := m__law_take_S ns.tail (m := 8) (by decide) (by decide)
      have t3 := choice_at ns.tail.tail odds21 (by decide) (by decide)
      have h1 := tkN_lt ns hpos
      have h2 := tkN_lt ns.tail (m := 8) (by decide)
      rw [show odds21.length = 11 from rfl] at t3
      have h3 : okD 49 (odds21.getD (tkN ns.tail.tail 11) .none) = true := by
        have := tkN_lt ns.tail.tail (m := 11) (by decide)
        refine odds21_ok _ ?_
        rw [List.getD_eq_getElem?_getD, List.getElem?_eq_getElem (show tkN ns.tail.tail 11 < odds21.length from this), Option.getD_some]
        exact List.getElem_mem _
      unfold spoO
      generalize odds21.getD (tkN ns.tail.tail 11) .none = odd at t3 h3 ⊢
      generalize tkN ns.tail 8 = w at t2 h2 ⊢
      generalize tkN ns ws.length = a at t1 h1 ⊢
      generalize ns.tail.tail.tail.map PyData.int = B3 at t3 ⊢
      generalize ns.tail.tail.map PyData.int = B2 at t2 t3
      generalize ns.tail.map PyData.int = B1 at t1 t2
      generalize ns.map PyData.int = B0 at t1
      have g1 : ws[a]? = some (ws.getD a []) := by rw [List.getD_eq_getElem?_getD, List.getElem?_eq_getElem h1]; rfl
      have g2 : ws[a]'h1 = ws.getD a [] := by rw [List.getD_eq_getElem?_getD, List.getElem?_eq_getElem h1]; rfl
      unfold odds21 at t3
      simp only [S] at t3
      have hsrt : sortedSL [PyData.tuple (List.take a (List.map S ws) ++ [PyData.str (mkS [56, 48])])] = some ((sortT (ws.take a ++ [[56, 48]])).map S) := by
        rw [show List.take a (List.map S ws) ++ [PyData.str (mkS [56, 48])] = (ws.take a ++ [[56, 48]]).map S by rw [List.map_append, List.map_take]; rfl]
        have := sortT_length (ws.take a ++ [[56, 48]])
        show (deTs ((ws.take a ++ [[56, 48]]).map S)).bind _ = _
        rw [deTs_S, Option.bind_some, if_pos (by rw [List.length_append, List.length_take]; simp; omega)]
      have hlt := sortT_length (ws.take a ++ [[56, 48]])
      rw [List.length_append, List.length_take] at hlt
      simp only [List.length_cons, List.length_nil] at hlt
      unfold spoL
      generalize sortT (ws.take a ++ [[56, 48]]) = Z at hsrt hlt ⊢
      have hw : w = 0 ∨ w = 1 ∨ w = 2 ∨ w = 3 ∨ w = 4 ∨ w = 5 ∨ w = 6 ∨ w = 7 := by omega
      simp -dsimp -implicitDefEqProofs (disch := first | omega | simp) [T__law_spoilt, t1, t2, t3, g1, g2, hsrt, S, -List.getD_eq_getElem?_getD]
      rcases hw with rfl | rfl | rfl | rfl | rfl | rfl | rfl | rfl <;> (simp [List.map_take, List.map_drop, -List.getD_eq_getElem?_getD]; rfl)
    · cases e4
  · cases h
theorem m__law_spoilt_S (ns : List Int) (ws : List (List Nat)) (h : okM ws = true) (h' : ws ≠ []) : m__law_spoilt (ns.map .int) [.tuple (ws.map S)] = some (spoO ws ns, ns.tail.tail.tail.map .int) := by
  have := intsD_map (fun x : Int => x) ns
  rw [m__law_spoilt, show intsD (ns.map PyData.int) = some ns by simpa using this, Option.bind_some, deW_S, Option.bind_some, if_pos ⟨h, h'⟩]
theorem all_S_ok (n : Nat) (ws : List (List Nat)) : ∀ x ∈ ws.map S, okD n x = true := fun x hx => by
  obtain ⟨l, _, rfl⟩ := List.mem_map.mp hx
  simp [S]
theorem spoO_ok (ws : List (List Nat)) (ns : List Int) : okD 50 (spoO ws ns) = true := by
  have h2 := tkN_lt ns.tail (m := 8) (by decide)
  have h3 : okD 49 (odds21.getD (tkN ns.tail.tail 11) .none) = true := by
    have := tkN_lt ns.tail.tail (m := 11) (by decide)
    refine odds21_ok _ ?_
    rw [List.getD_eq_getElem?_getD, List.getElem?_eq_getElem (show tkN ns.tail.tail 11 < odds21.length from this), Option.getD_some]
    exact List.getElem_mem _
  unfold spoO
  generalize odds21.getD (tkN ns.tail.tail 11) .none = odd at h3 ⊢
  generalize tkN ns.tail 8 = w at h2 ⊢
  generalize tkN ns ws.length = a
  have key : ∀ d ∈ spoL ws a odd, okD 50 d = true := by
    intro d hd
    have hS := all_S_ok 49
    unfold spoL at hd
    simp only [List.mem_cons, List.not_mem_nil, or_false] at hd
    have hone : ∀ l : List Nat, ∀ x ∈ [S l], okD 49 x = true := fun l x hx => by rw [List.mem_singleton.mp hx]; simp [S]
    have hodd : ∀ x ∈ [odd], okD 49 x = true := fun x hx => by rw [List.mem_singleton.mp hx]; exact h3
    rcases hd with rfl | rfl | rfl | rfl | rfl | rfl | rfl | rfl
    · rw [okD_list, List.all_eq_true]; exact hS ws
    · rw [okD_tuple, List.all_eq_true]; exact fun x hx => (List.mem_append.mp hx).elim (hS _ x) (hS _ x)
    · rw [okD_tuple, List.all_eq_true]; exact fun x hx => (List.mem_append.mp hx).elim (hS _ x) (hone _ x)
    · rw [okD_tuple, List.all_eq_true]; exact fun x hx => hS ws x (List.mem_reverse.mp hx)
    · rw [okD_tuple, List.all_eq_true]; exact fun x hx => (List.mem_append.mp hx).elim (fun hx => (List.mem_append.mp hx).elim (hS _ x) (hodd x)) (hS _ x)
    · rw [okD_tuple, List.all_eq_true]; exact fun x hx => (List.mem_append.mp hx).elim (hS _ x) (hodd x)
    · rw [okD_tuple, List.all_eq_true]; exact hS _
    · rw [okD_tuple, List.all_eq_true]; exact fun x hx => (List.mem_append.mp hx).elim (fun hx => (List.mem_append.mp hx).elim (hS _ x) (hone _ x)) (hS _ x)
  refine key _ ?_
  rw [List.getD_eq_getElem?_getD, List.getElem?_eq_getElem (show w < (spoL ws a odd).length from h2), Option.getD_some]
  exact List.getElem_mem _
def m_law : List PyData → Option PyData
  | [.list ds] => (intsD ds).bind fun ns => if ns.length ≤ 63 then some (.bool true) else none
  | _ => none
def N_law : List Str := ["script", "k", "bag", "manner", "turn", "value", "odd", "some"]
def T_law (tb : List (Addr × Str)) (tx : Str → Option Str) : TD := (dSeq (dFor (fun ε => ((dCons (fun _ => some (PyData.int 8)) (fun _ => some [])) ε).bind rng1D) (.nm 1) (dSeq (dAsg 2 (fun ε => ((fun ε => ((dCons (getF 0) (dCons (getF 1) (fun _ => some []))) ε).bind m__law_bag) ε).map Slot.o))
    (dSeq (dAsgZ 3 (zCall 2 m__law_manner (dCons (dOp ixD (fun ε => ((fun ε => limL ((dCons (fun _ => some (PyData.int 3)) (dCons (fun _ => some (PyData.int 12)) (fun _ => some []))) ε)) ε).map PyData.list) (dOp modD (getB 1) (fun _ => some (PyData.int 2)))) (fun _ => some []))))
    (dSeq (dIf (fun ε => boolOf (dOp isntD (fun ε => ((dCons (getF 3) (fun _ => some [])) ε).bind m_is_manner) (fun _ => some (PyData.bool true)) ε)) (dRet (fun ε => ((fun _ => some (PyData.bool false)) ε).map Slot.f)) dNext)
    (dSeq (dFor (fun ε => ((dCons (fun _ => some (PyData.int 14)) (fun _ => some [])) ε).bind rng1D) (.nm 4) (dSeq (dAsgZ 5 (zCall 2 m__law_spoilt (dCons (getF 3) (fun _ => some []))))
    (dSeq (dIf (fun ε => ((fun ε => ((fun ε => ((dCons (fun ε => ((dCons (getF 5) (fun _ => some [])) ε).bind m_is_manner) (dCons (fun ε => ((dCons (getF 5) (fun _ => some [])) ε).bind m__law_good) (fun _ => some []))) ε).bind m__law_truly) ε).bind truD) ε).map not) (dRet (fun ε => ((fun _ => some (PyData.bool false)) ε).map Slot.f)) dNext)
    (dIf (fun ε => boolOf (dOp neD (dLam tb (fun ε => ((dCons (getF 5) (dCons (fun _ => some (PyData.str (mkS [120]))) (fun _ => some []))) ε).bind m_can_say) (errD tx)) (dIfE (fun ε => ((fun ε => ((dCons (getF 5) (fun _ => some [])) ε).bind m__law_good) ε).bind truD) (fun _ => some (PyData.str (mkS [100, 105, 103, 105, 116, 115, 32, 118, 97, 108, 117, 101]))) (fun _ => some (PyData.str (mkS [109, 97, 110, 110, 101, 114, 32, 118, 97, 108, 117, 101])))) ε)) (dRet (fun ε => ((fun _ => some (PyData.bool false)) ε).map Slot.f)) dNext))))
    (dFor (fun ε => ((fun ε => ((fun ε => limL ((dCons (fun _ => some PyData.none) (dCons (fun _ => some (PyData.int 5)) (dCons (fun _ => some (PyData.str (mkS [50]))) (dCons (fun ε => (limL ((fun _ => some []) ε)).map PyData.tuple) (dCons (fun ε => (limL ((dCons (fun _ => some (PyData.str (mkS [50]))) (dCons (fun _ => some (PyData.str (mkS [50]))) (fun _ => some []))) ε)).map PyData.tuple) (dCons (fun ε => (limL ((dCons (fun _ => some (PyData.str (mkS [51]))) (dCons (fun _ => some (PyData.str (mkS [50]))) (fun _ => some []))) ε)).map PyData.tuple) (dCons (fun ε => (limL ((dCons (fun _ => some (PyData.int 2)) (fun _ => some [])) ε)).map PyData.tuple) (fun _ => some [])))))))) ε)) ε).map PyData.list) ε).bind seqD) (.nm 6) (dIf (fun ε => ((fun ε => ((fun ε => ((dCons (fun ε => ((dCons (getF 6) (fun _ => some [])) ε).bind m_is_manner) (dCons (fun _ => some (PyData.bool false)) (fun _ => some []))) ε).bind m__law_truly) ε).bind truD) ε).map not) (dRet (fun ε => ((fun _ => some (PyData.bool false)) ε).map Slot.f)) dNext)))))))
    (dSeq (dAsg 7 (fun ε => ((fun ε => ((dCons (fun ε => ((fun ε => ((dCons (fun ε => (some []).bind m__law_all_words) (fun _ => some [])) ε).bind sortedSL) ε).map PyData.list) (fun _ => some [])) ε).bind tupleSD) ε).map Slot.f))
    (dSeq (dIf (dOr (fun ε => boolOf (dOp isntD (fun ε => ((dCons (getF 7) (fun _ => some [])) ε).bind m_is_manner) (fun _ => some (PyData.bool false)) ε)) (dOr (fun ε => boolOf (dOp isntD (fun ε => ((dCons (dSl (getB 7) (fun _ => some none) (fun ε => intOf ((fun _ => some (PyData.int 12)) ε))) (fun _ => some [])) ε).bind m_is_manner) (fun _ => some (PyData.bool true)) ε)) (fun ε => boolOf (dOp isntD (fun ε => ((dCons (dSl (getB 7) (fun _ => some none) (fun ε => intOf ((fun _ => some (PyData.int 13)) ε))) (fun _ => some [])) ε).bind m_is_manner) (fun _ => some (PyData.bool false)) ε)))) (dRet (fun ε => ((fun _ => some (PyData.bool false)) ε).map Slot.f)) dNext)
    (dRet (fun ε => ((dAndV (dOp isnD (fun ε => ((dCons (dSl (getB 7) (fun ε => intOf ((fun ε => ((fun _ => some (PyData.int 12)) ε).bind negD) ε)) (fun _ => some none)) (fun _ => some [])) ε).bind m_is_manner) (fun _ => some (PyData.bool true))) (dOp eqD (fun ε => ((dCons (getB 7) (fun _ => some [])) ε).bind lenD) (fun _ => some (PyData.int 48)))) ε).map Slot.f)))))
theorem st_law (tb : List (Addr × Str)) (a0 : PyData) : startT N_law tb [a0] = [some (.tf a0 tb), none, none, none, none, none, none, none] := rfl
abbrev tx_law : Str → Option Str := txOn ["InvalidDigits", "InvalidManner"]
theorem lt_of_leT {a b : List Nat} (h : leT a b = true) (hn : a ≠ b) : a < b := by
  unfold leT at h
  rw [decide_eq_true_eq] at h
  apply Decidable.byContradiction
  intro q
  exact hn (List.le_antisymm h (List.not_lt.mp q))
theorem ascB_of : ∀ {ws : List (List Nat)}, ws.Pairwise (fun a b => a < b) → ascB ws = true
  | [], _ => rfl
  | [_], _ => rfl
  | a :: b :: r, h => by
    obtain ⟨h1, h2⟩ := List.pairwise_cons.mp h
    have ih := ascB_of h2
    unfold ascB at ih ⊢
    simp only [List.tail_cons, List.zip_cons_cons, List.all_cons, Bool.and_eq_true, decide_eq_true_eq] at ih ⊢
    exact ⟨h1 b (by simp), ih⟩
theorem manO_okMn (ns : List Int) {m : Nat} (h : 0 < m) (h' : m ≤ 12) : okMn (sortT (manO ns m).1) = true := by
  obtain ⟨h1, h2, h3, h4⟩ := manO_ok ns h
  generalize (manO ns m).1 = L at h1 h2 h3 h4
  have hp := sortT_perm L
  refine okMn_iff.mpr ⟨okM_iff.mpr ⟨by rw [sortT_length]; omega, fun w hw => (h4 w (hp.mem_iff.mp hw)).1⟩, fun e => ?_, ascB_of ?_⟩
  · have := sortT_length L
    rw [e] at this
    exact h1 (List.length_eq_zero_iff.mp this.symm)
  · have hn : (sortT L).Nodup := hp.nodup_iff.mpr h3
    exact ((sortT_sorted L).and hn).imp fun {a b} q => lt_of_leT q.1 q.2
def odds21b : List PyData := [.none, .int 5, S [50], .tuple [], .tuple [S [50], S [50]], .tuple [S [51], S [50]], .tuple [.int 2]]
theorem odds21b_ok : ∀ d ∈ odds21b, okD 50 d = true ∧ manD d = false := by decide +kernel
theorem tx21_d : tx_law "InvalidDigits" = some (mkS [100, 105, 103, 105, 116, 115, 32, 118, 97, 108, 117, 101]) := by decide +kernel
theorem tx21_m : tx_law "InvalidManner" = some (mkS [109, 97, 110, 110, 101, 114, 32, 118, 97, 108, 117, 101]) := by decide +kernel
theorem lawAll_nodup : lawAll.Nodup := by decide +kernel
theorem lawAll_len : lawAll.length = 48 := by decide +kernel
theorem srt_part {us : List (List Nat)} (h : List.Sublist us (sortT lawAll)) (h1 : us ≠ []) (h2 : us.length ≤ 12) : okMn us = true := by
  have hp := sortT_perm lawAll
  refine okMn_iff.mpr ⟨okM_iff.mpr ⟨h2, fun w hw => (lawAll_mem w).mp (hp.mem_iff.mp (h.subset hw))⟩, h1, ascB_of ?_⟩
  have hn : (sortT lawAll).Nodup := hp.nodup_iff.mpr lawAll_nodup
  exact (((sortT_sorted lawAll).and hn).imp fun {a b} q => lt_of_leT q.1 q.2).sublist h
theorem man_long {us : List (List Nat)} (h : 12 < us.length) : manD (.tuple (us.map S)) = false := by
  unfold manD
  rw [deW_S]
  show okMn us = false
  cases e : okMn us with
  | false => rfl
  | true => have := (okM_iff.mp (okMn_iff.mp e).1).1; omega
theorem cut_neg {α : Type} (xs : List α) (h : xs.length = 48) : cutD xs (some (-12)) none = xs.drop 36 := by
  unfold cutD
  have h1 : HT.sIx xs.length 0 (some (-12)) = 36 := by
    show (if (-12 : Int) < 0 then ((-12 : Int) + (xs.length : Int)).toNat else min (-12 : Int).toNat xs.length) = 36
    rw [if_pos (by decide)]; omega
  have h2 : HT.sIx xs.length xs.length none = xs.length := rfl
  rw [h1, h2, List.take_of_length_le (by rw [List.length_drop]; omega)]
theorem pure_law (tb : List (Addr × Str)) : ∀ ds d, m_law ds = some d → ds.length = ["script"].length ∧ T_law tb tx_law { nx := fun _ => d = .none, rt := fun s => s.val = some d } (startT N_law tb ds) := by
  intro ds d h
  unfold m_law at h
  split at h
  · rename_i ds
    obtain ⟨ns, e1, e2⟩ := Option.bind_eq_some_iff.mp h
    split at e2
    · rename_i hl
      cases e2
      clear h
      refine ⟨rfl, ?_⟩
      rw [st_law, intsD_eq e1]
      have td := tx21_d
      have tm := tx21_m
      generalize tx_law = tx at td tm ⊢
      simp -dsimp -implicitDefEqProofs (disch := first | omega | simp) [T_law]
      refine forB_ix (fun (k : Nat) => .int (k : Int)) (List.range 8) (fun _ ε => ∃ a1 a2 a3 a4 a5 a6 a7 : Option Slot, ε = [some (.tf (.list (ns.map .int)) tb), a1, a2, a3, a4, a5, a6, a7]) ?_ ?_ ?_
      · exact ⟨_, _, _, _, _, _, _, rfl⟩
      · rintro i k ε nx hi ⟨a1, a2, a3, a4, a5, a6, a7, rfl⟩ kk
        obtain ⟨rfl, hk8⟩ := rangeIx hi
        have kk : ∀ a1 a2 a3 a4 a5 a6 a7 : Option Slot, nx [some (.tf (.list (ns.map .int)) tb), a1, a2, a3, a4, a5, a6, a7] := fun a1 a2 a3 a4 a5 a6 a7 => kk _ ⟨_, _, _, _, _, _, _, rfl⟩
        refine ⟨_, rfl, ?_⟩
        have hb := m__law_bag_S ns k (by omega) (by omega)
        generalize lawDigits ns k 150 27720 = b0 at hb
        obtain ⟨m0, hm0, hm1, hsel⟩ : ∃ m0 : Nat, 0 < m0 ∧ m0 ≤ 12 ∧ atI [PyData.int 3, PyData.int 12] ((k : Int) % 2) = some (.int (m0 : Int)) := by
          have : (k : Int) % 2 = 0 ∨ (k : Int) % 2 = 1 := by omega
          rcases this with h | h <;> rw [h]
          · exact ⟨3, by decide, by decide, rfl⟩
          · exact ⟨12, by decide, by decide, rfl⟩
        have hmn := m__law_manner_S b0 hm0 hm1
        have hok := manO_okMn b0 hm0 hm1
        generalize sortT (manO b0 m0).1 = M at hmn hok
        generalize (manO b0 m0).2 = b1 at hmn
        obtain ⟨hM1, hMne, _⟩ := okMn_iff.mp hok
        have hman := m_is_manner_S M hok
        generalize hB0 : b0.map PyData.int = B0 at hb hmn
        simp -dsimp -implicitDefEqProofs (disch := first | omega | simp) [hb, hsel, hmn, hman]
        refine forB_ix (fun (k : Nat) => .int (k : Int)) (List.range 14) (fun _ ε => ∃ (b : List Int) (a4 a5 a6 a7 : Option Slot), ε = [some (.tf (.list (ns.map .int)) tb), some (.f (.int (k : Int))), some (.o (b.map .int)), some (.f (.tuple (M.map S))), a4, a5, a6, a7]) ?_ ?_ ?_
        · exact ⟨b1, _, _, _, _, rfl⟩
        · rintro i j ε nx' hj ⟨b, a4, a5, a6, a7, rfl⟩ kk'
          have kk' : ∀ (b : List Int) (a4 a5 a6 a7 : Option Slot), nx' [some (.tf (.list (ns.map .int)) tb), some (.f (.int (k : Int))), some (.o (b.map .int)), some (.f (.tuple (M.map S))), a4, a5, a6, a7] := fun b a4 a5 a6 a7 => kk' _ ⟨_, _, _, _, _, rfl⟩
          refine ⟨_, rfl, ?_⟩
          have f1 := m__law_spoilt_S b M hM1 hMne
          have g1 := spoO_ok M b
          generalize spoO M b = v at f1 g1
          have kk' := kk' b.tail.tail.tail
          generalize b.tail.tail.tail.map PyData.int = B2 at f1 kk'
          generalize b.map PyData.int = B1 at f1
          have c1 : m_is_manner [v] = some (.bool (manD v)) := by simp [m_is_manner, g1]
          have c2 := m__law_good_d g1
          have c3 := m_can_say_d (x := S [120]) g1 (by decide +kernel)
          rw [if_neg (show ¬ figD (S [120]) = true by decide +kernel)] at c3
          generalize manD v = q at c1 c2 c3
          cases q with
          | true =>
            have ht : m__law_truly [.bool true, .bool true] = some (.bool true) := rfl
            rw [if_pos rfl] at c3
            simp -dsimp -implicitDefEqProofs (disch := first | omega | simp) [S, f1, c1, c2, c3, ht, td, tm]
            exact kk' _ _ _ _
          | false =>
            have ht : m__law_truly [.bool false, .bool false] = some (.bool true) := rfl
            rw [if_neg (by decide)] at c3
            simp -dsimp -implicitDefEqProofs (disch := first | omega | simp) [S, f1, c1, c2, c3, ht, td, tm]
            exact kk' _ _ _ _
        · rintro ε ⟨b, a4, a5, a6, a7, rfl⟩
          simp -dsimp -implicitDefEqProofs (disch := first | omega | simp)
          refine forB_ix (fun d => d) odds21b (fun _ ε => ∃ (a6 : Option Slot), ε = [some (.tf (.list (ns.map .int)) tb), some (.f (.int (k : Int))), some (.o (b.map .int)), some (.f (.tuple (M.map S))), a4, a5, a6, a7]) ?_ ?_ ?_
          · exact ⟨_, rfl⟩
          · rintro i d ε nx' hj ⟨a6, rfl⟩ kk'
            obtain ⟨o1, o2⟩ := odds21b_ok d (List.mem_of_getElem? hj)
            have c1 : m_is_manner [d] = some (.bool false) := by simp [m_is_manner, o1, o2]
            have ht : m__law_truly [.bool false, .bool false] = some (.bool true) := rfl
            refine ⟨_, rfl, ?_⟩
            simp -dsimp -implicitDefEqProofs (disch := first | omega | simp) [c1, ht]
            exact kk' _ ⟨_, rfl⟩
          · rintro ε ⟨a6, rfl⟩
            exact kk _ _ _ _ _ _ _
      · rintro ε ⟨a1, a2, a3, a4, a5, a6, a7, rfl⟩
        have hA := m__law_all_words_S
        have hs : sortedSL [.list (lawAll.map S)] = some ((sortT lawAll).map S) := by
          rw [sortedSL_list]
          simp [sortedL, srtOk_S, sortD_S]
        have hlen : (sortT lawAll).length = 48 := by rw [sortT_length, lawAll_len]
        have p1 := srt_part (us := (sortT lawAll).take 12) (List.take_sublist _ _) (fun e => by have := congrArg List.length e; rw [List.length_take, hlen] at this; cases this) (by rw [List.length_take]; omega)
        have p2 := srt_part (us := (sortT lawAll).drop 36) (List.drop_sublist _ _) (fun e => by have := congrArg List.length e; rw [List.length_drop, hlen] at this; cases this) (by rw [List.length_drop]; omega)
        have c0 : m_is_manner [.tuple ((sortT lawAll).map S)] = some (.bool false) := by simp only [m_is_manner, okD_W 49 (sortT lawAll), if_true, man_long (us := sortT lawAll) (by omega)]
        have c1 := m_is_manner_S _ p1
        have c2 : m_is_manner [.tuple (((sortT lawAll).take 13).map S)] = some (.bool false) := by simp only [m_is_manner, okD_W 49 ((sortT lawAll).take 13), if_true, man_long (us := (sortT lawAll).take 13) (by rw [List.length_take]; omega)]
        have c3 := m_is_manner_S _ p2
        rw [List.map_take] at c1 c2
        rw [List.map_drop] at c3
        have hcut := cut_neg ((sortT lawAll).map S) (by rw [List.length_map]; exact hlen)
        generalize hZ : sortT lawAll = Z at *
        generalize lawAll.map S = A at *
        have hlI : (Z.length : Int) = 48 := by omega
        simp -dsimp -implicitDefEqProofs (disch := first | omega | simp) [hA, hs, c0, c1, c2, c3, hcut, hlI, hlen]
    · cases e2
  · cases h
theorem m_law_ints {ns : List Int} (h : ns.length ≤ 63) : m_law [.list (ns.map .int)] = some (.bool true) := by
  have := intsD_map (fun x : Int => x) ns
  rw [m_law, show intsD (ns.map PyData.int) = some ns by simpa using this]
  simp [h]
end M

namespace M
open PySem PySem.Spec PyProof.Rows L2

def topS (i : Nat) : Stmt := PySem.Challenge.pw_saydigits_k21_manners_known.main.body.getD i (.Pass ⟨0, 0, 0, 0⟩)
abbrev s_all_words : Stmt := topS 10
abbrev s_is_word : Stmt := topS 11
abbrev s_is_ten : Stmt := topS 12
abbrev s_is_joint : Stmt := topS 13
abbrev s_digits_of : Stmt := topS 14
abbrev s_is_manner : Stmt := topS 16
abbrev s_need_manner : Stmt := topS 17
abbrev s_is_figures : Stmt := topS 18
abbrev s_need_figures : Stmt := topS 19
abbrev s_pieces_of : Stmt := topS 20
abbrev s_ways_of : Stmt := topS 21
abbrev s_can_say : Stmt := topS 22
abbrev s__law_cell : Stmt := topS 24
abbrev s__law_draws : Stmt := topS 25
abbrev s__law_bag : Stmt := topS 26
abbrev s__law_take : Stmt := topS 27
abbrev s__law_choice : Stmt := topS 28
abbrev s__law_menu : Stmt := topS 29
abbrev s__law_manner : Stmt := topS 30
abbrev s__law_named_error : Stmt := topS 31
abbrev s__law_error : Stmt := topS 32
abbrev s__law_truly : Stmt := topS 33
abbrev s__law_all_words : Stmt := topS 34
abbrev s__law_good : Stmt := topS 35
abbrev s__law_spoilt : Stmt := topS 36
abbrev s_law : Stmt := topS 37
section
variable {P : Program} {w : World} {K : PySem.W.Frag} {mg : Str → Option Value} {base : Heap}
theorem sc_all_words : FnScope N_all_words [] (defScope s_all_words) := ⟨rfl, rfl, rfl, by decide +kernel, rfl, by decide +kernel, by decide +kernel⟩
theorem ok_all_words {f : Addr} {fd : FuncData} (F : Fun K "all_words" "all_words" s_all_words f fd) {tk_DIGITS : Tok} (g_DIGITS : mg "DIGITS" = some (.str "0123456789" tk_DIGITS)) : FnOk P w K mg base CX0 1 f fd [] (PSp K m_all_words) := by
  have nd : N_all_words.Nodup := sc_all_words.nd
  refine defP (k := 0) (T := T_all_words) F sc_all_words (fun cdv A outer s H E hr => ?_) pure_all_words
  have hc : (cxOf CX0 P w K mg base N_all_words "all_words" (defScope s_all_words) f cdv A outer s H E).nox.calm = true := rfl
  have hu := hr.units
  have hv := hv_of hr
  have hu1 := hu1_of hr
  exact ⟨_, (ds_cons (ds_set 0 nd (DE.x (de_op opr_addA (DE.toB (DL.toE (dl_lcV [("digit", 1)] hc nd (blkOk_by (own := [("digit", 1)]) (N := N_all_words) (sc := defScope s_all_words) (by decide +kernel)) (di_seq (de_gstrE [48, 49, 50, 51, 52, 53, 54, 55, 56, 57] (by rfl) g_DIGITS)) (by exact fun _ _ _ _ _ => DG.kk (dg_name 1 nd)) (by exact fun _ _ _ _ _ => DTs.kk dts_nil) (by exact fun _ _ _ _ _ => DE.kk (de_var 1))))) (DE.toB (DL.toE (dl_lcV [("digit", 1)] hc nd (blkOk_by (own := [("digit", 1)]) (N := N_all_words) (sc := defScope s_all_words) (by decide +kernel)) (di_seq (de_gstrE [48, 49, 50, 51, 52, 53, 54, 55, 56, 57] (by rfl) g_DIGITS)) (by exact fun _ _ _ _ _ => DG.kk (dg_name 1 nd)) (by exact fun _ _ _ _ _ => DTs.kk dts_nil) (by exact fun _ _ _ _ _ => DE.kk (de_op opr_addA (DE.toB (de_strE [49])) (db_var 1)))))))))
    (ds_cons (ds_set 0 nd (DE.x (de_op opr_addA (db_var 0) (DE.toB (DL.toE (dl_lcV [("digit", 1)] hc nd (blkOk_by (own := [("digit", 1)]) (N := N_all_words) (sc := defScope s_all_words) (by decide +kernel)) (di_seq (de_sl (DE.toB (de_gstrE [48, 49, 50, 51, 52, 53, 54, 55, 56, 57] (by rfl) g_DIGITS)) (do_some (DE.toB de_int)) do_none)) (by exact fun _ _ _ _ _ => DG.kk (dg_name 1 nd)) (by exact fun _ _ _ _ _ => DTs.kk dts_nil) (by exact fun _ _ _ _ _ => DE.kk (de_op opr_addA (db_var 1) (DE.toB (de_strE [48]))))))))))
    (ds_one (ds_ret (DE.x (de_op opr_addA (DE.toB (de_op opr_addA (db_var 0) (DE.toB (DL.toE (dl_lcV [("digit", 1)] hc nd (blkOk_by (own := [("digit", 1)]) (N := N_all_words) (sc := defScope s_all_words) (by decide +kernel)) (di_seq (de_gstrE [48, 49, 50, 51, 52, 53, 54, 55, 56, 57] (by rfl) g_DIGITS)) (by exact fun _ _ _ _ _ => DG.kk (dg_name 1 nd)) (by exact fun _ _ _ _ _ => DTs.kk dts_nil) (by exact fun _ _ _ _ _ => DE.kk (de_op opr_addA (DE.toB (de_strE [100, 111, 117, 98, 108, 101, 32])) (db_var 1)))))))) (DE.toB (DL.toE (dl_lcV [("digit", 1)] hc nd (blkOk_by (own := [("digit", 1)]) (N := N_all_words) (sc := defScope s_all_words) (by decide +kernel)) (di_seq (de_gstrE [48, 49, 50, 51, 52, 53, 54, 55, 56, 57] (by rfl) g_DIGITS)) (by exact fun _ _ _ _ _ => DG.kk (dg_name 1 nd)) (by exact fun _ _ _ _ _ => DTs.kk dts_nil) (by exact fun _ _ _ _ _ => DE.kk (de_op opr_addA (DE.toB (de_strE [116, 114, 105, 112, 108, 101, 32])) (db_var 1))))))))))))⟩
theorem sc_is_word : FnScope N_is_word ["value"] (defScope s_is_word) := ⟨rfl, rfl, rfl, by decide +kernel, rfl, by decide +kernel, by decide +kernel⟩
theorem ok_is_word {f : Addr} {fd : FuncData} (F : Fun K "is_word" "is_word" s_is_word f fd) (B : Blt mg) (c_all_words : Cal P w K mg base "all_words" 1 (PSp K m_all_words)) : FnOk P w K mg base CX0 2 f fd ["value"] (PSp K m_is_word) := by
  have nd : N_is_word.Nodup := sc_is_word.nd
  refine defP (k := 1) (T := T_is_word) F sc_is_word (fun cdv A outer s H E hr => ?_) pure_is_word
  have hc : (cxOf CX0 P w K mg base N_is_word "is_word" (defScope s_is_word) f cdv A outer s H E).nox.calm = true := rfl
  have hu := hr.units
  have hv := hv_of hr
  have hu1 := hu1_of hr
  exact ⟨_, (ds_one (ds_ret (DE.x (de_and (db_isi (T := "str") (db_var 0) B.isinstance B.str) (de_one (de_cmp (opr_in hv) (db_var 0) (DE.toB (de_cal0 c_all_words hr)) (by rfl)))))))⟩
theorem sc_is_ten : FnScope N_is_ten ["word"] (defScope s_is_ten) := ⟨rfl, rfl, rfl, by decide +kernel, rfl, by decide +kernel, by decide +kernel⟩
theorem ok_is_ten {f : Addr} {fd : FuncData} (F : Fun K "is_ten" "is_ten" s_is_ten f fd) (B : Blt mg) {tk_DIGITS : Tok} (g_DIGITS : mg "DIGITS" = some (.str "0123456789" tk_DIGITS)) : FnOk P w K mg base CX0 1 f fd ["word"] (PSp K m_is_ten) := by
  have nd : N_is_ten.Nodup := sc_is_ten.nd
  refine defP (k := 0) (T := T_is_ten) F sc_is_ten (fun cdv A outer s H E hr => ?_) pure_is_ten
  have hc : (cxOf CX0 P w K mg base N_is_ten "is_ten" (defScope s_is_ten) f cdv A outer s H E).nox.calm = true := rfl
  have hu := hr.units
  have hv := hv_of hr
  have hu1 := hu1_of hr
  exact ⟨_, (ds_one (ds_ret (DE.x (de_and (de_cmp (opr_eq hu) (DE.toB (de_callB cr_len (by rfl) B.len (by decide +kernel) (dab_cons (db_var 0) dab_nil))) (DE.toB de_int) (nomark _)) (de_one (de_cmp (opr_in hv) (DE.toB (de_ix (db_var 0) (DE.toB de_int))) (DE.toB (de_sl (DE.toB (de_gstrE [48, 49, 50, 51, 52, 53, 54, 55, 56, 57] (by rfl) g_DIGITS)) (do_some (DE.toB de_int)) do_none)) (by rfl)))))))⟩
theorem sc_is_joint : FnScope N_is_joint ["one", "other"] (defScope s_is_joint) := ⟨rfl, rfl, rfl, by decide +kernel, rfl, by decide +kernel, by decide +kernel⟩
theorem ok_is_joint {f : Addr} {fd : FuncData} (F : Fun K "is_joint" "is_joint" s_is_joint f fd) (B : Blt mg) (c_is_ten : Cal P w K mg base "is_ten" 1 (PSp K m_is_ten)) : FnOk P w K mg base CX0 2 f fd ["one", "other"] (PSp K m_is_joint) := by
  have nd : N_is_joint.Nodup := sc_is_joint.nd
  refine defP (k := 1) (T := T_is_joint) F sc_is_joint (fun cdv A outer s H E hr => ?_) pure_is_joint
  have hc : (cxOf CX0 P w K mg base N_is_joint "is_joint" (defScope s_is_joint) f cdv A outer s H E).nox.calm = true := rfl
  have hu := hr.units
  have hv := hv_of hr
  have hu1 := hu1_of hr
  exact ⟨_, (ds_one (ds_ret (DE.x (de_and (de_cal c_is_ten hr (da_cons (de_var 0) da_nil)) (de_and (de_cmp (opr_eq hu) (DE.toB (de_callB cr_len (by rfl) B.len (by decide +kernel) (dab_cons (db_var 1) dab_nil))) (DE.toB de_int) (nomark _)) (de_one (de_cmp (opr_ne hu) (db_var 1) (DE.toB (de_strE [48])) (nomark _))))))))⟩
theorem sc_digits_of : FnScope N_digits_of ["word"] (defScope s_digits_of) := ⟨rfl, rfl, rfl, by decide +kernel, rfl, by decide +kernel, by decide +kernel⟩
theorem ok_digits_of {f : Addr} {fd : FuncData} (F : Fun K "digits_of" "digits_of" s_digits_of f fd) : FnOk P w K mg base CX0 1 f fd ["word"] (PSp K m_digits_of) := by
  have nd : N_digits_of.Nodup := sc_digits_of.nd
  refine defP (k := 0) (T := T_digits_of) F sc_digits_of (fun cdv A outer s H E hr => ?_) pure_digits_of
  have hc : (cxOf CX0 P w K mg base N_digits_of "digits_of" (defScope s_digits_of) f cdv A outer s H E).nox.calm = true := rfl
  have hu := hr.units
  have hv := hv_of hr
  have hu1 := hu1_of hr
  exact ⟨_, (ds_cons (ds_if (dt_cmp (opr_eq hu) (DE.toB (de_ix (db_var 0) (DE.toB de_int))) (DE.toB (de_strE [100])) (nomark _)) (ds_one (ds_ret (DE.x (de_op opr_mul (DE.toB (de_ix (db_var 0) (DE.toB (de_neg de_int)))) (DE.toB de_int))))) ds_nil)
    (ds_one (ds_ret (DE.x (de_ifE (dt_cmp (opr_eq hu) (DE.toB (de_ix (db_var 0) (DE.toB de_int))) (DE.toB (de_strE [116])) (nomark _)) (de_op opr_mul (DE.toB (de_ix (db_var 0) (DE.toB (de_neg de_int)))) (DE.toB de_int)) (de_var 0))))))⟩
theorem sc_is_manner : FnScope N_is_manner ["value"] (defScope s_is_manner) := ⟨rfl, rfl, rfl, by decide +kernel, rfl, by decide +kernel, by decide +kernel⟩
theorem ok_is_manner {f : Addr} {fd : FuncData} (F : Fun K "is_manner" "is_manner" s_is_manner f fd) (B : Blt mg) (c_is_word : Cal P w K mg base "is_word" 2 (PSp K m_is_word)) : FnOk P w K mg base CX0 3 f fd ["value"] (PSp K m_is_manner) := by
  have nd : N_is_manner.Nodup := sc_is_manner.nd
  refine defP (k := 2) (T := T_is_manner) F sc_is_manner (fun cdv A outer s H E hr => ?_) pure_is_manner
  have hc : (cxOf CX0 P w K mg base N_is_manner "is_manner" (defScope s_is_manner) f cdv A outer s H E).nox.calm = true := rfl
  have hu := hr.units
  have hv := hv_of hr
  have hu1 := hu1_of hr
  exact ⟨_, (ds_cons (ds_if (DW.t (dw_or (dt_not (dt_tru (DE.toB (db_isi (T := "tuple") (db_var 0) B.isinstance B.tuple)))) (dw_or (dt_not (dt_chain opr_le opr_le (DE.toB de_int) (DE.toB (de_callB cr_len (by rfl) B.len (by decide +kernel) (dab_cons (db_var 0) dab_nil))) (DE.toB de_int))) (dw_or1 (dt_not (dt_tru (DE.toB (de_callB (cr_allD hc) (by rfl) B.all (by decide +kernel) (dab_cons (DE.toB (DL.toE (dl_lcV [("word", 1)] hc nd (blkOk_by (own := [("word", 1)]) (N := N_is_manner) (sc := defScope s_is_manner) (by decide +kernel)) (di_seq (de_var 0)) (by exact fun _ _ _ _ _ => DG.kk (dg_name 1 nd)) (by exact fun _ _ _ _ _ => DTs.kk dts_nil) (by exact fun _ _ _ _ _ => DE.kk (de_cal c_is_word hr (da_cons (de_var 1) da_nil)))))) dab_nil))))))))) (ds_one (ds_ret (DE.x de_bl))) ds_nil)
    (ds_one (ds_ret (DE.x (de_callB (cr_allD hc) (by rfl) B.all (by decide +kernel) (dab_cons (DE.toB (DL.toE (dl_lcV [("one", 2), ("other", 3)] hc nd (blkOk_by (own := [("one", 2), ("other", 3)]) (N := N_is_manner) (sc := defScope s_is_manner) (by decide +kernel)) (di_zip (by rfl) B.zip (da_cons (de_var 0) (da_cons (de_sl (db_var 0) (do_some (DE.toB de_int)) do_none) da_nil))) (by exact fun _ _ _ _ _ => DG.kk (dg_tup hc (dgs_cons 2 nd (dgs_cons 3 nd dgs_nil)))) (by exact fun _ _ _ _ _ => DTs.kk dts_nil) (by exact fun _ _ _ _ _ => DE.kk (de_cmp opr_lt (db_var 2) (db_var 3) (nomark _)))))) dab_nil))))))⟩
theorem sc_need_manner : FnScope N_need_manner ["manner"] (defScope s_need_manner) := ⟨rfl, rfl, rfl, by decide +kernel, rfl, by decide +kernel, by decide +kernel⟩
theorem ok_need_manner {ec : Str → Addr} {f : Addr} {fd : FuncData} (F : Fun K "need_manner" "need_manner" s_need_manner f fd) (e_InvalidManner : ErrC K mg "InvalidManner" (ec "InvalidManner")) (c_is_manner : Cal P w K mg base "is_manner" 3 (PSp K m_is_manner)) : FnOk P w K mg base (L2N.CX P w) 4 f fd ["manner"] (XSp K ec m_need_manner) := by
  have nd : N_need_manner.Nodup := sc_need_manner.nd
  refine defX (k := 3) (T := T_need_manner) F sc_need_manner (fun cdv A outer s H E hr tk => ?_) pure_need_manner
  have hc : (cxOf (L2N.CX P w) P w K mg base N_need_manner "need_manner" (defScope s_need_manner) f cdv A outer s H E).nox.calm = true := rfl
  have hu := hr.units
  have hv := hv_of hr
  have hu1 := hu1_of hr
  exact ⟨_, (dsx_one (dx1_if (dt_not (dt_tru (DE.toB (de_cal c_is_manner hr (da_cons (de_var 0) da_nil))))) (dsx_one (dx1_raise rfl tk e_InvalidManner)) (dsx_nox ds_nil)))⟩
theorem sc_is_figures : FnScope N_is_figures ["value"] (defScope s_is_figures) := ⟨rfl, rfl, rfl, by decide +kernel, rfl, by decide +kernel, by decide +kernel⟩
theorem ok_is_figures {f : Addr} {fd : FuncData} (F : Fun K "is_figures" "is_figures" s_is_figures f fd) (B : Blt mg) {tk_DIGITS : Tok} (g_DIGITS : mg "DIGITS" = some (.str "0123456789" tk_DIGITS)) : FnOk P w K mg base CX0 1 f fd ["value"] (PSp K m_is_figures) := by
  have nd : N_is_figures.Nodup := sc_is_figures.nd
  refine defP (k := 0) (T := T_is_figures) F sc_is_figures (fun cdv A outer s H E hr => ?_) pure_is_figures
  have hc : (cxOf CX0 P w K mg base N_is_figures "is_figures" (defScope s_is_figures) f cdv A outer s H E).nox.calm = true := rfl
  have hu := hr.units
  have hv := hv_of hr
  have hu1 := hu1_of hr
  exact ⟨_, (ds_one (ds_ret (DE.x (de_and (db_isi (T := "str") (db_var 0) B.isinstance B.str) (de_and (de_cmp opr_le (DE.toB (de_callB cr_len (by rfl) B.len (by decide +kernel) (dab_cons (db_var 0) dab_nil))) (DE.toB de_int) (nomark _)) (de_one (de_callB (cr_allD hc) (by rfl) B.all (by decide +kernel) (dab_cons (DE.toB (DL.toE (dl_lcV [("sign", 1)] hc nd (blkOk_by (own := [("sign", 1)]) (N := N_is_figures) (sc := defScope s_is_figures) (by decide +kernel)) (di_seq (de_var 0)) (by exact fun _ _ _ _ _ => DG.kk (dg_name 1 nd)) (by exact fun _ _ _ _ _ => DTs.kk dts_nil) (by exact fun _ _ _ _ _ => DE.kk (de_cmp (opr_in hv) (db_var 1) (DE.toB (de_gstrE [48, 49, 50, 51, 52, 53, 54, 55, 56, 57] (by rfl) g_DIGITS)) (by rfl)))))) dab_nil))))))))⟩
theorem sc_need_figures : FnScope N_need_figures ["figures"] (defScope s_need_figures) := ⟨rfl, rfl, rfl, by decide +kernel, rfl, by decide +kernel, by decide +kernel⟩
theorem ok_need_figures {ec : Str → Addr} {f : Addr} {fd : FuncData} (F : Fun K "need_figures" "need_figures" s_need_figures f fd) (e_InvalidDigits : ErrC K mg "InvalidDigits" (ec "InvalidDigits")) (c_is_figures : Cal P w K mg base "is_figures" 1 (PSp K m_is_figures)) : FnOk P w K mg base (L2N.CX P w) 2 f fd ["figures"] (XSp K ec m_need_figures) := by
  have nd : N_need_figures.Nodup := sc_need_figures.nd
  refine defX (k := 1) (T := T_need_figures) F sc_need_figures (fun cdv A outer s H E hr tk => ?_) pure_need_figures
  have hc : (cxOf (L2N.CX P w) P w K mg base N_need_figures "need_figures" (defScope s_need_figures) f cdv A outer s H E).nox.calm = true := rfl
  have hu := hr.units
  have hv := hv_of hr
  have hu1 := hu1_of hr
  exact ⟨_, (dsx_one (dx1_if (dt_not (dt_tru (DE.toB (de_cal c_is_figures hr (da_cons (de_var 0) da_nil))))) (dsx_one (dx1_raise rfl tk e_InvalidDigits)) (dsx_nox ds_nil)))⟩
theorem sc_pieces_of : FnScope N_pieces_of ["words"] (defScope s_pieces_of) := ⟨rfl, rfl, rfl, by decide +kernel, rfl, by decide +kernel, by decide +kernel⟩
theorem ok_pieces_of {f : Addr} {fd : FuncData} (F : Fun K "pieces_of" "pieces_of" s_pieces_of f fd) (c_digits_of : Cal P w K mg base "digits_of" 1 (PSp K m_digits_of)) (c_is_joint : Cal P w K mg base "is_joint" 2 (PSp K m_is_joint)) : FnOk P w K mg base CX0 3 f fd ["words"] (PSp K m_pieces_of) := by
  have nd : N_pieces_of.Nodup := sc_pieces_of.nd
  refine defP (k := 2) (T := T_pieces_of) F sc_pieces_of (fun cdv A outer s H E hr => ?_) pure_pieces_of
  have hc : (cxOf CX0 P w K mg base N_pieces_of "pieces_of" (defScope s_pieces_of) f cdv A outer s H E).nox.calm = true := rfl
  have hu := hr.units
  have hv := hv_of hr
  have hu1 := hu1_of hr
  exact ⟨_, (ds_cons (ds_frzB 1 (ds_setLcV [("word", 2)] hc nd (blkOk_by (own := [("word", 2)]) (N := N_pieces_of) (sc := defScope s_pieces_of) (by decide +kernel)) (di_seq (de_var 0)) (by exact fun _ _ _ _ _ => DG.kk (dg_name 2 nd)) (by exact fun _ _ _ _ _ => DTs.kk dts_nil) (by exact fun _ _ _ _ _ => DE.kk (de_cal c_digits_of hr (da_cons (de_var 2) da_nil))) (sw_true rfl rfl rfl (by decide +kernel))))
    (ds_cons (ds_for hc (di_seq (de_var 0)) (dg_name 2 nd) (ds_one (ds_set 1 nd (DE.x (de_op opr_addA (db_var 1) (DE.toB (DL.toE (dl_lcV [("other", 3)] hc nd (blkOk_by (own := [("other", 3)]) (N := N_pieces_of) (sc := defScope s_pieces_of) (by decide +kernel)) (di_seq (de_var 0)) (by exact fun _ _ _ _ _ => DG.kk (dg_name 3 nd)) (by exact fun _ _ _ _ _ => DTs.kk (dts_one (dt_tru (DE.toB (de_cal c_is_joint hr (da_cons (de_var 2) (da_cons (de_var 3) da_nil))))))) (by exact fun _ _ _ _ _ => DE.kk (de_op opr_addA (DE.toB (de_ix (db_var 2) (DE.toB de_int))) (db_var 3)))))))))))
    (ds_one (ds_ret (DE.x (de_var 1))))))⟩
theorem sc_ways_of : FnScope N_ways_of ["words", "figures"] (defScope s_ways_of) := ⟨rfl, rfl, rfl, by decide +kernel, rfl, by decide +kernel, by decide +kernel⟩
theorem ok_ways_of {f : Addr} {fd : FuncData} (F : Fun K "ways_of" "ways_of" s_ways_of f fd) (B : Blt mg) (c_pieces_of : Cal P w K mg base "pieces_of" 3 (PSp K m_pieces_of)) : FnOk P w K mg base CX0 4 f fd ["words", "figures"] (PSp K m_ways_of) := by
  have nd : N_ways_of.Nodup := sc_ways_of.nd
  refine defP (k := 3) (T := T_ways_of) F sc_ways_of (fun cdv A outer s H E hr => ?_) pure_ways_of
  have hc : (cxOf CX0 P w K mg base N_ways_of "ways_of" (defScope s_ways_of) f cdv A outer s H E).nox.calm = true := rfl
  have hu := hr.units
  have hv := hv_of hr
  have hu1 := hu1_of hr
  exact ⟨_, (ds_cons (ds_set 2 nd (DE.x (de_cal c_pieces_of hr (da_cons (de_var 0) da_nil))))
    (ds_cons (ds_set 3 nd (DL.x (dl_lst da_nil)))
    (ds_cons (ds_app 3 de_int)
    (ds_cons (ds_for hc (di_rng2 (by rfl) B.range (da_cons de_int (da_cons (de_op opr_addA (DE.toB (de_callB cr_len (by rfl) B.len (by decide +kernel) (dab_cons (db_var 1) dab_nil))) (DE.toB de_int)) da_nil))) (dg_name 4 nd) (ds_one (ds_app 3 (de_callB (cr_sumD hc) (by rfl) B.sum (by decide +kernel) (dab_cons (DE.toB (DL.toE (dl_lcV [("piece", 5)] hc nd (blkOk_by (own := [("piece", 5)]) (N := N_ways_of) (sc := defScope s_ways_of) (by decide +kernel)) (di_seq (de_var 2)) (by exact fun _ _ _ _ _ => DG.kk (dg_name 5 nd)) (by exact fun _ _ _ _ _ => DTs.kk (dts_one (dt_tru (DE.toB (de_ends (DE.toB (de_sl (db_var 1) do_none (do_some (db_var 4)))) (db_var 5)))))) (by exact fun _ _ _ _ _ => DE.kk (de_ix (db_var 3) (DE.toB (de_op opr_sub (db_var 4) (DE.toB (de_callB cr_len (by rfl) B.len (by decide +kernel) (dab_cons (db_var 5) dab_nil)))))))))) dab_nil)))))
    (ds_one (ds_ret (DE.x (de_ix (db_var 3) (DE.toB (de_callB cr_len (by rfl) B.len (by decide +kernel) (dab_cons (db_var 1) dab_nil)))))))))))⟩
theorem sc_can_say : FnScope N_can_say ["manner", "figures"] (defScope s_can_say) := ⟨rfl, rfl, rfl, by decide +kernel, rfl, by decide +kernel, by decide +kernel⟩
theorem ok_can_say {ec : Str → Addr} {f : Addr} {fd : FuncData} (F : Fun K "can_say" "can_say" s_can_say f fd) (c_need_manner : CalX P w K mg base "need_manner" 4 (XSp K ec m_need_manner)) (c_need_figures : CalX P w K mg base "need_figures" 2 (XSp K ec m_need_figures)) (c_ways_of : Cal P w K mg base "ways_of" 4 (PSp K m_ways_of)) : FnOk P w K mg base (L2N.CX P w) 5 f fd ["manner", "figures"] (XSp K ec m_can_say) := by
  have nd : N_can_say.Nodup := sc_can_say.nd
  refine defX (k := 4) (T := T_can_say) F sc_can_say (fun cdv A outer s H E hr tk => ?_) pure_can_say
  have hc : (cxOf (L2N.CX P w) P w K mg base N_can_say "can_say" (defScope s_can_say) f cdv A outer s H E).nox.calm = true := rfl
  have hu := hr.units
  have hv := hv_of hr
  have hu1 := hu1_of hr
  exact ⟨_, (dsx_cons (dx1_expr (dex_cal c_need_manner hr (L2N.passes_call tk fun _ _ _ _ h => h) (da_cons (de_var 0) da_nil)))
    (dsx_cons (dx1_expr (dex_cal c_need_figures hr (L2N.passes_call tk fun _ _ _ _ h => h) (da_cons (de_var 1) da_nil)))
    (dsx_nox (ds_one (ds_ret (DE.x (de_cmp opr_gt (DE.toB (de_cal c_ways_of hr (da_cons (de_var 0) (da_cons (de_var 1) da_nil)))) (DE.toB de_int) (nomark _))))))))⟩
theorem sc__law_cell : FnScope N__law_cell ["script", "k"] (defScope s__law_cell) := ⟨rfl, rfl, rfl, by decide +kernel, rfl, by decide +kernel, by decide +kernel⟩
theorem ok__law_cell {f : Addr} {fd : FuncData} (F : Fun K "_law_cell" "_law_cell" s__law_cell f fd) (B : Blt mg) : FnOk P w K mg base CX0 1 f fd ["script", "k"] (PSp K m__law_cell) := by
  have nd : N__law_cell.Nodup := sc__law_cell.nd
  refine defP (k := 0) (T := T__law_cell) F sc__law_cell (fun cdv A outer s H E hr => ?_) pure__law_cell
  have hc : (cxOf CX0 P w K mg base N__law_cell "_law_cell" (defScope s__law_cell) f cdv A outer s H E).nox.calm = true := rfl
  have hu := hr.units
  have hv := hv_of hr
  have hu1 := hu1_of hr
  exact ⟨_, (ds_cons (ds_if (dt_cmp opr_lt (db_var 1) (DE.toB (de_callB cr_len (by rfl) B.len (by decide +kernel) (dab_cons (db_var 0) dab_nil))) (nomark _)) (ds_one (ds_ret (DE.x (de_ix (db_var 0) (db_var 1))))) ds_nil)
    (ds_cons (ds_if (dt_cmp (opr_eq hu) (DE.toB (de_callB cr_len (by rfl) B.len (by decide +kernel) (dab_cons (db_var 0) dab_nil))) (DE.toB de_int) (nomark _)) (ds_one (ds_ret (DE.x (de_op opr_addA (DE.toB (de_op opr_mul (DE.toB de_int) (db_var 1))) (DE.toB de_int))))) ds_nil)
    (ds_one (ds_ret (DE.x (de_op opr_addA (DE.toB (de_op opr_mod (DE.toB (de_ix (db_var 0) (DE.toB (de_op opr_mod (db_var 1) (DE.toB (de_callB cr_len (by rfl) B.len (by decide +kernel) (dab_cons (db_var 0) dab_nil))))))) (DE.toB de_int))) (DE.toB (de_op opr_mul (DE.toB de_int) (db_var 1)))))))))⟩
theorem sc__law_draws : FnScope N__law_draws ["script", "k", "many", "base"] (defScope s__law_draws) := ⟨rfl, rfl, rfl, by decide +kernel, rfl, by decide +kernel, by decide +kernel⟩
theorem ok__law_draws {f : Addr} {fd : FuncData} (F : Fun K "_law_draws" "_law_draws" s__law_draws f fd) (B : Blt mg) (c__law_cell : Cal P w K mg base "_law_cell" 1 (PSp K m__law_cell)) : FnOk P w K mg base CX0 2 f fd ["script", "k", "many", "base"] (LSp K m__law_draws) := by
  have nd : N__law_draws.Nodup := sc__law_draws.nd
  refine defL (k := 1) (T := T__law_draws) F sc__law_draws (fun cdv A outer s H E hr => ?_) pure__law_draws
  have hc : (cxOf CX0 P w K mg base N__law_draws "_law_draws" (defScope s__law_draws) f cdv A outer s H E).nox.calm = true := rfl
  have hu := hr.units
  have hv := hv_of hr
  have hu1 := hu1_of hr
  exact ⟨_, (ds_cons (ds_set 4 nd (DE.x (de_tup (da_cons de_int (da_cons de_int (da_cons de_int (da_cons de_int (da_cons de_int (da_cons de_int (da_cons de_int (da_cons de_int da_nil)))))))))))
    (ds_cons (ds_set 5 nd (DE.x (de_cal c__law_cell hr (da_cons (de_var 0) (da_cons (de_var 1) da_nil)))))
    (ds_cons (ds_set 6 nd (DE.x de_int))
    (ds_cons (ds_if (dt_cmp opr_ge (db_var 5) (DE.toB (de_op opr_pow (DE.toB de_int) (DE.toB de_int))) (nomark _)) (ds_one (ds_set 6 nd (DE.x (de_var 5)))) ds_nil)
    (ds_cons (ds_set 7 nd (DL.x (dl_lst da_nil)))
    (ds_cons (ds_for hc (di_rng1 (by rfl) B.range (da_cons (de_var 2) da_nil)) (dg_name 8 nd) (ds_cons (ds_set 9 nd (DE.x (de_op opr_mul (DE.toB (de_op opr_mod (db_var 5) (DE.toB (de_ix (db_var 4) (DE.toB (de_op opr_mod (db_var 8) (DE.toB de_int))))))) (DE.toB (de_op opr_addA (DE.toB de_int) (DE.toB (de_op opr_mul (DE.toB (de_op opr_mul (DE.toB de_int) (db_var 8))) (db_var 8))))))))
    (ds_cons (ds_set 9 nd (DE.x (de_op opr_addA (DE.toB (de_op opr_addA (db_var 9) (DE.toB (de_op opr_mul (DE.toB (de_op opr_mul (DE.toB de_int) (DE.toB (de_op opr_addA (db_var 8) (DE.toB de_int))))) (DE.toB (de_op opr_addA (db_var 8) (DE.toB de_int))))))) (DE.toB (de_op opr_mul (DE.toB de_int) (db_var 1))))))
    (ds_cons (ds_set 9 nd (DE.x (de_op opr_mod (db_var 9) (DE.toB (de_ix (db_var 4) (DE.toB (de_op opr_mod (DE.toB (de_op opr_addA (DE.toB (de_op opr_mul (DE.toB de_int) (db_var 8))) (db_var 1))) (DE.toB de_int))))))))
    (ds_cons (ds_set 9 nd (DE.x (de_op opr_mod (DE.toB (de_op opr_mul (DE.toB (de_op opr_mul (db_var 9) (db_var 9))) (db_var 9))) (DE.toB (de_ix (db_var 4) (DE.toB (de_op opr_mod (DE.toB (de_op opr_addA (db_var 8) (DE.toB de_int))) (DE.toB de_int))))))))
    (ds_cons (ds_if (dt_cmp opr_gt (db_var 6) (DE.toB de_int) (nomark _)) (ds_one (ds_set 9 nd (DE.x (de_var 6)))) ds_nil)
    (ds_cons (ds_app 7 (de_op opr_mod (db_var 9) (db_var 3)))
    (ds_one (ds_set 6 nd (DE.x (de_op opr_fdiv (db_var 6) (db_var 3))))))))))))
    (ds_one (ds_retV 7))))))))⟩
theorem sc__law_bag : FnScope N__law_bag ["script", "k"] (defScope s__law_bag) := ⟨rfl, rfl, rfl, by decide +kernel, rfl, by decide +kernel, by decide +kernel⟩
theorem ok__law_bag {f : Addr} {fd : FuncData} (F : Fun K "_law_bag" "_law_bag" s__law_bag f fd) (c__law_draws : Cal P w K mg base "_law_draws" 2 (LSp K m__law_draws)) : FnOk P w K mg base CX0 3 f fd ["script", "k"] (LSp K m__law_bag) := by
  have nd : N__law_bag.Nodup := sc__law_bag.nd
  refine defL (k := 2) (T := T__law_bag) F sc__law_bag (fun cdv A outer s H E hr => ?_) pure__law_bag
  have hc : (cxOf CX0 P w K mg base N__law_bag "_law_bag" (defScope s__law_bag) f cdv A outer s H E).nox.calm = true := rfl
  have hu := hr.units
  have hv := hv_of hr
  have hu1 := hu1_of hr
  exact ⟨_, (ds_one (ds_ret (DL.x (dl_cal c__law_draws hr (da_cons (de_var 0) (da_cons (de_var 1) (da_cons de_int (da_cons de_int da_nil))))))))⟩
theorem sc__law_take : FnScope N__law_take ["bag", "many"] (defScope s__law_take) := ⟨rfl, rfl, rfl, by decide +kernel, rfl, by decide +kernel, by decide +kernel⟩
theorem ok__law_take {f : Addr} {fd : FuncData} (F : Fun K "_law_take" "_law_take" s__law_take f fd) (B : Blt mg) : FnOk P w K mg base CX0 1 f fd ["bag", "many"] (BSp K m__law_take) := by
  have nd : N__law_take.Nodup := sc__law_take.nd
  refine defB (k := 0) (T := T__law_take) F sc__law_take (fun cdv A outer s H E hr => ?_) pure__law_take
  have hc : (cxOf CX0 P w K mg base N__law_take "_law_take" (defScope s__law_take) f cdv A outer s H E).nox.calm = true := rfl
  have hu := hr.units
  have hv := hv_of hr
  have hu1 := hu1_of hr
  exact ⟨_, (dsb_cons (ds_setZ 2 nd (dz_if (dt_cmp (opr_ne hu) (db_var 0) (DE.toB (DL.toE (dl_lst da_nil))) (nomark _)) (dz_pop 0 de_int) (dz_pure de_int)))
    (dsb_ret (dz_pure (de_op opr_mod (DE.toB (de_callTy cr_int (by rfl) B.int (by decide +kernel) (dab_cons (db_var 2) dab_nil))) (db_var 1)))))⟩
theorem sc__law_choice : FnScope N__law_choice ["bag", "some"] (defScope s__law_choice) := ⟨rfl, rfl, rfl, by decide +kernel, rfl, by decide +kernel, by decide +kernel⟩
theorem ok__law_choice {f : Addr} {fd : FuncData} (F : Fun K "_law_choice" "_law_choice" s__law_choice f fd) (B : Blt mg) (c__law_take : Cal P w K mg base "_law_take" 1 (BSp K m__law_take)) : FnOk P w K mg base CX0 2 f fd ["bag", "some"] (BSp K m__law_choice) := by
  have nd : N__law_choice.Nodup := sc__law_choice.nd
  refine defB (k := 1) (T := T__law_choice) F sc__law_choice (fun cdv A outer s H E hr => ?_) pure__law_choice
  have hc : (cxOf CX0 P w K mg base N__law_choice "_law_choice" (defScope s__law_choice) f cdv A outer s H E).nox.calm = true := rfl
  have hu := hr.units
  have hv := hv_of hr
  have hu1 := hu1_of hr
  exact ⟨_, (dsb_ret (dz_ix (de_var 1) (dz_cal 0 c__law_take hr (da_cons (de_callB cr_len (by rfl) B.len (by decide +kernel) (dab_cons (db_var 1) dab_nil)) da_nil))))⟩
theorem sc__law_menu : FnScope N__law_menu ["bag"] (defScope s__law_menu) := ⟨rfl, rfl, rfl, by decide +kernel, rfl, by decide +kernel, by decide +kernel⟩
theorem ok__law_menu {f : Addr} {fd : FuncData} (F : Fun K "_law_menu" "_law_menu" s__law_menu f fd) (c__law_choice : Cal P w K mg base "_law_choice" 2 (BSp K m__law_choice)) : FnOk P w K mg base CX0 3 f fd ["bag"] (BSp K m__law_menu) := by
  have nd : N__law_menu.Nodup := sc__law_menu.nd
  refine defB (k := 2) (T := T__law_menu) F sc__law_menu (fun cdv A outer s H E hr => ?_) pure__law_menu
  have hc : (cxOf CX0 P w K mg base N__law_menu "_law_menu" (defScope s__law_menu) f cdv A outer s H E).nox.calm = true := rfl
  have hu := hr.units
  have hv := hv_of hr
  have hu1 := hu1_of hr
  exact ⟨_, (dsb_cons (ds_setZ 1 nd (dz_cal 0 c__law_choice hr (da_cons (DL.toE (dl_lst (da_cons (de_strE [50]) (da_cons (de_strE [50, 53]) (da_cons (de_strE [50, 51, 53]) (da_cons (de_strE [48, 49, 50, 51]) (da_cons (de_strE [53, 48]) (da_cons (de_strE [55]) da_nil)))))))) da_nil)))
    (dsb_cons (ds_set 2 nd (DE.x (DL.toE (dl_lst da_nil))))
    (dsb_cons (ds_for hc (di_seq (de_var 1)) (dg_name 3 nd) (ds_cons (ds_set 2 nd (DE.x (de_op opr_addA (db_var 2) (DE.toB (DL.toE (dl_lst (da_cons (de_var 3) (da_cons (de_var 3) (da_cons (de_op opr_addA (DE.toB (de_strE [100, 111, 117, 98, 108, 101, 32])) (db_var 3)) (da_cons (de_op opr_addA (DE.toB (de_strE [116, 114, 105, 112, 108, 101, 32])) (db_var 3)) (da_cons (de_op opr_addA (DE.toB (de_strE [49])) (db_var 3)) da_nil)))))))))))
    (ds_one (ds_if (dt_cmp (opr_notin hv) (db_var 3) (DE.toB (de_strE [48, 49])) (by rfl)) (ds_one (ds_set 2 nd (DE.x (de_op opr_addA (db_var 2) (DE.toB (DL.toE (dl_lst (da_cons (de_op opr_addA (db_var 3) (DE.toB (de_strE [48]))) (da_cons (de_op opr_addA (db_var 3) (DE.toB (de_strE [48]))) da_nil))))))))) ds_nil))))
    (dsb_ret (dz_pure (de_var 2))))))⟩
theorem sc__law_manner : FnScope N__law_manner ["bag", "most"] (defScope s__law_manner) := ⟨rfl, rfl, rfl, by decide +kernel, rfl, by decide +kernel, by decide +kernel⟩
theorem ok__law_manner {f : Addr} {fd : FuncData} (F : Fun K "_law_manner" "_law_manner" s__law_manner f fd) (B : Blt mg) (c__law_menu : Cal P w K mg base "_law_menu" 3 (BSp K m__law_menu)) (c__law_take : Cal P w K mg base "_law_take" 1 (BSp K m__law_take)) (c__law_choice : Cal P w K mg base "_law_choice" 2 (BSp K m__law_choice)) : FnOk P w K mg base CX0 4 f fd ["bag", "most"] (BSp K m__law_manner) := by
  have nd : N__law_manner.Nodup := sc__law_manner.nd
  refine defB (k := 3) (T := T__law_manner) F sc__law_manner (fun cdv A outer s H E hr => ?_) pure__law_manner
  have hc : (cxOf CX0 P w K mg base N__law_manner "_law_manner" (defScope s__law_manner) f cdv A outer s H E).nox.calm = true := rfl
  have hu := hr.units
  have hv := hv_of hr
  have hu1 := hu1_of hr
  exact ⟨_, (dsb_cons (ds_parZ 2 3 hc nd (daz_cons (dz_cal 0 c__law_menu hr da_nil) (daz_pure (dax_cons (DE.x (DL.toE (dl_lst da_nil))) dax_nil))))
    (dsb_cons (ds_forZ hc (diz_rng1 (by rfl) B.range (dz_op opr_addA de_int (dz_cal 0 c__law_take hr (da_cons (de_var 1) da_nil)))) (dg_name 4 nd) (ds_cons (ds_setZ 5 nd (dz_cal 0 c__law_choice hr (da_cons (de_var 2) da_nil)))
    (ds_one (ds_set 3 nd (DE.x (de_op opr_addA (db_var 3) (DE.toB (de_ifE (dt_cmp (opr_notin hv) (db_var 5) (db_var 3) (by rfl)) (DL.toE (dl_lst (da_cons (de_var 5) da_nil))) (DL.toE (dl_lst da_nil))))))))))
    (dsb_ret (dz_pure (de_callTy (cr_tupleS hc) (by rfl) B.tuple (by decide +kernel) (dab_cons (DE.toB (DL.toE (dl_callB (cr_sortedSA hc ⟨_, hr⟩) (by rfl) B.sorted (by decide +kernel) (dab_cons (db_var 3) dab_nil)))) dab_nil))))))⟩
theorem sc__law_named_error : FnScope N__law_named_error ["e"] (defScope s__law_named_error) := ⟨rfl, rfl, rfl, by decide +kernel, rfl, by decide +kernel, by decide +kernel⟩
theorem ok__law_named_error (n t : Str) (ht : txA n = some t) {C f : Addr} {fd : FuncData} (F : Fun K "_law_named_error" "_law_named_error" s__law_named_error f fd) (B : Blt mg) (hx : ExcC K C) (i_InvalidManner : IsA K mg C "InvalidManner" (isEB n "InvalidManner")) (i_InvalidDigits : IsA K mg C "InvalidDigits" (isEB n "InvalidDigits")) (i_InvalidWord : IsA K mg C "InvalidWord" (isEB n "InvalidWord")) (i_NothingToUndo : IsA K mg C "NothingToUndo" (isEB n "NothingToUndo")) (i_TooMany : IsA K mg C "TooMany" (isEB n "TooMany")) (i_InvalidLength : IsA K mg C "InvalidLength" (isEB n "InvalidLength")) (i_ValueError : IsA K mg C "ValueError" (isEB n "ValueError")) : FnE P w K mg base 1 f fd ["e"] C t := by
  have nd : N__law_named_error.Nodup := sc__law_named_error.nd
  refine defE (k := 0) (T := T__law_named_error n) F sc__law_named_error (txA_ok ht) (fun cdv A outer s H p hz hot => ?_) (pure__law_named_error n t ht)
  have hcH : L2H.HotC (L2H.cxH CX0 P w K mg base N__law_named_error "_law_named_error" (defScope s__law_named_error) f cdv A outer s H E0 p) := ⟨p, hot, List.mem_cons_self⟩
  have hd : ∃ vs, p.2.data = .fields vs := let ⟨_, vs, e, _⟩ := hot; ⟨vs, e⟩
  exact ⟨_, (ds_cons (ds_set 1 nd (DE.x (DL.toE (dl_lst (da_cons (de_isE (oe := p.2) 0 List.mem_cons_self hx hz hd i_InvalidWord B.isinstance) (da_cons (de_isE (oe := p.2) 0 List.mem_cons_self hx hz hd i_InvalidDigits B.isinstance) (da_cons (de_isE (oe := p.2) 0 List.mem_cons_self hx hz hd i_InvalidManner B.isinstance) da_nil)))))))
    (ds_cons (ds_set 1 nd (DE.x (de_op opr_addA (db_var 1) (DE.toB (DL.toE (dl_lst (da_cons (de_isE (oe := p.2) 0 List.mem_cons_self hx hz hd i_InvalidLength B.isinstance) (da_cons (de_isE (oe := p.2) 0 List.mem_cons_self hx hz hd i_TooMany B.isinstance) (da_cons (de_isE (oe := p.2) 0 List.mem_cons_self hx hz hd i_NothingToUndo B.isinstance) da_nil)))))))))
    (ds_cons (ds_set 1 nd (DE.x (de_op opr_addA (db_var 1) (DE.toB (DL.toE (dl_lst (da_cons (de_isE (oe := p.2) 0 List.mem_cons_self hx hz hd i_ValueError B.isinstance) da_nil)))))))
    (ds_cons (ds_set 2 nd (DE.x (de_strE [119, 111, 114, 100, 32, 100, 105, 103, 105, 116, 115, 32, 109, 97, 110, 110, 101, 114, 32, 108, 101, 110, 103, 116, 104, 32, 109, 97, 110, 121, 32, 117, 110, 100, 111, 32, 118, 97, 108, 117, 101])))
    (ds_one (ds_ret (DE.x (de_join (DE.toB (de_strE [32])) (DE.toB (DL.toE (dl_lcW [("word", 3), ("good", 4)] hcH nd (blkOk_by (own := [("word", 3), ("good", 4)]) (N := N__law_named_error) (sc := defScope s__law_named_error) (by decide +kernel)) (di_zipW (by rfl) B.zip (da_cons (DL.toE (dl_split (db_var 2) (DE.toB (de_strE [32])))) (da_cons (de_var 1) da_nil))) (fun _ _ _ _ _ hw => dg_tupW hw (dgs_cons 3 nd (dgs_cons 4 nd dgs_nil))) (by exact fun _ _ _ _ _ => DTs.kk (dts_one (dt_tru (db_var 4)))) (by exact fun _ _ _ _ _ => DE.kk (de_var 3)))))))))))))⟩
theorem sc__law_error : FnScope N__law_error ["call"] (defScope s__law_error) := ⟨rfl, rfl, rfl, by decide +kernel, rfl, by decide +kernel, by decide +kernel⟩
theorem sc__law_truly : FnScope N__law_truly ["found", "due"] (defScope s__law_truly) := ⟨rfl, rfl, rfl, by decide +kernel, rfl, by decide +kernel, by decide +kernel⟩
theorem ok__law_truly {f : Addr} {fd : FuncData} (F : Fun K "_law_truly" "_law_truly" s__law_truly f fd) (B : Blt mg) : FnOk P w K mg base CX0 1 f fd ["found", "due"] (PSp K m__law_truly) := by
  have nd : N__law_truly.Nodup := sc__law_truly.nd
  refine defP (k := 0) (T := T__law_truly) F sc__law_truly (fun cdv A outer s H E hr => ?_) pure__law_truly
  have hc : (cxOf CX0 P w K mg base N__law_truly "_law_truly" (defScope s__law_truly) f cdv A outer s H E).nox.calm = true := rfl
  have hu := hr.units
  have hv := hv_of hr
  have hu1 := hu1_of hr
  exact ⟨_, (ds_one (ds_ret (DE.x (de_and (db_isi (T := "bool") (db_var 0) B.isinstance B.bool) (de_one (de_cmp (opr_eq hu) (db_var 0) (db_var 1) (nomark _)))))))⟩
theorem sc__law_all_words : FnScope N__law_all_words [] (defScope s__law_all_words) := ⟨rfl, rfl, rfl, by decide +kernel, rfl, by decide +kernel, by decide +kernel⟩
theorem ok__law_all_words {f : Addr} {fd : FuncData} (F : Fun K "_law_all_words" "_law_all_words" s__law_all_words f fd) : FnOk P w K mg base CX0 1 f fd [] (PSp K m__law_all_words) := by
  have nd : N__law_all_words.Nodup := sc__law_all_words.nd
  refine defP (k := 0) (T := T__law_all_words) F sc__law_all_words (fun cdv A outer s H E hr => ?_) pure__law_all_words
  have hc : (cxOf CX0 P w K mg base N__law_all_words "_law_all_words" (defScope s__law_all_words) f cdv A outer s H E).nox.calm = true := rfl
  have hu := hr.units
  have hv := hv_of hr
  have hu1 := hu1_of hr
  exact ⟨_, (ds_cons (ds_set 0 nd (DL.x (dl_lst da_nil)))
    (ds_cons (ds_for hc (di_seq (de_strE [48, 49, 50, 51, 52, 53, 54, 55, 56, 57])) (dg_name 1 nd) (ds_cons (ds_set 0 nd (DL.x (dl_op opl_cat (db_var 0) (DE.toB (DL.toE (dl_lst (da_cons (de_var 1) (da_cons (de_op opr_addA (DE.toB (de_strE [49])) (db_var 1)) (da_cons (de_op opr_addA (DE.toB (de_strE [100, 111, 117, 98, 108, 101, 32])) (db_var 1)) (da_cons (de_op opr_addA (DE.toB (de_strE [116, 114, 105, 112, 108, 101, 32])) (db_var 1)) da_nil))))))))))
    (ds_one (ds_if (dt_cmp (opr_notin hv) (db_var 1) (DE.toB (de_strE [48, 49])) (by rfl)) (ds_one (ds_app 0 (de_op opr_addA (db_var 1) (DE.toB (de_strE [48]))))) ds_nil))))
    (ds_one (ds_retV 0))))⟩
theorem sc__law_good : FnScope N__law_good ["value"] (defScope s__law_good) := ⟨rfl, rfl, rfl, by decide +kernel, rfl, by decide +kernel, by decide +kernel⟩
theorem ok__law_good {f : Addr} {fd : FuncData} (F : Fun K "_law_good" "_law_good" s__law_good f fd) (B : Blt mg) (c__law_all_words : Cal P w K mg base "_law_all_words" 1 (PSp K m__law_all_words)) : FnOk P w K mg base CX0 2 f fd ["value"] (PSp K m__law_good) := by
  have nd : N__law_good.Nodup := sc__law_good.nd
  refine defP (k := 1) (T := T__law_good) F sc__law_good (fun cdv A outer s H E hr => ?_) pure__law_good
  have hc : (cxOf CX0 P w K mg base N__law_good "_law_good" (defScope s__law_good) f cdv A outer s H E).nox.calm = true := rfl
  have hu := hr.units
  have hv := hv_of hr
  have hu1 := hu1_of hr
  exact ⟨_, (ds_cons (ds_if (DW.t (dw_or (dt_not (dt_tru (DE.toB (db_isi (T := "tuple") (db_var 0) B.isinstance B.tuple)))) (dw_or1 (dt_not (dt_chain opr_le opr_le (DE.toB de_int) (DE.toB (de_callB cr_len (by rfl) B.len (by decide +kernel) (dab_cons (db_var 0) dab_nil))) (DE.toB de_int)))))) (ds_one (ds_ret (DE.x de_bl))) ds_nil)
    (ds_cons (ds_if (dt_cmp (opr_ne hu) (DE.toB (DL.toE (dl_lcV [("word", 1)] hc nd (blkOk_by (own := [("word", 1)]) (N := N__law_good) (sc := defScope s__law_good) (by decide +kernel)) (di_seq (de_var 0)) (by exact fun _ _ _ _ _ => DG.kk (dg_name 1 nd)) (by exact fun _ _ _ _ _ => DTs.kk (dts_one (DW.t (dw_or (dt_not (dt_tru (DE.toB (db_isi (T := "str") (db_var 1) B.isinstance B.str)))) (dw_or1 (dt_cmp (opr_notin hv) (db_var 1) (DE.toB (de_cal0 c__law_all_words hr)) (by rfl))))))) (by exact fun _ _ _ _ _ => DE.kk (de_var 1))))) (DE.toB (DL.toE (dl_lst da_nil))) (nomark _)) (ds_one (ds_ret (DE.x de_bl))) ds_nil)
    (ds_one (ds_ret (DE.x (de_cmp (opr_eq hu) (DE.toB (DL.toE (dl_lcV [("k", 2)] hc nd (blkOk_by (own := [("k", 2)]) (N := N__law_good) (sc := defScope s__law_good) (by decide +kernel)) (di_rng1 (by rfl) B.range (da_cons (de_op opr_sub (DE.toB (de_callB cr_len (by rfl) B.len (by decide +kernel) (dab_cons (db_var 0) dab_nil))) (DE.toB de_int)) da_nil)) (by exact fun _ _ _ _ _ => DG.kk (dg_name 2 nd)) (by exact fun _ _ _ _ _ => DTs.kk (dts_one (dt_not (dt_cmp opr_lt (DE.toB (de_ix (db_var 0) (db_var 2))) (DE.toB (de_ix (db_var 0) (DE.toB (de_op opr_addA (db_var 2) (DE.toB de_int))))) (nomark _))))) (by exact fun _ _ _ _ _ => DE.kk (de_var 2))))) (DE.toB (DL.toE (dl_lst da_nil))) (nomark _)))))))⟩
theorem sc__law_spoilt : FnScope N__law_spoilt ["bag", "value"] (defScope s__law_spoilt) := ⟨rfl, rfl, rfl, by decide +kernel, rfl, by decide +kernel, by decide +kernel⟩
theorem ok__law_spoilt {f : Addr} {fd : FuncData} (F : Fun K "_law_spoilt" "_law_spoilt" s__law_spoilt f fd) (B : Blt mg) (c__law_take : Cal P w K mg base "_law_take" 1 (BSp K m__law_take)) (c__law_choice : Cal P w K mg base "_law_choice" 2 (BSp K m__law_choice)) : FnOk P w K mg base CX0 3 f fd ["bag", "value"] (BSp K m__law_spoilt) := by
  have nd : N__law_spoilt.Nodup := sc__law_spoilt.nd
  refine defB (k := 2) (T := T__law_spoilt) F sc__law_spoilt (fun cdv A outer s H E hr => ?_) pure__law_spoilt
  have hc : (cxOf CX0 P w K mg base N__law_spoilt "_law_spoilt" (defScope s__law_spoilt) f cdv A outer s H E).nox.calm = true := rfl
  have hu := hr.units
  have hv := hv_of hr
  have hu1 := hu1_of hr
  exact ⟨_, (dsb_cons (ds_parZ 2 3 hc nd (daz_cons (dz_cal 0 c__law_take hr (da_cons (de_callB cr_len (by rfl) B.len (by decide +kernel) (dab_cons (db_var 1) dab_nil)) da_nil)) (daz_cons (dz_cal 0 c__law_take hr (da_cons de_int da_nil)) (daz_pure dax_nil))))
    (dsb_cons (ds_setZ 4 nd (dz_cal 0 c__law_choice hr (da_cons (DL.toE (dl_lst (da_cons de_int (da_cons de_non (da_cons (de_strE []) (da_cons (de_strE [100, 111, 117, 98, 108, 101]) (da_cons (de_strE [100, 111, 117, 98, 108, 101, 32, 49, 48]) (da_cons (de_strE [48, 48]) (da_cons (de_strE [48, 49, 48]) (da_cons (de_strE [116, 114, 105, 112, 108, 101, 32, 53, 32]) (da_cons (de_tup (da_cons (de_strE [50]) da_nil)) (da_cons de_bl (da_cons (de_strE [57, 57]) da_nil))))))))))))) da_nil)))
    (dsb_cons (ds_set 5 nd (DE.x (DL.toE (dl_lst (da_cons (DL.toE (dl_callTy (cr_listS hc) (by rfl) B.list (by decide +kernel) (dab_cons (db_var 1) dab_nil))) (da_cons (de_op opr_addA (DE.toB (de_sl (db_var 1) do_none (do_some (db_var 2)))) (DE.toB (de_sl (db_var 1) (do_some (DE.toB (de_op opr_addA (db_var 2) (DE.toB de_int)))) do_none))) (da_cons (de_op opr_addA (db_var 1) (DE.toB (de_tup (da_cons (de_ix (db_var 1) (db_var 2)) da_nil)))) (da_cons (de_rev (de_var 1)) da_nil))))))))
    (dsb_cons (ds_set 5 nd (DE.x (de_op opr_addA (db_var 5) (DE.toB (DL.toE (dl_lst (da_cons (de_op opr_addA (DE.toB (de_op opr_addA (DE.toB (de_sl (db_var 1) do_none (do_some (db_var 2)))) (DE.toB (de_tup (da_cons (de_var 4) da_nil))))) (DE.toB (de_sl (db_var 1) (do_some (DE.toB (de_op opr_addA (db_var 2) (DE.toB de_int)))) do_none))) (da_cons (de_op opr_addA (db_var 1) (DE.toB (de_tup (da_cons (de_var 4) da_nil)))) (da_cons (de_callTy (cr_tupleS hc) (by rfl) B.tuple (by decide +kernel) (dab_cons (DE.toB (DL.toE (dl_callB (cr_sortedSA hc ⟨_, hr⟩) (by rfl) B.sorted (by decide +kernel) (dab_cons (DE.toB (de_op opr_addA (DE.toB (de_sl (db_var 1) do_none (do_some (db_var 2)))) (DE.toB (de_tup (da_cons (de_strE [56, 48]) da_nil))))) dab_nil)))) dab_nil)) da_nil)))))))))
    (dsb_ret (dz_pure (de_ix (DE.toB (de_op opr_addA (db_var 5) (DE.toB (DL.toE (dl_lst (da_cons (de_op opr_addA (DE.toB (de_op opr_addA (DE.toB (de_sl (db_var 1) do_none (do_some (db_var 2)))) (DE.toB (de_tup (da_cons (de_strE [116, 114, 105, 112, 108, 101, 32, 57]) da_nil))))) (DE.toB (de_sl (db_var 1) (do_some (db_var 2)) do_none))) da_nil)))))) (db_var 3))))))))⟩
theorem sc_law : FnScope N_law ["script"] (defScope s_law) := ⟨rfl, rfl, rfl, by decide +kernel, rfl, by decide +kernel, by decide +kernel⟩
theorem ok_law {ec : Str → Addr} {f c Pt : Addr} {fd : FuncData} (F : FunC K "law" "law" s_law f fd c) (B : Blt mg) (c__law_bag : Cal P w K mg base "_law_bag" 3 (LSp K m__law_bag)) (c__law_manner : Cal P w K mg base "_law_manner" 4 (BSp K m__law_manner)) (c_is_manner : Cal P w K mg base "is_manner" 3 (PSp K m_is_manner)) (c__law_spoilt : Cal P w K mg base "_law_spoilt" 3 (BSp K m__law_spoilt)) (c__law_good : Cal P w K mg base "_law_good" 2 (PSp K m__law_good)) (c__law_truly : Cal P w K mg base "_law_truly" 1 (PSp K m__law_truly)) (c_can_say : CalX P w K mg base "can_say" 5 (XSp K ec m_can_say)) (c__law_all_words : Cal P w K mg base "_law_all_words" 1 (PSp K m__law_all_words)) (TB : LamX.TabB base mg c Pt) {g__law_error : Addr} (D__law_error : LamDef P w K mg base "_law_error" "call" g__law_error 6 (TTerr tx_law ec)) : FnOk P w K mg base CX0 8 f fd ["script"] (PSpT [(Pt, "law.<locals>.<lambda>")] K m_law) := by
  have nd : N_law.Nodup := sc_law.nd
  refine defPT (k := 7) (T := T_law [(Pt, "law.<locals>.<lambda>")] tx_law) F sc_law (by decide) (fun A outer s H E hr => ?_) (pure_law _)
  have hc : (cxOf CX0 P w K mg base N_law "law" (defScope s_law) f (.ref c) A outer s H E).nox.calm = true := rfl
  have hu := hr.units
  have hv := hv_of hr
  have hu1 := hu1_of hr
  exact ⟨_, (ds_cons (ds_for hc (di_rng1 (by rfl) B.range (da_cons de_int da_nil)) (dg_name 1 nd) (ds_cons (ds_set 2 nd (DL.x (dl_cal c__law_bag hr (da_cons (de_var 0) (da_cons (de_var 1) da_nil)))))
    (ds_cons (ds_setZ 3 nd (dz_cal 2 c__law_manner hr (da_cons (de_ix (DE.toB (DL.toE (dl_lst (da_cons de_int (da_cons de_int da_nil))))) (DE.toB (de_op opr_mod (db_var 1) (DE.toB de_int)))) da_nil)))
    (ds_cons (ds_if (dt_cmp opr_isnt (DE.toB (de_cal c_is_manner hr (da_cons (de_var 3) da_nil))) (DE.toB de_bl) (nomark _)) (ds_one (ds_ret (DE.x de_bl))) ds_nil)
    (ds_cons (ds_for hc (di_rng1 (by rfl) B.range (da_cons de_int da_nil)) (dg_name 4 nd) (ds_cons (ds_setZ 5 nd (dz_cal 2 c__law_spoilt hr (da_cons (de_var 3) da_nil)))
    (ds_cons (ds_if (dt_not (dt_tru (DE.toB (de_cal c__law_truly hr (da_cons (de_cal c_is_manner hr (da_cons (de_var 5) da_nil)) (da_cons (de_cal c__law_good hr (da_cons (de_var 5) da_nil)) da_nil)))))) (ds_one (ds_ret (DE.x de_bl))) ds_nil)
    (ds_one (ds_if (dt_cmp (opr_ne hu) (DE.toB (de_lamE txOn_ok D__law_error TB (hr.mono (by decide)) (List.mem_singleton.mpr rfl) (fun _ _ _ _ _ _ _ hr2 => (dex_cal c_can_say hr2 (L2N.passes_call takes_lam fun _ _ _ _ h => h) (da_cons (de_var 5) (da_cons (de_strE [120]) da_nil))).kk) (L := by exact LamX.lamS_by (show LamX.lamSB (defScope s_law) _ = true from by decide +kernel)))) (DE.toB (de_ifE (dt_tru (DE.toB (de_cal c__law_good hr (da_cons (de_var 5) da_nil)))) (de_strE [100, 105, 103, 105, 116, 115, 32, 118, 97, 108, 117, 101]) (de_strE [109, 97, 110, 110, 101, 114, 32, 118, 97, 108, 117, 101]))) (nomark _)) (ds_one (ds_ret (DE.x de_bl))) ds_nil)))))
    (ds_one (ds_for hc (di_seq (DL.toE (dl_lst (da_cons de_non (da_cons de_int (da_cons (de_strE [50]) (da_cons (de_tup da_nil) (da_cons (de_tup (da_cons (de_strE [50]) (da_cons (de_strE [50]) da_nil))) (da_cons (de_tup (da_cons (de_strE [51]) (da_cons (de_strE [50]) da_nil))) (da_cons (de_tup (da_cons de_int da_nil)) da_nil)))))))))) (dg_name 6 nd) (ds_one (ds_if (dt_not (dt_tru (DE.toB (de_cal c__law_truly hr (da_cons (de_cal c_is_manner hr (da_cons (de_var 6) da_nil)) (da_cons de_bl da_nil)))))) (ds_one (ds_ret (DE.x de_bl))) ds_nil)))))))))
    (ds_cons (ds_set 7 nd (DE.x (de_callTy (cr_tupleS hc) (by rfl) B.tuple (by decide +kernel) (dab_cons (DE.toB (DL.toE (dl_callB (cr_sortedSA hc ⟨_, hr⟩) (by rfl) B.sorted (by decide +kernel) (dab_cons (DE.toB (de_cal0 c__law_all_words hr)) dab_nil)))) dab_nil))))
    (ds_cons (ds_if (DW.t (dw_or (dt_cmp opr_isnt (DE.toB (de_cal c_is_manner hr (da_cons (de_var 7) da_nil))) (DE.toB de_bl) (nomark _)) (dw_or (dt_cmp opr_isnt (DE.toB (de_cal c_is_manner hr (da_cons (de_sl (db_var 7) do_none (do_some (DE.toB de_int))) da_nil))) (DE.toB de_bl) (nomark _)) (dw_or1 (dt_cmp opr_isnt (DE.toB (de_cal c_is_manner hr (da_cons (de_sl (db_var 7) do_none (do_some (DE.toB de_int))) da_nil))) (DE.toB de_bl) (nomark _)))))) (ds_one (ds_ret (DE.x de_bl))) ds_nil)
    (ds_one (ds_ret (DE.x (de_and (de_cmp opr_is (DE.toB (de_cal c_is_manner hr (da_cons (de_sl (db_var 7) (do_some (DE.toB (de_neg de_int))) do_none) da_nil))) (DE.toB de_bl) (nomark _)) (de_one (de_cmp (opr_eq hu) (DE.toB (de_callB cr_len (by rfl) B.len (by decide +kernel) (dab_cons (db_var 7) dab_nil))) (DE.toB de_int) (nomark _))))))))))⟩
end
theorem all_mk {l : PySem.W.OpenLaw} {w : World} {K : PySem.W.Frag} {h : Heap} {mg : Str → Option Value} {fa : Addr} (X : K.In h) (G : h.Ns mainGlobals mg) (hfa : mg "law" = some (.ref fa))
    {f0 : Addr} {od0 an0 : Option Addr} {sl0 : Array (Option Value)} {oc0 kV0 dc0 pm0 cd0 ct0 : Value}
    (a0 : PySem.W.nsIn K mainGlobals "all_words" = some (some (.ref f0))) (l0 : K.lookup f0 = some ⟨oc0, od0, .func (PySem.W.fnOf "all_words" "all_words" (defArgs s_all_words) (defBody s_all_words) (defScope s_all_words) .none kV0 dc0 pm0 an0 cd0 ct0), sl0⟩) (c0 : PySem.W.codeIn K cd0 "all_words" = true) (k0 : PySem.W.keepIn K (.ref f0) = true)
    {f1 : Addr} {od1 an1 : Option Addr} {sl1 : Array (Option Value)} {oc1 kV1 dc1 pm1 cd1 ct1 : Value}
    (a1 : PySem.W.nsIn K mainGlobals "is_word" = some (some (.ref f1))) (l1 : K.lookup f1 = some ⟨oc1, od1, .func (PySem.W.fnOf "is_word" "is_word" (defArgs s_is_word) (defBody s_is_word) (defScope s_is_word) .none kV1 dc1 pm1 an1 cd1 ct1), sl1⟩) (c1 : PySem.W.codeIn K cd1 "is_word" = true) (k1 : PySem.W.keepIn K (.ref f1) = true)
    {f2 : Addr} {od2 an2 : Option Addr} {sl2 : Array (Option Value)} {oc2 kV2 dc2 pm2 cd2 ct2 : Value}
    (a2 : PySem.W.nsIn K mainGlobals "is_ten" = some (some (.ref f2))) (l2 : K.lookup f2 = some ⟨oc2, od2, .func (PySem.W.fnOf "is_ten" "is_ten" (defArgs s_is_ten) (defBody s_is_ten) (defScope s_is_ten) .none kV2 dc2 pm2 an2 cd2 ct2), sl2⟩) (c2 : PySem.W.codeIn K cd2 "is_ten" = true) (k2 : PySem.W.keepIn K (.ref f2) = true)
    {f3 : Addr} {od3 an3 : Option Addr} {sl3 : Array (Option Value)} {oc3 kV3 dc3 pm3 cd3 ct3 : Value}
    (a3 : PySem.W.nsIn K mainGlobals "is_joint" = some (some (.ref f3))) (l3 : K.lookup f3 = some ⟨oc3, od3, .func (PySem.W.fnOf "is_joint" "is_joint" (defArgs s_is_joint) (defBody s_is_joint) (defScope s_is_joint) .none kV3 dc3 pm3 an3 cd3 ct3), sl3⟩) (c3 : PySem.W.codeIn K cd3 "is_joint" = true) (k3 : PySem.W.keepIn K (.ref f3) = true)
    {f4 : Addr} {od4 an4 : Option Addr} {sl4 : Array (Option Value)} {oc4 kV4 dc4 pm4 cd4 ct4 : Value}
    (a4 : PySem.W.nsIn K mainGlobals "digits_of" = some (some (.ref f4))) (l4 : K.lookup f4 = some ⟨oc4, od4, .func (PySem.W.fnOf "digits_of" "digits_of" (defArgs s_digits_of) (defBody s_digits_of) (defScope s_digits_of) .none kV4 dc4 pm4 an4 cd4 ct4), sl4⟩) (c4 : PySem.W.codeIn K cd4 "digits_of" = true) (k4 : PySem.W.keepIn K (.ref f4) = true)
    {f5 : Addr} {od5 an5 : Option Addr} {sl5 : Array (Option Value)} {oc5 kV5 dc5 pm5 cd5 ct5 : Value}
    (a5 : PySem.W.nsIn K mainGlobals "is_manner" = some (some (.ref f5))) (l5 : K.lookup f5 = some ⟨oc5, od5, .func (PySem.W.fnOf "is_manner" "is_manner" (defArgs s_is_manner) (defBody s_is_manner) (defScope s_is_manner) .none kV5 dc5 pm5 an5 cd5 ct5), sl5⟩) (c5 : PySem.W.codeIn K cd5 "is_manner" = true) (k5 : PySem.W.keepIn K (.ref f5) = true)
    {f6 : Addr} {od6 an6 : Option Addr} {sl6 : Array (Option Value)} {oc6 kV6 dc6 pm6 cd6 ct6 : Value}
    (a6 : PySem.W.nsIn K mainGlobals "need_manner" = some (some (.ref f6))) (l6 : K.lookup f6 = some ⟨oc6, od6, .func (PySem.W.fnOf "need_manner" "need_manner" (defArgs s_need_manner) (defBody s_need_manner) (defScope s_need_manner) .none kV6 dc6 pm6 an6 cd6 ct6), sl6⟩) (c6 : PySem.W.codeIn K cd6 "need_manner" = true) (k6 : PySem.W.keepIn K (.ref f6) = true)
    {f7 : Addr} {od7 an7 : Option Addr} {sl7 : Array (Option Value)} {oc7 kV7 dc7 pm7 cd7 ct7 : Value}
    (a7 : PySem.W.nsIn K mainGlobals "is_figures" = some (some (.ref f7))) (l7 : K.lookup f7 = some ⟨oc7, od7, .func (PySem.W.fnOf "is_figures" "is_figures" (defArgs s_is_figures) (defBody s_is_figures) (defScope s_is_figures) .none kV7 dc7 pm7 an7 cd7 ct7), sl7⟩) (c7 : PySem.W.codeIn K cd7 "is_figures" = true) (k7 : PySem.W.keepIn K (.ref f7) = true)
    {f8 : Addr} {od8 an8 : Option Addr} {sl8 : Array (Option Value)} {oc8 kV8 dc8 pm8 cd8 ct8 : Value}
    (a8 : PySem.W.nsIn K mainGlobals "need_figures" = some (some (.ref f8))) (l8 : K.lookup f8 = some ⟨oc8, od8, .func (PySem.W.fnOf "need_figures" "need_figures" (defArgs s_need_figures) (defBody s_need_figures) (defScope s_need_figures) .none kV8 dc8 pm8 an8 cd8 ct8), sl8⟩) (c8 : PySem.W.codeIn K cd8 "need_figures" = true) (k8 : PySem.W.keepIn K (.ref f8) = true)
    {f9 : Addr} {od9 an9 : Option Addr} {sl9 : Array (Option Value)} {oc9 kV9 dc9 pm9 cd9 ct9 : Value}
    (a9 : PySem.W.nsIn K mainGlobals "pieces_of" = some (some (.ref f9))) (l9 : K.lookup f9 = some ⟨oc9, od9, .func (PySem.W.fnOf "pieces_of" "pieces_of" (defArgs s_pieces_of) (defBody s_pieces_of) (defScope s_pieces_of) .none kV9 dc9 pm9 an9 cd9 ct9), sl9⟩) (c9 : PySem.W.codeIn K cd9 "pieces_of" = true) (k9 : PySem.W.keepIn K (.ref f9) = true)
    {f10 : Addr} {od10 an10 : Option Addr} {sl10 : Array (Option Value)} {oc10 kV10 dc10 pm10 cd10 ct10 : Value}
    (a10 : PySem.W.nsIn K mainGlobals "ways_of" = some (some (.ref f10))) (l10 : K.lookup f10 = some ⟨oc10, od10, .func (PySem.W.fnOf "ways_of" "ways_of" (defArgs s_ways_of) (defBody s_ways_of) (defScope s_ways_of) .none kV10 dc10 pm10 an10 cd10 ct10), sl10⟩) (c10 : PySem.W.codeIn K cd10 "ways_of" = true) (k10 : PySem.W.keepIn K (.ref f10) = true)
    {f11 : Addr} {od11 an11 : Option Addr} {sl11 : Array (Option Value)} {oc11 kV11 dc11 pm11 cd11 ct11 : Value}
    (a11 : PySem.W.nsIn K mainGlobals "can_say" = some (some (.ref f11))) (l11 : K.lookup f11 = some ⟨oc11, od11, .func (PySem.W.fnOf "can_say" "can_say" (defArgs s_can_say) (defBody s_can_say) (defScope s_can_say) .none kV11 dc11 pm11 an11 cd11 ct11), sl11⟩) (c11 : PySem.W.codeIn K cd11 "can_say" = true) (k11 : PySem.W.keepIn K (.ref f11) = true)
    {f12 : Addr} {od12 an12 : Option Addr} {sl12 : Array (Option Value)} {oc12 kV12 dc12 pm12 cd12 ct12 : Value}
    (a12 : PySem.W.nsIn K mainGlobals "_law_cell" = some (some (.ref f12))) (l12 : K.lookup f12 = some ⟨oc12, od12, .func (PySem.W.fnOf "_law_cell" "_law_cell" (defArgs s__law_cell) (defBody s__law_cell) (defScope s__law_cell) .none kV12 dc12 pm12 an12 cd12 ct12), sl12⟩) (c12 : PySem.W.codeIn K cd12 "_law_cell" = true) (k12 : PySem.W.keepIn K (.ref f12) = true)
    {f13 : Addr} {od13 an13 : Option Addr} {sl13 : Array (Option Value)} {oc13 kV13 dc13 pm13 cd13 ct13 : Value}
    (a13 : PySem.W.nsIn K mainGlobals "_law_draws" = some (some (.ref f13))) (l13 : K.lookup f13 = some ⟨oc13, od13, .func (PySem.W.fnOf "_law_draws" "_law_draws" (defArgs s__law_draws) (defBody s__law_draws) (defScope s__law_draws) .none kV13 dc13 pm13 an13 cd13 ct13), sl13⟩) (c13 : PySem.W.codeIn K cd13 "_law_draws" = true) (k13 : PySem.W.keepIn K (.ref f13) = true)
    {f14 : Addr} {od14 an14 : Option Addr} {sl14 : Array (Option Value)} {oc14 kV14 dc14 pm14 cd14 ct14 : Value}
    (a14 : PySem.W.nsIn K mainGlobals "_law_bag" = some (some (.ref f14))) (l14 : K.lookup f14 = some ⟨oc14, od14, .func (PySem.W.fnOf "_law_bag" "_law_bag" (defArgs s__law_bag) (defBody s__law_bag) (defScope s__law_bag) .none kV14 dc14 pm14 an14 cd14 ct14), sl14⟩) (c14 : PySem.W.codeIn K cd14 "_law_bag" = true) (k14 : PySem.W.keepIn K (.ref f14) = true)
    {f15 : Addr} {od15 an15 : Option Addr} {sl15 : Array (Option Value)} {oc15 kV15 dc15 pm15 cd15 ct15 : Value}
    (a15 : PySem.W.nsIn K mainGlobals "_law_take" = some (some (.ref f15))) (l15 : K.lookup f15 = some ⟨oc15, od15, .func (PySem.W.fnOf "_law_take" "_law_take" (defArgs s__law_take) (defBody s__law_take) (defScope s__law_take) .none kV15 dc15 pm15 an15 cd15 ct15), sl15⟩) (c15 : PySem.W.codeIn K cd15 "_law_take" = true) (k15 : PySem.W.keepIn K (.ref f15) = true)
    {f16 : Addr} {od16 an16 : Option Addr} {sl16 : Array (Option Value)} {oc16 kV16 dc16 pm16 cd16 ct16 : Value}
    (a16 : PySem.W.nsIn K mainGlobals "_law_choice" = some (some (.ref f16))) (l16 : K.lookup f16 = some ⟨oc16, od16, .func (PySem.W.fnOf "_law_choice" "_law_choice" (defArgs s__law_choice) (defBody s__law_choice) (defScope s__law_choice) .none kV16 dc16 pm16 an16 cd16 ct16), sl16⟩) (c16 : PySem.W.codeIn K cd16 "_law_choice" = true) (k16 : PySem.W.keepIn K (.ref f16) = true)
    {f17 : Addr} {od17 an17 : Option Addr} {sl17 : Array (Option Value)} {oc17 kV17 dc17 pm17 cd17 ct17 : Value}
    (a17 : PySem.W.nsIn K mainGlobals "_law_menu" = some (some (.ref f17))) (l17 : K.lookup f17 = some ⟨oc17, od17, .func (PySem.W.fnOf "_law_menu" "_law_menu" (defArgs s__law_menu) (defBody s__law_menu) (defScope s__law_menu) .none kV17 dc17 pm17 an17 cd17 ct17), sl17⟩) (c17 : PySem.W.codeIn K cd17 "_law_menu" = true) (k17 : PySem.W.keepIn K (.ref f17) = true)
    {f18 : Addr} {od18 an18 : Option Addr} {sl18 : Array (Option Value)} {oc18 kV18 dc18 pm18 cd18 ct18 : Value}
    (a18 : PySem.W.nsIn K mainGlobals "_law_manner" = some (some (.ref f18))) (l18 : K.lookup f18 = some ⟨oc18, od18, .func (PySem.W.fnOf "_law_manner" "_law_manner" (defArgs s__law_manner) (defBody s__law_manner) (defScope s__law_manner) .none kV18 dc18 pm18 an18 cd18 ct18), sl18⟩) (c18 : PySem.W.codeIn K cd18 "_law_manner" = true) (k18 : PySem.W.keepIn K (.ref f18) = true)
    {f19 : Addr} {od19 an19 : Option Addr} {sl19 : Array (Option Value)} {oc19 kV19 dc19 pm19 cd19 ct19 : Value}
    (a19 : PySem.W.nsIn K mainGlobals "_law_named_error" = some (some (.ref f19))) (l19 : K.lookup f19 = some ⟨oc19, od19, .func (PySem.W.fnOf "_law_named_error" "_law_named_error" (defArgs s__law_named_error) (defBody s__law_named_error) (defScope s__law_named_error) .none kV19 dc19 pm19 an19 cd19 ct19), sl19⟩) (c19 : PySem.W.codeIn K cd19 "_law_named_error" = true) (k19 : PySem.W.keepIn K (.ref f19) = true)
    {f20 : Addr} {od20 an20 : Option Addr} {sl20 : Array (Option Value)} {oc20 kV20 dc20 pm20 cd20 ct20 : Value}
    (a20 : PySem.W.nsIn K mainGlobals "_law_error" = some (some (.ref f20))) (l20 : K.lookup f20 = some ⟨oc20, od20, .func (PySem.W.fnOf "_law_error" "_law_error" (defArgs s__law_error) (defBody s__law_error) (defScope s__law_error) .none kV20 dc20 pm20 an20 cd20 ct20), sl20⟩) (c20 : PySem.W.codeIn K cd20 "_law_error" = true) (k20 : PySem.W.keepIn K (.ref f20) = true)
    {f21 : Addr} {od21 an21 : Option Addr} {sl21 : Array (Option Value)} {oc21 kV21 dc21 pm21 cd21 ct21 : Value}
    (a21 : PySem.W.nsIn K mainGlobals "_law_truly" = some (some (.ref f21))) (l21 : K.lookup f21 = some ⟨oc21, od21, .func (PySem.W.fnOf "_law_truly" "_law_truly" (defArgs s__law_truly) (defBody s__law_truly) (defScope s__law_truly) .none kV21 dc21 pm21 an21 cd21 ct21), sl21⟩) (c21 : PySem.W.codeIn K cd21 "_law_truly" = true) (k21 : PySem.W.keepIn K (.ref f21) = true)
    {f22 : Addr} {od22 an22 : Option Addr} {sl22 : Array (Option Value)} {oc22 kV22 dc22 pm22 cd22 ct22 : Value}
    (a22 : PySem.W.nsIn K mainGlobals "_law_all_words" = some (some (.ref f22))) (l22 : K.lookup f22 = some ⟨oc22, od22, .func (PySem.W.fnOf "_law_all_words" "_law_all_words" (defArgs s__law_all_words) (defBody s__law_all_words) (defScope s__law_all_words) .none kV22 dc22 pm22 an22 cd22 ct22), sl22⟩) (c22 : PySem.W.codeIn K cd22 "_law_all_words" = true) (k22 : PySem.W.keepIn K (.ref f22) = true)
    {f23 : Addr} {od23 an23 : Option Addr} {sl23 : Array (Option Value)} {oc23 kV23 dc23 pm23 cd23 ct23 : Value}
    (a23 : PySem.W.nsIn K mainGlobals "_law_good" = some (some (.ref f23))) (l23 : K.lookup f23 = some ⟨oc23, od23, .func (PySem.W.fnOf "_law_good" "_law_good" (defArgs s__law_good) (defBody s__law_good) (defScope s__law_good) .none kV23 dc23 pm23 an23 cd23 ct23), sl23⟩) (c23 : PySem.W.codeIn K cd23 "_law_good" = true) (k23 : PySem.W.keepIn K (.ref f23) = true)
    {f24 : Addr} {od24 an24 : Option Addr} {sl24 : Array (Option Value)} {oc24 kV24 dc24 pm24 cd24 ct24 : Value}
    (a24 : PySem.W.nsIn K mainGlobals "_law_spoilt" = some (some (.ref f24))) (l24 : K.lookup f24 = some ⟨oc24, od24, .func (PySem.W.fnOf "_law_spoilt" "_law_spoilt" (defArgs s__law_spoilt) (defBody s__law_spoilt) (defScope s__law_spoilt) .none kV24 dc24 pm24 an24 cd24 ct24), sl24⟩) (c24 : PySem.W.codeIn K cd24 "_law_spoilt" = true) (k24 : PySem.W.keepIn K (.ref f24) = true)
    {cc25 Pt25 : Addr} {f25 : Addr} {od25 an25 : Option Addr} {sl25 : Array (Option Value)} {oc25 kV25 dc25 pm25 ct25 : Value}
    (a25 : PySem.W.nsIn K mainGlobals "law" = some (some (.ref f25))) (l25 : K.lookup f25 = some ⟨oc25, od25, .func (PySem.W.fnOf "law" "law" (defArgs s_law) (defBody s_law) (defScope s_law) .none kV25 dc25 pm25 an25 (.ref cc25) ct25), sl25⟩) (c25 : PySem.W.codeIn K (.ref cc25) "law" = true) (k25 : PySem.W.keepIn K (.ref f25) = true)
    {tkDIGITS : Tok} (yDIGITS : PySem.W.nsIn K mainGlobals "DIGITS" = some (some (.str "0123456789" tkDIGITS)))
    (zlen : PySem.W.nsIn K mainGlobals "len" = some none)
    (zrange : PySem.W.nsIn K mainGlobals "range" = some none)
    (zenumerate : PySem.W.nsIn K mainGlobals "enumerate" = some none)
    (zzip : PySem.W.nsIn K mainGlobals "zip" = some none)
    (zsorted : PySem.W.nsIn K mainGlobals "sorted" = some none)
    (zset : PySem.W.nsIn K mainGlobals "set" = some none)
    (zlist : PySem.W.nsIn K mainGlobals "list" = some none)
    (ztuple : PySem.W.nsIn K mainGlobals "tuple" = some none)
    (zstr : PySem.W.nsIn K mainGlobals "str" = some none)
    (zint : PySem.W.nsIn K mainGlobals "int" = some none)
    (zbool : PySem.W.nsIn K mainGlobals "bool" = some none)
    (zisinstance : PySem.W.nsIn K mainGlobals "isinstance" = some none)
    (zsum : PySem.W.nsIn K mainGlobals "sum" = some none)
    (zmin : PySem.W.nsIn K mainGlobals "min" = some none)
    (zmax : PySem.W.nsIn K mainGlobals "max" = some none)
    (zall : PySem.W.nsIn K mainGlobals "all" = some none)
    {eSayError : Addr} (eaSayError : PySem.W.nsIn K mainGlobals "SayError" = some (some (.ref eSayError)))
    {eInvalidWord : Addr} (eaInvalidWord : PySem.W.nsIn K mainGlobals "InvalidWord" = some (some (.ref eInvalidWord)))
    {eInvalidDigits : Addr} (eaInvalidDigits : PySem.W.nsIn K mainGlobals "InvalidDigits" = some (some (.ref eInvalidDigits)))
    {eTooMany : Addr} (eaTooMany : PySem.W.nsIn K mainGlobals "TooMany" = some (some (.ref eTooMany)))
    {eNothingToUndo : Addr} (eaNothingToUndo : PySem.W.nsIn K mainGlobals "NothingToUndo" = some (some (.ref eNothingToUndo)))
    {eInvalidManner : Addr} (eaInvalidManner : PySem.W.nsIn K mainGlobals "InvalidManner" = some (some (.ref eInvalidManner)))
    {eInvalidLength : Addr} (eaInvalidLength : PySem.W.nsIn K mainGlobals "InvalidLength" = some (some (.ref eInvalidLength)))
    (enValueError : PySem.W.nsIn K mainGlobals "ValueError" = some none)
    (x0InvalidDigits : PySem.W.excIn K eInvalidDigits [.type "ValueError", .type "Exception", .type "BaseException", .type "object"] "ValueError.__new__" = true)
    (x1InvalidDigits : PySem.W.keepIn K (.ref eInvalidDigits) = true)
    (x2InvalidDigits : PySem.W.subIn K (.ref eInvalidDigits) (.type "BaseException") = some true)
    (x3InvalidDigits : PySem.W.typeIn K (.ref eInvalidDigits) = some (.type "type"))
    (x4InvalidDigits : PySem.W.findIn K (.ref eInvalidDigits) "__getattribute__" = some (some (.builtin "BaseException.__getattribute__")))
    (x5InvalidDigits : PySem.W.findIn K (.ref eInvalidDigits) "__getattr__" = some none)
    (x6InvalidDigits : PySem.W.hasDictIn K eInvalidDigits = true)
    (x7InvalidDigits : PySem.W.findIn K (.ref eInvalidDigits) "__class__" = some (some (.builtin "object.__class__")))
    (x8InvalidDigits : PySem.W.mroIn K eInvalidDigits (.type "object") = some true)
    (x9InvalidDigits : PySem.W.subIn K (.ref eInvalidDigits) (.ref eSayError) = some true)
    (iInvalidDigitsInvalidManner : PySem.W.kitOne K (.ref eInvalidDigits) (.ref eInvalidManner) = some false)
    (iInvalidDigitsInvalidDigits : PySem.W.kitOne K (.ref eInvalidDigits) (.ref eInvalidDigits) = some true)
    (iInvalidDigitsInvalidWord : PySem.W.kitOne K (.ref eInvalidDigits) (.ref eInvalidWord) = some false)
    (iInvalidDigitsNothingToUndo : PySem.W.kitOne K (.ref eInvalidDigits) (.ref eNothingToUndo) = some false)
    (iInvalidDigitsTooMany : PySem.W.kitOne K (.ref eInvalidDigits) (.ref eTooMany) = some false)
    (iInvalidDigitsInvalidLength : PySem.W.kitOne K (.ref eInvalidDigits) (.ref eInvalidLength) = some false)
    (iInvalidDigitsValueError : PySem.W.kitOne K (.ref eInvalidDigits) (.type "ValueError") = some true)
    (x0InvalidManner : PySem.W.excIn K eInvalidManner [.type "ValueError", .type "Exception", .type "BaseException", .type "object"] "ValueError.__new__" = true)
    (x1InvalidManner : PySem.W.keepIn K (.ref eInvalidManner) = true)
    (x2InvalidManner : PySem.W.subIn K (.ref eInvalidManner) (.type "BaseException") = some true)
    (x3InvalidManner : PySem.W.typeIn K (.ref eInvalidManner) = some (.type "type"))
    (x4InvalidManner : PySem.W.findIn K (.ref eInvalidManner) "__getattribute__" = some (some (.builtin "BaseException.__getattribute__")))
    (x5InvalidManner : PySem.W.findIn K (.ref eInvalidManner) "__getattr__" = some none)
    (x6InvalidManner : PySem.W.hasDictIn K eInvalidManner = true)
    (x7InvalidManner : PySem.W.findIn K (.ref eInvalidManner) "__class__" = some (some (.builtin "object.__class__")))
    (x8InvalidManner : PySem.W.mroIn K eInvalidManner (.type "object") = some true)
    (x9InvalidManner : PySem.W.subIn K (.ref eInvalidManner) (.ref eSayError) = some true)
    (iInvalidMannerInvalidManner : PySem.W.kitOne K (.ref eInvalidManner) (.ref eInvalidManner) = some true)
    (iInvalidMannerInvalidDigits : PySem.W.kitOne K (.ref eInvalidManner) (.ref eInvalidDigits) = some false)
    (iInvalidMannerInvalidWord : PySem.W.kitOne K (.ref eInvalidManner) (.ref eInvalidWord) = some false)
    (iInvalidMannerNothingToUndo : PySem.W.kitOne K (.ref eInvalidManner) (.ref eNothingToUndo) = some false)
    (iInvalidMannerTooMany : PySem.W.kitOne K (.ref eInvalidManner) (.ref eTooMany) = some false)
    (iInvalidMannerInvalidLength : PySem.W.kitOne K (.ref eInvalidManner) (.ref eInvalidLength) = some false)
    (iInvalidMannerValueError : PySem.W.kitOne K (.ref eInvalidManner) (.type "ValueError") = some true)
    (w0 : PySem.W.specialIn K (.builtin "object.__class__") "__get__" = some (some (.builtin "getset_descriptor.__get__")))
    (w1 : PySem.W.takesIn K (.builtin "object.__class__") = some true)
    (w2 : PySem.W.subIn K (.ref eSayError) (.type "BaseException") = some true)
    (w3 : PySem.W.hasDictIn K eSayError = true)
    (w4 : PySem.W.typeIn K (.ref eSayError) = some (.type "type")) :
    ∃ fd : FuncData, (∀ (s : Shared) (v : Value), BindsTo s fd ⟨[v], []⟩ [("script", v)]) ∧ ∀ base : Heap, K.In base → base.Ns mainGlobals mg → LamX.TabB base mg cc25 Pt25 → FnOk l.prog w K mg base CX0 8 fa fd ["script"] (PSpT [(Pt25, "law.<locals>.<lambda>")] K m_law) := by
  have e := hfa.symm.trans (PySem.W.mg_of X G a25)
  cases e
  have B : Blt mg := ⟨PySem.W.mg_none_of X G zlen, PySem.W.mg_none_of X G zrange, PySem.W.mg_none_of X G zenumerate, PySem.W.mg_none_of X G zzip, PySem.W.mg_none_of X G zsorted, PySem.W.mg_none_of X G zset, PySem.W.mg_none_of X G zlist, PySem.W.mg_none_of X G ztuple, PySem.W.mg_none_of X G zstr, PySem.W.mg_none_of X G zint, PySem.W.mg_none_of X G zbool, PySem.W.mg_none_of X G zisinstance, PySem.W.mg_none_of X G zsum, PySem.W.mg_none_of X G zmin, PySem.W.mg_none_of X G zmax, PySem.W.mg_none_of X G zall⟩
  have g_DIGITS := PySem.W.mg_of X G yDIGITS
  have F0 := fun_mk (st := s_all_words) l0 c0 k0
  have F1 := fun_mk (st := s_is_word) l1 c1 k1
  have F2 := fun_mk (st := s_is_ten) l2 c2 k2
  have F3 := fun_mk (st := s_is_joint) l3 c3 k3
  have F4 := fun_mk (st := s_digits_of) l4 c4 k4
  have F5 := fun_mk (st := s_is_manner) l5 c5 k5
  have F6 := fun_mk (st := s_need_manner) l6 c6 k6
  have F7 := fun_mk (st := s_is_figures) l7 c7 k7
  have F8 := fun_mk (st := s_need_figures) l8 c8 k8
  have F9 := fun_mk (st := s_pieces_of) l9 c9 k9
  have F10 := fun_mk (st := s_ways_of) l10 c10 k10
  have F11 := fun_mk (st := s_can_say) l11 c11 k11
  have F12 := fun_mk (st := s__law_cell) l12 c12 k12
  have F13 := fun_mk (st := s__law_draws) l13 c13 k13
  have F14 := fun_mk (st := s__law_bag) l14 c14 k14
  have F15 := fun_mk (st := s__law_take) l15 c15 k15
  have F16 := fun_mk (st := s__law_choice) l16 c16 k16
  have F17 := fun_mk (st := s__law_menu) l17 c17 k17
  have F18 := fun_mk (st := s__law_manner) l18 c18 k18
  have F19 := fun_mk (st := s__law_named_error) l19 c19 k19
  have F20 := fun_mk (st := s__law_error) l20 c20 k20
  have F21 := fun_mk (st := s__law_truly) l21 c21 k21
  have F22 := fun_mk (st := s__law_all_words) l22 c22 k22
  have F23 := fun_mk (st := s__law_good) l23 c23 k23
  have F24 := fun_mk (st := s__law_spoilt) l24 c24 k24
  have F25 := funC_mk (st := s_law) l25 c25 k25
  refine ⟨PySem.W.fnOf "law" "law" (defArgs s_law) (defBody s_law) (defScope s_law) .none kV25 dc25 pm25 an25 (.ref cc25) ct25, fun s v => .of_eq rfl, fun base _ _ TB => ?_⟩
  obtain ⟨ec, hec⟩ : ∃ ec : Str → Addr, ec "InvalidDigits" = eInvalidDigits ∧ ec "InvalidManner" = eInvalidManner := ⟨fun n => if n = "InvalidDigits" then eInvalidDigits else if n = "InvalidManner" then eInvalidManner else 0, ⟨if_pos rfl, (if_neg (by decide)).trans <| if_pos rfl⟩⟩
  obtain ⟨ecInvalidDigits, ecInvalidManner⟩ := hec
  have m_InvalidDigits : ErrC K mg "InvalidDigits" (ec "InvalidDigits") := by rw [ecInvalidDigits]; exact ⟨PySem.W.mg_of X G eaInvalidDigits, x0InvalidDigits, x1InvalidDigits, x2InvalidDigits, x3InvalidDigits⟩
  have h_InvalidDigits : ExcC K eInvalidDigits := ⟨x4InvalidDigits, x5InvalidDigits, x2InvalidDigits, x6InvalidDigits, x7InvalidDigits, w0, w1, x8InvalidDigits⟩
  have m_InvalidManner : ErrC K mg "InvalidManner" (ec "InvalidManner") := by rw [ecInvalidManner]; exact ⟨PySem.W.mg_of X G eaInvalidManner, x0InvalidManner, x1InvalidManner, x2InvalidManner, x3InvalidManner⟩
  have h_InvalidManner : ExcC K eInvalidManner := ⟨x4InvalidManner, x5InvalidManner, x2InvalidManner, x6InvalidManner, x7InvalidManner, w0, w1, x8InvalidManner⟩
  have q_all_words : Cal l.prog w K mg base "all_words" 1 (PSp K m_all_words) := ⟨_, _, _, ok_all_words F0 (g_DIGITS := g_DIGITS), PySem.W.mg_of X G a0, k0, F0.binds (ps := []) fun _ _ _ _ _ _ us hl => match us, hl with | [], _ => rfl⟩
  have q_is_word : Cal l.prog w K mg base "is_word" 2 (PSp K m_is_word) := ⟨_, _, _, ok_is_word F1 (B := B) (c_all_words := q_all_words), PySem.W.mg_of X G a1, k1, F1.binds (ps := ["value"]) fun _ _ _ _ _ _ us hl => match us, hl with | [_], _ => rfl⟩
  have q_is_ten : Cal l.prog w K mg base "is_ten" 1 (PSp K m_is_ten) := ⟨_, _, _, ok_is_ten F2 (B := B) (g_DIGITS := g_DIGITS), PySem.W.mg_of X G a2, k2, F2.binds (ps := ["word"]) fun _ _ _ _ _ _ us hl => match us, hl with | [_], _ => rfl⟩
  have q_is_joint : Cal l.prog w K mg base "is_joint" 2 (PSp K m_is_joint) := ⟨_, _, _, ok_is_joint F3 (B := B) (c_is_ten := q_is_ten), PySem.W.mg_of X G a3, k3, F3.binds (ps := ["one", "other"]) fun _ _ _ _ _ _ us hl => match us, hl with | [_, _], _ => rfl⟩
  have q_digits_of : Cal l.prog w K mg base "digits_of" 1 (PSp K m_digits_of) := ⟨_, _, _, ok_digits_of F4, PySem.W.mg_of X G a4, k4, F4.binds (ps := ["word"]) fun _ _ _ _ _ _ us hl => match us, hl with | [_], _ => rfl⟩
  have q_is_manner : Cal l.prog w K mg base "is_manner" 3 (PSp K m_is_manner) := ⟨_, _, _, ok_is_manner F5 (B := B) (c_is_word := q_is_word), PySem.W.mg_of X G a5, k5, F5.binds (ps := ["value"]) fun _ _ _ _ _ _ us hl => match us, hl with | [_], _ => rfl⟩
  have q_need_manner : CalX l.prog w K mg base "need_manner" 4 (XSp K ec m_need_manner) := ⟨_, _, _, ok_need_manner F6 (c_is_manner := q_is_manner) (e_InvalidManner := m_InvalidManner), PySem.W.mg_of X G a6, k6, F6.binds (ps := ["manner"]) fun _ _ _ _ _ _ us hl => match us, hl with | [_], _ => rfl⟩
  have q_is_figures : Cal l.prog w K mg base "is_figures" 1 (PSp K m_is_figures) := ⟨_, _, _, ok_is_figures F7 (B := B) (g_DIGITS := g_DIGITS), PySem.W.mg_of X G a7, k7, F7.binds (ps := ["value"]) fun _ _ _ _ _ _ us hl => match us, hl with | [_], _ => rfl⟩
  have q_need_figures : CalX l.prog w K mg base "need_figures" 2 (XSp K ec m_need_figures) := ⟨_, _, _, ok_need_figures F8 (c_is_figures := q_is_figures) (e_InvalidDigits := m_InvalidDigits), PySem.W.mg_of X G a8, k8, F8.binds (ps := ["figures"]) fun _ _ _ _ _ _ us hl => match us, hl with | [_], _ => rfl⟩
  have q_pieces_of : Cal l.prog w K mg base "pieces_of" 3 (PSp K m_pieces_of) := ⟨_, _, _, ok_pieces_of F9 (c_digits_of := q_digits_of) (c_is_joint := q_is_joint), PySem.W.mg_of X G a9, k9, F9.binds (ps := ["words"]) fun _ _ _ _ _ _ us hl => match us, hl with | [_], _ => rfl⟩
  have q_ways_of : Cal l.prog w K mg base "ways_of" 4 (PSp K m_ways_of) := ⟨_, _, _, ok_ways_of F10 (B := B) (c_pieces_of := q_pieces_of), PySem.W.mg_of X G a10, k10, F10.binds (ps := ["words", "figures"]) fun _ _ _ _ _ _ us hl => match us, hl with | [_, _], _ => rfl⟩
  have q_can_say : CalX l.prog w K mg base "can_say" 5 (XSp K ec m_can_say) := ⟨_, _, _, ok_can_say F11 (c_need_manner := q_need_manner) (c_need_figures := q_need_figures) (c_ways_of := q_ways_of), PySem.W.mg_of X G a11, k11, F11.binds (ps := ["manner", "figures"]) fun _ _ _ _ _ _ us hl => match us, hl with | [_, _], _ => rfl⟩
  have q__law_cell : Cal l.prog w K mg base "_law_cell" 1 (PSp K m__law_cell) := ⟨_, _, _, ok__law_cell F12 (B := B), PySem.W.mg_of X G a12, k12, F12.binds (ps := ["script", "k"]) fun _ _ _ _ _ _ us hl => match us, hl with | [_, _], _ => rfl⟩
  have q__law_draws : Cal l.prog w K mg base "_law_draws" 2 (LSp K m__law_draws) := ⟨_, _, _, ok__law_draws F13 (B := B) (c__law_cell := q__law_cell), PySem.W.mg_of X G a13, k13, F13.binds (ps := ["script", "k", "many", "base"]) fun _ _ _ _ _ _ us hl => match us, hl with | [_, _, _, _], _ => rfl⟩
  have q__law_bag : Cal l.prog w K mg base "_law_bag" 3 (LSp K m__law_bag) := ⟨_, _, _, ok__law_bag F14 (c__law_draws := q__law_draws), PySem.W.mg_of X G a14, k14, F14.binds (ps := ["script", "k"]) fun _ _ _ _ _ _ us hl => match us, hl with | [_, _], _ => rfl⟩
  have q__law_take : Cal l.prog w K mg base "_law_take" 1 (BSp K m__law_take) := ⟨_, _, _, ok__law_take F15 (B := B), PySem.W.mg_of X G a15, k15, F15.binds (ps := ["bag", "many"]) fun _ _ _ _ _ _ us hl => match us, hl with | [_, _], _ => rfl⟩
  have q__law_choice : Cal l.prog w K mg base "_law_choice" 2 (BSp K m__law_choice) := ⟨_, _, _, ok__law_choice F16 (B := B) (c__law_take := q__law_take), PySem.W.mg_of X G a16, k16, F16.binds (ps := ["bag", "some"]) fun _ _ _ _ _ _ us hl => match us, hl with | [_, _], _ => rfl⟩
  have q__law_menu : Cal l.prog w K mg base "_law_menu" 3 (BSp K m__law_menu) := ⟨_, _, _, ok__law_menu F17 (c__law_choice := q__law_choice), PySem.W.mg_of X G a17, k17, F17.binds (ps := ["bag"]) fun _ _ _ _ _ _ us hl => match us, hl with | [_], _ => rfl⟩
  have q__law_manner : Cal l.prog w K mg base "_law_manner" 4 (BSp K m__law_manner) := ⟨_, _, _, ok__law_manner F18 (B := B) (c__law_menu := q__law_menu) (c__law_take := q__law_take) (c__law_choice := q__law_choice), PySem.W.mg_of X G a18, k18, F18.binds (ps := ["bag", "most"]) fun _ _ _ _ _ _ us hl => match us, hl with | [_, _], _ => rfl⟩
  have q__law_named_error : FnEC l.prog w K mg base "_law_named_error" 1 (txOn ["InvalidDigits", "InvalidManner"]) ec eSayError := by
    refine ⟨_, _, _, PySem.W.mg_of X G a19, k19, F19.binds (ps := ["e"]) fun _ _ _ _ _ _ us hl => match us, hl with | [_], _ => rfl, fun n t hn => ?_⟩
    obtain ⟨hm, ht⟩ := txOn_some hn
    simp only [List.mem_cons, List.not_mem_nil, or_false] at hm
    rcases hm with rfl | rfl
    · rw [ecInvalidDigits]; exact ⟨ok__law_named_error _ t ht F19 (B := B) h_InvalidDigits (isA_of (PySem.W.mg_of X G eaInvalidManner) iInvalidDigitsInvalidManner (by decide +kernel)) (isA_of (PySem.W.mg_of X G eaInvalidDigits) iInvalidDigitsInvalidDigits (by decide +kernel)) (isA_of (PySem.W.mg_of X G eaInvalidWord) iInvalidDigitsInvalidWord (by decide +kernel)) (isA_of (PySem.W.mg_of X G eaNothingToUndo) iInvalidDigitsNothingToUndo (by decide +kernel)) (isA_of (PySem.W.mg_of X G eaTooMany) iInvalidDigitsTooMany (by decide +kernel)) (isA_of (PySem.W.mg_of X G eaInvalidLength) iInvalidDigitsInvalidLength (by decide +kernel)) (isA_blt (PySem.W.mg_none_of X G enValueError) rfl iInvalidDigitsValueError (by decide +kernel)), exm_of w2 w3 w4 x9InvalidDigits⟩
    · rw [ecInvalidManner]; exact ⟨ok__law_named_error _ t ht F19 (B := B) h_InvalidManner (isA_of (PySem.W.mg_of X G eaInvalidManner) iInvalidMannerInvalidManner (by decide +kernel)) (isA_of (PySem.W.mg_of X G eaInvalidDigits) iInvalidMannerInvalidDigits (by decide +kernel)) (isA_of (PySem.W.mg_of X G eaInvalidWord) iInvalidMannerInvalidWord (by decide +kernel)) (isA_of (PySem.W.mg_of X G eaNothingToUndo) iInvalidMannerNothingToUndo (by decide +kernel)) (isA_of (PySem.W.mg_of X G eaTooMany) iInvalidMannerTooMany (by decide +kernel)) (isA_of (PySem.W.mg_of X G eaInvalidLength) iInvalidMannerInvalidLength (by decide +kernel)) (isA_blt (PySem.W.mg_none_of X G enValueError) rfl iInvalidMannerValueError (by decide +kernel)), exm_of w2 w3 w4 x9InvalidManner⟩
  have q__law_error : LamDef l.prog w K mg base "_law_error" "call" f20 6 (TTerr (txOn ["InvalidDigits", "InvalidManner"]) ec) := lamDef_mk (st := s__law_error) (Ng := N__law_error) F20 (PySem.W.mg_of X G a20) (F20.binds (ps := ["call"]) fun _ _ _ _ _ _ us hl => match us, hl with | [_], _ => rfl) sc__law_error rfl (.inl rfl) fun Y q cdv h1 h2 h3 h4 h5 => by
    exact err_gives (X := Y) (S := eSayError) (sn := "SayError") (by rw [h1, h2, h3, h4, h5]; exact q__law_named_error) (by decide) rfl (by rw [h4]; exact PySem.W.mg_of X G eaSayError) (by decide) (fun _ => rfl) sc__law_error.nd rfl rfl rfl
  have q__law_truly : Cal l.prog w K mg base "_law_truly" 1 (PSp K m__law_truly) := ⟨_, _, _, ok__law_truly F21 (B := B), PySem.W.mg_of X G a21, k21, F21.binds (ps := ["found", "due"]) fun _ _ _ _ _ _ us hl => match us, hl with | [_, _], _ => rfl⟩
  have q__law_all_words : Cal l.prog w K mg base "_law_all_words" 1 (PSp K m__law_all_words) := ⟨_, _, _, ok__law_all_words F22, PySem.W.mg_of X G a22, k22, F22.binds (ps := []) fun _ _ _ _ _ _ us hl => match us, hl with | [], _ => rfl⟩
  have q__law_good : Cal l.prog w K mg base "_law_good" 2 (PSp K m__law_good) := ⟨_, _, _, ok__law_good F23 (B := B) (c__law_all_words := q__law_all_words), PySem.W.mg_of X G a23, k23, F23.binds (ps := ["value"]) fun _ _ _ _ _ _ us hl => match us, hl with | [_], _ => rfl⟩
  have q__law_spoilt : Cal l.prog w K mg base "_law_spoilt" 3 (BSp K m__law_spoilt) := ⟨_, _, _, ok__law_spoilt F24 (B := B) (c__law_take := q__law_take) (c__law_choice := q__law_choice), PySem.W.mg_of X G a24, k24, F24.binds (ps := ["bag", "value"]) fun _ _ _ _ _ _ us hl => match us, hl with | [_, _], _ => rfl⟩
  exact ok_law F25 (B := B) (c__law_bag := q__law_bag) (c__law_manner := q__law_manner) (c_is_manner := q_is_manner) (c__law_spoilt := q__law_spoilt) (c__law_good := q__law_good) (c__law_truly := q__law_truly) (c_can_say := q_can_say) (c__law_all_words := q__law_all_words) (D__law_error := q__law_error) (TB := TB)
theorem ints_dn {K : PySem.W.Frag} {F : Hp} : ∀ ns : List Int, DnAll K F (ns.map V.int) (ns.map PyData.int)
  | [] => .nil
  | n :: ns => .cons (.int n) (ints_dn ns)
end M
open PySem PySem.W PyProof.Rows
set_option maxHeartbeats 0 in
theorem PySem.Challenge.cw_saydigits_k21_manners_known_holds : PySem.Challenge.rw_saydigits_k21_manners_known.Holds := by
  w_on; o_law; k_head; (case hw => w_witness2)
  k_fill
  refine LamX.walk_ofTs (l := PySem.Challenge.rw_saydigits_k21_manners_known) (n := 63) (k := 8) (x := "script") (CX := fun _ => L2.CX0) rfl (by decide) rfl ⟨rfl, by decide, by decide⟩ (fun w h Y => PySem.W.km_in_of Y) ?F (fun _ _ _ _ _ h => h)
  case F =>
    intro w mg fa h Y KX G hmg
    have hT8 := PySem.W.km_tabs_of Y
    refine' M.law_atT (hT8 _ ?mem) ?nT ?C (M.all_mk KX G hmg ?a0 ?l0 ?c0 ?k0 ?a1 ?l1 ?c1 ?k1 ?a2 ?l2 ?c2 ?k2 ?a3 ?l3 ?c3 ?k3 ?a4 ?l4 ?c4 ?k4 ?a5 ?l5 ?c5 ?k5 ?a6 ?l6 ?c6 ?k6 ?a7 ?l7 ?c7 ?k7 ?a8 ?l8 ?c8 ?k8 ?a9 ?l9 ?c9 ?k9 ?a10 ?l10 ?c10 ?k10 ?a11 ?l11 ?c11 ?k11 ?a12 ?l12 ?c12 ?k12 ?a13 ?l13 ?c13 ?k13 ?a14 ?l14 ?c14 ?k14 ?a15 ?l15 ?c15 ?k15 ?a16 ?l16 ?c16 ?k16 ?a17 ?l17 ?c17 ?k17 ?a18 ?l18 ?c18 ?k18 ?a19 ?l19 ?c19 ?k19 ?a20 ?l20 ?c20 ?k20 ?a21 ?l21 ?c21 ?k21 ?a22 ?l22 ?c22 ?k22 ?a23 ?l23 ?c23 ?k23 ?a24 ?l24 ?c24 ?k24 ?a25 ?l25 ?c25 ?k25 ?yDIGITS ?zlen ?zrange ?zenumerate ?zzip ?zsorted ?zset ?zlist ?ztuple ?zstr ?zint ?zbool ?zisinstance ?zsum ?zmin ?zmax ?zall ?eaSayError ?eaInvalidWord ?eaInvalidDigits ?eaTooMany ?eaNothingToUndo ?eaInvalidManner ?eaInvalidLength ?enValueError ?x0InvalidDigits ?x1InvalidDigits ?x2InvalidDigits ?x3InvalidDigits ?x4InvalidDigits ?x5InvalidDigits ?x6InvalidDigits ?x7InvalidDigits ?x8InvalidDigits ?x9InvalidDigits ?iInvalidDigitsInvalidManner ?iInvalidDigitsInvalidDigits ?iInvalidDigitsInvalidWord ?iInvalidDigitsNothingToUndo ?iInvalidDigitsTooMany ?iInvalidDigitsInvalidLength ?iInvalidDigitsValueError ?x0InvalidManner ?x1InvalidManner ?x2InvalidManner ?x3InvalidManner ?x4InvalidManner ?x5InvalidManner ?x6InvalidManner ?x7InvalidManner ?x8InvalidManner ?x9InvalidManner ?iInvalidMannerInvalidManner ?iInvalidMannerInvalidDigits ?iInvalidMannerInvalidWord ?iInvalidMannerNothingToUndo ?iInvalidMannerTooMany ?iInvalidMannerInvalidLength ?iInvalidMannerValueError ?w0 ?w1 ?w2 ?w3 ?w4) (fun ns hl => M.m_law_ints hl) (fun _ ns => M.ints_dn ns)
    (case a0 => first | k_is | k_exc | kernel_rfl); (case l0 => first | k_is | k_exc | kernel_rfl); (case c0 => first | k_is | k_exc | kernel_rfl); (case k0 => first | k_is | k_exc | kernel_rfl); (case a1 => first | k_is | k_exc | kernel_rfl); (case l1 => first | k_is | k_exc | kernel_rfl); (case c1 => first | k_is | k_exc | kernel_rfl); (case k1 => first | k_is | k_exc | kernel_rfl)
    (case a2 => first | k_is | k_exc | kernel_rfl); (case l2 => first | k_is | k_exc | kernel_rfl); (case c2 => first | k_is | k_exc | kernel_rfl); (case k2 => first | k_is | k_exc | kernel_rfl); (case a3 => first | k_is | k_exc | kernel_rfl); (case l3 => first | k_is | k_exc | kernel_rfl); (case c3 => first | k_is | k_exc | kernel_rfl); (case k3 => first | k_is | k_exc | kernel_rfl)
    (case a4 => first | k_is | k_exc | kernel_rfl); (case l4 => first | k_is | k_exc | kernel_rfl); (case c4 => first | k_is | k_exc | kernel_rfl); (case k4 => first | k_is | k_exc | kernel_rfl); (case a5 => first | k_is | k_exc | kernel_rfl); (case l5 => first | k_is | k_exc | kernel_rfl); (case c5 => first | k_is | k_exc | kernel_rfl); (case k5 => first | k_is | k_exc | kernel_rfl)
    (case a6 => first | k_is | k_exc | kernel_rfl); (case l6 => first | k_is | k_exc | kernel_rfl); (case c6 => first | k_is | k_exc | kernel_rfl); (case k6 => first | k_is | k_exc | kernel_rfl); (case a7 => first | k_is | k_exc | kernel_rfl); (case l7 => first | k_is | k_exc | kernel_rfl); (case c7 => first | k_is | k_exc | kernel_rfl); (case k7 => first | k_is | k_exc | kernel_rfl)
    (case a8 => first | k_is | k_exc | kernel_rfl); (case l8 => first | k_is | k_exc | kernel_rfl); (case c8 => first | k_is | k_exc | kernel_rfl); (case k8 => first | k_is | k_exc | kernel_rfl); (case a9 => first | k_is | k_exc | kernel_rfl); (case l9 => first | k_is | k_exc | kernel_rfl); (case c9 => first | k_is | k_exc | kernel_rfl); (case k9 => first | k_is | k_exc | kernel_rfl)
    (case a10 => first | k_is | k_exc | kernel_rfl); (case l10 => first | k_is | k_exc | kernel_rfl); (case c10 => first | k_is | k_exc | kernel_rfl); (case k10 => first | k_is | k_exc | kernel_rfl); (case a11 => first | k_is | k_exc | kernel_rfl); (case l11 => first | k_is | k_exc | kernel_rfl); (case c11 => first | k_is | k_exc | kernel_rfl); (case k11 => first | k_is | k_exc | kernel_rfl)
    (case a12 => first | k_is | k_exc | kernel_rfl); (case l12 => first | k_is | k_exc | kernel_rfl); (case c12 => first | k_is | k_exc | kernel_rfl); (case k12 => first | k_is | k_exc | kernel_rfl); (case a13 => first | k_is | k_exc | kernel_rfl); (case l13 => first | k_is | k_exc | kernel_rfl); (case c13 => first | k_is | k_exc | kernel_rfl); (case k13 => first | k_is | k_exc | kernel_rfl)
    (case a14 => first | k_is | k_exc | kernel_rfl); (case l14 => first | k_is | k_exc | kernel_rfl); (case c14 => first | k_is | k_exc | kernel_rfl); (case k14 => first | k_is | k_exc | kernel_rfl); (case a15 => first | k_is | k_exc | kernel_rfl); (case l15 => first | k_is | k_exc | kernel_rfl); (case c15 => first | k_is | k_exc | kernel_rfl); (case k15 => first | k_is | k_exc | kernel_rfl)
    (case a16 => first | k_is | k_exc | kernel_rfl); (case l16 => first | k_is | k_exc | kernel_rfl); (case c16 => first | k_is | k_exc | kernel_rfl); (case k16 => first | k_is | k_exc | kernel_rfl); (case a17 => first | k_is | k_exc | kernel_rfl); (case l17 => first | k_is | k_exc | kernel_rfl); (case c17 => first | k_is | k_exc | kernel_rfl); (case k17 => first | k_is | k_exc | kernel_rfl)
    (case a18 => first | k_is | k_exc | kernel_rfl); (case l18 => first | k_is | k_exc | kernel_rfl); (case c18 => first | k_is | k_exc | kernel_rfl); (case k18 => first | k_is | k_exc | kernel_rfl); (case a19 => first | k_is | k_exc | kernel_rfl); (case l19 => first | k_is | k_exc | kernel_rfl); (case c19 => first | k_is | k_exc | kernel_rfl); (case k19 => first | k_is | k_exc | kernel_rfl)
    (case a20 => first | k_is | k_exc | kernel_rfl); (case l20 => first | k_is | k_exc | kernel_rfl); (case c20 => first | k_is | k_exc | kernel_rfl); (case k20 => first | k_is | k_exc | kernel_rfl); (case a21 => first | k_is | k_exc | kernel_rfl); (case l21 => first | k_is | k_exc | kernel_rfl); (case c21 => first | k_is | k_exc | kernel_rfl); (case k21 => first | k_is | k_exc | kernel_rfl)
    (case a22 => first | k_is | k_exc | kernel_rfl); (case l22 => first | k_is | k_exc | kernel_rfl); (case c22 => first | k_is | k_exc | kernel_rfl); (case k22 => first | k_is | k_exc | kernel_rfl); (case a23 => first | k_is | k_exc | kernel_rfl); (case l23 => first | k_is | k_exc | kernel_rfl); (case c23 => first | k_is | k_exc | kernel_rfl); (case k23 => first | k_is | k_exc | kernel_rfl)
    (case a24 => first | k_is | k_exc | kernel_rfl); (case l24 => first | k_is | k_exc | kernel_rfl); (case c24 => first | k_is | k_exc | kernel_rfl); (case k24 => first | k_is | k_exc | kernel_rfl); (case a25 => first | k_is | k_exc | kernel_rfl); (case l25 => first | k_is | k_exc | kernel_rfl); (case c25 => first | k_is | k_exc | kernel_rfl); (case k25 => first | k_is | k_exc | kernel_rfl)
    (case yDIGITS => first | k_is | k_exc | kernel_rfl); (case zlen => first | k_is | k_exc | kernel_rfl); (case zrange => first | k_is | k_exc | kernel_rfl); (case zenumerate => first | k_is | k_exc | kernel_rfl); (case zzip => first | k_is | k_exc | kernel_rfl); (case zsorted => first | k_is | k_exc | kernel_rfl); (case zset => first | k_is | k_exc | kernel_rfl); (case zlist => first | k_is | k_exc | kernel_rfl)
    (case ztuple => first | k_is | k_exc | kernel_rfl); (case zstr => first | k_is | k_exc | kernel_rfl); (case zint => first | k_is | k_exc | kernel_rfl); (case zbool => first | k_is | k_exc | kernel_rfl); (case zisinstance => first | k_is | k_exc | kernel_rfl); (case zsum => first | k_is | k_exc | kernel_rfl); (case zmin => first | k_is | k_exc | kernel_rfl); (case zmax => first | k_is | k_exc | kernel_rfl)
    (case zall => first | k_is | k_exc | kernel_rfl); (case eaSayError => first | k_is | k_exc | kernel_rfl); (case eaInvalidWord => first | k_is | k_exc | kernel_rfl); (case eaInvalidDigits => first | k_is | k_exc | kernel_rfl); (case eaTooMany => first | k_is | k_exc | kernel_rfl); (case eaNothingToUndo => first | k_is | k_exc | kernel_rfl); (case eaInvalidManner => first | k_is | k_exc | kernel_rfl); (case eaInvalidLength => first | k_is | k_exc | kernel_rfl)
    (case enValueError => first | k_is | k_exc | kernel_rfl); (case x0InvalidDigits => first | k_is | k_exc | kernel_rfl); (case x1InvalidDigits => first | k_is | k_exc | kernel_rfl); (case x2InvalidDigits => first | k_is | k_exc | kernel_rfl); (case x3InvalidDigits => first | k_is | k_exc | kernel_rfl); (case x4InvalidDigits => first | k_is | k_exc | kernel_rfl); (case x5InvalidDigits => first | k_is | k_exc | kernel_rfl); (case x6InvalidDigits => first | k_is | k_exc | kernel_rfl)
    (case x7InvalidDigits => first | k_is | k_exc | kernel_rfl); (case x8InvalidDigits => first | k_is | k_exc | kernel_rfl); (case x9InvalidDigits => first | k_is | k_exc | kernel_rfl); (case iInvalidDigitsInvalidManner => first | k_is | k_exc | kernel_rfl); (case iInvalidDigitsInvalidDigits => first | k_is | k_exc | kernel_rfl); (case iInvalidDigitsInvalidWord => first | k_is | k_exc | kernel_rfl); (case iInvalidDigitsNothingToUndo => first | k_is | k_exc | kernel_rfl); (case iInvalidDigitsTooMany => first | k_is | k_exc | kernel_rfl)
    (case iInvalidDigitsInvalidLength => first | k_is | k_exc | kernel_rfl); (case iInvalidDigitsValueError => first | k_is | k_exc | kernel_rfl); (case x0InvalidManner => first | k_is | k_exc | kernel_rfl); (case x1InvalidManner => first | k_is | k_exc | kernel_rfl); (case x2InvalidManner => first | k_is | k_exc | kernel_rfl); (case x3InvalidManner => first | k_is | k_exc | kernel_rfl); (case x4InvalidManner => first | k_is | k_exc | kernel_rfl); (case x5InvalidManner => first | k_is | k_exc | kernel_rfl)
    (case x6InvalidManner => first | k_is | k_exc | kernel_rfl); (case x7InvalidManner => first | k_is | k_exc | kernel_rfl); (case x8InvalidManner => first | k_is | k_exc | kernel_rfl); (case x9InvalidManner => first | k_is | k_exc | kernel_rfl); (case iInvalidMannerInvalidManner => first | k_is | k_exc | kernel_rfl); (case iInvalidMannerInvalidDigits => first | k_is | k_exc | kernel_rfl); (case iInvalidMannerInvalidWord => first | k_is | k_exc | kernel_rfl); (case iInvalidMannerNothingToUndo => first | k_is | k_exc | kernel_rfl)
    (case iInvalidMannerTooMany => first | k_is | k_exc | kernel_rfl); (case iInvalidMannerInvalidLength => first | k_is | k_exc | kernel_rfl); (case iInvalidMannerValueError => first | k_is | k_exc | kernel_rfl); (case w0 => first | k_is | k_exc | kernel_rfl); (case w1 => first | k_is | k_exc | kernel_rfl); (case w2 => first | k_is | k_exc | kernel_rfl); (case w3 => first | k_is | k_exc | kernel_rfl); (case w4 => first | k_is | k_exc | kernel_rfl)
    (case mem => exact List.mem_singleton.mpr rfl); (case nT => kernel_rfl); (case C => exact PySem.W.codeHd_of_K KX (by kernel_rfl))
#print axioms PySem.Challenge.cw_saydigits_k21_manners_known_holds
