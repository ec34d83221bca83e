import PyProof.Rows.All
import Wide.All
import OpenK.AllK
import Wide.FinOn
import HandS.ForExc
import HandS.ForMost
import HandS.Deep
import HandS.TupAny
import HandS.TupLe
import HandS.TupMul
import HandS.Style
import KE.KxIndex
import HandS.IsInst
import HandS.RaiseMore
import HandS.Flow
import HandS.Zip
import HandS.WordsDict
import KE.SortData
import KE.GoesEnum
import HandS.GenList
import HandS.GenYield
import PyProof.GenComp
import HandS.SetFor
import HandS.SetTxt0
import PyProof.Rows.StrFin3
import PyProof.Rows.RegReprOcc
import PyProof.ListStr
import PyProof.TupleOfStr
import HandS.More
import PySem.Challenge.RW_saydigits_k06_whole_one_utterance_for_al
set_option Elab.async false
set_option linter.all false
set_option maxRecDepth 100000
set_option maxHeartbeats 4000000

namespace M
open PySem PySem.Spec PyProof.Rows L2

/-! ### what a value denotes, read in a frozen part of the heap -/
mutual
inductive Dn (K : PySem.W.Frag) (F : Hp) : V → PyData → Prop
  | non : Dn K F .non .none
  | bl (b : Bool) : Dn K F (.bl b) (.bool b)
  | int (i : Int) : Dn K F (.int i) (.int i)
  | str (x : Str) (h : PyData.strOk x = true) : Dn K F (.str x) (.str x)
  | lst {a : Addr} {xs : List V} {ds : List PyData} : SqL K F a xs → DnAll K F xs ds → Dn K F (.ref a) (.list ds)
  | tup {a : Addr} {xs : List V} {ds : List PyData} : SqT K F a xs → DnAll K F xs ds → Dn K F (.ref a) (.tuple ds)
  | dic {a : Addr} {kvs : List (Key × V)} {ds : List (PyData × PyData)} : F a = some (.dK kvs) → DnKv K F kvs ds → Dn K F (.ref a) (.dict ds)
inductive DnAll (K : PySem.W.Frag) (F : Hp) : List V → List PyData → Prop
  | nil : DnAll K F [] []
  | cons {v : V} {vs : List V} {d : PyData} {ds : List PyData} : Dn K F v d → DnAll K F vs ds → DnAll K F (v :: vs) (d :: ds)
inductive DnKv (K : PySem.W.Frag) (F : Hp) : List (Key × V) → List (PyData × PyData) → Prop
  | nil : DnKv K F [] []
  | cons {k : Key} {v : V} {vs : List (Key × V)} {e d : PyData} {ds : List (PyData × PyData)} : Dn K F (kV k) e → Dn K F v d → DnKv K F vs ds → DnKv K F ((k, v) :: vs) ((e, d) :: ds)
end

/-- F grows to F', H to H': what stood stands, and what is newly frozen was not there -/
structure Step (F H F' H' : Hp) : Prop where
  f : Same F F'
  h : Same H H'
  s : Same F' H'
  n : ∀ p o, H p = some o → F p = none → F' p = none

section
variable {K : PySem.W.Frag} {F F' F'' H H' H'' : Hp}
theorem Step.refl (s : Same F H) : Step F H F H := ⟨Same.refl _, Same.refl _, s, fun _ _ _ h => h⟩
theorem Step.trans (a : Step F H F' H') (b : Step F' H' F'' H'') : Step F H F'' H'' :=
  ⟨a.f.trans b.f, a.h.trans b.h, b.s, fun p o h1 h2 => b.n p o (a.h p o h1) (a.n p o h1 h2)⟩
theorem Rd.same {a : Addr} {u : HO} (e : Same F F') (h : Rd F a u) : Rd F' a u := by
  rcases h with h | ⟨o, h⟩
  · exact .inl (e _ _ h)
  · exact .inr ⟨o, e _ _ h⟩
theorem seqT {a : Addr} {xs : List V} (e : Same F F') (h : SqT K F a xs) : SqT K F' a xs := by
  rcases h with h | h
  · exact .inl (Rd.same e h)
  · exact .inr h
mutual
theorem Dn.same (e : Same F F') : ∀ (d : PyData) (v : V), Dn K F v d → Dn K F' v d
  | .none, _, h => by cases h; exact .non
  | .bool b, _, h => by cases h; exact .bl b
  | .int i, _, h => by cases h; exact .int i
  | .str x, _, h => by cases h with | str _ hx => exact .str x hx
  | .list ds, _, h => by cases h with | lst a b => exact .lst (Same.seq e a) (DnAll.same e ds _ b)
  | .tuple ds, _, h => by cases h with | tup a b => exact .tup (seqT e a) (DnAll.same e ds _ b)
  | .dict ds, _, h => by cases h with | dic a b => exact .dic (e _ _ a) (DnKv.same e ds _ b)
theorem DnAll.same (e : Same F F') : ∀ (ds : List PyData) (vs : List V), DnAll K F vs ds → DnAll K F' vs ds
  | [], _, h => by cases h; exact .nil
  | d :: ds, _, h => by cases h with | cons a b => exact .cons (Dn.same e d _ a) (DnAll.same e ds _ b)
theorem DnKv.same (e : Same F F') : ∀ (ds : List (PyData × PyData)) (vs : List (Key × V)), DnKv K F vs ds → DnKv K F' vs ds
  | [], _, h => by cases h; exact .nil
  | (e1, d) :: ds, _, h => by cases h with | cons a b c => exact .cons (Dn.same e e1 _ a) (Dn.same e d _ b) (DnKv.same e ds _ c)
end
theorem Dn.mv {v : V} {d : PyData} (e : Same F F') (h : Dn K F v d) : Dn K F' v d := Dn.same e d v h
theorem DnAll.mv {v : List V} {d : List PyData} (e : Same F F') (h : DnAll K F v d) : DnAll K F' v d := DnAll.same e d v h
theorem DnKv.mv {v : List (Key × V)} {d : List (PyData × PyData)} (e : Same F F') (h : DnKv K F v d) : DnKv K F' v d := DnKv.same e d v h
theorem DnAll.length : ∀ {vs : List V} {ds : List PyData}, DnAll K F vs ds → vs.length = ds.length
  | _, _, .nil => rfl
  | _, _, .cons _ t => by simp [DnAll.length t]
theorem DnAll.get : ∀ {vs : List V} {ds : List PyData} {i : Nat} {d : PyData}, DnAll K F vs ds → ds[i]? = some d → ∃ v, vs[i]? = some v ∧ Dn K F v d
  | _, _, _, _, .nil, e => by simp at e
  | _, _, 0, _, .cons r _, e => by simp at e; subst e; exact ⟨_, rfl, r⟩
  | _, _, i + 1, x, .cons _ t, e => by
    obtain ⟨u, h1, h2⟩ := DnAll.get (i := i) (d := x) t (by simpa using e)
    exact ⟨u, by simpa using h1, h2⟩
theorem DnAll.getV : ∀ {vs : List V} {ds : List PyData} {i : Nat} {v : V}, DnAll K F vs ds → vs[i]? = some v → ∃ d, ds[i]? = some d ∧ Dn K F v d
  | _, _, _, _, .nil, e => by simp at e
  | _, _, 0, _, .cons r _, e => by simp at e; subst e; exact ⟨_, rfl, r⟩
  | _, _, i + 1, x, .cons _ t, e => by
    obtain ⟨u, h1, h2⟩ := DnAll.getV (i := i) (v := x) t (by simpa using e)
    exact ⟨u, by simpa using h1, h2⟩
theorem DnAll.append : ∀ {xs ys : List V} {us ws : List PyData}, DnAll K F xs us → DnAll K F ys ws → DnAll K F (xs ++ ys) (us ++ ws)
  | _, _, _, _, .nil, s => s
  | _, _, _, _, .cons r t, s => .cons r (DnAll.append t s)
theorem DnAll.take : ∀ {xs : List V} {us : List PyData} (n : Nat), DnAll K F xs us → DnAll K F (xs.take n) (us.take n)
  | _, _, 0, _ => by simp only [List.take_zero]; exact .nil
  | _, _, _ + 1, .nil => by simp only [List.take_nil]; exact .nil
  | _, _, n + 1, .cons r t => .cons r (DnAll.take n t)
theorem DnAll.drop : ∀ {xs : List V} {us : List PyData} (n : Nat), DnAll K F xs us → DnAll K F (xs.drop n) (us.drop n)
  | _, _, 0, r => r
  | _, _, n + 1, .nil => by simp only [List.drop_nil]; exact .nil
  | _, _, n + 1, .cons _ t => DnAll.drop n t
theorem DnAll.set {x : V} {u : PyData} (r : Dn K F x u) : ∀ {xs : List V} {us : List PyData} (i : Nat), DnAll K F xs us → DnAll K F (xs.set i x) (us.set i u)
  | _, _, _, .nil => .nil
  | _, _, 0, .cons _ t => .cons r t
  | _, _, i + 1, .cons q t => .cons q (DnAll.set r i t)
theorem DnAll.one {x : V} {u : PyData} (r : Dn K F x u) : DnAll K F [x] [u] := .cons r .nil
theorem DnAll.rev : ∀ {xs : List V} {us : List PyData}, DnAll K F xs us → DnAll K F xs.reverse us.reverse
  | _, _, .nil => .nil
  | _, _, .cons q t => by
    rw [List.reverse_cons, List.reverse_cons]
    exact DnAll.append (DnAll.rev t) (.one q)

/-- no dict within, not deeper than n -/
def okD : Nat → PyData → Bool
  | _, .none => true
  | _, .bool _ => true
  | _, .int _ => true
  | _, .str _ => true
  | n + 1, .list xs => xs.attach.all fun x => okD n x.1
  | n + 1, .tuple xs => xs.attach.all fun x => okD n x.1
  | _, _ => false
@[simp] theorem okD_none (n : Nat) : okD n .none = true := by unfold okD; rfl
@[simp] theorem okD_bool (n : Nat) (b : Bool) : okD n (.bool b) = true := by unfold okD; rfl
@[simp] theorem okD_int (n : Nat) (i : Int) : okD n (.int i) = true := by unfold okD; rfl
@[simp] theorem okD_str (n : Nat) (x : Str) : okD n (.str x) = true := by unfold okD; rfl
@[simp] theorem okD_list (n : Nat) (xs : List PyData) : okD (n + 1) (.list xs) = xs.all (okD n) := by
  conv => lhs; unfold okD
  rw [Bool.eq_iff_iff]
  simp [List.all_eq_true]
@[simp] theorem okD_tuple (n : Nat) (xs : List PyData) : okD (n + 1) (.tuple xs) = xs.all (okD n) := by
  conv => lhs; unfold okD
  rw [Bool.eq_iff_iff]
  simp [List.all_eq_true]
@[simp] theorem okD_dict (n : Nat) (xs : List (PyData × PyData)) : okD n (.dict xs) = false := by unfold okD; cases n <;> rfl
theorem okD_zl (xs : List PyData) : okD 0 (.list xs) = false := by unfold okD; rfl
theorem okD_zt (xs : List PyData) : okD 0 (.tuple xs) = false := by unfold okD; rfl
end
section
variable {K : PySem.W.Frag} {F : Hp}
mutual
theorem Dn.dp : ∀ (d : PyData) (v : V) (n : Nat), Dn K F v d → okD n d = true → Dp K F v d ∧ d.canLay0 = true ∧ d.depth ≤ n
  | .none, _, _, h, _ => by cases h; exact ⟨.non, by unfold PyData.canLay0; rfl, by unfold PyData.depth; omega⟩
  | .bool b, _, _, h, _ => by cases h; exact ⟨.bl b, by unfold PyData.canLay0; rfl, by unfold PyData.depth; omega⟩
  | .int i, _, _, h, _ => by cases h; exact ⟨.int i, by unfold PyData.canLay0; rfl, by unfold PyData.depth; omega⟩
  | .str x, _, _, h, _ => by cases h with | str _ hx => exact ⟨.str x, by unfold PyData.canLay0; exact hx, by unfold PyData.depth; omega⟩
  | .list ds, _, 0, h, o => by rw [okD_zl] at o; cases o
  | .tuple ds, _, 0, h, o => by rw [okD_zt] at o; cases o
  | .list ds, _, n + 1, h, o => by
    rw [okD_list] at o
    cases h with | lst a b =>
      obtain ⟨x, y, z⟩ := DnAll.dp ds _ n b (List.all_eq_true.mp o)
      exact ⟨.lst a x, by unfold PyData.canLay0; exact y, by unfold PyData.depth; omega⟩
  | .tuple ds, _, n + 1, h, o => by
    rw [okD_tuple] at o
    cases h with | tup a b =>
      obtain ⟨x, y, z⟩ := DnAll.dp ds _ n b (List.all_eq_true.mp o)
      exact ⟨.tup a x, by unfold PyData.canLay0; exact y, by unfold PyData.depth; omega⟩
  | .dict ds, _, n, h, o => by rw [okD_dict] at o; cases o
theorem DnAll.dp : ∀ (ds : List PyData) (vs : List V) (n : Nat), DnAll K F vs ds → (∀ d ∈ ds, okD n d = true) → DpAll K F vs ds ∧ PyData.canLayAll0 ds = true ∧ PyData.depthAll ds ≤ n
  | [], _, n, h, _ => by cases h; exact ⟨.nil, by unfold PyData.canLayAll0; rfl, by unfold PyData.depthAll; omega⟩
  | d :: ds, _, n, h, o => by
    cases h with | cons a b =>
      obtain ⟨x, y, z⟩ := Dn.dp d _ n a (o d List.mem_cons_self)
      obtain ⟨x', y', z'⟩ := DnAll.dp ds _ n b (fun e he => o e (List.mem_cons_of_mem _ he))
      exact ⟨.cons x x', by unfold PyData.canLayAll0; rw [y, y']; rfl, by unfold PyData.depthAll; omega⟩
end
end
end M


namespace M
open PySem PySem.Spec PyProof.Rows L2

/-! ### slots -/
inductive Slot where
  /-- a value that stands still -/
  | f (d : PyData)
  /-- a list of this def's own -/
  | o (ds : List PyData)
  /-- a dict of this def's own -/
  | od (kvs : List (PyData × PyData))
  /-- a raw value -/
  | v (x : V)
abbrev En := List (Option Slot)

def SlotR (K : PySem.W.Frag) (F H : Hp) (x : V) : Slot → Prop
  | .f d => Dn K F x d
  | .o ds => ∃ p vs, x = .ref p ∧ H p = some (.lst vs) ∧ F p = none ∧ DnAll K F vs ds
  | .od ds => ∃ p vs, x = .ref p ∧ H p = some (.dK vs) ∧ F p = none ∧ DnKv K F vs ds
  | .v y => x = y
def Slot.own : Slot → Bool
  | .o _ => true
  | .od _ => true
  | _ => false

structure RelE (K : PySem.W.Frag) (F H : Hp) (ε : En) (σ : L2.St) : Prop where
  sub : Same F H
  len : ε.length = σ.length
  sl : ∀ (i : Nat) (s : Slot), ε[i]? = some (some s) → ∃ v : V, σ[i]? = some (some v) ∧ SlotR K F H v s

section
variable {K : PySem.W.Frag} {F F' H H' : Hp} {ε : En} {σ : L2.St}
theorem SlotR.step {x : V} {s : Slot} (e : Step F H F' H') (h : SlotR K F H x s) : SlotR K F' H' x s := by
  cases s with
  | f d => exact Dn.mv e.f h
  | o ds =>
    obtain ⟨p, vs, rfl, h1, h2, h3⟩ := h
    exact ⟨p, vs, rfl, e.h _ _ h1, e.n _ _ h1 h2, h3.mv e.f⟩
  | od ds =>
    obtain ⟨p, vs, rfl, h1, h2, h3⟩ := h
    exact ⟨p, vs, rfl, e.h _ _ h1, e.n _ _ h1 h2, h3.mv e.f⟩
  | v y => exact h
theorem RelE.step (e : Step F H F' H') (r : RelE K F H ε σ) : RelE K F' H' ε σ :=
  ⟨e.s, r.len, fun i s h => let ⟨v, a, b⟩ := r.sl i s h; ⟨v, a, b.step e⟩⟩

/-! ### reading judgements (no program in them) -/
/-- borrowed: frozen, or an own list | dict with frozen items -/
def Bd (K : PySem.W.Frag) (F H : Hp) (v : V) (d : PyData) : Prop := Dn K F v d ∨
  (∃ p vs ds, v = .ref p ∧ H p = some (.lst vs) ∧ F p = none ∧ DnAll K F vs ds ∧ d = .list ds) ∨
  (∃ p vs ds, v = .ref p ∧ H p = some (.dK vs) ∧ F p = none ∧ DnKv K F vs ds ∧ d = .dict ds)
theorem Bd.step {v : V} {d : PyData} (e : Step F H F' H') (h : Bd K F H v d) : Bd K F' H' v d := by
  rcases h with h | ⟨p, vs, ds, rfl, h1, h2, h3, rfl⟩ | ⟨p, vs, ds, rfl, h1, h2, h3, rfl⟩
  · exact .inl (h.mv e.f)
  · exact .inr (.inl ⟨p, vs, ds, rfl, e.h _ _ h1, e.n _ _ h1 h2, h3.mv e.f, rfl⟩)
  · exact .inr (.inr ⟨p, vs, ds, rfl, e.h _ _ h1, e.n _ _ h1 h2, h3.mv e.f, rfl⟩)
/-- as it lies in the whole heap -/
theorem Bd.full {v : V} {d : PyData} (s : Same F H) (h : Bd K F H v d) : Dn K H v d := by
  rcases h with h | ⟨p, vs, ds, rfl, h1, h2, h3, rfl⟩ | ⟨p, vs, ds, rfl, h1, h2, h3, rfl⟩
  · exact h.mv s
  · exact .lst (.inl (.inl h1)) (h3.mv s)
  · exact .dic h1 (h3.mv s)
/-- the items of a list or tuple -/
theorem Bd.items {v : V} {ds : List PyData} (s : Same F H) (h : Bd K F H v (.list ds)) : ∃ p vs, v = .ref p ∧ SqL K H p vs ∧ DnAll K F vs ds := by
  rcases h with h | ⟨p, vs, ds', rfl, h1, h2, h3, e⟩ | ⟨p, vs, ds', rfl, h1, h2, h3, e⟩
  · cases h with | lst a b => exact ⟨_, _, rfl, Same.seq s a, b⟩
  · cases e; exact ⟨p, vs, rfl, .inl (.inl h1), h3⟩
  · cases e
theorem Bd.itemsT {v : V} {ds : List PyData} (s : Same F H) (h : Bd K F H v (.tuple ds)) : ∃ p vs, v = .ref p ∧ SqT K F p vs ∧ SqT K H p vs ∧ DnAll K F vs ds := by
  rcases h with h | ⟨p, vs, ds', rfl, h1, h2, h3, e⟩ | ⟨p, vs, ds', rfl, h1, h2, h3, e⟩
  · cases h with | tup a b => exact ⟨_, _, rfl, a, seqT s a, b⟩
  · cases e
  · cases e
theorem Bd.entries {v : V} {ds : List (PyData × PyData)} (s : Same F H) (h : Bd K F H v (.dict ds)) : ∃ p vs, v = .ref p ∧ H p = some (.dK vs) ∧ DnKv K F vs ds := by
  rcases h with h | ⟨p, vs, ds', rfl, h1, h2, h3, e⟩ | ⟨p, vs, ds', rfl, h1, h2, h3, e⟩
  · cases h with | dic a b => exact ⟨_, _, rfl, s _ _ a, b⟩
  · cases e
  · cases e; exact ⟨p, vs, rfl, h1, h3⟩
theorem Bd.str {v : V} {x : Str} (h : Bd K F H v (.str x)) : v = .str x ∧ PyData.strOk x = true := by
  rcases h with h | ⟨p, vs, ds', rfl, h1, h2, h3, e⟩ | ⟨p, vs, ds', rfl, h1, h2, h3, e⟩
  · cases h with | str _ hx => exact ⟨rfl, hx⟩
  · cases e
  · cases e
theorem Bd.int {v : V} {x : Int} (h : Bd K F H v (.int x)) : v = .int x := by
  rcases h with h | ⟨p, vs, ds', rfl, h1, h2, h3, e⟩ | ⟨p, vs, ds', rfl, h1, h2, h3, e⟩
  · cases h; rfl
  · cases e
  · cases e
theorem Bd.bool {v : V} {x : Bool} (h : Bd K F H v (.bool x)) : v = .bl x := by
  rcases h with h | ⟨p, vs, ds', rfl, h1, h2, h3, e⟩ | ⟨p, vs, ds', rfl, h1, h2, h3, e⟩
  · cases h; rfl
  · cases e
  · cases e
theorem Bd.none {v : V} (h : Bd K F H v .none) : v = .non := by
  rcases h with h | ⟨p, vs, ds', rfl, h1, h2, h3, e⟩ | ⟨p, vs, ds', rfl, h1, h2, h3, e⟩
  · cases h; rfl
  · cases e
  · cases e
end

/-- value mode | borrowed mode | fresh list mode | tests | arguments -/
def RE (K : PySem.W.Frag) (t : TE) (f : En → Option PyData) : Prop := ∀ (F H : Hp) (ε : En) (σ : L2.St) (d : PyData) (Q : VK), RelE K F H ε σ → f ε = some d →
  (∀ v F' H', Step F H F' H' → Dn K F' v d → Q v H') → t σ H Q
def RB (K : PySem.W.Frag) (t : TE) (f : En → Option PyData) : Prop := ∀ (F H : Hp) (ε : En) (σ : L2.St) (d : PyData) (Q : VK), RelE K F H ε σ → f ε = some d →
  (∀ v F' H', Step F H F' H' → Bd K F' H' v d → Q v H') → t σ H Q
def RL (K : PySem.W.Frag) (t : TE) (f : En → Option (List PyData)) : Prop := ∀ (F H : Hp) (ε : En) (σ : L2.St) (ds : List PyData) (Q : VK), RelE K F H ε σ → f ε = some ds →
  (∀ p vs F' H', Step F H F' H' → H p = none → F' p = none → H' p = some (.lst vs) → DnAll K F' vs ds → Q (.ref p) H') → t σ H Q
def RT (K : PySem.W.Frag) (t : TT) (f : En → Option Bool) : Prop := ∀ (F H : Hp) (ε : En) (σ : L2.St) (b : Bool) (Q : Bool → Hp → Prop), RelE K F H ε σ → f ε = some b →
  (∀ F' H', Step F H F' H' → Q b H') → t σ H Q
def RA (K : PySem.W.Frag) (t : TA) (f : En → Option (List PyData)) : Prop := ∀ (F H : Hp) (ε : En) (σ : L2.St) (ds : List PyData) (Q : List V → Hp → Prop), RelE K F H ε σ → f ε = some ds →
  (∀ vs F' H', Step F H F' H' → DnAll K F' vs ds → Q vs H') → t σ H Q
/-- borrowed arguments -/
def BdAll (K : PySem.W.Frag) (F H : Hp) : List V → List PyData → Prop
  | [], [] => True
  | v :: vs, d :: ds => Bd K F H v d ∧ BdAll K F H vs ds
  | _, _ => False
def RAB (K : PySem.W.Frag) (t : TA) (f : En → Option (List PyData)) : Prop := ∀ (F H : Hp) (ε : En) (σ : L2.St) (ds : List PyData) (Q : List V → Hp → Prop), RelE K F H ε σ → f ε = some ds →
  (∀ vs F' H', Step F H F' H' → BdAll K F' H' vs ds → Q vs H') → t σ H Q
theorem BdAll.step {K : PySem.W.Frag} {F F' H H' : Hp} (e : Step F H F' H') : ∀ {vs : List V} {ds : List PyData}, BdAll K F H vs ds → BdAll K F' H' vs ds
  | [], [], h => trivial
  | v :: vs, d :: ds, h => ⟨h.1.step e, BdAll.step e h.2⟩
  | [], _ :: _, h => h.elim
  | _ :: _, [], h => h.elim

section
variable {K : PySem.W.Frag}
theorem RE.b {t : TE} {f : En → Option PyData} (h : RE K t f) : RB K t f := fun F H ε σ d Q r e k => h F H ε σ d Q r e fun v F' H' s x => k v F' H' s (.inl x)
/-- freezing a new list -/
theorem frz_new {F H F' H' : Hp} {p : Addr} {vs : List V} {ds : List PyData} (s : Step F H F' H') (n : H p = none) (nf : F' p = none) (h : H' p = some (.lst vs)) (a : DnAll K F' vs ds) :
    Step F H (upd F' p (.lst vs)) H' ∧ Dn K (upd F' p (.lst vs)) (.ref p) (.list ds) := by
  have e : Same F' (upd F' p (.lst vs)) := fun b o q => by rw [upd_ne (ne_of_none q nf)]; exact q
  refine ⟨⟨s.f.trans e, s.h, fun b o q => ?_, fun b o q1 q2 => ?_⟩, .lst (.inl (.inl upd_same)) (a.mv e)⟩
  · by_cases hb : b = p
    · subst hb; rw [upd_same] at q; cases q; exact h
    · rw [upd_ne hb] at q; exact s.s _ _ q
  · have hb : b ≠ p := ne_of_none q1 n
    rw [upd_ne hb]; exact s.n _ _ q1 q2
theorem RL.e {t : TE} {f : En → Option (List PyData)} (h : RL K t f) : RE K t (fun ε => (f ε).map .list) := fun F H ε σ d Q r e k => by
  obtain ⟨ds, e1, rfl⟩ := Option.map_eq_some_iff.mp e
  refine h F H ε σ ds Q r e1 fun p vs F' H' s n nf hp a => ?_
  obtain ⟨s', d'⟩ := frz_new s n nf hp a
  exact k _ _ _ s' d'

def getF (i : Nat) (ε : En) : Option PyData := match ε[i]? with
  | some (some (.f d)) => some d
  | _ => none
def getB (i : Nat) (ε : En) : Option PyData := match ε[i]? with
  | some (some (.f d)) => some d
  | some (some (.o ds)) => some (.list ds)
  | some (some (.od ds)) => some (.dict ds)
  | _ => none
theorem re_var {i : Nat} : RE K (tVar i) (getF i) := fun F H ε σ d Q r e k => by
  unfold getF at e
  split at e
  · rename_i d' h
    cases e
    obtain ⟨v, h1, h2⟩ := r.sl _ _ h
    exact ⟨v, h1, k v F H (.refl r.sub) h2⟩
  · cases e
theorem rb_var {i : Nat} : RB K (tVar i) (getB i) := fun F H ε σ d Q r e k => by
  unfold getB at e
  split at e
  · rename_i d' h
    cases e
    obtain ⟨v, h1, h2⟩ := r.sl _ _ h
    exact ⟨v, h1, k v F H (.refl r.sub) (.inl h2)⟩
  · rename_i d' h
    cases e
    obtain ⟨v, h1, p, vs, h2, h3, h4, h5⟩ := r.sl _ _ h
    exact ⟨v, h1, k v F H (.refl r.sub) (.inr (.inl ⟨p, vs, _, h2, h3, h4, h5, rfl⟩))⟩
  · rename_i d' h
    cases e
    obtain ⟨v, h1, p, vs, h2, h3, h4, h5⟩ := r.sl _ _ h
    exact ⟨v, h1, k v F H (.refl r.sub) (.inr (.inr ⟨p, vs, _, h2, h3, h4, h5, rfl⟩))⟩
  · cases e
theorem re_int {i : Int} : RE K (tC (.int i)) (fun _ => some (.int i)) := fun F H ε σ d Q r e k => by cases e; exact k _ F H (.refl r.sub) (.int i)
theorem re_bl {i : Bool} : RE K (tC (.bl i)) (fun _ => some (.bool i)) := fun F H ε σ d Q r e k => by cases e; exact k _ F H (.refl r.sub) (.bl i)
theorem re_non : RE K (tC .non) (fun _ => some .none) := fun F H ε σ d Q r e k => by cases e; exact k _ F H (.refl r.sub) .non
theorem re_str {x : Str} (h : PyData.strOk x = true := by decide +kernel) : RE K (tC (.str x)) (fun _ => some (.str x)) := fun F H ε σ d Q r e k => by cases e; exact k _ F H (.refl r.sub) (.str x h)

/-! ### operators by values -/
abbrev G2 := PyData → PyData → Option PyData
/-- r does on borrowed values what g says of the data -/
def Op2 (K : PySem.W.Frag) (r : R2) (g : G2) : Prop := ∀ (F H : Hp) (x y : V) (a b d : PyData) (Q : VK), Same F H → Bd K F H x a → Bd K F H y b → g a b = some d →
  (∀ v F' H', Step F H F' H' → Dn K F' v d → Q v H') → r x y H Q
@[simp] def dOp (g : G2) (f₁ f₂ : En → Option PyData) : En → Option PyData := fun ε => (f₁ ε).bind fun a => (f₂ ε).bind fun b => g a b
theorem re_op {r : R2} {g : G2} {ta tb : TE} {fa fb : En → Option PyData} (ho : Op2 K r g) (ha : RB K ta fa) (hb : RB K tb fb) : RE K (tOp r ta tb) (dOp g fa fb) := fun F H ε σ d Q rel e k => by
  obtain ⟨a, e1, e2⟩ := Option.bind_eq_some_iff.mp e
  obtain ⟨b, e3, e4⟩ := Option.bind_eq_some_iff.mp e2
  refine ha F H ε σ a _ rel e1 fun x F1 H1 s1 d1 => ?_
  refine hb F1 H1 ε σ b _ (rel.step s1) e3 fun y F2 H2 s2 d2 => ?_
  exact ho F2 H2 x y a b d Q s2.s (d1.step s2) d2 e4 fun v F' H' s3 d3 => k v F' H' (s1.trans (s2.trans s3)) d3
/-- fresh list results -/
def Op2L (K : PySem.W.Frag) (r : R2) (g : PyData → PyData → Option (List PyData)) : Prop := ∀ (F H : Hp) (x y : V) (a b : PyData) (ds : List PyData) (Q : VK), Same F H → Bd K F H x a → Bd K F H y b → g a b = some ds →
  (∀ p vs F' H', Step F H F' H' → H p = none → F' p = none → H' p = some (.lst vs) → DnAll K F' vs ds → Q (.ref p) H') → r x y H Q
@[simp] def dOpL (g : PyData → PyData → Option (List PyData)) (f₁ f₂ : En → Option PyData) : En → Option (List PyData) := fun ε => (f₁ ε).bind fun a => (f₂ ε).bind fun b => g a b
theorem new_trans {F H F1 H1 : Hp} {p : Addr} (s : Step F H F1 H1) (n : H1 p = none) : H p = none := s.h.free n
theorem rl_op {r : R2} {g : PyData → PyData → Option (List PyData)} {ta tb : TE} {fa fb : En → Option PyData} (ho : Op2L K r g) (ha : RB K ta fa) (hb : RB K tb fb) : RL K (tOp r ta tb) (dOpL g fa fb) := fun F H ε σ ds Q rel e k => by
  obtain ⟨a, e1, e2⟩ := Option.bind_eq_some_iff.mp e
  obtain ⟨b, e3, e4⟩ := Option.bind_eq_some_iff.mp e2
  refine ha F H ε σ a _ rel e1 fun x F1 H1 s1 d1 => ?_
  refine hb F1 H1 ε σ b _ (rel.step s1) e3 fun y F2 H2 s2 d2 => ?_
  refine ho F2 H2 x y a b ds Q s2.s (d1.step s2) d2 e4 fun p vs F' H' s3 n nf hp d3 => k p vs F' H' (s1.trans (s2.trans s3)) (new_trans s1 (new_trans s2 n)) nf hp d3
/-- a new tuple -/
theorem new_tup {F H : Hp} {p : Addr} {vs : List V} {ds : List PyData} (s : Same F H) (n : H p = none) (a : DnAll K F vs ds) :
    Step F H (upd F p (.tup vs)) (upd H p (.tup vs)) ∧ Dn K (upd F p (.tup vs)) (.ref p) (.tuple ds) := by
  have nf : F p = none := s.free n
  have e : Same F (upd F p (.tup vs)) := fun b o q => by rw [upd_ne (ne_of_none q nf)]; exact q
  refine ⟨⟨e, fun b o q => by rw [upd_ne (ne_of_none q n)]; exact q, fun b o q => ?_, fun b o q1 q2 => ?_⟩, .tup (.inl (.inl upd_same)) (a.mv e)⟩
  · by_cases hb : b = p
    · subst hb; rw [upd_same] at q ⊢; exact q
    · rw [upd_ne hb] at q ⊢; exact s _ _ q
  · rw [upd_ne (ne_of_none q1 n)]; exact q2
theorem new_lst {F H : Hp} {p : Addr} {vs : List V} (s : Same F H) (n : H p = none) :
    Step F H F (upd H p (.lst vs)) ∧ F p = none ∧ (upd H p (.lst vs)) p = some (.lst vs) := by
  refine ⟨⟨Same.refl _, fun b o q => by rw [upd_ne (ne_of_none q n)]; exact q, fun b o q => ?_, fun b o q1 q2 => q2⟩, s.free n, upd_same⟩
  rw [upd_ne (ne_of_none (s _ _ q) n)]; exact s _ _ q
/-- either of two rules -/
theorem Op2.or {r r' : R2} {g g' : G2} (h : Op2 K r g) (h' : Op2 K r' g') : Op2 K (fun x y H Q => r x y H Q ∨ r' x y H Q) (fun a b => (g a b).or (g' a b)) := fun F H x y a b d Q s h1 h2 e k => by
  have e' : (g a b).or (g' a b) = some d := e
  cases q : g a b with
  | none => rw [q] at e'; exact .inr (h' F H x y a b d Q s h1 h2 e' k)
  | some z => rw [q] at e'; cases e'; exact .inl (h F H x y a b d Q s h1 h2 q k)
end
theorem OpRor {X : Cx} {f : Value → Value → Sem Value} {r r' : R2} (h : OpR X f r) (h' : OpR X f r') : OpR X f (fun x y H Q => r x y H Q ∨ r' x y H Q) := by
  intro pins s σ H x y v u Q I rx ry q
  rcases q with q | q
  · exact h pins s σ H x y v u Q I rx ry q
  · exact h' pins s σ H x y v u Q I rx ry q
end M


namespace M
open PySem PySem.Spec PyProof.Rows L2

/-- what a rule by data asks of two values -/
def rG (K : PySem.W.Frag) (g : G2) : R2 := fun x y H Q => ∃ F a b d, Same F H ∧ Bd K F H x a ∧ Bd K F H y b ∧ g a b = some d ∧ ∀ v F' H', Step F H F' H' → Dn K F' v d → Q v H'
theorem op2G {K : PySem.W.Frag} {g : G2} : Op2 K (rG K g) g := fun F H x y a b d Q s h1 h2 e k => ⟨F, a, b, d, s, h1, h2, e, k⟩
def rGL (K : PySem.W.Frag) (g : PyData → PyData → Option (List PyData)) : R2 := fun x y H Q => ∃ F a b ds, Same F H ∧ Bd K F H x a ∧ Bd K F H y b ∧ g a b = some ds ∧
  ∀ p vs F' H', Step F H F' H' → H p = none → F' p = none → H' p = some (.lst vs) → DnAll K F' vs ds → Q (.ref p) H'
theorem op2GL {K : PySem.W.Frag} {g : PyData → PyData → Option (List PyData)} : Op2L K (rGL K g) g := fun F H x y a b d Q s h1 h2 e k => ⟨F, a, b, d, s, h1, h2, e, k⟩
theorem op2of {K : PySem.W.Frag} {X : Cx} {f : Value → Value → Sem Value} {r : R2} {g : G2} (h : OpR X f r) (hr : Op2 X.K r g) : OpR X f (rG X.K g) := by
  intro pins s σ H x y v u Q I rx ry ⟨F, a, b, d, s1, h1, h2, e, k⟩
  exact h pins s σ H x y v u Q I rx ry (hr F H x y a b d Q s1 h1 h2 e k)

/-- signs of a text -/
theorem strOk_app {x y : Str} (h : PyData.strOk x = true) (h' : PyData.strOk y = true) : PyData.strOk (x ++ y) = true := by
  unfold PyData.strOk at *
  show (x.cps ++ y.cps).all _ = true
  rw [Array.all_append, h, h']; rfl
theorem strOk_iff {x : Str} : PyData.strOk x = true ↔ ∀ c ∈ x.cps.toList, c < 0x110000 := by
  unfold PyData.strOk
  rw [← Array.all_toList, List.all_eq_true]
  simp
def mkS (l : List Nat) : Str := ⟨l.toArray⟩
theorem strOk_mk {l : List Nat} (h : ∀ c ∈ l, c < 0x110000) : PyData.strOk (mkS l) = true := strOk_iff.mpr (by simpa [mkS] using h)
def repS (x : Str) (n : Int) : Str := ⟨(List.replicate n.toNat x.cps.toList).flatten.toArray⟩
theorem foldl_rep (a : Array Nat) : ∀ (l : List (Array Nat)), l.foldl (· ++ ·) a = a ++ (l.map (·.toList)).flatten.toArray
  | [] => by simp
  | b :: l => by
    rw [List.foldl_cons, foldl_rep (a ++ b) l]
    apply Array.ext'
    simp
theorem mul_repS (x : Str) (n : Int) : Txt.mul x n = repS x n := by
  unfold Txt.mul repS
  by_cases h : n < 1
  · rw [if_pos h]
    have : n.toNat = 0 := by omega
    rw [this]; rfl
  · rw [if_neg h]
    split
    · rename_i hc
      simp only [Bool.or_eq_true, beq_iff_eq] at hc
      rcases hc with hc | hc
      · subst hc
        obtain ⟨c⟩ := x
        simp
      · obtain ⟨c⟩ := x
        have e : c.toList = [] := List.length_eq_zero_iff.mp (by simpa [Str.length] using hc)
        have e2 : c = #[] := Array.toList_inj.mp e
        subst e2
        simp
    · rw [foldl_rep]
      congr 1
      simp
theorem strOk_rep {x : Str} {n : Int} (h : PyData.strOk x = true) : PyData.strOk (repS x n) = true := by
  rw [strOk_iff] at *
  intro c hc
  have hc' : c ∈ (List.replicate n.toNat x.cps.toList).flatten := by simpa [repS] using hc
  simp only [List.mem_flatten, List.mem_replicate] at hc'
  obtain ⟨l, ⟨_, rfl⟩, hm⟩ := hc'
  exact h c hm
theorem op_mul_str {X : Cx} : OpR X (binaryOp .Mult) (fun x y H Q => ∃ i n, x = .str i ∧ y = .int n ∧ i.length ≤ 4096 ∧ 0 ≤ n ∧ n ≤ 1000 ∧ Q (.str (repS i n)) H) := by
  intro pins s σ H x y v u Q I rx ry h
  obtain ⟨i, n, rfl, rfl, hz, h0, h1, q⟩ := h
  obtain ⟨t, rfl⟩ := rx
  obtain ⟨t', rfl⟩ := ry
  refine SB.mul (mulOk_of 4096 1000 hz (by omega) (by omega) (by decide) (by decide)) fun t' k => ?_
  rw [mul_repS]
  exact ⟨.str _, H, I.tok _, ⟨_, rfl⟩, q⟩

/-! ### + -/
@[simp] def addD : G2
  | .int i, .int j => some (.int (i + j))
  | .str x, .str y => if x.length + y.length ≤ sizeLine then some (.str (x ++ y)) else none
  | .tuple a, .tuple b => if a.length + b.length ≤ sizeLine then some (.tuple (a ++ b)) else none
  | _, _ => none
@[simp] def catL : PyData → PyData → Option (List PyData)
  | .list a, .list b => if a.length + b.length ≤ sizeLine then some (a ++ b) else none
  | _, _ => none
@[simp] def addA : G2
  | .list a, .list b => if a.length + b.length ≤ sizeLine then some (.list (a ++ b)) else none
  | a, b => addD a b
end M
namespace M
open PySem PySem.Spec PyProof.Rows L2
section
variable {X : Cx}
/-- + of two lists that may lie in the written part too -/
theorem op_catS : OpR X (binaryOp .Add) (fun x y H Q => ∃ l b xs zs, x = .ref l ∧ y = .ref b ∧ SqL X.K H l xs ∧ SqL X.K H b zs ∧ xs.length + zs.length ≤ sizeLine ∧ ∀ p, H p = none → Q (.ref p) (upd H p (.lst (xs ++ zs)))) := by
  intro pins s σ H x y v u Q I rx ry h
  obtain ⟨l, b, xs, zs, rfl, rfl, hx, hz, hl, q⟩ := h
  cases rx
  cases ry
  obtain ⟨its, r, ⟨⟨cls, dd, data, sl⟩, n, ho, hc, hdn, hd⟩, _⟩ := I.list hx
  obtain ⟨its2, r2, ⟨⟨cls2, dd2, data2, sl2⟩, n2, ho2, hc2, hdn2, hd2⟩, _⟩ := I.list hz
  simp only at hc hd hc2 hd2
  subst hc hd hc2 hd2
  have h1 := r.length
  have h2 := r2.length
  refine concat_meets ⟨_, ho, rfl⟩ ⟨_, ho2, rfl⟩ noFill_list_add seq_list_add PySem.F.slot_list_add PySem.F.entry_list_add (PySem.F.args_list_add_2 _ _) (list_addW l b its.toArray its2.toArray n n2 dd dd2 sl sl2 (by rw [List.size_toArray, List.size_toArray]; omega)) ⟨ho, ho2, ?_⟩
  have ea : its.toArray ++ its2.toArray = (its ++ its2).toArray := by simp
  rw [ea]
  exact ⟨.ref _, _, I.lnew (t' := s.toks) (r.append r2) (by rw [List.length_append]; omega), rfl, q _ I.fresh⟩
theorem opl_cat : OpR X (binaryOp .Add) (rGL X.K catL) := by
  intro pins s σ H x y v u Q I rx ry ⟨F, a, b, ds, s1, h1, h2, e, k⟩
  unfold catL at e
  split at e
  · rename_i as bs
    split at e
    · rename_i hl
      cases e
      obtain ⟨l, vs, rfl, hv, av⟩ := h1.items s1
      obtain ⟨l', vs', rfl, hv', av'⟩ := h2.items s1
      refine op_catS pins s σ H _ _ v u Q I rx ry ⟨l, l', vs, vs', rfl, rfl, hv, hv', by rw [av.length, av'.length]; exact hl, fun p hp => ?_⟩
      obtain ⟨st, nf, hp'⟩ := new_lst (vs := vs ++ vs') s1 hp
      exact k p _ F _ st hp nf hp' (av.append av')
    · cases e
  · cases e
theorem opr_addD : OpR X (binaryOp .Add) (rG X.K addD) := by
  intro pins s σ H x y v u Q I rx ry ⟨F, a, b, d, s1, h1, h2, e, k⟩
  unfold addD at e
  split at e
  · cases e
    obtain rfl := h1.int
    obtain rfl := h2.int
    exact op_add pins s σ H _ _ v u Q I rx ry ⟨_, _, rfl, rfl, k _ F H (.refl s1) (.int _)⟩
  · split at e
    · rename_i hl
      cases e
      obtain ⟨rfl, o1⟩ := h1.str
      obtain ⟨rfl, o2⟩ := h2.str
      exact op_add_str pins s σ H _ _ v u Q I rx ry ⟨_, _, rfl, rfl, hl, k _ F H (.refl s1) (.str _ (strOk_app o1 o2))⟩
    · cases e
  · split at e
    · rename_i hl
      cases e
      obtain ⟨l, vs, rfl, hf, hv, av⟩ := h1.itemsT s1
      obtain ⟨l', vs', rfl, hf', hv', av'⟩ := h2.itemsT s1
      refine op_catA pins s σ H _ _ v u Q I rx ry ⟨l, l', vs, vs', rfl, rfl, hv, hv', by rw [av.length, av'.length]; exact hl, fun z => ?_, fun _ z => ?_, fun _ _ p hp => ?_⟩
      · subst z
        cases av
        exact k _ F H (.refl s1) (.tup hf' av')
      · subst z
        cases av'
        exact k _ F H (.refl s1) (.tup hf (by simpa using av))
      · obtain ⟨st, dn⟩ := new_tup s1 hp (av.append av')
        exact k _ _ _ st dn
    · cases e
  · cases e
theorem opr_addA : OpR X (binaryOp .Add) (rG X.K addA) := by
  intro pins s σ H x y v u Q I rx ry ⟨F, a, b, d, s1, h1, h2, e, k⟩
  unfold addA at e
  split at e
  · rename_i as bs
    refine opl_cat pins s σ H x y v u Q I rx ry ⟨F, .list as, .list bs, as ++ bs, s1, h1, h2, ?_, fun p vs F' H' st n nf hp a => ?_⟩
    · split at e
      · rename_i hl; show (if _ then _ else _) = _; rw [if_pos hl]
      · cases e
    · split at e
      · cases e
        obtain ⟨s', d'⟩ := frz_new st n nf hp a
        exact k _ _ _ s' d'
      · cases e
  · exact opr_addD pins s σ H x y v u Q I rx ry ⟨F, _, _, d, s1, h1, h2, e, k⟩

/-! ### ints -/
@[simp] def subD : G2
  | .int i, .int j => some (.int (i - j))
  | _, _ => none
theorem opr_sub : OpR X (binaryOp .Sub) (rG X.K subD) := by
  intro pins s σ H x y v u Q I rx ry ⟨F, a, b, d, s1, h1, h2, e, k⟩
  unfold subD at e
  split at e
  · cases e
    obtain rfl := h1.int
    obtain rfl := h2.int
    exact op_sub pins s σ H _ _ v u Q I rx ry ⟨_, _, rfl, rfl, k _ F H (.refl s1) (.int _)⟩
  · cases e
instance (i j : Int) : Decidable (CMul i j) := by unfold CMul; infer_instance
instance (i j : Int) : Decidable (CDiv i j) := by unfold CDiv; infer_instance
instance (i j : Int) : Decidable (CPow i j) := by unfold CPow; infer_instance
@[simp] def mulD : G2
  | .int i, .int j => if CMul i j then some (.int (i * j)) else none
  | .str x, .int n => if x.length ≤ 4096 ∧ 0 ≤ n ∧ n ≤ 1000 then some (.str (repS x n)) else none
  | .tuple xs, .int n => if xs ≠ [] ∧ 2 ≤ n ∧ n ≤ 1000 ∧ xs.length ≤ 1000 then some (.tuple (List.replicate n.toNat xs).flatten) else none
  | _, _ => none
theorem DnAll.rep {K : PySem.W.Frag} {F : Hp} {vs : List V} {ds : List PyData} (h : DnAll K F vs ds) : ∀ n : Nat, DnAll K F (List.replicate n vs).flatten (List.replicate n ds).flatten
  | 0 => .nil
  | n + 1 => by
    rw [List.replicate_succ, List.replicate_succ, List.flatten_cons, List.flatten_cons]
    exact h.append (DnAll.rep h n)
theorem opr_mul : OpR X (binaryOp .Mult) (rG X.K mulD) := by
  intro pins s σ H x y v u Q I rx ry ⟨F, a, b, d, s1, h1, h2, e, k⟩
  unfold mulD at e
  split at e
  · split at e
    · rename_i hc
      cases e
      obtain rfl := h1.int
      obtain rfl := h2.int
      exact op_mul pins s σ H _ _ v u Q I rx ry ⟨_, _, rfl, rfl, hc, k _ F H (.refl s1) (.int _)⟩
    · cases e
  · split at e
    · rename_i hc
      cases e
      obtain ⟨rfl, o1⟩ := h1.str
      obtain rfl := h2.int
      exact op_mul_str pins s σ H _ _ v u Q I rx ry ⟨_, _, rfl, rfl, hc.1, hc.2.1, hc.2.2, k _ F H (.refl s1) (.str _ (strOk_rep o1))⟩
    · cases e
  · split at e
    · rename_i hc
      cases e
      obtain ⟨l, vs, rfl, hf, hv, av⟩ := h1.itemsT s1
      obtain rfl := h2.int
      have hl := av.length
      refine op_repT pins s σ H _ _ v u Q I rx ry ⟨_, _, vs, rfl, rfl, hv, fun z => ?_, hc.2.1, hc.2.2.1, by rw [hl]; exact hc.2.2.2, fun p hp => ?_⟩
      · subst z
        cases av
        exact hc.1 rfl
      · obtain ⟨st, dn⟩ := new_tup s1 hp (av.rep _)
        exact k _ _ _ st dn
    · cases e
  · cases e
@[simp] def repL : PyData → PyData → Option (List PyData)
  | .list xs, .int n => if 0 ≤ n ∧ n < 2 ^ 63 ∧ xs.length * n.toNat ≤ sizeLine then some (List.replicate n.toNat xs).flatten else none
  | _, _ => none
@[simp] def modD : G2
  | .int i, .int j => if 0 < j then some (.int (i % j)) else none
  | _, _ => none
theorem opr_mod : OpR X (binaryOp .Mod) (rG X.K modD) := by
  intro pins s σ H x y v u Q I rx ry ⟨F, a, b, d, s1, h1, h2, e, k⟩
  unfold modD at e
  split at e
  · split at e
    · rename_i hc
      cases e
      obtain rfl := h1.int
      obtain rfl := h2.int
      exact op_mod pins s σ H _ _ v u Q I rx ry ⟨_, _, rfl, rfl, hc, k _ F H (.refl s1) (.int _)⟩
    · cases e
  · cases e
@[simp] def fdivD : G2
  | .int i, .int j => if CDiv i j then some (.int (i / j)) else none
  | _, _ => none
theorem opr_fdiv : OpR X (binaryOp .FloorDiv) (rG X.K fdivD) := by
  intro pins s σ H x y v u Q I rx ry ⟨F, a, b, d, s1, h1, h2, e, k⟩
  unfold fdivD at e
  split at e
  · split at e
    · rename_i hc
      cases e
      obtain rfl := h1.int
      obtain rfl := h2.int
      exact op_fdiv pins s σ H _ _ v u Q I rx ry ⟨_, _, rfl, rfl, hc, k _ F H (.refl s1) (.int _)⟩
    · cases e
  · cases e
@[simp] def powD : G2
  | .int i, .int j => if CPow i j then some (.int (i ^ j.toNat)) else none
  | _, _ => none
theorem opr_pow : OpR X (binaryOp .Pow) (rG X.K powD) := by
  intro pins s σ H x y v u Q I rx ry ⟨F, a, b, d, s1, h1, h2, e, k⟩
  unfold powD at e
  split at e
  · split at e
    · rename_i hc
      cases e
      obtain rfl := h1.int
      obtain rfl := h2.int
      exact op_pow pins s σ H _ _ v u Q I rx ry ⟨_, _, rfl, rfl, hc, k _ F H (.refl s1) (.int _)⟩
    · cases e
  · cases e

/-! ### comparisons -/
@[simp] def eqD : G2 := fun a b => if okD 60 a && okD 60 b then some (.bool (PyData.eqv a b)) else none
@[simp] def neD : G2 := fun a b => if okD 60 a && okD 60 b then some (.bool (!PyData.eqv a b)) else none
theorem shaped_of {d : PyData} (h1 : d.canLay0 = true) (h2 : d.depth ≤ 60) : SeqAt.shaped d = true := by
  unfold SeqAt.shaped
  rw [h1, decide_eq_true (by omega)]; rfl
theorem opr_eq (hu : X.A.units + 64 < cLine) : OpR X (compareOp .Eq) (rG X.K eqD) := by
  intro pins s σ H x y v u Q I rx ry ⟨F, a, b, d, s1, h1, h2, e, k⟩
  unfold eqD at e
  split at e
  · rename_i hc
    cases e
    obtain ⟨c1, c2⟩ := Bool.and_eq_true_iff.mp hc
    obtain ⟨p1, q1, r1⟩ := Dn.dp a x 60 (h1.full s1) c1
    obtain ⟨p2, q2, r2⟩ := Dn.dp b y 60 (h2.full s1) c2
    exact op_eqD hu pins s σ H _ _ v u Q I rx ry ⟨a, b, p1, p2, shaped_of q1 r1, shaped_of q2 r2, k _ F H (.refl s1) (.bl _)⟩
  · cases e
theorem opr_ne (hu : X.A.units + 64 < cLine) : OpR X (compareOp .NotEq) (rG X.K neD) := by
  intro pins s σ H x y v u Q I rx ry ⟨F, a, b, d, s1, h1, h2, e, k⟩
  unfold neD at e
  split at e
  · rename_i hc
    cases e
    obtain ⟨c1, c2⟩ := Bool.and_eq_true_iff.mp hc
    obtain ⟨p1, q1, r1⟩ := Dn.dp a x 60 (h1.full s1) c1
    obtain ⟨p2, q2, r2⟩ := Dn.dp b y 60 (h2.full s1) c2
    exact op_neD hu pins s σ H _ _ v u Q I rx ry ⟨a, b, p1, p2, shaped_of q1 r1, shaped_of q2 r2, k _ F H (.refl s1) (.bl _)⟩
  · cases e
@[simp] def ltD : G2
  | .int i, .int j => some (.bool (decide (i < j)))
  | .str i, .str j => some (.bool (decide (i.cps.toList < j.cps.toList)))
  | _, _ => none
theorem opr_lt : OpR X (compareOp .Lt) (rG X.K ltD) := by
  intro pins s σ H x y v u Q I rx ry ⟨F, a, b, d, s1, h1, h2, e, k⟩
  unfold ltD at e
  split at e
  · cases e
    obtain rfl := h1.int
    obtain rfl := h2.int
    exact op_lt pins s σ H _ _ v u Q I rx ry ⟨_, _, rfl, rfl, k _ F H (.refl s1) (.bl _)⟩
  · cases e
    obtain ⟨rfl, o1⟩ := h1.str
    obtain ⟨rfl, o2⟩ := h2.str
    exact op_lt_str pins s σ H _ _ v u Q I rx ry ⟨_, _, rfl, rfl, k _ F H (.refl s1) (.bl _)⟩
  · cases e
@[simp] def leD : G2
  | .int i, .int j => some (.bool (decide (i ≤ j)))
  | _, _ => none
theorem opr_le : OpR X (compareOp .LtE) (rG X.K leD) := by
  intro pins s σ H x y v u Q I rx ry ⟨F, a, b, d, s1, h1, h2, e, k⟩
  unfold leD at e
  split at e
  · cases e
    obtain rfl := h1.int
    obtain rfl := h2.int
    exact op_le pins s σ H _ _ v u Q I rx ry ⟨_, _, rfl, rfl, k _ F H (.refl s1) (.bl _)⟩
  · cases e
@[simp] def gtD : G2
  | .int i, .int j => some (.bool (decide (j < i)))
  | _, _ => none
theorem opr_gt : OpR X (compareOp .Gt) (rG X.K gtD) := by
  intro pins s σ H x y v u Q I rx ry ⟨F, a, b, d, s1, h1, h2, e, k⟩
  unfold gtD at e
  split at e
  · cases e
    obtain rfl := h1.int
    obtain rfl := h2.int
    exact op_gt pins s σ H _ _ v u Q I rx ry ⟨_, _, rfl, rfl, k _ F H (.refl s1) (.bl _)⟩
  · cases e
@[simp] def geD : G2
  | .int i, .int j => some (.bool (decide (j ≤ i)))
  | _, _ => none
theorem opr_ge : OpR X (compareOp .GtE) (rG X.K geD) := by
  intro pins s σ H x y v u Q I rx ry ⟨F, a, b, d, s1, h1, h2, e, k⟩
  unfold geD at e
  split at e
  · cases e
    obtain rfl := h1.int
    obtain rfl := h2.int
    exact op_ge pins s σ H _ _ v u Q I rx ry ⟨_, _, rfl, rfl, k _ F H (.refl s1) (.bl _)⟩
  · cases e
@[simp] def isNone : PyData → Bool
  | .none => true
  | _ => false
@[simp] def isnD : G2
  | a, .none => some (.bool (isNone a))
  | .bool a, .bool b => some (.bool (a == b))
  | _, _ => none
theorem Bd.ne_non {K : PySem.W.Frag} {F H : Hp} {v : V} {d : PyData} (h : Bd K F H v d) : decide (v = .non) = isNone d := by
  cases d with
  | none => rw [h.none]; rfl
  | _ =>
    refine decide_eq_false fun z => ?_
    subst z
    rcases h with h | ⟨p, vs, ds', e1, h1, h2, h3, e⟩ | ⟨p, vs, ds', e1, h1, h2, h3, e⟩
    · cases h
    · cases e1
    · cases e1
theorem opr_is : OpR X (compareOp .Is) (rG X.K isnD) := by
  intro pins s σ H x y v u Q I rx ry ⟨F, a, b, d, s1, h1, h2, e, k⟩
  unfold isnD at e
  split at e
  · cases e
    obtain rfl := h2.none
    refine op_isN pins s σ H _ _ v u Q I rx ry ⟨rfl, ?_⟩
    rw [h1.ne_non]
    exact k _ F H (.refl s1) (.bl _)
  · cases e
    obtain rfl := h1.bool
    obtain rfl := h2.bool
    exact op_is_bl pins s σ H _ _ v u Q I rx ry ⟨_, _, rfl, rfl, k _ F H (.refl s1) (.bl _)⟩
  · cases e
@[simp] def isntD : G2
  | a, .none => some (.bool (!isNone a))
  | .bool a, .bool b => some (.bool (!(a == b)))
  | _, _ => none
theorem opr_isnt : OpR X (compareOp .IsNot) (rG X.K isntD) := by
  intro pins s σ H x y v u Q I rx ry ⟨F, a, b, d, s1, h1, h2, e, k⟩
  unfold isntD at e
  split at e
  · cases e
    obtain rfl := h2.none
    refine op_notN pins s σ H _ _ v u Q I rx ry ⟨rfl, ?_⟩
    rw [h1.ne_non]
    exact k _ F H (.refl s1) (.bl _)
  · cases e
    obtain rfl := h1.bool
    obtain rfl := h2.bool
    exact op_isnot_bl pins s σ H _ _ v u Q I rx ry ⟨_, _, rfl, rfl, k _ F H (.refl s1) (.bl _)⟩
  · cases e

/-! ### in -/
def inB (d : PyData) (ds : List PyData) : Bool := ds.any fun z => PyData.eqv z d
def sign1 (x : Str) : Option Nat := match x.cps.toList with | [c] => some c | _ => none
@[simp] def inD : G2
  | d, .list ds => if okD 60 d && ds.all (okD 59) then some (.bool (inB d ds)) else none
  | d, .tuple ds => if okD 60 d && ds.all (okD 59) then some (.bool (inB d ds)) else none
  | .str x, .str z => (sign1 x).map fun c => .bool (decide (c ∈ z.cps.toList))
  | _, _ => none
@[simp] def notInD : G2 := fun a b => (inD a b).bind fun d => match d with | .bool k => some (.bool (!k)) | _ => none
theorem opr_in (hu : X.A.units + 65 < cLine) : OpR X (compareOp .In) (rG X.K inD) := by
  intro pins s σ H x y v u Q I rx ry ⟨F, a, b, d, s1, h1, h2, e, k⟩
  unfold inD at e
  split at e
  · rename_i ds
    split at e
    · rename_i hc
      cases e
      obtain ⟨c1, c2⟩ := Bool.and_eq_true_iff.mp hc
      obtain ⟨p1, q1, r1⟩ := Dn.dp a x 60 (h1.full s1) c1
      obtain ⟨p2, q2, r2⟩ := Dn.dp (.list ds) y 60 (h2.full s1) (by rw [okD_list]; exact c2)
      exact op_inD hu pins s σ H _ _ v u Q I rx ry ⟨a, ds, p1, p2, shaped_of q1 r1, shaped_of q2 r2, k _ F H (.refl s1) (.bl _)⟩
    · cases e
  · rename_i ds
    split at e
    · rename_i hc
      cases e
      obtain ⟨c1, c2⟩ := Bool.and_eq_true_iff.mp hc
      obtain ⟨p1, q1, r1⟩ := Dn.dp a x 60 (h1.full s1) c1
      obtain ⟨p2, q2, r2⟩ := Dn.dp (.tuple ds) y 60 (h2.full s1) (by rw [okD_tuple]; exact c2)
      obtain ⟨as, g1⟩ := Dp.reads I a x v p1 rx
      obtain ⟨bs, g2⟩ := Dp.reads I (.tuple ds) y u p2 ry
      unfold PyData.canLay0 at q2
      refine SeqAt.in_tuple_reads g2 g1 q2 q1 ?_ ⟨.bl _, H, I, rfl, k _ F H (.refl s1) (.bl _)⟩
      have : min (PyData.depthAll ds) a.depth ≤ a.depth := Nat.min_le_right _ _
      omega
    · cases e
  · rename_i x' z
    obtain ⟨c, e1, e2⟩ := Option.map_eq_some_iff.mp e
    subst e2
    obtain ⟨rfl, o1⟩ := h1.str
    obtain ⟨rfl, o2⟩ := h2.str
    have hx : x' = ⟨#[c]⟩ := by
      unfold sign1 at e1
      split at e1
      · rename_i c' hc'
        cases e1
        obtain ⟨xc⟩ := x'
        congr 1
        exact Array.toList_inj.mp hc'
      · cases e1
    subst hx
    exact op_in_sign pins s σ H _ _ v u Q I rx ry ⟨c, z, rfl, rfl, k _ F H (.refl s1) (.bl _)⟩
  · cases e
theorem opr_notin (hu : X.A.units + 65 < cLine) : OpR X (compareOp .NotIn) (rG X.K notInD) := by
  intro pins s σ H x y v u Q I rx ry ⟨F, a, b, d, s1, h1, h2, e0, k⟩
  obtain ⟨d0, e, e3⟩ := Option.bind_eq_some_iff.mp e0
  unfold inD at e
  split at e
  · rename_i ds
    split at e
    · rename_i hc
      cases e
      cases e3
      obtain ⟨c1, c2⟩ := Bool.and_eq_true_iff.mp hc
      obtain ⟨p1, q1, r1⟩ := Dn.dp a x 60 (h1.full s1) c1
      obtain ⟨p2, q2, r2⟩ := Dn.dp (.list ds) y 60 (h2.full s1) (by rw [okD_list]; exact c2)
      exact op_notInD hu pins s σ H _ _ v u Q I rx ry ⟨a, ds, p1, p2, shaped_of q1 r1, shaped_of q2 r2, k _ F H (.refl s1) (.bl _)⟩
    · cases e
  · rename_i ds
    split at e
    · rename_i hc
      cases e
      cases e3
      obtain ⟨c1, c2⟩ := Bool.and_eq_true_iff.mp hc
      obtain ⟨p1, q1, r1⟩ := Dn.dp a x 60 (h1.full s1) c1
      obtain ⟨p2, q2, r2⟩ := Dn.dp (.tuple ds) y 60 (h2.full s1) (by rw [okD_tuple]; exact c2)
      obtain ⟨as, g1⟩ := Dp.reads I a x v p1 rx
      obtain ⟨bs, g2⟩ := Dp.reads I (.tuple ds) y u p2 ry
      unfold PyData.canLay0 at q2
      refine SeqAt.notIn_tuple_reads g2 g1 q2 q1 ?_ ⟨.bl _, H, I, rfl, k _ F H (.refl s1) (.bl _)⟩
      have : min (PyData.depthAll ds) a.depth ≤ a.depth := Nat.min_le_right _ _
      omega
    · cases e
  · rename_i x' z
    obtain ⟨c, e1, e2⟩ := Option.map_eq_some_iff.mp e
    subst e2
    cases e3
    obtain ⟨rfl, o1⟩ := h1.str
    obtain ⟨rfl, o2⟩ := h2.str
    have hx : x' = ⟨#[c]⟩ := by
      unfold sign1 at e1
      split at e1
      · rename_i c' hc'
        cases e1
        obtain ⟨xc⟩ := x'
        congr 1
        exact Array.toList_inj.mp hc'
      · cases e1
    subst hx
    exact op_notIn_sign pins s σ H _ _ v u Q I rx ry ⟨c, z, rfl, rfl, k _ F H (.refl s1) (.bl _)⟩
  · cases e
end
end M


namespace M
open PySem PySem.Spec PyProof.Rows L2

structure DE (X : Cx) (e : Expr) (t : TE) (f : En → Option PyData) : Prop where
  p : PE X e t
  r : RE X.K t f
structure DB (X : Cx) (e : Expr) (t : TE) (f : En → Option PyData) : Prop where
  p : PE X e t
  r : RB X.K t f
structure DL (X : Cx) (e : Expr) (t : TE) (f : En → Option (List PyData)) : Prop where
  p : PE X e t
  r : RL X.K t f
structure DT (X : Cx) (e : Expr) (t : TT) (f : En → Option Bool) : Prop where
  p : PT X e t
  r : RT X.K t f
structure DW (X : Cx) (e : Expr) (t : TT) (f : En → Option Bool) : Prop where
  p : PW X e t
  r : RT X.K t f
structure DA (X : Cx) (es : List Expr) (t : TA) (f : En → Option (List PyData)) : Prop where
  p : PA X es t
  r : RA X.K t f
structure DAB (X : Cx) (es : List Expr) (t : TA) (f : En → Option (List PyData)) : Prop where
  p : PA X es t
  r : RAB X.K t f
section
variable {X : Cx} {a b c e : Expr} {es : List Expr} {ta tb tc te : TE} {fa fb fc fe : En → Option PyData} {pos : Pos}
theorem DE.toB (h : DE X e te fe) : DB X e te fe := ⟨h.p, h.r.b⟩
theorem DL.toE {f : En → Option (List PyData)} (h : DL X e te f) : DE X e te (fun ε => (f ε).map .list) := ⟨h.p, h.r.e⟩
theorem de_var (i : Nat) {x : Str} (hN : X.N[i]? = some x := by rfl) (hv : Vis X.env.scope x := by first | exact Or.inl rfl | exact Or.inr (Or.inl rfl) | exact Or.inr (Or.inr rfl)) (hd : (x == ("__debug__" : Str)) = false := by decide)
    (hcd : (x == ("__classdict__" : Str)) = false := by decide) : DE X (.Name x pos) (tVar i) (getF i) := ⟨pe_var hN hv hd hcd, re_var⟩
theorem db_var (i : Nat) {x : Str} (hN : X.N[i]? = some x := by rfl) (hv : Vis X.env.scope x := by first | exact Or.inl rfl | exact Or.inr (Or.inl rfl) | exact Or.inr (Or.inr rfl)) (hd : (x == ("__debug__" : Str)) = false := by decide)
    (hcd : (x == ("__classdict__" : Str)) = false := by decide) : DB X (.Name x pos) (tVar i) (getB i) := ⟨pe_var hN hv hd hcd, rb_var⟩
theorem de_int {i : Int} {j} : DE X (.Constant (.int i) j pos) (tC (.int i)) (fun _ => some (.int i)) := ⟨pe_int, re_int⟩
theorem de_bl {i : Bool} {j} : DE X (.Constant (.bool i) j pos) (tC (.bl i)) (fun _ => some (.bool i)) := ⟨pe_bl, re_bl⟩
theorem de_non {j} : DE X (.Constant .none j pos) (tC .non) (fun _ => some .none) := ⟨pe_non, re_non⟩
theorem de_str {x : Str} {j} (h : PyData.strOk x = true := by decide +kernel) : DE X (.Constant (.str x) j pos) (tC (.str x)) (fun _ => some (.str x)) := ⟨pe_str, re_str h⟩
/-- a module's constant text -/
theorem de_gstr {x z : Str} {tk : Tok} (hg : Gl X x) (hm : X.mg x = some (.str z tk)) (h : PyData.strOk z = true := by decide +kernel) (hd : (x == ("__debug__" : Str)) = false := by decide) : DE X (.Name x pos) (tC (.str z)) (fun _ => some (.str z)) := ⟨pe_glob hg hm ⟨_, rfl⟩ hd, re_str h⟩

/-! ### operators -/
theorem de_op {op : Operator} {g : G2} (ho : OpR X (binaryOp op) (rG X.K g)) (ha : DB X a ta fa) (hb : DB X b tb fb) : DE X (.BinOp a op b pos) (tOp (rG X.K g) ta tb) (dOp g fa fb) :=
  ⟨pe_op ho ha.p hb.p, re_op op2G ha.r hb.r⟩
theorem dl_op {op : Operator} {g : PyData → PyData → Option (List PyData)} (ho : OpR X (binaryOp op) (rGL X.K g)) (ha : DB X a ta fa) (hb : DB X b tb fb) : DL X (.BinOp a op b pos) (tOp (rGL X.K g) ta tb) (dOpL g fa fb) :=
  ⟨pe_op ho ha.p hb.p, rl_op op2GL ha.r hb.r⟩
theorem de_cmp {op : CmpOp} {g : G2} (ho : OpR X (compareOp op) (rG X.K g)) (ha : DB X a ta fa) (hb : DB X b tb fb) (hm : behindInMarks op b = false) : DE X (.Compare a [op] [b] pos) (tOp (rG X.K g) ta tb) (dOp g fa fb) :=
  ⟨pe_cmpR ho ha.p hb.p hm, re_op op2G ha.r hb.r⟩
@[simp] def boolOf : Option PyData → Option Bool
  | some (.bool k) => some k
  | _ => none
theorem boolOf_some {o : Option PyData} {k : Bool} (h : boolOf o = some k) : o = some (.bool k) := by
  unfold boolOf at h
  split at h
  · cases h; rfl
  · cases h
theorem dn_bool {K : PySem.W.Frag} {F : Hp} {v : V} {k : Bool} (h : Dn K F v (.bool k)) : v = .bl k := by cases h; rfl
theorem dn_int {K : PySem.W.Frag} {F : Hp} {v : V} {k : Int} (h : Dn K F v (.int k)) : v = .int k := by cases h; rfl
theorem dt_cmp {op : CmpOp} {g : G2} (ho : OpR X (compareOp op) (rG X.K g)) (ha : DB X a ta fa) (hb : DB X b tb fb) (hm : behindInMarks op b = false) : DT X (.Compare a [op] [b] pos) (tTest (tOp (rG X.K g) ta tb)) (fun ε => boolOf (dOp g fa fb ε)) :=
  ⟨pt_cmpR ho ha.p hb.p hm, fun F H ε σ k Q r e q => re_op op2G ha.r hb.r F H ε σ (.bool k) _ r (boolOf_some e) fun v F' H' s d => ⟨k, dn_bool d, q F' H' s⟩⟩
/-- a op b op' c -/
@[simp] def dChain (g g' : G2) (fa fb fc : En → Option PyData) : En → Option PyData := fun ε => (fa ε).bind fun a => (fb ε).bind fun b => (boolOf (g a b)).bind fun k =>
  if k then (fc ε).bind fun c => g' b c else some (.bool false)
theorem re_chain {K : PySem.W.Frag} {g g' : G2} (ha : RB K ta fa) (hb : RB K tb fb) (hc : RB K tc fc) : RE K (tChain (rG K g) (rG K g') ta tb tc) (dChain g g' fa fb fc) := fun F H ε σ d Q rel e k => by
  obtain ⟨a, e1, e2⟩ := Option.bind_eq_some_iff.mp e
  obtain ⟨b, e3, e4⟩ := Option.bind_eq_some_iff.mp e2
  obtain ⟨j, e5, e6⟩ := Option.bind_eq_some_iff.mp e4
  refine ha F H ε σ a _ rel e1 fun x F1 H1 s1 d1 => ?_
  refine hb F1 H1 ε σ b _ (rel.step s1) e3 fun y F2 H2 s2 d2 => ?_
  refine ⟨F2, a, b, .bool j, s2.s, d1.step s2, d2, boolOf_some e5, fun v F3 H3 s3 d3 => ⟨j, dn_bool d3, ?_⟩⟩
  cases j with
  | true =>
    obtain ⟨c, e7, e8⟩ := Option.bind_eq_some_iff.mp e6
    refine iteT (hc F3 H3 ε σ c _ (((rel.step s1).step s2).step s3) e7 fun z F4 H4 s4 d4 => ?_)
    exact ⟨F4, b, c, d, s4.s, (d2.step s3).step s4, d4, e8, fun v F5 H5 s5 d5 => k v F5 H5 (s1.trans (s2.trans (s3.trans (s4.trans s5)))) d5⟩
  | false =>
    cases e6
    exact iteF (k _ F3 H3 (s1.trans (s2.trans s3)) (.bl false))
theorem de_chain {op op' : CmpOp} {g g' : G2} (ho : OpR X (compareOp op) (rG X.K g)) (ho' : OpR X (compareOp op') (rG X.K g')) (ha : DB X a ta fa) (hb : DB X b tb fb) (hc : DB X c tc fc)
    (hm : lastMarks [op, op'] [b, c] = false := by with_unfolding_all rfl) : DE X (.Compare a [op, op'] [b, c] pos) (tChain (rG X.K g) (rG X.K g') ta tb tc) (dChain g g' fa fb fc) :=
  ⟨pe_chain ho ho' ha.p hb.p hc.p hm, re_chain ha.r hb.r hc.r⟩
theorem dt_chain {op op' : CmpOp} {g g' : G2} (ho : OpR X (compareOp op) (rG X.K g)) (ho' : OpR X (compareOp op') (rG X.K g')) (ha : DB X a ta fa) (hb : DB X b tb fb) (hc : DB X c tc fc)
    (hm : lastMarks [op, op'] [b, c] = false := by with_unfolding_all rfl) : DT X (.Compare a [op, op'] [b, c] pos) (tTest (tChain (rG X.K g) (rG X.K g') ta tb tc)) (fun ε => boolOf (dChain g g' fa fb fc ε)) :=
  ⟨pt_chain ho ho' ha.p hb.p hc.p hm, fun F H ε σ k Q r e q => re_chain ha.r hb.r hc.r F H ε σ (.bool k) _ r (boolOf_some e) fun v F' H' s d => ⟨k, dn_bool d, q F' H' s⟩⟩
@[simp] def negD : PyData → Option PyData
  | .int i => some (.int (-i))
  | _ => none
theorem de_neg (ha : DE X a ta fa) : DE X (.UnaryOp .USub a pos) (tUn (rU fun i => .int (-i)) ta) (fun ε => (fa ε).bind negD) :=
  ⟨pe_un un_neg ha.p, fun F H ε σ d Q r e q => by
    obtain ⟨x, e1, e2⟩ := Option.bind_eq_some_iff.mp e
    unfold negD at e2
    split at e2
    · cases e2
      exact ha.r F H ε σ _ _ r e1 fun v F' H' s d => ⟨_, dn_int d, q _ F' H' s (.int _)⟩
    · cases e2⟩

/-! ### truth -/
@[simp] def truD : PyData → Option Bool
  | .none => some false
  | .bool b => some b
  | .int i => some (i != 0)
  | .str x => if x.length ≤ sizeLine then some ((x.length : Int) != 0) else none
  | .list xs => some (!xs.isEmpty)
  | .tuple xs => some (!xs.isEmpty)
  | .dict xs => some (!xs.isEmpty)
theorem DnKv.length {K : PySem.W.Frag} {F : Hp} : ∀ {vs : List (Key × V)} {ds : List (PyData × PyData)}, DnKv K F vs ds → vs.length = ds.length
  | _, _, .nil => rfl
  | _, _, .cons _ _ t => by simp [DnKv.length t]
theorem DnAll.empty {K : PySem.W.Frag} {F : Hp} {vs : List V} {ds : List PyData} (h : DnAll K F vs ds) : vs.isEmpty = ds.isEmpty := by cases h <;> rfl
theorem DnKv.empty {K : PySem.W.Frag} {F : Hp} {vs : List (Key × V)} {ds : List (PyData × PyData)} (h : DnKv K F vs ds) : vs.isEmpty = ds.isEmpty := by cases h <;> rfl
theorem tru_of {K : PySem.W.Frag} {F H : Hp} {v : V} {d : PyData} {k : Bool} (s : Same F H) (h : Bd K F H v d) (e : truD d = some k) : TruV K v H k := by
  cases d with
  | none => rw [h.none]; cases e; rfl
  | bool b => rw [h.bool]; cases e; rfl
  | int b => rw [h.int]; cases e; rfl
  | str b =>
    obtain ⟨rfl, _⟩ := h.str
    unfold truD at e
    simp only at e
    split at e
    · cases e; exact ⟨by assumption, rfl⟩
    · cases e
  | list b =>
    obtain ⟨p, vs, rfl, h1, h2⟩ := h.items s
    cases e
    exact .inl ⟨vs, h1, by rw [h2.empty]⟩
  | tuple b =>
    obtain ⟨p, vs, rfl, _, h1, h2⟩ := h.itemsT s
    cases e
    exact .inr (.inl ⟨vs, h1, by rw [h2.empty]⟩)
  | dict b =>
    obtain ⟨p, vs, rfl, h1, h2⟩ := h.entries s
    cases e
    exact .inr (.inr ⟨vs, h1, by rw [h2.empty]⟩)
theorem dt_tru (ha : DB X a ta fa) (he : ∀ whole, isTrue a X.env whole = (do let v ← whole; standAt a.pos; holding [v] (truthy v)) := by intro _; rfl) :
    DT X a (fun σ H Q => ta σ H fun x H' => ∃ k, TruV X.K x H' k ∧ Q k H') (fun ε => (fa ε).bind truD) :=
  ⟨pt_truth ha.p he, fun F H ε σ k Q r e q => by
    obtain ⟨d, e1, e2⟩ := Option.bind_eq_some_iff.mp e
    exact ha.r F H ε σ d _ r e1 fun v F' H' s h => ⟨k, tru_of s.s h e2, q F' H' s⟩⟩
variable {tA tB' : TT} {ga gb : En → Option Bool} {rest : List Expr}
theorem dw_and1 (ha : DT X a tA ga) : DW X (.BoolOp .And [a] pos) tA ga := ⟨pw_and1 ha.p, ha.r⟩
theorem dw_or1 (ha : DT X a tA ga) : DW X (.BoolOp .Or [a] pos) tA ga := ⟨pw_or1 ha.p, ha.r⟩
@[simp] def dAnd (ga gb : En → Option Bool) : En → Option Bool := fun ε => (ga ε).bind fun k => if k then gb ε else some false
@[simp] def dOr (ga gb : En → Option Bool) : En → Option Bool := fun ε => (ga ε).bind fun k => if k then some true else gb ε
theorem dw_and (ha : DT X a tA ga) (hb : DW X (.BoolOp .And (b :: rest) pos) tB' gb) : DW X (.BoolOp .And (a :: b :: rest) pos) (tAnd tA tB') (dAnd ga gb) :=
  ⟨pw_and ha.p hb.p, fun F H ε σ k Q r e q => by
    obtain ⟨j, e1, e2⟩ := Option.bind_eq_some_iff.mp e
    refine ha.r F H ε σ j _ r e1 fun F1 H1 s1 => ?_
    cases j with
    | true => exact iteT (hb.r F1 H1 ε σ k _ (r.step s1) e2 fun F2 H2 s2 => q F2 H2 (s1.trans s2))
    | false => cases e2; exact iteF (q F1 H1 s1)⟩
theorem dw_or (ha : DT X a tA ga) (hb : DW X (.BoolOp .Or (b :: rest) pos) tB' gb) : DW X (.BoolOp .Or (a :: b :: rest) pos) (tOr tA tB') (dOr ga gb) :=
  ⟨pw_or ha.p hb.p, fun F H ε σ k Q r e q => by
    obtain ⟨j, e1, e2⟩ := Option.bind_eq_some_iff.mp e
    refine ha.r F H ε σ j _ r e1 fun F1 H1 s1 => ?_
    cases j with
    | true => cases e2; exact iteT (q F1 H1 s1)
    | false => exact iteF (hb.r F1 H1 ε σ k _ (r.step s1) e2 fun F2 H2 s2 => q F2 H2 (s1.trans s2))⟩
theorem DW.t (h : DW X a tA ga) : DT X a tA ga := ⟨h.p.pt, h.r⟩
theorem dt_not (ha : DT X a tA ga) : DT X (.UnaryOp .Not a pos) (tNot tA) (fun ε => (ga ε).map not) :=
  ⟨pt_not ha.p, fun F H ε σ k Q r e q => by
    obtain ⟨j, e1, rfl⟩ := Option.map_eq_some_iff.mp e
    exact ha.r F H ε σ j _ r e1 fun F1 H1 s1 => q F1 H1 s1⟩
/-- and, or, not as values -/
theorem de_one {op} (h : DE X a ta fa) : DE X (.BoolOp op [a] pos) ta fa := ⟨pe_one h.p, h.r⟩
@[simp] def dAndV (fa fb : En → Option PyData) : En → Option PyData := fun ε => (boolOf (fa ε)).bind fun k => if k then fb ε else some (.bool false)
@[simp] def dOrV (fa fb : En → Option PyData) : En → Option PyData := fun ε => (boolOf (fa ε)).bind fun k => if k then some (.bool true) else fb ε
theorem de_and (ha : DE X a ta fa) (hb : DE X (.BoolOp .And (b :: rest) pos) tb fb) : DE X (.BoolOp .And (a :: b :: rest) pos) (tAndV ta tb) (dAndV fa fb) :=
  ⟨pe_and ha.p hb.p, fun F H ε σ d Q r e q => by
    obtain ⟨j, e1, e2⟩ := Option.bind_eq_some_iff.mp e
    refine ha.r F H ε σ _ _ r (boolOf_some e1) fun v F1 H1 s1 d1 => ⟨j, dn_bool d1, ?_⟩
    cases j with
    | true => exact iteT (hb.r F1 H1 ε σ d _ (r.step s1) e2 fun v F2 H2 s2 d2 => q v F2 H2 (s1.trans s2) d2)
    | false => cases e2; exact iteF (q _ F1 H1 s1 (.bl false))⟩
theorem de_or (ha : DE X a ta fa) (hb : DE X (.BoolOp .Or (b :: rest) pos) tb fb) : DE X (.BoolOp .Or (a :: b :: rest) pos) (tOrV ta tb) (dOrV fa fb) :=
  ⟨pe_or ha.p hb.p, fun F H ε σ d Q r e q => by
    obtain ⟨j, e1, e2⟩ := Option.bind_eq_some_iff.mp e
    refine ha.r F H ε σ _ _ r (boolOf_some e1) fun v F1 H1 s1 d1 => ⟨j, dn_bool d1, ?_⟩
    cases j with
    | true => cases e2; exact iteT (q _ F1 H1 s1 (.bl true))
    | false => exact iteF (hb.r F1 H1 ε σ d _ (r.step s1) e2 fun v F2 H2 s2 d2 => q v F2 H2 (s1.trans s2) d2)⟩
theorem de_not (ha : DE X a ta fa) : DE X (.UnaryOp .Not a pos) (tNotV ta) (fun ε => (boolOf (fa ε)).map fun k => .bool (!k)) :=
  ⟨pe_not ha.p, fun F H ε σ d Q r e q => by
    obtain ⟨j, e1, rfl⟩ := Option.map_eq_some_iff.mp e
    exact ha.r F H ε σ _ _ r (boolOf_some e1) fun v F1 H1 s1 d1 => ⟨j, dn_bool d1, q _ F1 H1 s1 (.bl _)⟩⟩
@[simp] def dIfE (g : En → Option Bool) (fa fb : En → Option PyData) : En → Option PyData := fun ε => (g ε).bind fun k => if k then fa ε else fb ε
theorem de_ifE (hc : DT X c tA ga) (ha : DE X a ta fa) (hb : DE X b tb fb) : DE X (.IfExp c a b pos) (tIf tA ta tb) (dIfE ga fa fb) :=
  ⟨pe_ifExp hc.p ha.p hb.p, fun F H ε σ d Q r e q => by
    obtain ⟨j, e1, e2⟩ := Option.bind_eq_some_iff.mp e
    refine hc.r F H ε σ j _ r e1 fun F1 H1 s1 => ?_
    cases j with
    | true => exact iteT (ha.r F1 H1 ε σ d _ (r.step s1) e2 fun v F2 H2 s2 d2 => q v F2 H2 (s1.trans s2) d2)
    | false => exact iteF (hb.r F1 H1 ε σ d _ (r.step s1) e2 fun v F2 H2 s2 d2 => q v F2 H2 (s1.trans s2) d2)⟩

/-! ### arguments, displays -/
variable {t : TA} {f : En → Option (List PyData)}
theorem da_nil : DA X [] tNil (fun _ => some []) := ⟨pa_nil, fun F H ε σ d Q r e q => by cases e; exact q _ F H (.refl r.sub) .nil⟩
@[simp] def dCons (fe : En → Option PyData) (f : En → Option (List PyData)) : En → Option (List PyData) := fun ε => (fe ε).bind fun d => (f ε).map (d :: ·)
theorem da_cons (ha : DE X e te fe) (hr : DA X es t f) (hs : starEach (e :: es) X.env = (false, eval e X.env) :: starEach es X.env := by rfl) : DA X (e :: es) (tCons te t) (dCons fe f) :=
  ⟨pa_cons ha.p hr.p hs, fun F H ε σ ds Q r e q => by
    obtain ⟨d, e1, e2⟩ := Option.bind_eq_some_iff.mp e
    obtain ⟨ds', e3, rfl⟩ := Option.map_eq_some_iff.mp e2
    refine ha.r F H ε σ d _ r e1 fun v F1 H1 s1 d1 => ?_
    refine hr.r F1 H1 ε σ ds' _ (r.step s1) e3 fun vs F2 H2 s2 d2 => ?_
    exact q _ F2 H2 (s1.trans s2) (.cons (d1.mv s2.f) d2)⟩
theorem dab_nil : DAB X [] tNil (fun _ => some []) := ⟨pa_nil, fun F H ε σ d Q r e q => by cases e; exact q _ F H (.refl r.sub) trivial⟩
theorem dab_cons (ha : DB X e te fe) (hr : DAB X es t f) (hs : starEach (e :: es) X.env = (false, eval e X.env) :: starEach es X.env := by rfl) : DAB X (e :: es) (tCons te t) (dCons fe f) :=
  ⟨pa_cons ha.p hr.p hs, fun F H ε σ ds Q r e q => by
    obtain ⟨d, e1, e2⟩ := Option.bind_eq_some_iff.mp e
    obtain ⟨ds', e3, rfl⟩ := Option.map_eq_some_iff.mp e2
    refine ha.r F H ε σ d _ r e1 fun v F1 H1 s1 d1 => ?_
    refine hr.r F1 H1 ε σ ds' _ (r.step s1) e3 fun vs F2 H2 s2 d2 => ?_
    exact q _ F2 H2 (s1.trans s2) ⟨d1.step s2, d2⟩⟩
@[simp] def limL (o : Option (List PyData)) : Option (List PyData) := o.bind fun ds => if ds.length ≤ sizeLine then some ds else none
theorem dl_lst (h : DA X es t f) : DL X (.List es pos) (tLst t) (fun ε => limL (f ε)) :=
  ⟨pe_lst h.p, fun F H ε σ ds Q r e q => by
    obtain ⟨ds', e1, e2⟩ := Option.bind_eq_some_iff.mp e
    split at e2
    · cases e2
      refine h.r F H ε σ _ _ r e1 fun vs F1 H1 s1 d1 => ⟨by rw [d1.length]; assumption, fun p hp => ?_⟩
      obtain ⟨st, nf, hp'⟩ := new_lst (vs := vs) s1.s hp
      exact q p vs F1 _ (s1.trans st) (s1.h.free hp) nf hp' d1
    · cases e2⟩
theorem de_tup {k} (h : DA X es t f) : DE X (.Tuple es k pos) (tTup t) (fun ε => (limL (f ε)).map .tuple) :=
  ⟨pe_tup h.p, fun F H ε σ d Q r e q => by
    obtain ⟨ds, e0, rfl⟩ := Option.map_eq_some_iff.mp e
    obtain ⟨ds', e1, e2⟩ := Option.bind_eq_some_iff.mp e0
    split at e2
    · cases e2
      refine h.r F H ε σ _ _ r e1 fun vs F1 H1 s1 d1 => ⟨by rw [d1.length]; assumption, fun p hp => ?_⟩
      obtain ⟨st, dn⟩ := new_tup s1.s hp d1
      exact q _ _ _ (s1.trans st) dn
    · cases e2⟩

/-! ### items, slices -/
def atD (ds : List PyData) (i : Int) : Option PyData := atI ds i
@[simp] def ixD : G2
  | .list ds, .int i => atI ds i
  | .tuple ds, .int i => atI ds i
  | .str z, .int i => if z.length ≤ sizeLine then (atI z.cps.toList i).map fun c => .str ⟨#[c]⟩ else none
  | _, _ => none
theorem atI_get {K : PySem.W.Frag} {F : Hp} {vs : List V} {ds : List PyData} {i : Int} {d : PyData} (h : DnAll K F vs ds) (e : atI ds i = some d) : ∃ v, atI vs i = some v ∧ Dn K F v d := by
  unfold atI at *
  obtain ⟨j, e1, e2⟩ := Option.bind_eq_some_iff.mp e
  obtain ⟨v, h1, h2⟩ := h.get e2
  exact ⟨v, by rw [h.length, e1]; exact h1, h2⟩
theorem atI_mem {α : Type} {xs : List α} {i : Int} {c : α} (e : atI xs i = some c) : c ∈ xs := by
  unfold atI at e
  obtain ⟨j, e1, e2⟩ := Option.bind_eq_some_iff.mp e
  exact List.mem_of_getElem? e2
theorem op_ixD {K : PySem.W.Frag} : Op2 K (rIx K) ixD := fun F H x y a b d Q s h1 h2 e k => by
  unfold ixD at e
  split at e
  · obtain ⟨p, vs, rfl, hv, av⟩ := h1.items s
    obtain rfl := h2.int
    obtain ⟨v, e1, d1⟩ := atI_get av e
    exact .inl ⟨p, vs, _, v, rfl, rfl, hv, e1, k v F H (.refl s) d1⟩
  · obtain ⟨p, vs, rfl, _, hv, av⟩ := h1.itemsT s
    obtain rfl := h2.int
    obtain ⟨v, e1, d1⟩ := atI_get av e
    exact .inr (.inl ⟨p, vs, _, v, rfl, rfl, hv, e1, k v F H (.refl s) d1⟩)
  · split at e
    · rename_i hz
      obtain ⟨c, e1, rfl⟩ := Option.map_eq_some_iff.mp e
      obtain ⟨rfl, o⟩ := h1.str
      obtain rfl := h2.int
      refine .inr (.inr ⟨_, _, c, rfl, rfl, hz, e1, k _ F H (.refl s) (.str _ ?_)⟩)
      have := strOk_iff.mp o c (atI_mem e1)
      exact strOk_iff.mpr (by simpa using this)
    · cases e
  · cases e
theorem de_ix (ha : DB X a ta fa) (hb : DB X b tb fb) (hs : PlainIx b := by exact fun _ _ => rfl) : DE X (.Subscript a b pos) (tOp (rIx X.K) ta tb) (dOp ixD fa fb) :=
  ⟨pe_ix ix_seq ha.p hb.p hs, re_op op_ixD ha.r hb.r⟩
/-- the parts of a slice -/
structure DO (X : Cx) (e : Option Expr) (t : TO) (f : En → Option (Option Int)) : Prop where
  p : PO X e t
  r : ∀ (F H : Hp) (ε : En) (σ : L2.St) (o : Option Int) (Q : Option Int → Hp → Prop), RelE X.K F H ε σ → f ε = some o → (∀ F' H', Step F H F' H' → Q o H') → t σ H Q
theorem do_none : DO X none tNoPart (fun _ => some none) := ⟨po_none, fun F H ε σ o Q r e q => by cases e; exact q F H (.refl r.sub)⟩
@[simp] def intOf : Option PyData → Option (Option Int)
  | some (.int i) => some (some i)
  | _ => none
theorem do_some (h : DB X e te fe) : DO X (some e) (tPart te) (fun ε => intOf (fe ε)) := ⟨po_some h.p, fun F H ε σ o Q r e q => by
  unfold intOf at e
  split at e
  · rename_i i he
    cases e
    exact h.r F H ε σ _ _ r he fun v F' H' s d => ⟨i, d.int, q F' H' s⟩
  · cases e⟩
def cutD {α : Type} (xs : List α) (lo hi : Option Int) : List α := (xs.drop (HT.sIx xs.length 0 lo)).take (HT.sIx xs.length xs.length hi - HT.sIx xs.length 0 lo)
@[simp] def slD : PyData → Option Int → Option Int → Option PyData
  | .list ds, lo, hi => some (.list (cutD ds lo hi))
  | .tuple ds, lo, hi => some (.tuple (cutD ds lo hi))
  | .str z, lo, hi => if z.length ≤ sizeLine then some (.str ⟨(cutD z.cps.toList lo hi).toArray⟩) else none
  | _, _, _ => none
theorem DnAll.cut {K : PySem.W.Frag} {F : Hp} {vs : List V} {ds : List PyData} (h : DnAll K F vs ds) (lo hi : Option Int) : DnAll K F (cutV vs lo hi) (cutD ds lo hi) := by
  unfold cutV cutD
  rw [h.length]
  exact (h.drop _).take _
theorem cut_mem {α : Type} {xs : List α} {lo hi : Option Int} {c : α} (h : c ∈ cutD xs lo hi) : c ∈ xs := List.mem_of_mem_drop (List.mem_of_mem_take h)
theorem cut_full {α : Type} {xs : List α} {lo hi : Option Int} (h : HT.sIx xs.length 0 lo = 0 ∧ HT.sIx xs.length xs.length hi = xs.length) : cutD xs lo hi = xs := by
  unfold cutD
  rw [h.1, h.2]
  simp
theorem cutS_eq (z : Str) (lo hi : Option Int) : cutS z lo hi = ⟨(cutD z.cps.toList lo hi).toArray⟩ := by
  unfold cutS cutD
  have e : z.length = z.cps.toList.length := by simp [Str.length]
  rw [e]
def rSlAll (K : PySem.W.Frag) : V → Option Int → Option Int → Hp → VK → Prop := fun x lo hi H Q => rSlL K x lo hi H Q ∨ rSlA K x lo hi H Q ∨ rSlS x lo hi H Q
theorem sl_all : SlR X (rSlAll X.K) := sl_list.or (sl_tupA.or sl_str)
@[simp] def dSl (fe : En → Option PyData) (fl fh : En → Option (Option Int)) : En → Option PyData := fun ε => (fe ε).bind fun d => (fl ε).bind fun lo => (fh ε).bind fun hi => slD d lo hi
variable {lo hi : Option Expr} {tl th : TO} {fl fh : En → Option (Option Int)} {p2 : Pos}
theorem de_sl (he : DB X e te fe) (hl : DO X lo tl fl) (hu : DO X hi th fh) : DE X (.Subscript e (.Slice lo hi none p2) pos) (tSl (rSlAll X.K) te tl th) (dSl fe fl fh) :=
  ⟨pe_slice sl_all he.p hl.p hu.p, fun F H ε σ d Q r e q => by
    obtain ⟨d0, e1, e'⟩ := Option.bind_eq_some_iff.mp e
    obtain ⟨l, e2, e''⟩ := Option.bind_eq_some_iff.mp e'
    obtain ⟨h, e3, e4⟩ := Option.bind_eq_some_iff.mp e''
    refine he.r F H ε σ d0 _ r e1 fun v F1 H1 s1 d1 => ?_
    refine hl.r F1 H1 ε σ l _ (r.step s1) e2 fun F2 H2 s2 => ?_
    refine hu.r F2 H2 ε σ h _ ((r.step s1).step s2) e3 fun F3 H3 s3 => ?_
    have d3 := (d1.step s2).step s3
    have s := s1.trans (s2.trans s3)
    unfold slD at e4
    split at e4
    · cases e4
      obtain ⟨p, vs, rfl, hv, av⟩ := d3.items s3.s
      refine .inl ⟨p, vs, rfl, hv, fun p' hp => ?_⟩
      obtain ⟨st, nf, hp'⟩ := new_lst (vs := cutV vs l h) s3.s hp
      obtain ⟨s', d'⟩ := frz_new st hp nf hp' (av.cut l h)
      exact q _ _ _ (s.trans s') d'
    · cases e4
      obtain ⟨p, vs, rfl, hf, hv, av⟩ := d3.itemsT s3.s
      refine .inr (.inl ⟨p, vs, rfl, hv, fun z => ?_, fun _ p' hp => ?_⟩)
      · rw [av.length] at z
        rw [cut_full z] at q
        exact q _ _ _ s (.tup hf av)
      · obtain ⟨st, dn⟩ := new_tup s3.s hp (av.cut l h)
        exact q _ _ _ (s.trans st) dn
    · split at e4
      · rename_i hz
        cases e4
        obtain ⟨rfl, o⟩ := d3.str
        refine .inr (.inr ⟨_, rfl, hz, ?_⟩)
        rw [cutS_eq]
        exact q _ _ _ s (.str _ (strOk_iff.mpr fun c hc => strOk_iff.mp o c (cut_mem (by simpa using hc))))
      · cases e4
    · cases e4⟩
@[simp] def slL : PyData → Option Int → Option Int → Option (List PyData)
  | .list ds, lo, hi => some (cutD ds lo hi)
  | _, _, _ => none
@[simp] def dSlL (fe : En → Option PyData) (fl fh : En → Option (Option Int)) : En → Option (List PyData) := fun ε => (fe ε).bind fun d => (fl ε).bind fun lo => (fh ε).bind fun hi => slL d lo hi
theorem dl_sl (he : DB X e te fe) (hl : DO X lo tl fl) (hu : DO X hi th fh) : DL X (.Subscript e (.Slice lo hi none p2) pos) (tSl (rSlL X.K) te tl th) (dSlL fe fl fh) :=
  ⟨pe_slice sl_list he.p hl.p hu.p, fun F H ε σ d Q r e q => by
    obtain ⟨d0, e1, e'⟩ := Option.bind_eq_some_iff.mp e
    obtain ⟨l, e2, e''⟩ := Option.bind_eq_some_iff.mp e'
    obtain ⟨h, e3, e4⟩ := Option.bind_eq_some_iff.mp e''
    refine he.r F H ε σ d0 _ r e1 fun v F1 H1 s1 d1 => ?_
    refine hl.r F1 H1 ε σ l _ (r.step s1) e2 fun F2 H2 s2 => ?_
    refine hu.r F2 H2 ε σ h _ ((r.step s1).step s2) e3 fun F3 H3 s3 => ?_
    have d3 := (d1.step s2).step s3
    have s := s1.trans (s2.trans s3)
    unfold slL at e4
    split at e4
    · cases e4
      obtain ⟨p, vs, rfl, hv, av⟩ := d3.items s3.s
      refine ⟨p, vs, rfl, hv, fun p' hp => ?_⟩
      obtain ⟨st, nf, hp'⟩ := new_lst (vs := cutV vs l h) s3.s hp
      exact q _ _ _ _ (s.trans st) (s.h.free hp) nf hp' (av.cut l h)
    · cases e4⟩

/-! ### calls of built-ins -/
def rGC (K : PySem.W.Frag) (g : List PyData → Option PyData) : List V → Hp → VK → Prop := fun vs H Q => ∃ F ds d, Same F H ∧ BdAll K F H vs ds ∧ g ds = some d ∧ ∀ v F' H', Step F H F' H' → Dn K F' v d → Q v H'
def rGCL (K : PySem.W.Frag) (g : List PyData → Option (List PyData)) : List V → Hp → VK → Prop := fun vs H Q => ∃ F ds d, Same F H ∧ BdAll K F H vs ds ∧ g ds = some d ∧
  ∀ p vs F' H', Step F H F' H' → H p = none → F' p = none → H' p = some (.lst vs) → DnAll K F' vs d → Q (.ref p) H'
variable {x : Str} {p : Pos}
theorem re_call {K : PySem.W.Frag} {g : List PyData → Option PyData} (ha : RAB K t f) : RE K (tCB (rGC K g) t) (fun ε => (f ε).bind g) := fun F H ε σ d Q r e q => by
  obtain ⟨ds, e1, e2⟩ := Option.bind_eq_some_iff.mp e
  exact ha F H ε σ ds _ r e1 fun vs F1 H1 s1 d1 => ⟨F1, ds, d, s1.s, d1, e2, fun v F' H' s' d' => q v F' H' (s1.trans s') d'⟩
theorem rl_call {K : PySem.W.Frag} {g : List PyData → Option (List PyData)} (ha : RAB K t f) : RL K (tCB (rGCL K g) t) (fun ε => (f ε).bind g) := fun F H ε σ d Q r e q => by
  obtain ⟨ds, e1, e2⟩ := Option.bind_eq_some_iff.mp e
  exact ha F H ε σ ds _ r e1 fun vs F1 H1 s1 d1 => ⟨F1, ds, d, s1.s, d1, e2, fun p vs F' H' s' n nf hp d' => q p vs F' H' (s1.trans s') (s1.h.free n) nf hp d'⟩
theorem de_callB {id : String} {g : List PyData → Option PyData} (hc : CallR X (.builtin id) (rGC X.K g)) (hg : Gl X x) (hm : X.mg x = none) (hv : bootBuiltins x = some (.builtin id)) (ha : DAB X (e :: es) t f) (hn : x ≠ "__name__" := by decide) (hdb : (x == ("__debug__" : Str)) = false := by decide)
    (he : starEach (e :: es) X.env = (false, eval e X.env) :: starEach es X.env := by rfl) (hpl : (backTo pos (starEach es X.env)).any (·.1) = false := by rfl) : DE X (.Call (.Name x p) (e :: es) [] pos) (tCB (rGC X.K g) t) (fun ε => (f ε).bind g) :=
  ⟨pe_callB hc hg hm hv ha.p hn hdb he hpl, re_call ha.r⟩
theorem de_callTy {T : String} {g : List PyData → Option PyData} (hc : CallR X (.type T) (rGC X.K g)) (hg : Gl X x) (hm : X.mg x = none) (hv : bootBuiltins x = some (.type T)) (ha : DAB X (e :: es) t f) (hn : x ≠ "__name__" := by decide) (hdb : (x == ("__debug__" : Str)) = false := by decide)
    (he : starEach (e :: es) X.env = (false, eval e X.env) :: starEach es X.env := by rfl) (hpl : (backTo pos (starEach es X.env)).any (·.1) = false := by rfl) : DE X (.Call (.Name x p) (e :: es) [] pos) (tCB (rGC X.K g) t) (fun ε => (f ε).bind g) :=
  ⟨pe_callTy hc hg hm hv ha.p hn hdb he hpl, re_call ha.r⟩
theorem dl_callB {id : String} {g : List PyData → Option (List PyData)} (hc : CallR X (.builtin id) (rGCL X.K g)) (hg : Gl X x) (hm : X.mg x = none) (hv : bootBuiltins x = some (.builtin id)) (ha : DAB X (e :: es) t f) (hn : x ≠ "__name__" := by decide) (hdb : (x == ("__debug__" : Str)) = false := by decide)
    (he : starEach (e :: es) X.env = (false, eval e X.env) :: starEach es X.env := by rfl) (hpl : (backTo pos (starEach es X.env)).any (·.1) = false := by rfl) : DL X (.Call (.Name x p) (e :: es) [] pos) (tCB (rGCL X.K g) t) (fun ε => (f ε).bind g) :=
  ⟨pe_callB hc hg hm hv ha.p hn hdb he hpl, rl_call ha.r⟩
theorem dl_callTy {T : String} {g : List PyData → Option (List PyData)} (hc : CallR X (.type T) (rGCL X.K g)) (hg : Gl X x) (hm : X.mg x = none) (hv : bootBuiltins x = some (.type T)) (ha : DAB X (e :: es) t f) (hn : x ≠ "__name__" := by decide) (hdb : (x == ("__debug__" : Str)) = false := by decide)
    (he : starEach (e :: es) X.env = (false, eval e X.env) :: starEach es X.env := by rfl) (hpl : (backTo pos (starEach es X.env)).any (·.1) = false := by rfl) : DL X (.Call (.Name x p) (e :: es) [] pos) (tCB (rGCL X.K g) t) (fun ε => (f ε).bind g) :=
  ⟨pe_callTy hc hg hm hv ha.p hn hdb he hpl, rl_call ha.r⟩
/-- calls of defs -/
def PSp (K : PySem.W.Frag) (g : List PyData → Option PyData) : Sp := fun vs H Q _ => ∃ F ds d, Same F H ∧ DnAll K F vs ds ∧ g ds = some d ∧ ∀ v F' H', Step F H F' H' → Dn K F' v d → Q v H'
def LSp (K : PySem.W.Frag) (g : List PyData → Option (List PyData)) : Sp := fun vs H Q _ => ∃ F ds d, Same F H ∧ DnAll K F vs ds ∧ g ds = some d ∧
  ∀ p vs F' H', Step F H F' H' → H p = none → F' p = none → H' p = some (.lst vs) → DnAll K F' vs d → Q (.ref p) H'
theorem LSp.toP {P : Program} {w : World} {K : PySem.W.Frag} {mg : Str → Option Value} {base : Heap} {CX : CXT} {k : Nat} {fa : Addr} {fd : FuncData} {ps : List Str} {g : List PyData → Option (List PyData)} (F : FnOk P w K mg base CX k fa fd ps (LSp K g)) : FnOk P w K mg base CX k fa fd ps (PSp K fun ds => (g ds).map .list) :=
  F.imp fun vs H Q E ⟨F, ds, d, s, a, e, q⟩ => by
    obtain ⟨d', e1, rfl⟩ := Option.map_eq_some_iff.mp e
    refine ⟨F, ds, d', s, a, e1, fun p vs F' H' st n nf hp av => ?_⟩
    obtain ⟨s', d''⟩ := frz_new st n nf hp av
    exact q _ _ _ s' d''
variable {k : Nat} {fa : Addr} {fd : FuncData} {ps : List Str}
theorem re_fn {K : PySem.W.Frag} {g : List PyData → Option PyData} {E : XK} (ha : RA K t f) : RE K (tCall (PSp K g) [] E t) (fun ε => (f ε).bind g) := fun F H ε σ d Q r e q => by
  obtain ⟨ds, e1, e2⟩ := Option.bind_eq_some_iff.mp e
  exact ha F H ε σ ds _ r e1 fun vs F1 H1 s1 d1 => ⟨F1, ds, d, s1.s, by rw [List.append_nil]; exact d1, e2, fun v F' H' s' d' => q v F' H' (s1.trans s') d'⟩
theorem rl_fn {K : PySem.W.Frag} {g : List PyData → Option (List PyData)} {E : XK} (ha : RA K t f) : RL K (tCall (LSp K g) [] E t) (fun ε => (f ε).bind g) := fun F H ε σ d Q r e q => by
  obtain ⟨ds, e1, e2⟩ := Option.bind_eq_some_iff.mp e
  exact ha F H ε σ ds _ r e1 fun vs F1 H1 s1 d1 => ⟨F1, ds, d, s1.s, by rw [List.append_nil]; exact d1, e2, fun p vs F' H' s' n nf hp d' => q p vs F' H' (s1.trans s') (s1.h.free n) nf hp d'⟩
theorem de_fn {g : List PyData → Option PyData} (G : FnOk X.prog X.w X.K X.mg X.base CX0 k fa fd ps (PSp X.K g)) (hr : Room k X.A) (hg : Gl X x) (hm : X.mg x = some (.ref fa)) (hk : PySem.W.keepIn X.K (.ref fa) = true) (hb : Binds X.K fd ps [])
    (ha : DA X (e :: es) t f) (hdb : (x == ("__debug__" : Str)) = false := by decide) (he : starEach (e :: es) X.env = (false, eval e X.env) :: starEach es X.env := by rfl) (hpl : (backTo pos (starEach es X.env)).any (·.1) = false := by rfl) :
    DE X (.Call (.Name x p) (e :: es) [] pos) (tCall (PSp X.K g) [] E0 t) (fun ε => (f ε).bind g) := ⟨pe_call G hr hg hm hk hb .nil pass0 ha.p hdb he hpl, re_fn ha.r⟩
theorem dl_fn {g : List PyData → Option (List PyData)} (G : FnOk X.prog X.w X.K X.mg X.base CX0 k fa fd ps (LSp X.K g)) (hr : Room k X.A) (hg : Gl X x) (hm : X.mg x = some (.ref fa)) (hk : PySem.W.keepIn X.K (.ref fa) = true) (hb : Binds X.K fd ps [])
    (ha : DA X (e :: es) t f) (hdb : (x == ("__debug__" : Str)) = false := by decide) (he : starEach (e :: es) X.env = (false, eval e X.env) :: starEach es X.env := by rfl) (hpl : (backTo pos (starEach es X.env)).any (·.1) = false := by rfl) :
    DL X (.Call (.Name x p) (e :: es) [] pos) (tCall (LSp X.K g) [] E0 t) (fun ε => (f ε).bind g) := ⟨pe_call G hr hg hm hk hb .nil pass0 ha.p hdb he hpl, rl_fn ha.r⟩
theorem de_fn0 {g : List PyData → Option PyData} (G : FnOk X.prog X.w X.K X.mg X.base CX0 k fa fd ps (PSp X.K g)) (hr : Room k X.A) (hg : Gl X x) (hm : X.mg x = some (.ref fa)) (hk : PySem.W.keepIn X.K (.ref fa) = true) (hb : Binds X.K fd ps [])
    (hdb : (x == ("__debug__" : Str)) = false := by decide) : DE X (.Call (.Name x p) [] [] pos) (tCall (PSp X.K g) [] E0 tNil) (fun ε => (some []).bind g) :=
  ⟨pe_call0 G hr hg hm hk hb .nil pass0 hdb, re_fn (f := fun _ => some []) da_nil.r⟩
theorem dl_fn0 {g : List PyData → Option (List PyData)} (G : FnOk X.prog X.w X.K X.mg X.base CX0 k fa fd ps (LSp X.K g)) (hr : Room k X.A) (hg : Gl X x) (hm : X.mg x = some (.ref fa)) (hk : PySem.W.keepIn X.K (.ref fa) = true) (hb : Binds X.K fd ps [])
    (hdb : (x == ("__debug__" : Str)) = false := by decide) : DL X (.Call (.Name x p) [] [] pos) (tCall (LSp X.K g) [] E0 tNil) (fun ε => (some []).bind g) :=
  ⟨pe_call0 G hr hg hm hk hb .nil pass0 hdb, rl_fn (f := fun _ => some []) da_nil.r⟩
end
end M


namespace M
open PySem PySem.Spec PyProof.Rows L2

structure DEnds where
  nx : En → Prop
  rt : Slot → Prop
  bk : En → Prop := fun _ => False
  ct : En → Prop := fun _ => False
abbrev TD := DEnds → En → Prop

def OwnAt (ε : En) (σ : L2.St) (i : Nat) (p : Addr) : Prop := ∃ s : Slot, ε[i]? = some (some s) ∧ s.own = true ∧ σ[i]? = some (some (.ref p))
structure Rel (K : PySem.W.Frag) (F0 H0 F H : Hp) (ε : En) (σ : L2.St) : Prop where
  e : RelE K F H ε σ
  st : Step F0 H0 F H
  own : ∀ i p, OwnAt ε σ i p → H0 p = none
  sep : ∀ i j p, OwnAt ε σ i p → OwnAt ε σ j p → i = j
/-- a slot's value made by an expression: new where it is owned -/
def SlotN (K : PySem.W.Frag) (F' H' H : Hp) (v : V) (s : Slot) : Prop := SlotR K F' H' v s ∧ ∀ p, s.own = true → v = .ref p → H p = none
def RetR (K : PySem.W.Frag) (F0 H0 : Hp) (s : Slot) (v : V) (H' : Hp) : Prop := ∃ F', Step F0 H0 F' H' ∧ SlotR K F' H' v s ∧ ∀ p, s.own = true → v = .ref p → H0 p = none
structure Cor (K : PySem.W.Frag) (F0 H0 Fs : Hp) (R : DEnds) (D : Ends) : Prop where
  nx : ∀ ε σ F H, Rel K F0 H0 F H ε σ → Same Fs F → R.nx ε → D.nx σ H
  rt : ∀ s v H, RetR K F0 H0 s v H → R.rt s → D.rt v H
  bk : ∀ ε σ F H, Rel K F0 H0 F H ε σ → Same Fs F → R.bk ε → D.bk σ H
  ct : ∀ ε σ F H, Rel K F0 H0 F H ε σ → Same Fs F → R.ct ε → D.ct σ H
theorem Cor.mono {K : PySem.W.Frag} {F0 H0 Fs Fs' : Hp} {R : DEnds} {D : Ends} (c : Cor K F0 H0 Fs R D) (s : Same Fs Fs') : Cor K F0 H0 Fs' R D :=
  ⟨fun ε σ F H r z h => c.nx ε σ F H r (s.trans z) h, c.rt, fun ε σ F H r z h => c.bk ε σ F H r (s.trans z) h, fun ε σ F H r z h => c.ct ε σ F H r (s.trans z) h⟩
def RS (K : PySem.W.Frag) (t : TS) (T : TD) : Prop := ∀ (F0 H0 F H : Hp) (ε : En) (σ : L2.St) (R : DEnds) (D : Ends), Rel K F0 H0 F H ε σ → T R ε → Cor K F0 H0 F R D → t D σ H
def RX (K : PySem.W.Frag) (t : TE) (f : En → Option Slot) : Prop := ∀ (F H : Hp) (ε : En) (σ : L2.St) (s : Slot) (Q : VK), RelE K F H ε σ → f ε = some s →
  (∀ v F' H', Step F H F' H' → SlotN K F' H' H v s → Q v H') → t σ H Q
section
variable {K : PySem.W.Frag} {F0 H0 F H F' H' : Hp} {ε : En} {σ : L2.St}
theorem Rel.step (r : Rel K F0 H0 F H ε σ) (s : Step F H F' H') : Rel K F0 H0 F' H' ε σ := ⟨r.e.step s, r.st.trans s, r.own, r.sep⟩
theorem OwnAt.addr {i : Nat} {p : Addr} (e : RelE K F H ε σ) (h : OwnAt ε σ i p) : (∃ o, H p = some o) ∧ F p = none := by
  obtain ⟨s, h1, h2, h3⟩ := h
  obtain ⟨v, e1, e2⟩ := e.sl _ _ h1
  rw [h3] at e1
  cases e1
  cases s with
  | f d => cases h2
  | o ds => obtain ⟨p', vs, e3, e4, e5, _⟩ := e2; cases e3; exact ⟨⟨_, e4⟩, e5⟩
  | od ds => obtain ⟨p', vs, e3, e4, e5, _⟩ := e2; cases e3; exact ⟨⟨_, e4⟩, e5⟩
  | v y => cases h2
theorem OwnAt.set {i j : Nat} {p : Addr} {s : Option Slot} {v : Option V} (hl : ε.length = σ.length) (h : OwnAt (ε.set i s) (σ.set i v) j p) : (j = i ∧ ∃ s', s = some s' ∧ s'.own = true ∧ v = some (.ref p)) ∨ (j ≠ i ∧ OwnAt ε σ j p) := by
  obtain ⟨s', h1, h2, h3⟩ := h
  by_cases hj : i = j
  · subst hj
    by_cases hi : i < ε.length
    · rw [List.getElem?_set_self hi] at h1
      rw [List.getElem?_set_self (by omega)] at h3
      exact .inl ⟨rfl, s', Option.some.inj h1, h2, Option.some.inj h3⟩
    · rw [List.getElem?_eq_none (by simpa using hi)] at h1; cases h1
  · rw [List.getElem?_set_ne hj] at h1 h3
    exact .inr ⟨fun e => hj e.symm, s', h1, h2, h3⟩
theorem RelE.set {i : Nat} {v : V} {s : Slot} (r : RelE K F H ε σ) (h : SlotR K F H v s) : RelE K F H (ε.set i (some s)) (σ.set i (some v)) := by
  refine ⟨r.sub, by rw [List.length_set, List.length_set]; exact r.len, fun j s' e => ?_⟩
  by_cases hj : i = j
  · subst hj
    by_cases hi : i < ε.length
    · rw [List.getElem?_set_self hi] at e
      cases e
      exact ⟨v, by rw [List.getElem?_set_self (by rw [← r.len]; exact hi)], h⟩
    · rw [List.getElem?_eq_none (by simpa using hi)] at e; cases e
  · rw [List.getElem?_set_ne hj] at e ⊢
    exact r.sl j s' e
theorem Rel.set {i : Nat} {v : V} {s : Slot} (r : Rel K F0 H0 F H ε σ) (st : Step F H F' H') (h : SlotN K F' H' H v s) : Rel K F0 H0 F' H' (ε.set i (some s)) (σ.set i (some v)) := by
  have r' := r.step st
  have fr : ∀ p, s.own = true → v = .ref p → ∀ j, ¬ OwnAt ε σ j p := fun p h1 h2 j hj => by
    obtain ⟨⟨o, e⟩, _⟩ := hj.addr r.e
    rw [h.2 p h1 h2] at e
    cases e
  refine ⟨r'.e.set h.1, r'.st, fun j p hj => ?_, fun j k p hj hk => ?_⟩
  · rcases OwnAt.set r.e.len hj with ⟨_, s', e1, e2, e3⟩ | ⟨_, hj⟩
    · cases e1; cases e3
      exact r.st.h.free (h.2 p e2 rfl)
    · exact r.own j p hj
  · rcases OwnAt.set r.e.len hj with ⟨rfl, s', e1, e2, e3⟩ | ⟨_, hj2⟩
    · rcases OwnAt.set r.e.len hk with ⟨rfl, _⟩ | ⟨_, hk2⟩
      · rfl
      · cases e1; cases e3
        exact absurd hk2 (fr p e2 rfl k)
    · rcases OwnAt.set r.e.len hk with ⟨rfl, s', e1, e2, e3⟩ | ⟨_, hk2⟩
      · cases e1; cases e3
        exact absurd hj2 (fr p e2 rfl j)
      · exact r.sep j k p hj2 hk2
theorem Rel.setF {i : Nat} {v : V} {d : PyData} (r : Rel K F0 H0 F H ε σ) (st : Step F H F' H') (h : Dn K F' v d) : Rel K F0 H0 F' H' (ε.set i (some (.f d))) (σ.set i (some v)) := r.set st ⟨h, fun p e => by cases e⟩
/-- an own list | dict changes -/
theorem Rel.put {i : Nat} {p : Addr} {o : HO} {s s' : Slot} (r : Rel K F0 H0 F H ε σ) (hs : ε[i]? = some (some s)) (hp : σ[i]? = some (some (.ref p))) (ho : s.own = true) (ho' : s'.own = true) (h : SlotR K F (upd H p o) (.ref p) s') : Rel K F0 H0 F (upd H p o) (ε.set i (some s')) σ := by
  have own : OwnAt ε σ i p := ⟨s, hs, ho, hp⟩
  obtain ⟨⟨u, hu⟩, hF⟩ := own.addr r.e
  have h0 := r.own i p own
  have hσ : σ.set i (some (.ref p)) = σ := List.ext_getElem? fun j => by
    by_cases hj : i = j
    · subst hj
      rw [List.getElem?_set_self (List.getElem?_eq_some_iff.mp hp).1, hp]
    · rw [List.getElem?_set_ne hj]
  have key : ∀ j q, OwnAt (ε.set i (some s')) σ j q → OwnAt ε σ j q := fun j q hj => by
    rw [← hσ] at hj
    rcases OwnAt.set r.e.len hj with ⟨rfl, s'', e1, e2, e3⟩ | ⟨_, hj⟩
    · cases e3; exact own
    · exact hj
  refine ⟨⟨fun b u' q => ?_, by rw [List.length_set]; exact r.e.len, fun j s'' e => ?_⟩, ⟨r.st.f, fun b u' q => ?_, fun b u' q => ?_, r.st.n⟩, fun j q hj => r.own j q (key j q hj), fun j k q hj hk => r.sep j k q (key j q hj) (key k q hk)⟩
  · rw [upd_ne (ne_of_none q hF)]; exact r.e.sub _ _ q
  · by_cases hj : i = j
    · subst hj
      rw [List.getElem?_set_self (List.getElem?_eq_some_iff.mp hs).1] at e
      cases e
      exact ⟨_, hp, h⟩
    · rw [List.getElem?_set_ne hj] at e
      obtain ⟨v, e1, e2⟩ := r.e.sl j s'' e
      refine ⟨v, e1, ?_⟩
      have ne : s''.own = true → ∀ q, v = .ref q → q ≠ p := fun h1 q h2 h3 => by
        subst h3; subst h2
        exact hj (r.sep i j q own ⟨s'', e, h1, e1⟩)
      cases s'' with
      | f d => exact e2
      | o ds =>
        obtain ⟨q, vs, rfl, h1, h2, h3⟩ := e2
        exact ⟨q, vs, rfl, by rw [upd_ne (ne rfl q rfl)]; exact h1, h2, h3⟩
      | od ds =>
        obtain ⟨q, vs, rfl, h1, h2, h3⟩ := e2
        exact ⟨q, vs, rfl, by rw [upd_ne (ne rfl q rfl)]; exact h1, h2, h3⟩
      | v y => exact e2
  · rw [upd_ne (ne_of_none q h0)]; exact r.st.h _ _ q
  · rw [upd_ne (ne_of_none q hF)]; exact r.st.s _ _ q
/-- freezing an own slot -/
@[simp] def Slot.frz : Slot → Slot
  | .o ds => .f (.list ds)
  | .od ds => .f (.dict ds)
  | s => s
def frzE (i : Nat) (ε : En) : En := match ε[i]? with
  | some (some s) => ε.set i (some s.frz)
  | _ => ε
theorem Rel.frzAt {i : Nat} (r : Rel K F0 H0 F H ε σ) : ∃ F', Rel K F0 H0 F' H (frzE i ε) σ ∧ Same F F' := by
  unfold frzE
  split
  · rename_i s hs
    obtain ⟨v, e1, e2⟩ := r.e.sl _ _ hs
    have hσ : σ.set i (some v) = σ := List.ext_getElem? fun j => by
      by_cases hj : i = j
      · subst hj
        rw [List.getElem?_set_self (List.getElem?_eq_some_iff.mp e1).1, e1]
      · rw [List.getElem?_set_ne hj]
    cases hso : s.own with
    | false =>
      have e : s.frz = s := by cases s <;> first | rfl | cases hso
      rw [e]
      have hε : ε.set i (some s) = ε := List.ext_getElem? fun j => by
        by_cases hj : i = j
        · subst hj
          rw [List.getElem?_set_self (List.getElem?_eq_some_iff.mp hs).1, hs]
        · rw [List.getElem?_set_ne hj]
      rw [hε]
      exact ⟨F, r, Same.refl _⟩
    | true =>
      -- the cell
      obtain ⟨p, u, rfl, hp, hF⟩ : ∃ p u, v = .ref p ∧ H p = some u ∧ F p = none := by
        cases s with
        | f d => cases hso
        | o ds => obtain ⟨p, vs, h1, h2, h3, _⟩ := e2; exact ⟨p, _, h1, h2, h3⟩
        | od ds => obtain ⟨p, vs, h1, h2, h3, _⟩ := e2; exact ⟨p, _, h1, h2, h3⟩
        | v y => cases hso
      have own : OwnAt ε σ i p := ⟨s, hs, hso, e1⟩
      have h0 := r.own i p own
      have sF : Same F (upd F p u) := fun b o q => by rw [upd_ne (ne_of_none q hF)]; exact q
      have sH : Same (upd F p u) H := fun b o q => by
        by_cases hb : b = p
        · subst hb; rw [upd_same] at q; cases q; exact hp
        · rw [upd_ne hb] at q; exact r.e.sub _ _ q
      have dn : SlotR K (upd F p u) H (.ref p) s.frz := by
        cases s with
        | f d => cases hso
        | o ds =>
          obtain ⟨p', vs, h1, h2, h3, h4⟩ := e2
          cases h1
          rw [h2] at hp
          cases hp
          exact .lst (.inl (.inl upd_same)) (h4.mv sF)
        | od ds =>
          obtain ⟨p', vs, h1, h2, h3, h4⟩ := e2
          cases h1
          rw [h2] at hp
          cases hp
          exact .dic upd_same (h4.mv sF)
        | v y => cases hso
      have nown : s.frz.own = false := by cases s <;> rfl
      have key : ∀ j q, OwnAt (ε.set i (some s.frz)) σ j q → OwnAt ε σ j q ∧ j ≠ i := fun j q hj => by
        rw [← hσ] at hj
        rcases OwnAt.set r.e.len hj with ⟨rfl, s'', e1, e2, e3⟩ | ⟨h1, hj⟩
        · cases e1; rw [nown] at e2; cases e2
        · exact ⟨hj, h1⟩
      refine ⟨upd F p u, ⟨⟨sH, by rw [List.length_set]; exact r.e.len, fun j s'' e => ?_⟩, ⟨r.st.f.trans sF, r.st.h, sH, fun b o q1 q2 => ?_⟩, fun j q hj => r.own j q (key j q hj).1, fun j k q hj hk => r.sep j k q (key j q hj).1 (key k q hk).1⟩, ?_⟩
      · by_cases hj : i = j
        · subst hj
          rw [List.getElem?_set_self (List.getElem?_eq_some_iff.mp hs).1] at e
          cases e
          exact ⟨_, e1, dn⟩
        · rw [List.getElem?_set_ne hj] at e
          obtain ⟨v, g1, g2⟩ := r.e.sl j s'' e
          refine ⟨v, g1, ?_⟩
          have ne : s''.own = true → ∀ q, v = .ref q → q ≠ p := fun h1 q h2 h3 => by
            subst h3; subst h2
            exact hj (r.sep i j q own ⟨s'', e, h1, g1⟩)
          cases s'' with
          | f d => exact Dn.mv sF g2
          | o ds =>
            obtain ⟨q, vs, rfl, h1, h2, h3⟩ := g2
            exact ⟨q, vs, rfl, h1, by rw [upd_ne (ne rfl q rfl)]; exact h2, h3.mv sF⟩
          | od ds =>
            obtain ⟨q, vs, rfl, h1, h2, h3⟩ := g2
            exact ⟨q, vs, rfl, h1, by rw [upd_ne (ne rfl q rfl)]; exact h2, h3.mv sF⟩
          | v y => exact g2
      · rw [upd_ne (ne_of_none q1 h0)]; exact r.st.n _ _ q1 q2
      · exact sF
  · exact ⟨F, r, Same.refl _⟩
end
end M


namespace M
open PySem PySem.Spec PyProof.Rows L2

structure DX (X : Cx) (e : Expr) (t : TE) (f : En → Option Slot) : Prop where
  p : PE X e t
  r : RX X.K t f
structure DS (X : Cx) (st : Stmt) (t : TS) (T : TD) : Prop where
  p : PS X st t
  r : RS X.K t T
structure DSs (X : Cx) (st : List Stmt) (t : TS) (T : TD) : Prop where
  p : PSs X st t
  r : RS X.K t T
section
variable {X : Cx} {e a b : Expr} {es : List Expr} {te ta tb : TE} {fe fa fb : En → Option PyData} {pos : Pos} {st : Stmt} {sts : List Stmt} {t u : TS} {T U : TD}
theorem DE.x (h : DE X e te fe) : DX X e te (fun ε => (fe ε).map .f) := ⟨h.p, fun F H ε σ s Q r e k => by
  obtain ⟨d, e1, rfl⟩ := Option.map_eq_some_iff.mp e
  exact h.r F H ε σ d Q r e1 fun v F' H' s d' => k v F' H' s ⟨d', fun p z => by cases z⟩⟩
theorem DL.x {f : En → Option (List PyData)} (h : DL X e te f) : DX X e te (fun ε => (f ε).map .o) := ⟨h.p, fun F H ε σ s Q r e k => by
  obtain ⟨d, e1, rfl⟩ := Option.map_eq_some_iff.mp e
  exact h.r F H ε σ d Q r e1 fun p vs F' H' s n nf hp d' => k _ F' H' s ⟨⟨p, vs, rfl, hp, nf, d'⟩, fun p' _ z => by cases z; exact n⟩⟩
/-! ### blocks -/
def dSeq (T U : TD) : TD := fun R ε => T { R with nx := U R } ε
def dNext : TD := fun R ε => R.nx ε
theorem ds_nil : DSs X [] tNext dNext := ⟨pss_nil, fun F0 H0 F H ε σ R D r h c => c.nx _ _ _ _ r (Same.refl _) h⟩
theorem ds_cons (h1 : DS X st t T) (h2 : DSs X sts u U) : DSs X (st :: sts) (tSeq t u) (dSeq T U) := ⟨pss_cons h1.p h2.p, fun F0 H0 F H ε σ R D r h c =>
  h1.r F0 H0 F H ε σ { R with nx := U R } { D with nx := u D } r h ⟨fun ε σ F H r' z h' => h2.r F0 H0 F H ε σ R D r' h' (c.mono z), c.rt, c.bk, c.ct⟩⟩
theorem ds_one (h1 : DS X st t T) : DSs X [st] t T := ⟨pss_one h1.p, h1.r⟩
def dFrz (i : Nat) (T : TD) : TD := fun R ε => T R (frzE i ε)
theorem ds_frz (i : Nat) (h : DS X st t T) : DS X st t (dFrz i T) := ⟨h.p, fun F0 H0 F H ε σ R D r h' c => by
  obtain ⟨F', r', z⟩ := r.frzAt (i := i)
  exact h.r F0 H0 F' H _ σ R D r' h' (c.mono z)⟩
def dPass : TD := fun R ε => R.nx ε
def dBreak : TD := fun R ε => R.bk ε
def dCont : TD := fun R ε => R.ct ε
theorem ds_pass : DS X (.Pass pos) tNext dPass := ⟨ps_pass, fun F0 H0 F H ε σ R D r h c => c.nx _ _ _ _ r (Same.refl _) h⟩
theorem ds_break : DS X (.Break pos) tBreak dBreak := ⟨ps_break, fun F0 H0 F H ε σ R D r h c => c.bk _ _ _ _ r (Same.refl _) h⟩
theorem ds_continue : DS X (.Continue pos) tCont dCont := ⟨ps_continue, fun F0 H0 F H ε σ R D r h c => c.ct _ _ _ _ r (Same.refl _) h⟩
theorem ds_doc {x j pos'} : DS X (.Expr (.Constant (.str x) j pos) pos') tNext dPass := ⟨ps_doc, fun F0 H0 F H ε σ R D r h c => c.nx _ _ _ _ r (Same.refl _) h⟩

/-! ### names -/
def dAsg (i : Nat) (f : En → Option Slot) : TD := fun R ε => ∃ s, f ε = some s ∧ R.nx (ε.set i (some s))
theorem rs_asg {K : PySem.W.Frag} {i : Nat} {f : En → Option Slot} (h : RX K te f) : RS K (tAsg te (gName i)) (dAsg i f) := fun F0 H0 F H ε σ R D r ⟨s, e, h'⟩ c =>
  h F H ε σ s _ r.e e fun v F' H' st sn => c.nx _ _ _ _ (r.set st sn) st.f h'
theorem ds_set (i : Nat) {x : Str} {f : En → Option Slot} {pos' : Pos} (hN : X.N.Nodup) (he : DX X e te f) (hi : X.N[i]? = some x := by rfl) (hx : Loc X.env.scope x := by first | exact Or.inl rfl | exact Or.inr rfl) (hs : swapsWith e (some (.Name x pos')) pos.line X.env = pure false := by rfl)
    (hf : X.fn x = true ∨ X.env.scope.names.lookup x = some .local := by first | exact .inl rfl | exact .inr rfl | assumption) : DS X (.Assign [.Name x pos'] e pos) (tAsg te (gName i)) (dAsg i f) := ⟨ps_set hN hi hx he.p hs hf, rs_asg he.r⟩
def augI (i : Nat) (g : Int → Int → Int) (f : En → Option PyData) : TD := fun R ε => ∃ a b, getF i ε = some (.int a) ∧ f ε = some (.int b) ∧ R.nx (ε.set i (some (.f (.int (g a b)))))
theorem ds_augI (i : Nat) {x : Str} {op : Operator} {g : Int → Int → Int} {pos' : Pos} (ho : PIp X op (ipI g)) (hN : X.N.Nodup) (he : DE X e te fe) (hi : X.N[i]? = some x := by rfl) (hx : Loc X.env.scope x := by first | exact Or.inl rfl | exact Or.inr rfl)
    (hf : X.fn x = true ∨ X.env.scope.names.lookup x = some .local := by first | exact .inl rfl | exact .inr rfl | assumption)
    : DS X (.AugAssign (.Name x pos') op e pos) (tAug i te (ipI g)) (augI i g fe) :=
  ⟨ps_aug hN hi hx he.p ho hf, fun F0 H0 F H ε σ R D r ⟨a, b, e1, e2, h'⟩ c => by
    unfold getF at e1
    split at e1
    · rename_i d hd
      cases e1
      obtain ⟨v, h1, h2⟩ := r.e.sl _ _ hd
      cases dn_int h2
      refine ⟨_, h1, he.r F H ε σ _ _ r.e e2 fun v F' H' s d' => ?_⟩
      exact ⟨a, b, rfl, dn_int d', c.nx _ _ _ _ (r.setF s (.int _)) s.f h'⟩
    · cases e1⟩

/-! ### return, expressions, tests -/
def dRet (f : En → Option Slot) : TD := fun R ε => ∃ s, f ε = some s ∧ R.rt s
theorem ds_ret {f : En → Option Slot} (he : DX X e te f) : DS X (.Return (some e) pos) (tRet te) (dRet f) := ⟨ps_ret he.p, fun F0 H0 F H ε σ R D r ⟨s, e1, h'⟩ c =>
  he.r F H ε σ s _ r.e e1 fun v F' H' st sn => c.rt _ _ _ ⟨F', r.st.trans st, sn.1, fun p h1 h2 => r.st.h.free (sn.2 p h1 h2)⟩ h'⟩
def dRetV (i : Nat) : TD := fun R ε => ∃ s, ε[i]? = some (some s) ∧ R.rt s
theorem ds_retV (i : Nat) {x : Str} {pos' : Pos} (hN : X.N[i]? = some x := by rfl) (hv : Vis X.env.scope x := by first | exact Or.inl rfl | exact Or.inr (Or.inl rfl) | exact Or.inr (Or.inr rfl)) (hd : (x == ("__debug__" : Str)) = false := by decide)
    (hcd : (x == ("__classdict__" : Str)) = false := by decide) : DS X (.Return (some (.Name x pos')) pos) (tRet (tVar i)) (dRetV i) := ⟨ps_ret (pe_var hN hv hd hcd), fun F0 H0 F H ε σ R D r ⟨s, e1, h'⟩ c => by
  obtain ⟨v, h1, h2⟩ := r.e.sl _ _ e1
  exact ⟨v, h1, c.rt _ _ _ ⟨F, r.st, h2, fun p h3 h4 => r.own i p ⟨s, e1, h3, by rw [h1, h4]⟩⟩ h'⟩⟩
def dRetN : TD := fun R _ => R.rt (.f .none)
theorem ds_retN : DS X (.Return none pos) tRetN dRetN := ⟨ps_retN, fun F0 H0 F H ε σ R D r h c => c.rt _ _ _ ⟨F, r.st, (show SlotR X.K F H .non (.f .none) from Dn.non), fun p z => by cases z⟩ h⟩
def dDrop (f : En → Option PyData) : TD := fun R ε => ∃ d, f ε = some d ∧ R.nx ε
theorem ds_expr (he : DE X e te fe) (hs : swapsWith e none pos.line X.env = pure false := by rfl) : DS X (.Expr e pos) (tDrop te) (dDrop fe) := ⟨ps_expr he.p hs, fun F0 H0 F H ε σ R D r ⟨d, e1, h'⟩ c =>
  he.r F H ε σ d _ r.e e1 fun v F' H' st _ => c.nx _ _ _ _ (r.step st) st.f h'⟩
def dIf (g : En → Option Bool) (T U : TD) : TD := fun R ε => ∃ k, g ε = some k ∧ if k = true then T R ε else U R ε
theorem ds_if {c : Expr} {sa sb : List Stmt} {tc : TT} {g : En → Option Bool} (hc : DT X c tc g) (ha : DSs X sa t T) (hb : DSs X sb u U) : DS X (.If c sa sb pos) (tIfS tc t u) (dIf g T U) := ⟨ps_if hc.p ha.p hb.p, fun F0 H0 F H ε σ R D r ⟨k, e1, h'⟩ c =>
  hc.r F H ε σ k _ r.e e1 fun F' H' s => by
    cases k with
    | true => exact iteT (ha.r F0 H0 F' H' ε σ R D (r.step s) (by simpa using h') (c.mono s.f))
    | false => exact iteF (hb.r F0 H0 F' H' ε σ R D (r.step s) (by simpa using h') (c.mono s.f))⟩

/-! ### targets -/
inductive Tg where
  | nm (i : Nat)
  | tp (is : List Nat)
@[simp] def putAll : List Nat → List PyData → En → En
  | i :: is, d :: ds, ε => putAll is ds (ε.set i (some (.f d)))
  | _, _, ε => ε
@[simp] def Tg.put : Tg → PyData → En → Option En
  | .nm i, d, ε => some (ε.set i (some (.f d)))
  | .tp is, .tuple ds, ε => if ds.length = is.length then some (putAll is ds ε) else none
  | .tp _, _, _ => none
@[simp] def Tg.ix : Tg → List Nat
  | .nm i => [i]
  | .tp is => is
def RG (K : PySem.W.Frag) (g : TG) (T : Tg) : Prop := ∀ (F0 H0 F H : Hp) (ε : En) (σ : L2.St) (v : V) (d : PyData) (ε' : En) (Q : L2.St → Hp → Prop), Rel K F0 H0 F H ε σ → Dn K F v d → T.put d ε = some ε' →
  (∀ σ', Rel K F0 H0 F H ε' σ' → Q σ' H) → g v σ H Q
def RGE (K : PySem.W.Frag) (g : TG) (T : Tg) : Prop := ∀ (F H : Hp) (ε : En) (σ : L2.St) (v : V) (d : PyData) (ε' : En) (Q : L2.St → Hp → Prop), RelE K F H ε σ → Dn K F v d → T.put d ε = some ε' →
  (∀ σ', RelE K F H ε' σ' → σ'.length = σ.length → (∀ j, j ∉ T.ix → σ'[j]? = σ[j]?) → Q σ' H) → g v σ H Q
structure DG (X : Cx) (tg : Expr) (g : TG) (T : Tg) : Prop where
  p : PG X tg g
  r : RG X.K g T
  re : RGE X.K g T
def gNames : List Nat → TGs
  | [] => gNil
  | i :: is => gCons (gName i) (gNames is)
structure DGs (X : Cx) (tg : List Expr) (is : List Nat) : Prop where
  p : PGs X tg (gNames is)
  l : tg.length = is.length
theorem dg_name (i : Nat) {x : Str} (hN : X.N.Nodup) (hi : X.N[i]? = some x := by rfl) (hx : Loc X.env.scope x := by first | exact Or.inl rfl | exact Or.inr rfl)
    (hf : X.fn x = true ∨ X.env.scope.names.lookup x = some .local := by first | exact .inl rfl | exact .inr rfl | assumption) : DG X (.Name x pos) (gName i) (.nm i) :=
  ⟨pg_name hN hi hx hf, fun F0 H0 F H ε σ v d ε' Q r h e k => by cases e; exact k _ (r.setF (.refl r.e.sub) h),
   fun F H ε σ v d ε' Q r h e k => by
    cases e
    refine k _ (r.set h) (by rw [List.length_set]) fun j hj => List.getElem?_set_ne fun z => hj (by simp [Tg.ix, z])⟩
theorem dgs_nil : DGs X [] [] := ⟨pgs_nil, rfl⟩
theorem dgs_cons (i : Nat) {is : List Nat} {x : Str} {es : List Expr} (hN : X.N.Nodup) (h2 : DGs X es is) (hi : X.N[i]? = some x := by rfl) (hx : Loc X.env.scope x := by first | exact Or.inl rfl | exact Or.inr rfl)
    (hf : X.fn x = true ∨ X.env.scope.names.lookup x = some .local := by first | exact .inl rfl | exact .inr rfl | assumption) : DGs X (.Name x pos :: es) (i :: is) :=
  ⟨pgs_cons (pg_name hN hi hx hf) h2.p, by simp [h2.l]⟩
theorem putAll_rel {K : PySem.W.Frag} {F0 H0 F H : Hp} : ∀ {is : List Nat} {ds : List PyData} {vs : List V} {ε : En} {σ : L2.St} {Q : L2.St → Hp → Prop}, Rel K F0 H0 F H ε σ → DnAll K F vs ds → ds.length = is.length →
    (∀ σ', Rel K F0 H0 F H (putAll is ds ε) σ' → Q σ' H) → gNames is vs σ H Q
  | [], [], _, ε, σ, Q, r, h, _, k => by cases h; exact ⟨rfl, k σ r⟩
  | i :: is, d :: ds, _, ε, σ, Q, r, h, l, k => by
    cases h with
    | cons a b => exact ⟨_, _, rfl, putAll_rel (r.setF (.refl r.e.sub) a) b (by simpa using l) k⟩
  | [], _ :: _, _, _, _, _, _, _, l, _ => by cases l
  | _ :: _, [], _, _, _, _, _, _, l, _ => by cases l
theorem putAll_relE {K : PySem.W.Frag} {F H : Hp} : ∀ {is : List Nat} {ds : List PyData} {vs : List V} {ε : En} {σ : L2.St} {Q : L2.St → Hp → Prop}, RelE K F H ε σ → DnAll K F vs ds → ds.length = is.length →
    (∀ σ', RelE K F H (putAll is ds ε) σ' → σ'.length = σ.length → (∀ j, j ∉ is → σ'[j]? = σ[j]?) → Q σ' H) → gNames is vs σ H Q
  | [], [], _, ε, σ, Q, r, h, _, k => by cases h; exact ⟨rfl, k σ r rfl fun _ _ => rfl⟩
  | i :: is, d :: ds, _, ε, σ, Q, r, h, l, k => by
    cases h with
    | cons a b =>
      refine ⟨_, _, rfl, putAll_relE (r.set (s := .f d) a) b (by simpa using l) fun σ' r' hl hj => k σ' r' (by rw [hl, List.length_set]) fun j hj' => ?_⟩
      rw [hj j (fun z => hj' (List.mem_cons_of_mem _ z))]
      exact List.getElem?_set_ne fun z => hj' (by simp [z])
  | [], _ :: _, _, _, _, _, _, _, l, _ => by cases l
  | _ :: _, [], _, _, _, _, _, _, l, _ => by cases l
theorem put_tp {is : List Nat} {d : PyData} {ε ε' : En} (h : (Tg.tp is).put d ε = some ε') : ∃ ds, d = .tuple ds ∧ ds.length = is.length ∧ ε' = putAll is ds ε := by
  cases d <;> simp only [Tg.put] at h <;> first
    | cases h
    | (split at h
       · rename_i hl; cases h; exact ⟨_, rfl, hl, rfl⟩
       · cases h)
theorem dg_tup {is : List Nat} {k : Nat} (hc : X.calm = true) (h : DGs X es is) (hn : es.length = is.length := by rfl) (h1 : (assignEach es X.env).length = es.length := by rfl) (h2 : (assignEach es X.env).findIdx? (fun x => x.1) = none := by rfl) : DG X (.Tuple es k pos) (gTup X.K es.length (gNames is)) (.tp is) := by
  refine ⟨pg_tup hc h.p (hn := h1) (hst := h2), fun F0 H0 F H ε σ v d ε' Q r dn e k => ?_, fun F H ε σ v d ε' Q r dn e k => ?_⟩
  · obtain ⟨ds, rfl, hl, rfl⟩ := put_tp e
    cases dn with
    | tup sq al => exact ⟨_, _, rfl, seqT r.e.sub sq, by rw [al.length, hl, hn], putAll_rel r al hl k⟩
  · obtain ⟨ds, rfl, hl, rfl⟩ := put_tp e
    cases dn with
    | tup sq al => exact ⟨_, _, rfl, seqT r.sub sq, by rw [al.length, hl, hn], putAll_relE r al hl k⟩
/-- a target takes a value -/
def dTg (T : Tg) (f : En → Option PyData) : TD := fun R ε => ∃ d ε', f ε = some d ∧ T.put d ε = some ε' ∧ R.nx ε'
theorem ds_tg {tg : Expr} {g : TG} {T : Tg} (he : DE X e te fe) (hg : DG X tg g T) (hs : swapsWithSole [tg] e pos.line X.env = pure false := by rfl) (hw : swappedStores [tg] e X.env = pure none := by rfl) (h1 : (assignEach [tg] X.env).map (·.2) = [assign tg X.env] := by rfl) : DS X (.Assign [tg] e pos) (tAsg te g) (dTg T fe) :=
  ⟨ps_asg he.p hg.p hs hw h1, fun F0 H0 F H ε σ R D r ⟨d, ε', e1, e2, h'⟩ c =>
    he.r F H ε σ d _ r.e e1 fun v F' H' s dn => hg.r F0 H0 F' H' ε σ v d ε' _ (r.step s) dn e2 fun σ' r' => c.nx _ _ _ _ r' s.f h'⟩

/-! ### loops -/
/-- J walks the data ds, while F1 and H1 only grow -/
def Walks (K : PySem.W.Frag) (J : It) (F1 : Hp) (ds : List PyData) : Prop := ∀ (i : Nat) (F H : Hp), Same F1 F → Same F H →
  (∀ d, ds[i]? = some d → J.go i H ∧ ∀ x H2, J.yld i H x H2 → ∃ F2, Step F H F2 H2 ∧ Dn K F2 x d) ∧ (ds.length = i → J.stop i H)
def RI (K : PySem.W.Frag) (wi : TI) (f : En → Option (List PyData)) : Prop := ∀ (F H : Hp) (ε : En) (σ : L2.St) (ds : List PyData) (R : It → Hp → Prop), RelE K F H ε σ → f ε = some ds →
  (∀ J F' H', Step F H F' H' → Walks K J F' ds → R J H') → wi σ H R
structure DI (X : Cx) (tg iter : Expr) (wi : TI) (f : En → Option (List PyData)) : Prop where
  p : PI X tg iter wi
  r : RI X.K wi f
def forT (T : Tg) (B : TD) : List PyData → TD
  | [] => fun R ε => R.nx ε
  | d :: ds => fun R ε => ∃ ε', T.put d ε = some ε' ∧ B { R with nx := forT T B ds R, ct := forT T B ds R, bk := R.nx } ε'
def dFor (f : En → Option (List PyData)) (T : Tg) (B : TD) : TD := fun R ε => ∃ ds, f ε = some ds ∧ forT T B ds R ε
theorem rs_for {K : PySem.W.Frag} {wi : TI} {g : TG} {tb : TS} {f : En → Option (List PyData)} {T : Tg} {B : TD} (hi : RI K wi f) (hg : RG K g T) (hb : RS K tb B) : RS K (tFor wi g tb) (dFor f T B) := fun F0 H0 F H ε σ R D r ⟨ds, e, h⟩ c => by
  refine hi F H ε σ ds _ r.e e fun J F1 H1 s1 W => ?_
  refine ⟨fun i m σ H => m = ds.length - i ∧ i ≤ ds.length ∧ ∃ F ε, Rel K F0 H0 F H ε σ ∧ Same F1 F ∧ forT T B (ds.drop i) R ε, ⟨_, rfl, Nat.zero_le _, F1, ε, r.step s1, Same.refl _, h⟩, ?_⟩
  rintro i m σ2 H2 ⟨rfl, hi, F2, ε2, r2, sm, h2⟩
  obtain ⟨w1, w2⟩ := W i F2 H2 sm r2.e.sub
  by_cases hlt : i < ds.length
  · have hd : ds.drop i = ds[i] :: ds.drop (i + 1) := List.drop_eq_getElem_cons hlt
    rw [hd] at h2
    obtain ⟨ε3, e3, h3⟩ := h2
    obtain ⟨g1, g2⟩ := w1 ds[i] (List.getElem?_eq_getElem hlt)
    refine .inr ⟨g1, fun σ' H' => ∃ F ε, Rel K F0 H0 F H' ε σ' ∧ Same F1 F ∧ forT T B (ds.drop (i + 1)) R ε, fun σ' H' ⟨F', ε', a, b, c'⟩ => ⟨ds.length - (i + 1), by omega, rfl, hlt, F', ε', a, b, c'⟩, fun x H3 y => ?_⟩
    obtain ⟨F3, s3, d3⟩ := g2 x H3 y
    refine hg F0 H0 F3 H3 ε2 σ2 x _ ε3 _ (r2.step s3) d3 e3 fun σ4 r4 => ?_
    -- the body keeps F1's facts: run it with F1 frozen below
    exact hb F0 H0 F3 H3 ε3 σ4 _ _ r4 h3 ⟨fun ε σ F H r' z h' => ⟨F, ε, r', (sm.trans s3.f).trans z, h'⟩, c.rt, fun ε σ F H r' z h' => c.nx _ _ _ _ r' ((s1.f.trans (sm.trans s3.f)).trans z) h', fun ε σ F H r' z h' => ⟨F, ε, r', (sm.trans s3.f).trans z, h'⟩⟩
  · have e' : i = ds.length := by omega
    subst e'
    rw [List.drop_length] at h2
    exact .inl ⟨w2 rfl, c.nx _ _ _ _ r2 (s1.f.trans sm) h2⟩
end
end M


namespace M
open PySem PySem.Spec PyProof.Rows L2
section
variable {X : Cx} {e a b tg iter : Expr} {es : List Expr} {te ta tb : TE} {fe fa fb : En → Option PyData} {pos : Pos} {st : Stmt} {body sts : List Stmt} {t u : TS} {T U B : TD} {wi : TI} {g : TG} {src : En → Option (List PyData)} {tt : Tg}
theorem ds_for (hc : X.calm = true) (hi : DI X tg iter wi src) (hg : DG X tg g tt) (hb : DSs X body t B) (hs : ∀ x, foldedSetIterable iter X.env x = pure x := by intro _; rfl) (hp : PassesOwn (model X.prog X.w) X.A X.env X.xe := by exact PassesOwn.never) : DS X (.For tg iter body [] pos) (tFor wi g t) (dFor src tt B) :=
  ⟨ps_for hp hc hi.p hg.p hb.p hs, rs_for hi.r hg.r hb.r⟩
def whT (c : En → Option Bool) (B : TD) : Nat → TD
  | 0 => fun _ _ => False
  | n + 1 => fun R ε => ∃ k, c ε = some k ∧ if k = true then B { R with nx := whT c B n R, ct := whT c B n R, bk := R.nx } ε else R.nx ε
def dWhile (c : En → Option Bool) (B : TD) : TD := fun R ε => ∃ n, whT c B n R ε
theorem ds_while {c : Expr} {tc : TT} {gc : En → Option Bool} (hc : DT X c tc gc) (hb : DSs X body t B) (hp : PassesOwn (model X.prog X.w) X.A X.env X.xe := by exact PassesOwn.never) : DS X (.While c body [] pos) (tWhile tc t) (dWhile gc B) :=
  ⟨ps_while hp hc.p hb.p, fun F0 H0 F H ε σ R D r ⟨n, h⟩ cor => by
    refine ⟨fun m σ H => ∃ F1 ε, Rel X.K F0 H0 F1 H ε σ ∧ Same F F1 ∧ whT gc B m R ε, ⟨n, F, ε, r, Same.refl _, h⟩, ?_⟩
    rintro m σ1 H1 ⟨F1, ε1, r1, sm, h1⟩
    cases m with
    | zero => exact h1.elim
    | succ m =>
      obtain ⟨k, e, h2⟩ := h1
      refine hc.r F1 H1 ε1 σ1 k _ r1.e e fun F2 H2 s2 => ?_
      cases k with
      | true =>
        refine iteT ⟨fun σ' H' => ∃ F3 ε, Rel X.K F0 H0 F3 H' ε σ' ∧ Same F F3 ∧ whT gc B m R ε, fun σ' H' h => ⟨m, Nat.lt_succ_self m, h⟩, ?_⟩
        refine hb.r F0 H0 F2 H2 ε1 σ1 { R with nx := whT gc B m R, ct := whT gc B m R, bk := R.nx } _ (r1.step s2) (by simpa using h2) ⟨fun ε σ F' H' r' z h' => ⟨F', ε, r', (sm.trans s2.f).trans z, h'⟩, cor.rt, fun ε σ F' H' r' z h' => cor.nx _ _ _ _ r' ((sm.trans s2.f).trans z) h', fun ε σ F' H' r' z h' => ⟨F', ε, r', (sm.trans s2.f).trans z, h'⟩⟩
      | false => exact iteF (cor.nx _ _ _ _ (r1.step s2) (sm.trans s2.f) (by simpa using h2))⟩

/-! ### what is walked -/
@[simp] def seqD : PyData → Option (List PyData)
  | .list ds => some ds
  | .tuple ds => some ds
  | .str z => some (z.cps.toList.map fun c => .str ⟨#[c]⟩)
  | _ => none
theorem walks_list {K : PySem.W.Frag} {F1 : Hp} {p : Addr} {vs : List V} {ds : List PyData} (h : SqL K F1 p vs) (a : DnAll K F1 vs ds) : Walks K (Itl K p) F1 ds := fun i F H s1 s2 => by
  have hq : SqL K H p vs := Same.seq s2 (Same.seq s1 h)
  refine ⟨fun d e => ?_, fun hl => ⟨vs, hq, by rw [a.length]; exact Nat.le_of_eq hl⟩⟩
  obtain ⟨v, h1, h2⟩ := a.get e
  refine ⟨⟨vs, v, hq, h1⟩, fun x H2 ⟨e1, y⟩ => ?_⟩
  subst e1
  have := y vs hq
  rw [h1] at this
  cases this
  exact ⟨F, .refl s2, h2.mv s1⟩
theorem walks_tup {K : PySem.W.Frag} {F1 : Hp} {p : Addr} {vs : List V} {ds : List PyData} (h : SqT K F1 p vs) (a : DnAll K F1 vs ds) : Walks K (Itt K p) F1 ds := fun i F H s1 s2 => by
  have hq : SqT K H p vs := seqT s2 (seqT s1 h)
  refine ⟨fun d e => ?_, fun hl => ⟨vs, hq, by rw [a.length]; exact Nat.le_of_eq hl⟩⟩
  obtain ⟨v, h1, h2⟩ := a.get e
  refine ⟨⟨vs, v, hq, h1⟩, fun x H2 ⟨e1, y⟩ => ?_⟩
  subst e1
  have := y vs hq
  rw [h1] at this
  cases this
  exact ⟨F, .refl s2, h2.mv s1⟩
theorem walks_str {K : PySem.W.Frag} {F1 : Hp} {z : Str} (h : PyData.strOk z = true) : Walks K (Its z) F1 (z.cps.toList.map fun c => .str ⟨#[c]⟩) := fun i F H s1 s2 => by
  refine ⟨fun d e => ?_, fun hl => by rw [List.length_map, Array.length_toList] at hl; exact Nat.le_of_eq hl⟩
  rw [List.getElem?_map] at e
  obtain ⟨c, e1, rfl⟩ := Option.map_eq_some_iff.mp e
  rw [Array.getElem?_toList] at e1
  refine ⟨(Array.getElem?_eq_some_iff.mp e1).1, fun x H2 ⟨e2, c', e3, e4⟩ => ?_⟩
  subst e2 e4
  rw [e1] at e3
  cases e3
  refine ⟨F, .refl s2, .str _ (strOk_iff.mpr fun c' hc => ?_)⟩
  have hc' : c' = c := by simpa using hc
  subst hc'
  exact strOk_iff.mp h _ (List.mem_of_getElem? (by rw [Array.getElem?_toList]; exact e1))
theorem pi_or {w1 w2 : TI} (h1 : PI X tg iter w1) (h2 : PI X tg iter w2) : PI X tg iter (fun σ H R => w1 σ H R ∨ w2 σ H R) := ⟨fun pins s σ H R I h => by
  rcases h with h | h
  · exact h1.run pins s σ H R I h
  · exact h2.run pins s σ H R I h⟩
/-- a value that is a list, a tuple or a text -/
def iSeq (K : PySem.W.Frag) (te : TE) : TI := fun σ H R => te σ H fun x H1 => (∃ a, x = .ref a ∧ (∃ xs, SqL K H1 a xs) ∧ R (Itl K a) H1) ∨ (∃ a, x = .ref a ∧ (∃ xs, SqT K H1 a xs) ∧ R (Itt K a) H1) ∨ ∃ z, x = .str z ∧ R (Its z) H1
theorem pi_seq (he : PE X iter te) : PI X tg iter (iSeq X.K te) := ⟨fun pins s σ H R I h => by
  refine thn (he.run pins s σ H _ I h) fun v s1 ⟨x, H1, I1, r1, q1⟩ => ?_
  have fp : ∀ b ∈ [s1.heap.objs.size], FpOk X pins H1 b := fun b hb => by
    have eb : b = s1.heap.objs.size := by simpa using hb
    subst eb
    exact I1.fpOk (Nat.le_refl _) (I1.hok.fresh (Nat.le_refl _))
  rcases q1 with ⟨a, rfl, ⟨xs, hq⟩, q⟩ | ⟨a, rfl, ⟨xs, hq⟩, q⟩ | ⟨z, rfl, q⟩
  · cases r1
    obtain ⟨its, rv, pl, hz⟩ := I1.list hq
    exact wpAny_pyIter_list pl.isList ⟨s1.heap.objs.size, [s1.heap.objs.size], _, _, H1, rfl, I1.kept (t' := s1.toks) (fun b o e => Heap.get?_push_of_some _ e), turn_list a _, ⟨_, Heap.get?_push_size _ rfl, rfl, rfl⟩, fp, q⟩
  · cases r1
    obtain ⟨its, rv, pl, hz⟩ := I1.tuple hq
    exact wpAny_pyIter_tuple (show s1.heap.IsTuple a its.toArray from pl) ⟨s1.heap.objs.size, [s1.heap.objs.size], _, _, H1, rfl, I1.kept (t' := s1.toks) (fun b o e => Heap.get?_push_of_some _ e), turn_tuple a _, ⟨_, Heap.get?_push_size _ rfl, rfl, rfl⟩, fp, q⟩
  · obtain ⟨t, rfl⟩ := r1
    cases ha : z.cps.all (· < 128)
    · exact wpAny_pyIter_wide ha (pi_one (tk := s1.toks) I1 _ (turn_str _ z t "str_iterator" (.inr rfl)) ⟨_, Heap.get?_push_size _ rfl, rfl, rfl⟩ q)
    · exact wpAny_pyIter_ascii ha (pi_one (tk := s1.toks) I1 _ (turn_str _ z t "str_ascii_iterator" (.inl rfl)) ⟨_, Heap.get?_push_size _ rfl, rfl, rfl⟩ q)⟩
theorem di_seq (he : DE X iter te fe) : DI X tg iter (iSeq X.K te) (fun ε => (fe ε).bind seqD) := by
  refine ⟨pi_seq he.p, fun F H ε σ ds R r e k => ?_⟩
  · obtain ⟨d, e1, e2⟩ := Option.bind_eq_some_iff.mp e
    refine he.r F H ε σ d _ r e1 fun v F1 H1 s1 d1 => ?_
    unfold seqD at e2
    split at e2
    · cases e2
      cases d1 with
      | lst sq al => exact .inl ⟨_, rfl, ⟨_, Same.seq s1.s sq⟩, k _ F1 H1 s1 (walks_list sq al)⟩
    · cases e2
      cases d1 with
      | tup sq al => exact .inr (.inl ⟨_, rfl, ⟨_, seqT s1.s sq⟩, k _ F1 H1 s1 (walks_tup sq al)⟩)
    · cases e2
      cases d1 with
      | str z hz => exact .inr (.inr ⟨_, rfl, k _ F1 H1 s1 (walks_str hz)⟩)
    · cases e2
/-! ### ranges -/
def rng1D : List PyData → Option (List PyData)
  | [.int n] => if -(2 ^ 62) ≤ n ∧ n < 2 ^ 62 then some ((List.range n.toNat).map fun (k : Nat) => .int (0 + (k : Int))) else none
  | _ => none
def rng2D : List PyData → Option (List PyData)
  | [.int i, .int j] => if -(2 ^ 62) ≤ i ∧ i < 2 ^ 62 ∧ -(2 ^ 62) ≤ j ∧ j < 2 ^ 62 then some ((List.range (j - i).toNat).map fun (k : Nat) => .int (i + (k : Int))) else none
  | _ => none
theorem walks_rng {K : PySem.W.Frag} {F1 : Hp} {lo : Int} {n : Nat} : Walks K (Itr lo n) F1 ((List.range n).map fun (k : Nat) => .int (lo + (k : Int))) := fun i F H s1 s2 => by
  refine ⟨fun d e => ?_, fun hl => by rw [List.length_map, List.length_range] at hl; exact Nat.le_of_eq hl⟩
  rw [List.getElem?_map] at e
  obtain ⟨c, e1, rfl⟩ := Option.map_eq_some_iff.mp e
  have hi : i < n ∧ c = i := by
    obtain ⟨h1, h2⟩ := List.getElem?_eq_some_iff.mp e1
    rw [List.length_range] at h1
    rw [List.getElem_range] at h2
    exact ⟨h1, h2.symm⟩
  obtain ⟨hi, rfl⟩ := hi
  refine ⟨hi, fun x H2 ⟨e2, e3⟩ => ?_⟩
  subst e2 e3
  exact ⟨F, .refl s2, .int _⟩
theorem ba_ints1 {K : PySem.W.Frag} {F H : Hp} {vs : List V} {n : Int} (h : DnAll K F vs [.int n]) : vs = [.int n] := by
  cases h with | cons a b => cases b; cases a; rfl
theorem ba_ints2 {K : PySem.W.Frag} {F H : Hp} {vs : List V} {n m : Int} (h : DnAll K F vs [.int n, .int m]) : vs = [.int n, .int m] := by
  cases h with | cons a b => cases b with | cons c d => cases d; cases a; cases c; rfl
variable {ta' : TA} {fa' : En → Option (List PyData)} {p : Pos}
theorem di_rng1 (hg : Gl X "range") (hm : X.mg "range" = none) (ha : DA X [a] ta' fa') (hs : starEach [a] X.env = [(false, eval a X.env)] := by rfl) : DI X tg (.Call (.Name "range" p) [a] [] pos) (iRng1 ta') (fun ε => (fa' ε).bind rng1D) :=
  ⟨pi_range1 hg hm ha.p hs, fun F H ε σ ds R r e k => by
    obtain ⟨d, e1, e2⟩ := Option.bind_eq_some_iff.mp e
    refine ha.r F H ε σ d _ r e1 fun vs F1 H1 s1 d1 => ?_
    unfold rng1D at e2
    split at e2
    · split at e2
      · rename_i hb
        cases e2
        exact ⟨_, ba_ints1 (H := H) d1, hb.1, hb.2, k _ F1 H1 s1 walks_rng⟩
      · cases e2
    · cases e2⟩
theorem di_rng2 (hg : Gl X "range") (hm : X.mg "range" = none) (ha : DA X [a, b] ta' fa') (hs : starEach [a, b] X.env = [(false, eval a X.env), (false, eval b X.env)] := by rfl) (hs2 : starEach [b] X.env = [(false, eval b X.env)] := by rfl) : DI X tg (.Call (.Name "range" p) [a, b] [] pos) (iRng2 ta') (fun ε => (fa' ε).bind rng2D) :=
  ⟨pi_range2 hg hm ha.p hs hs2, fun F H ε σ ds R r e k => by
    obtain ⟨d, e1, e2⟩ := Option.bind_eq_some_iff.mp e
    refine ha.r F H ε σ d _ r e1 fun vs F1 H1 s1 d1 => ?_
    unfold rng2D at e2
    split at e2
    · split at e2
      · rename_i hb
        cases e2
        exact ⟨_, _, ba_ints2 (H := H) d1, hb, k _ F1 H1 s1 walks_rng⟩
      · cases e2
    · cases e2⟩

/-! ### comprehensions -/
@[simp] def wipeE (ε : En) : List Nat → En
  | [] => ε
  | v :: vs => (wipeE ε vs).set v none
theorem RelE.wipe {K : PySem.W.Frag} {F H : Hp} {ε : En} {σ : L2.St} (r : RelE K F H ε σ) : ∀ vs : List Nat, RelE K F H (wipeE ε vs) (wipe σ vs)
  | [] => r
  | v :: vs => by
    have r' := RelE.wipe r vs
    refine ⟨r'.sub, by unfold wipeE L2.wipe; rw [List.length_set, List.length_set]; exact r'.len, fun j s e => ?_⟩
    unfold wipeE at e
    unfold L2.wipe
    by_cases hj : v = j
    · subst hj
      by_cases hv : v < (wipeE ε vs).length
      · rw [List.getElem?_set_self hv] at e; cases e
      · rw [List.getElem?_eq_none (by simpa using hv)] at e; cases e
    · rw [List.getElem?_set_ne hj] at e ⊢
      exact r'.sl j s e
theorem wipe_at {σ : L2.St} : ∀ {vs : List Nat} {j : Nat}, (L2.wipe σ vs)[j]? = if j ∈ vs then (if j < σ.length then some none else none) else σ[j]?
  | [], j => by simp [L2.wipe]
  | v :: vs, j => by
    unfold L2.wipe
    have ih := wipe_at (σ := σ) (vs := vs) (j := j)
    have hl := wipe_length σ vs
    by_cases hj : v = j
    · subst hj
      by_cases hv : v < (L2.wipe σ vs).length
      · rw [List.getElem?_set_self hv]; simp [← hl, hv]
      · rw [List.getElem?_eq_none (by simpa using hv)]; simp [← hl, hv]
    · rw [List.getElem?_set_ne hj, ih]
      have : j ∈ v :: vs ↔ j ∈ vs := by
        simp only [List.mem_cons, or_iff_right_iff_imp]
        exact fun z => absurd z.symm hj
      simp only [this]
theorem wipe_eq {σ τ : L2.St} {vs : List Nat} (hl : σ.length = τ.length) (h : ∀ j, j ∉ vs → σ[j]? = τ[j]?) : L2.wipe σ vs = L2.wipe τ vs := List.ext_getElem? fun j => by
  rw [wipe_at, wipe_at, hl]
  by_cases hj : j ∈ vs
  · simp [hj]
  · simp [hj, h j hj]
theorem wipe_wipe {σ : L2.St} {vs : List Nat} : L2.wipe (L2.wipe σ vs) vs = L2.wipe σ vs := wipe_eq (wipe_length σ vs) fun j hj => by rw [wipe_at, if_neg hj]
structure DTs (X : Cx) (ifs : List Expr) (t : TT) (f : En → Option Bool) : Prop where
  p : PTs X ifs t
  r : RT X.K t f
theorem dts_nil : DTs X [] tYes (fun _ => some true) := ⟨pts_nil, fun F H ε σ k Q r e q => by cases e; exact q F H (.refl r.sub)⟩
theorem dts_one {c : Expr} {tc : TT} {gc : En → Option Bool} (h : DT X c tc gc) : DTs X [c] tc gc := ⟨pts_one h.p, h.r⟩
/-- the items of [e for .. in ds if c]: each target in the environment of the block -/
def compD (T : Tg) (c : En → Option Bool) (f : En → Option PyData) (ε : En) : List PyData → Option (List PyData)
  | [] => some []
  | d :: ds => (T.put d ε).bind fun ε' => (c ε').bind fun k => if k = true then (f ε').bind fun y => (compD T c f ε ds).map (y :: ·) else compD T c f ε ds
def dLc (src : En → Option (List PyData)) (T : Tg) (vs : List Nat) (c : En → Option Bool) (f : En → Option PyData) : En → Option (List PyData) := fun ε => (src ε).bind fun ds => limL (compD T c f (wipeE ε vs) ds)
theorem rl_lc {K : PySem.W.Frag} {wi : TI} {g : TG} {tt : TT} {te : TE} {vs : List Nat} {T : Tg} {c : En → Option Bool} {f : En → Option PyData} (hi : RI K wi src) (hg : RGE K g T) (hT : ∀ j ∈ T.ix, j ∈ vs) (ht : RT K tt c) (he : RE K te f) :
    RL K (tLc wi g tt te vs) (dLc src T vs c f) := fun F H ε σ out Q r e k => by
  obtain ⟨ds, e1, e2⟩ := Option.bind_eq_some_iff.mp e
  obtain ⟨out', e3, e4⟩ := Option.bind_eq_some_iff.mp e2
  split at e4
  · rename_i hsz
    have e5 := Option.some.inj e4
    subst e5
    refine hi F H ε σ ds _ r e1 fun J F1 H1 s1 W D hD => ?_
    obtain ⟨st1, nf1, hp1⟩ := new_lst (vs := ([] : List V)) s1.s hD
    refine ⟨fun i m H' => m = ds.length - i ∧ i ≤ ds.length ∧ ∃ F' acc done rest, Step F1 H1 F' H' ∧ F' D = none ∧ H' D = some (.lst acc) ∧ DnAll K F' acc done ∧ compD T c f (wipeE ε vs) (ds.drop i) = some rest ∧ done ++ rest = out',
      ⟨_, rfl, Nat.zero_le _, F1, [], [], out', st1, nf1, hp1, .nil, by rw [List.drop_zero]; exact e3, rfl⟩, ?_⟩
    rintro i m H2 ⟨rfl, hi', F2, acc, done, rest, s2, nf2, hD2, al2, er, eo⟩
    obtain ⟨w1, w2⟩ := W i F2 H2 s2.f s2.s
    by_cases hlt : i < ds.length
    · have hd : ds.drop i = ds[i] :: ds.drop (i + 1) := List.drop_eq_getElem_cons hlt
      rw [hd] at er
      obtain ⟨ε', e5, er⟩ := Option.bind_eq_some_iff.mp er
      obtain ⟨b, e6, er⟩ := Option.bind_eq_some_iff.mp er
      obtain ⟨g1, g2⟩ := w1 ds[i] (List.getElem?_eq_getElem hlt)
      refine .inr ⟨g1, fun H' => ∃ F' acc done rest, Step F1 H1 F' H' ∧ F' D = none ∧ H' D = some (.lst acc) ∧ DnAll K F' acc done ∧ compD T c f (wipeE ε vs) (ds.drop (i + 1)) = some rest ∧ done ++ rest = out', fun H' ⟨F', a1, a2, a3, h⟩ => ⟨ds.length - (i + 1), by omega, rfl, hlt, F', a1, a2, a3, h⟩, fun x H3 y => ?_⟩
      obtain ⟨F3, s3, d3⟩ := g2 x H3 y
      -- the block's environment stands over the heap
      have r3 : RelE K F3 H3 (wipeE ε vs) (L2.wipe σ vs) := ((r.step s1).wipe vs).step (s2.trans s3)
      refine hg F3 H3 _ _ x ds[i] ε' _ r3 d3 e5 fun σ4 r4 hl4 hj4 => ⟨?_, ?_⟩
      · refine (wipe_eq hl4 fun j hj => ?_).trans wipe_wipe
        exact hj4 j fun z => hj (hT j z)
      · refine ht F3 H3 ε' σ4 b _ r4 e6 fun F4 H4 s4 => ?_
        have hD4 : H4 D = some (.lst acc) := s4.h _ _ (s3.h _ _ hD2)
        have nf4 : F4 D = none := s4.n _ _ (s3.h _ _ hD2) (s3.n _ _ hD2 nf2)
        cases b with
        | true =>
          rw [if_pos rfl] at er
          obtain ⟨y', e7, er⟩ := Option.bind_eq_some_iff.mp er
          obtain ⟨rest', e8, e9⟩ := Option.map_eq_some_iff.mp er
          refine iteT (he F4 H4 ε' σ4 y' _ (r4.step s4) e7 fun v F5 H5 s5 d5 => ?_)
          have hD5 : H5 D = some (.lst acc) := s5.h _ _ hD4
          have nf5 : F5 D = none := s5.n _ _ hD4 nf4
          subst e9
          have hlen : acc.length < sizeLine := by
            have h1 := al2.length
            have h2 := congrArg List.length eo
            simp only [List.length_append, List.length_cons] at h2
            omega
          have s25 := s2.trans (s3.trans (s4.trans s5))
          refine ⟨acc, hD5, hlen, F5, acc ++ [v], done ++ [y'], rest', ⟨s25.f, fun p o q => ?_, fun p o q => ?_, s25.n⟩, nf5, upd_same, (al2.mv (s3.trans (s4.trans s5)).f).append (.one d5), e8, by rw [List.append_assoc]; exact eo⟩
          · rw [upd_ne (ne_of_none q hD)]; exact s25.h _ _ q
          · rw [upd_ne (ne_of_none q nf5)]; exact s25.s _ _ q
        | false =>
          rw [if_neg (by decide)] at er
          exact iteF ⟨F4, acc, done, rest, s2.trans (s3.trans s4), nf4, hD4, al2.mv (s3.trans s4).f, er, eo⟩
    · have e' : i = ds.length := by omega
      subst e'
      rw [List.drop_length] at er
      cases er
      rw [List.append_nil] at eo
      subst eo
      exact .inl ⟨w2 rfl, k D acc F2 H2 (s1.trans s2) (s1.h.free hD) nf2 hD2 al2⟩
  · cases e4
end
end M


namespace M
open PySem PySem.Spec PyProof.Rows L2
section
variable {X : Cx} {e a b elt tg iter tg1 iter1 : Expr} {es ifs ifs1 : List Expr} {te ta tb : TE} {fe fa fb : En → Option PyData} {pos spos : Pos} {st : Stmt} {body sts : List Stmt} {t u : TS} {T U B : TD} {wi wi1 : TI} {g g1 : TG} {src src1 : En → Option (List PyData)} {gt gt1 : Tg}
  {tt tt1 : TT} {cc cc1 : En → Option Bool} {scope : Scope} {own : List (Str × Nat)} {vs1 : List Nat}
theorem dl_lc (own : List (Str × Nat)) (hc : X.calm = true) (hN : X.N.Nodup) (ok : BlkOk X.N X.env.scope scope own) (hi : DI X tg iter wi src)
    (hg : ∀ (s : Shared) (H : Hp) (C : Addr) (cl : List (Str × Addr)) (fp : List Addr), DG (X.blk s H scope (compEnvC scope cl C X.env) fp) tg g gt)
    (ht : ∀ (s : Shared) (H : Hp) (C : Addr) (cl : List (Str × Addr)) (fp : List Addr), DTs (X.blk s H scope (compEnvC scope cl C X.env) fp) ifs tt cc)
    (he : ∀ (s : Shared) (H : Hp) (C : Addr) (cl : List (Str × Addr)) (fp : List Addr), DE (X.blk s H scope (compEnvC scope cl C X.env) fp) elt te fe)
    (hT : ∀ j ∈ gt.ix, j ∈ own.map (·.2) := by decide) (hs : ∀ x, foldedSetIterable iter X.env x = pure x := by intro _; rfl) :
    DL X (.ListComp elt [⟨tg, iter, ifs, 0⟩] scope pos) (tLc wi g tt te (own.map (·.2))) (dLc src gt (own.map (·.2)) cc fe) :=
  ⟨pe_lc hc hN hi.p ok (fun s H C cl fp => (hg s H C cl fp).p) (fun s H C cl fp => (ht s H C cl fp).p) (fun s H C cl fp => (he s H C cl fp).p) hs,
   rl_lc hi.r (hg X.s_0 X.H_0 0 [] []).re hT (ht X.s_0 X.H_0 0 [] []).r (he X.s_0 X.H_0 0 [] []).r⟩
/-- name = [..] on one line -/
theorem ds_setLc (i : Nat) (own : List (Str × Nat)) {y : Str} {py : Pos} (hc : X.calm = true) (hN : X.N.Nodup)
    (ok : BlkOk X.N X.env.scope scope own) (hi : DI X tg iter wi src)
    (hg : ∀ (s : Shared) (H : Hp) (C : Addr) (cl : List (Str × Addr)) (fp : List Addr), DG (X.blk s H scope (compEnvC scope cl C X.env) fp) tg g gt)
    (ht : ∀ (s : Shared) (H : Hp) (C : Addr) (cl : List (Str × Addr)) (fp : List Addr), DTs (X.blk s H scope (compEnvC scope cl C X.env) fp) ifs tt cc)
    (he : ∀ (s : Shared) (H : Hp) (C : Addr) (cl : List (Str × Addr)) (fp : List Addr), DE (X.blk s H scope (compEnvC scope cl C X.env) fp) elt te fe)
    (hsw : swapsWith (.ListComp elt [⟨tg, iter, ifs, 0⟩] scope pos) (some (.Name y py)) spos.line X.env = pure true) (hy : X.N[i]? = some y := by rfl) (hyl : X.env.scope.names.lookup y = some .local := by rfl) (hT : ∀ j ∈ gt.ix, j ∈ own.map (·.2) := by decide) (hs : ∀ x, foldedSetIterable iter X.env x = pure x := by intro _; rfl) :
    DS X (.Assign [.Name y py] (.ListComp elt [⟨tg, iter, ifs, 0⟩] scope pos) spos) (tAsg (tLc wi g tt te (own.map (·.2))) (gName i)) (dAsg i fun ε => (dLc src gt (own.map (·.2)) cc fe ε).map .o) :=
  ⟨ps_setLc hc hN hy hyl hsw hi.p ok (fun s H C cl fp => (hg s H C cl fp).p) (fun s H C cl fp => (ht s H C cl fp).p) (fun s H C cl fp => (he s H C cl fp).p) hs,
   rs_asg (fun F H ε σ s Q r e k => by
    obtain ⟨d, e1, rfl⟩ := Option.map_eq_some_iff.mp e
    exact rl_lc hi.r (hg X.s_0 X.H_0 0 [] []).re hT (ht X.s_0 X.H_0 0 [] []).r (he X.s_0 X.H_0 0 [] []).r F H ε σ d Q r e1 fun p vs F' H' s n nf hp d' => k _ F' H' s ⟨⟨p, vs, rfl, hp, nf, d'⟩, fun p' _ z => by cases z; exact n⟩)⟩

theorem putAll_own : ∀ {is : List Nat} {ds : List PyData} {ε : En} {j : Nat} {s : Slot}, ds.length = is.length → (putAll is ds ε)[j]? = some (some s) → s.own = true → j ∉ is ∧ ε[j]? = some (some s)
  | [], [], ε, j, s, _, h, _ => ⟨by simp, h⟩
  | i :: is, d :: ds, ε, j, s, l, h, o => by
    obtain ⟨h1, h2⟩ := putAll_own (is := is) (ds := ds) (by simpa using l) h o
    by_cases hj : i = j
    · subst hj
      by_cases hi : i < ε.length
      · rw [List.getElem?_set_self hi] at h2
        cases h2; cases o
      · rw [List.getElem?_eq_none (by simpa using hi)] at h2; cases h2
    · rw [List.getElem?_set_ne hj] at h2
      exact ⟨fun z => (List.mem_cons.mp z).elim (fun z => hj z.symm) h1, h2⟩
  | [], _ :: _, _, _, _, l, _, _ => by cases l
  | _ :: _, [], _, _, _, l, _, _ => by cases l
theorem put_own {gt : Tg} {d : PyData} {ε ε' : En} {j : Nat} {s : Slot} (h : gt.put d ε = some ε') (hj : ε'[j]? = some (some s)) (o : s.own = true) : j ∉ gt.ix ∧ ε[j]? = some (some s) := by
  cases gt with
  | nm i =>
    cases h
    by_cases e : i = j
    · subst e
      by_cases hi : i < ε.length
      · rw [List.getElem?_set_self hi] at hj
        cases hj; cases o
      · rw [List.getElem?_eq_none (by simpa using hi)] at hj; cases hj
    · rw [List.getElem?_set_ne e] at hj
      exact ⟨fun z => e (List.mem_singleton.mp z).symm, hj⟩
  | tp is =>
    obtain ⟨ds, rfl, hl, rfl⟩ := put_tp h
    exact putAll_own hl hj o
theorem RelE.updD {K : PySem.W.Frag} {F H : Hp} {ε : En} {σ : L2.St} {D : Addr} {o : HO} (r : RelE K F H ε σ) (nF : F D = none) (n : ∀ i p, OwnAt ε σ i p → p ≠ D) : RelE K F (upd H D o) ε σ := by
  refine ⟨fun b u q => by rw [upd_ne (ne_of_none q nF)]; exact r.sub _ _ q, r.len, fun i s e => ?_⟩
  obtain ⟨v, h1, h2⟩ := r.sl i s e
  refine ⟨v, h1, ?_⟩
  cases s with
  | f d => exact h2
  | v y => exact h2
  | o ds =>
    obtain ⟨p, vs, rfl, a, b, c⟩ := h2
    exact ⟨p, vs, rfl, by rw [upd_ne (n i p ⟨_, e, rfl, h1⟩)]; exact a, b, c⟩
  | od ds =>
    obtain ⟨p, vs, rfl, a, b, c⟩ := h2
    exact ⟨p, vs, rfl, by rw [upd_ne (n i p ⟨_, e, rfl, h1⟩)]; exact a, b, c⟩
/-! ### two clauses -/
def compD2 (gt : Tg) (cc : En → Option Bool) (src1 : En → Option (List PyData)) (vs1 : List Nat) (gt1 : Tg) (cc1 : En → Option Bool) (fe : En → Option PyData) (ε : En) : List PyData → Option (List PyData)
  | [] => some []
  | d :: ds => (gt.put d ε).bind fun ε' => (cc ε').bind fun k => if k = true then (src1 ε').bind fun ds1 => (compD gt1 cc1 fe (wipeE ε' vs1) ds1).bind fun out => (compD2 gt cc src1 vs1 gt1 cc1 fe ε ds).map (out ++ ·) else compD2 gt cc src1 vs1 gt1 cc1 fe ε ds
def dLc2 (src : En → Option (List PyData)) (gt : Tg) (vs : List Nat) (cc : En → Option Bool) (src1 : En → Option (List PyData)) (vs1 : List Nat) (gt1 : Tg) (cc1 : En → Option Bool) (fe : En → Option PyData) : En → Option (List PyData) :=
  fun ε => (src ε).bind fun ds => limL (compD2 gt cc src1 vs1 gt1 cc1 fe (wipeE ε vs) ds)
theorem rl_lc2 {K : PySem.W.Frag} {te : TE} {vs vs1 : List Nat} (hi : RI K wi src) (hg : RGE K g gt) (hT : ∀ j ∈ gt.ix, j ∈ vs) (ht : RT K tt cc) (hi1 : RI K wi1 src1) (hg1 : RGE K g1 gt1) (hT1 : ∀ j ∈ gt1.ix, j ∈ vs1) (ht1 : RT K tt1 cc1) (he : RE K te fe) :
    RL K (tLc2 wi g tt wi1 g1 tt1 te vs vs1) (dLc2 src gt vs cc src1 vs1 gt1 cc1 fe) := fun F H ε σ out Q r e k => by
  obtain ⟨ds, e1, e2⟩ := Option.bind_eq_some_iff.mp e
  obtain ⟨out', e3, e4⟩ := Option.bind_eq_some_iff.mp e2
  split at e4
  · rename_i hsz
    have e5 := Option.some.inj e4
    subst e5
    refine hi F H ε σ ds _ r e1 fun J F1 H1 s1 W D hD => ?_
    obtain ⟨st1, nf1, hp1⟩ := new_lst (vs := ([] : List V)) s1.s hD
    refine ⟨fun i m H' => m = ds.length - i ∧ i ≤ ds.length ∧ ∃ F' acc done rest, Step F1 H1 F' H' ∧ F' D = none ∧ H' D = some (.lst acc) ∧ DnAll K F' acc done ∧ compD2 gt cc src1 vs1 gt1 cc1 fe (wipeE ε vs) (ds.drop i) = some rest ∧ done ++ rest = out',
      ⟨_, rfl, Nat.zero_le _, F1, [], [], out', st1, nf1, hp1, .nil, by rw [List.drop_zero]; exact e3, rfl⟩, ?_⟩
    rintro i m H2 ⟨rfl, hi', F2, acc, done, rest, s2, nf2, hD2, al2, er, eo⟩
    obtain ⟨w1, w2⟩ := W i F2 H2 s2.f s2.s
    by_cases hlt : i < ds.length
    · have hd : ds.drop i = ds[i] :: ds.drop (i + 1) := List.drop_eq_getElem_cons hlt
      rw [hd] at er
      obtain ⟨ε', e5, er⟩ := Option.bind_eq_some_iff.mp er
      obtain ⟨b, e6, er⟩ := Option.bind_eq_some_iff.mp er
      obtain ⟨go1, g2⟩ := w1 ds[i] (List.getElem?_eq_getElem hlt)
      refine .inr ⟨go1, fun H' => ∃ F' acc done rest, Step F1 H1 F' H' ∧ F' D = none ∧ H' D = some (.lst acc) ∧ DnAll K F' acc done ∧ compD2 gt cc src1 vs1 gt1 cc1 fe (wipeE ε vs) (ds.drop (i + 1)) = some rest ∧ done ++ rest = out', fun H' ⟨F', a1, a2, a3, h⟩ => ⟨ds.length - (i + 1), by omega, rfl, hlt, F', a1, a2, a3, h⟩, fun x H3 y => ?_⟩
      obtain ⟨F3, s3, d3⟩ := g2 x H3 y
      have r3 : RelE K F3 H3 (wipeE ε vs) (L2.wipe σ vs) := ((r.step s1).wipe vs).step (s2.trans s3)
      refine hg F3 H3 _ _ x ds[i] ε' _ r3 d3 e5 fun σ4 r4 hl4 hj4 => ⟨?_, ?_⟩
      · refine (wipe_eq hl4 fun j hj => ?_).trans wipe_wipe
        exact hj4 j fun z => hj (hT j z)
      · refine ht F3 H3 ε' σ4 b _ r4 e6 fun F4 H4 s4 => ?_
        have hD4 : H4 D = some (.lst acc) := s4.h _ _ (s3.h _ _ hD2)
        have nf4 : F4 D = none := s4.n _ _ (s3.h _ _ hD2) (s3.n _ _ hD2 nf2)
        cases b with
        | false =>
          rw [if_neg (by decide)] at er
          exact iteF ⟨F4, acc, done, rest, s2.trans (s3.trans s4), nf4, hD4, al2.mv (s3.trans s4).f, er, eo⟩
        | true =>
          rw [if_pos rfl] at er
          obtain ⟨ds1, e7, er⟩ := Option.bind_eq_some_iff.mp er
          obtain ⟨o1, e8, er⟩ := Option.bind_eq_some_iff.mp er
          obtain ⟨rest', e9, er⟩ := Option.map_eq_some_iff.mp er
          subst er
          refine iteT (hi1 F4 H4 ε' σ4 ds1 _ (r4.step s4) e7 fun J1 F5 H5 s5 W1 => ?_)
          have hD5 : H5 D = some (.lst acc) := s5.h _ _ hD4
          have nf5 : F5 D = none := s5.n _ _ hD4 nf4
          have s25 := s2.trans (s3.trans (s4.trans s5))
          have nown : ∀ i p, OwnAt ε' σ4 i p → p ≠ D := fun i p ⟨s, k1, k2, k3⟩ => by
            obtain ⟨k4, k5⟩ := put_own e5 k1 k2
            rw [hj4 i k4] at k3
            obtain ⟨⟨o, k6⟩, _⟩ := OwnAt.addr ((r.step s1).wipe vs) ⟨s, k5, k2, k3⟩
            exact ne_of_none k6 hD
          refine ⟨fun j m H' => m = ds1.length - j ∧ j ≤ ds1.length ∧ ∃ F' acc done1 rest1, Step F1 H1 F' H' ∧ Same F5 F' ∧ RelE K F' H' ε' σ4 ∧ F' D = none ∧ H' D = some (.lst acc) ∧ DnAll K F' acc (done ++ done1) ∧ compD gt1 cc1 fe (wipeE ε' vs1) (ds1.drop j) = some rest1 ∧ done1 ++ rest1 = o1,
            ⟨_, rfl, Nat.zero_le _, F5, acc, [], o1, s25, Same.refl _, (r4.step s4).step s5, nf5, hD5, by rw [List.append_nil]; exact al2.mv (s3.trans (s4.trans s5)).f, by rw [List.drop_zero]; exact e8, rfl⟩, ?_⟩
          rintro j m H6 ⟨rfl, hj', F6, acc6, done1, rest1, s6, sm6, r6, nf6, hD6, al6, er1, eo1⟩
          obtain ⟨w3, w4⟩ := W1 j F6 H6 sm6 s6.s
          by_cases hlt1 : j < ds1.length
          · have hd1 : ds1.drop j = ds1[j] :: ds1.drop (j + 1) := List.drop_eq_getElem_cons hlt1
            rw [hd1] at er1
            obtain ⟨ε'', e10, er1⟩ := Option.bind_eq_some_iff.mp er1
            obtain ⟨b1, e11, er1⟩ := Option.bind_eq_some_iff.mp er1
            obtain ⟨go2, g3⟩ := w3 ds1[j] (List.getElem?_eq_getElem hlt1)
            refine .inr ⟨go2, fun H' => ∃ F' acc done1 rest1, Step F1 H1 F' H' ∧ Same F5 F' ∧ RelE K F' H' ε' σ4 ∧ F' D = none ∧ H' D = some (.lst acc) ∧ DnAll K F' acc (done ++ done1) ∧ compD gt1 cc1 fe (wipeE ε' vs1) (ds1.drop (j + 1)) = some rest1 ∧ done1 ++ rest1 = o1, fun H' ⟨F', a1, a2, a3, h⟩ => ⟨ds1.length - (j + 1), by omega, rfl, hlt1, F', a1, a2, a3, h⟩, fun x1 H7 y1 => ?_⟩
            obtain ⟨F7, s7, d7⟩ := g3 x1 H7 y1
            have r7 : RelE K F7 H7 (wipeE ε' vs1) (L2.wipe σ4 vs1) := (r6.wipe vs1).step s7
            refine hg1 F7 H7 _ _ x1 ds1[j] ε'' _ r7 d7 e10 fun σ8 r8 hl8 hj8 => ⟨?_, ?_⟩
            · refine (wipe_eq hl8 fun j hj => ?_).trans wipe_wipe
              exact hj8 j fun z => hj (hT1 j z)
            · refine ht1 F7 H7 ε'' σ8 b1 _ r8 e11 fun F8 H8 s8 => ?_
              have hD8 : H8 D = some (.lst acc6) := s8.h _ _ (s7.h _ _ hD6)
              have nf8 : F8 D = none := s8.n _ _ (s7.h _ _ hD6) (s7.n _ _ hD6 nf6)
              cases b1 with
              | false =>
                rw [if_neg (by decide)] at er1
                exact iteF ⟨F8, acc6, done1, rest1, s6.trans (s7.trans s8), sm6.trans (s7.trans s8).f, r6.step (s7.trans s8), nf8, hD8, al6.mv (s7.trans s8).f, er1, eo1⟩
              | true =>
                rw [if_pos rfl] at er1
                obtain ⟨y', e12, er1⟩ := Option.bind_eq_some_iff.mp er1
                obtain ⟨rest1', e13, e14⟩ := Option.map_eq_some_iff.mp er1
                subst e14
                refine iteT (he F8 H8 ε'' σ8 y' _ (r8.step s8) e12 fun v F9 H9 s9 d9 => ?_)
                have hD9 : H9 D = some (.lst acc6) := s9.h _ _ hD8
                have nf9 : F9 D = none := s9.n _ _ hD8 nf8
                have s69 := s6.trans (s7.trans (s8.trans s9))
                have hlen : acc6.length < sizeLine := by
                  have h1 := al6.length
                  have h2 := congrArg List.length eo
                  have h3 := congrArg List.length eo1
                  simp only [List.length_append, List.length_cons] at h1 h2 h3
                  omega
                have sF : Step F1 H1 F9 (upd H9 D (.lst (acc6 ++ [v]))) := by
                  refine ⟨s69.f, fun p o q => ?_, fun p o q => ?_, s69.n⟩
                  · rw [upd_ne (ne_of_none q hD)]; exact s69.h _ _ q
                  · rw [upd_ne (ne_of_none q nf9)]; exact s69.s _ _ q
                refine ⟨acc6, hD9, hlen, F9, acc6 ++ [v], done1 ++ [y'], rest1', sF, sm6.trans (s7.trans (s8.trans s9)).f, ?_, nf9, upd_same, ?_, e13, by rw [List.append_assoc]; exact eo1⟩
                · exact (r6.step (s7.trans (s8.trans s9))).updD nf9 nown
                · rw [← List.append_assoc]
                  exact (al6.mv (s7.trans (s8.trans s9)).f).append (.one d9)
          · have e' : j = ds1.length := by omega
            subst e'
            rw [List.drop_length] at er1
            cases er1
            rw [List.append_nil] at eo1
            subst eo1
            exact .inl ⟨w4 rfl, F6, acc6, done ++ done1, rest', s6, nf6, hD6, al6, e9, by rw [List.append_assoc]; exact eo⟩
    · have e' : i = ds.length := by omega
      subst e'
      rw [List.drop_length] at er
      cases er
      rw [List.append_nil] at eo
      subst eo
      exact .inl ⟨w2 rfl, k D acc F2 H2 (s1.trans s2) (s1.h.free hD) nf2 hD2 al2⟩
  · cases e4
theorem dl_lc2 (own : List (Str × Nat)) (vs1 : List Nat) (hc : X.calm = true) (hN : X.N.Nodup) (ok : BlkOk X.N X.env.scope scope own) (hi : DI X tg iter wi src)
    (hg : ∀ (s : Shared) (H : Hp) (C : Addr) (cl : List (Str × Addr)) (fp : List Addr), DG (X.blk s H scope (compEnvC scope cl C X.env) fp) tg g gt)
    (ht : ∀ (s : Shared) (H : Hp) (C : Addr) (cl : List (Str × Addr)) (fp : List Addr), DTs (X.blk s H scope (compEnvC scope cl C X.env) fp) ifs tt cc)
    (hi1 : ∀ (s : Shared) (H : Hp) (C : Addr) (cl : List (Str × Addr)) (fp : List Addr), DI (X.blk s H scope (compEnvC scope cl C X.env) fp) tg1 iter1 wi1 src1)
    (hg1 : ∀ (s : Shared) (H : Hp) (C : Addr) (cl : List (Str × Addr)) (fp : List Addr), DG (X.blk s H scope (compEnvC scope cl C X.env) fp) tg1 g1 gt1)
    (ht1 : ∀ (s : Shared) (H : Hp) (C : Addr) (cl : List (Str × Addr)) (fp : List Addr), DTs (X.blk s H scope (compEnvC scope cl C X.env) fp) ifs1 tt1 cc1)
    (he : ∀ (s : Shared) (H : Hp) (C : Addr) (cl : List (Str × Addr)) (fp : List Addr), DE (X.blk s H scope (compEnvC scope cl C X.env) fp) elt te fe)
    (hT : ∀ j ∈ gt.ix, j ∈ own.map (·.2) := by decide) (hv : ∀ i ∈ vs1, i ∈ own.map (·.2) := by decide) (hT1 : ∀ j ∈ gt1.ix, j ∈ vs1 := by decide) (hs : ∀ x, foldedSetIterable iter X.env x = pure x := by intro _; rfl) (hs1 : ∀ env x, foldedSetIterable iter1 env x = pure x := by intro _ _; rfl) :
    DL X (.ListComp elt [⟨tg, iter, ifs, 0⟩, ⟨tg1, iter1, ifs1, 0⟩] scope pos) (tLc2 wi g tt wi1 g1 tt1 te (own.map (·.2)) vs1) (dLc2 src gt (own.map (·.2)) cc src1 vs1 gt1 cc1 fe) :=
  ⟨pe_lc2 hc hN hi.p ok hv (fun s H C cl fp => (hg s H C cl fp).p) (fun s H C cl fp => (ht s H C cl fp).p) (fun s H C cl fp => (hi1 s H C cl fp).p) (fun s H C cl fp => (hg1 s H C cl fp).p) (fun s H C cl fp => (ht1 s H C cl fp).p) (fun s H C cl fp => (he s H C cl fp).p) hs hs1,
   rl_lc2 hi.r (hg X.s_0 X.H_0 0 [] []).re hT (ht X.s_0 X.H_0 0 [] []).r (hi1 X.s_0 X.H_0 0 [] []).r (hg1 X.s_0 X.H_0 0 [] []).re hT1 (ht1 X.s_0 X.H_0 0 [] []).r (he X.s_0 X.H_0 0 [] []).r⟩
theorem ds_setLc2 (i : Nat) (own : List (Str × Nat)) (vs1 : List Nat) {y : Str} {py : Pos} (hc : X.calm = true) (hN : X.N.Nodup) (ok : BlkOk X.N X.env.scope scope own) (hi : DI X tg iter wi src)
    (hg : ∀ (s : Shared) (H : Hp) (C : Addr) (cl : List (Str × Addr)) (fp : List Addr), DG (X.blk s H scope (compEnvC scope cl C X.env) fp) tg g gt)
    (ht : ∀ (s : Shared) (H : Hp) (C : Addr) (cl : List (Str × Addr)) (fp : List Addr), DTs (X.blk s H scope (compEnvC scope cl C X.env) fp) ifs tt cc)
    (hi1 : ∀ (s : Shared) (H : Hp) (C : Addr) (cl : List (Str × Addr)) (fp : List Addr), DI (X.blk s H scope (compEnvC scope cl C X.env) fp) tg1 iter1 wi1 src1)
    (hg1 : ∀ (s : Shared) (H : Hp) (C : Addr) (cl : List (Str × Addr)) (fp : List Addr), DG (X.blk s H scope (compEnvC scope cl C X.env) fp) tg1 g1 gt1)
    (ht1 : ∀ (s : Shared) (H : Hp) (C : Addr) (cl : List (Str × Addr)) (fp : List Addr), DTs (X.blk s H scope (compEnvC scope cl C X.env) fp) ifs1 tt1 cc1)
    (he : ∀ (s : Shared) (H : Hp) (C : Addr) (cl : List (Str × Addr)) (fp : List Addr), DE (X.blk s H scope (compEnvC scope cl C X.env) fp) elt te fe)
    (hsw : swapsWith (.ListComp elt [⟨tg, iter, ifs, 0⟩, ⟨tg1, iter1, ifs1, 0⟩] scope pos) (some (.Name y py)) spos.line X.env = pure true) (hy : X.N[i]? = some y := by rfl) (hyl : X.env.scope.names.lookup y = some .local := by rfl)
    (hT : ∀ j ∈ gt.ix, j ∈ own.map (·.2) := by decide) (hv : ∀ i ∈ vs1, i ∈ own.map (·.2) := by decide) (hT1 : ∀ j ∈ gt1.ix, j ∈ vs1 := by decide) (hs : ∀ x, foldedSetIterable iter X.env x = pure x := by intro _; rfl) (hs1 : ∀ env x, foldedSetIterable iter1 env x = pure x := by intro _ _; rfl) :
    DS X (.Assign [.Name y py] (.ListComp elt [⟨tg, iter, ifs, 0⟩, ⟨tg1, iter1, ifs1, 0⟩] scope pos) spos) (tAsg (tLc2 wi g tt wi1 g1 tt1 te (own.map (·.2)) vs1) (gName i)) (dAsg i fun ε => (dLc2 src gt (own.map (·.2)) cc src1 vs1 gt1 cc1 fe ε).map .o) :=
  ⟨ps_setLc2 hc hN hy hyl hsw hi.p ok hv (fun s H C cl fp => (hg s H C cl fp).p) (fun s H C cl fp => (ht s H C cl fp).p) (fun s H C cl fp => (hi1 s H C cl fp).p) (fun s H C cl fp => (hg1 s H C cl fp).p) (fun s H C cl fp => (ht1 s H C cl fp).p) (fun s H C cl fp => (he s H C cl fp).p) hs hs1,
   rs_asg (fun F H ε σ s Q r e k => by
    obtain ⟨d, e1, rfl⟩ := Option.map_eq_some_iff.mp e
    exact rl_lc2 hi.r (hg X.s_0 X.H_0 0 [] []).re hT (ht X.s_0 X.H_0 0 [] []).r (hi1 X.s_0 X.H_0 0 [] []).r (hg1 X.s_0 X.H_0 0 [] []).re hT1 (ht1 X.s_0 X.H_0 0 [] []).r (he X.s_0 X.H_0 0 [] []).r F H ε σ d Q r e1 fun p vs F' H' s n nf hp d' => k _ F' H' s ⟨⟨p, vs, rfl, hp, nf, d'⟩, fun p' _ z => by cases z; exact n⟩)⟩

/-! ### own lists change -/
def dApp (i : Nat) (f : En → Option PyData) : TD := fun R ε => ∃ ds d, ε[i]? = some (some (.o ds)) ∧ f ε = some d ∧ ds.length < sizeLine ∧ R.nx (ε.set i (some (.o (ds ++ [d]))))
theorem SlotR.own_o {K : PySem.W.Frag} {F H : Hp} {v : V} {ds : List PyData} (h : SlotR K F H v (.o ds)) : ∃ p vs, v = .ref p ∧ H p = some (.lst vs) ∧ F p = none ∧ DnAll K F vs ds := h
theorem ds_app (i : Nat) {x : Str} {apos cpos p1 : Pos} (he : DE X e te fe) (hN : X.N[i]? = some x := by rfl) (hv : Vis X.env.scope x := by first | exact Or.inl rfl | exact Or.inr (Or.inl rfl) | exact Or.inr (Or.inr rfl)) (hd : (x == ("__debug__" : Str)) = false := by decide)
    (hcd : (x == ("__classdict__" : Str)) = false := by decide) (hbase : attributeBase (.Name x p1) "append" X.env (eval (.Name x p1) X.env) = eval (.Name x p1) X.env := by rfl)
    (hfew : ((backTo cpos (starEach [e] X.env)).all (fun x => !x.1) && (backToKw cpos (keywordEach [] X.env)).all (fun x => x.1.isSome)
      && decide ([e].length + ([] : List Keyword).length + (if ([] : List Keyword).isEmpty then 0 else 1) < 30)) = true := by rfl)
    (hline : (apos.endLine == cpos.line) = true := by rfl) (hs : starEach [e] X.env = (false, eval e X.env) :: starEach [] X.env := by rfl) (hplain : (backTo cpos (starEach [] X.env)).any (·.1) = false := by rfl)
    (hsw : swapsWith (.Call (.Attribute (.Name x p1) "append" apos) [e] [] cpos) none pos.line X.env = pure false := by rfl) :
    DS X (.Expr (.Call (.Attribute (.Name x p1) "append" apos) [e] [] cpos) pos) (tDrop (tBM X.K "list" rAppend (tVar i) (tCons te tNil))) (dApp i fe) :=
  ⟨ps_expr (pe_bm PySem.F.plainAttrs_list PySem.F.slot_list_append PySem.F.type_list_append mt_append (pe_var hN hv hd hcd) (pa_cons he.p pa_nil hs) hbase hfew hline hs hplain) hsw, fun F0 H0 F H ε σ R D r ⟨ds, d, e1, e2, hz, h'⟩ c => by
    obtain ⟨v, h1, h2⟩ := r.e.sl _ _ e1
    obtain ⟨p, vs, rfl, hp, hF, al⟩ := h2.own_o
    refine ⟨_, h1, .inl ⟨rfl, vs, SqL.of hp⟩, he.r F H ε σ d _ r.e e2 fun v F' H' s d' => ?_⟩
    have hp' := s.h _ _ hp
    refine ⟨p, vs, v, rfl, rfl, hp', by rw [al.length]; exact hz, c.nx _ _ _ _ ((r.step s).put (s' := .o (ds ++ [d])) e1 h1 rfl rfl ⟨p, vs ++ [v], rfl, upd_same, s.n _ _ hp hF, (al.mv s.f).append (.one d')⟩) s.f h'⟩⟩
def ixN' (n : Nat) (i : Int) : Option Nat := ixN n i
/-- xs[k] = e -/
def dPut (i : Nat) (fk fe : En → Option PyData) : TD := fun R ε => ∃ ds d k j, fe ε = some d ∧ ε[i]? = some (some (.o ds)) ∧ fk ε = some (.int k) ∧ ixN ds.length k = some j ∧ R.nx (ε.set i (some (.o (ds.set j d))))
theorem ds_put (i : Nat) {x : Str} {p1 spos : Pos} {k : Expr} {tk : TE} {fk : En → Option PyData} (he : DE X e te fe) (hk : DE X k tk fk) (hN : X.N[i]? = some x := by rfl) (hv : Vis X.env.scope x := by first | exact Or.inl rfl | exact Or.inr (Or.inl rfl) | exact Or.inr (Or.inr rfl)) (hd : (x == ("__debug__" : Str)) = false := by decide)
    (hcd : (x == ("__classdict__" : Str)) = false := by decide)
    (ha : ∀ v, assign (.Subscript (.Name x p1) k spos) X.env v = (do
      let ov ← holding [v] (eval (.Name x p1) X.env)
      let iv ← holding [v, ov] (eval k X.env)
      standAt spos
      holding [v, ov, iv] (setItem ov iv v)
      release [v, ov, iv] []) := by intros; rfl)
    (hs : swapsWithSole [.Subscript (.Name x p1) k spos] e pos.line X.env = pure false := by rfl) (hw : swappedStores [.Subscript (.Name x p1) k spos] e X.env = pure none := by rfl) (h1 : (assignEach [.Subscript (.Name x p1) k spos] X.env).map (·.2) = [assign (.Subscript (.Name x p1) k spos) X.env] := by rfl) :
    DS X (.Assign [.Subscript (.Name x p1) k spos] e pos) (tAsg te (gSub (tVar i) tk rSetL)) (dPut i fk fe) :=
  ⟨ps_asg he.p (pg_sub (pe_var hN hv hd hcd) hk.p set_list ha) hs hw h1, fun F0 H0 F H ε σ R D r ⟨ds, d, k, j, e1, e2, e3, e4, h'⟩ c => by
    obtain ⟨v, h1, h2⟩ := r.e.sl _ _ e2
    obtain ⟨p, vs, rfl, hp, hF, al⟩ := h2.own_o
    refine he.r F H ε σ d _ r.e e1 fun y F1 H1 s1 d1 => ⟨_, h1, hk.r F1 H1 ε σ _ _ (r.e.step s1) e3 fun z F2 H2 s2 d2 => ?_⟩
    cases dn_int d2
    have s := s1.trans s2
    refine ⟨p, vs, k, j, rfl, rfl, s.h _ _ hp, by rw [al.length]; exact e4, c.nx _ _ _ _ ((r.step s).put (s' := .o (ds.set j d)) e2 h1 rfl rfl ⟨p, vs.set j y, rfl, upd_same, s.n _ _ hp hF, (al.mv s.f).set (d1.mv s2.f) j⟩) s.f h'⟩⟩

/-! ### parallel stores -/
/-- arguments into slots -/
def SlotsN (K : PySem.W.Frag) (F' H' H : Hp) : List V → List Slot → Prop
  | [], [] => True
  | v :: vs, s :: ss => SlotN K F' H' H v s ∧ SlotsN K F' H' H vs ss ∧ ∀ p : Addr, s.own = true → v = V.ref p → ∀ (i : Nat) (s' : Slot), ss[i]? = some s' → s'.own = true → vs[i]? ≠ some (V.ref p)
  | _, _ => False
def RAX (K : PySem.W.Frag) (t : TA) (f : En → Option (List Slot)) : Prop := ∀ (F H : Hp) (ε : En) (σ : L2.St) (ss : List Slot) (Q : List V → Hp → Prop), RelE K F H ε σ → f ε = some ss →
  (∀ vs F' H', Step F H F' H' → SlotsN K F' H' H vs ss → Q vs H') → t σ H Q
structure DAX (X : Cx) (es : List Expr) (t : TA) (f : En → Option (List Slot)) : Prop where
  p : PA X es t
  r : RAX X.K t f
theorem dax_nil : DAX X [] tNil (fun _ => some []) := ⟨pa_nil, fun F H ε σ d Q r e q => by cases e; exact q _ F H (.refl r.sub) trivial⟩
theorem SlotsN.later {K : PySem.W.Frag} {F' H' H1 H : Hp} (n : ∀ p, H1 p = none → H p = none) : ∀ {vs : List V} {ss : List Slot}, SlotsN K F' H' H1 vs ss → SlotsN K F' H' H vs ss
  | [], [], _ => trivial
  | v :: vs, s :: ss, h => ⟨⟨h.1.1, fun p a b => n p (h.1.2 p a b)⟩, SlotsN.later n h.2.1, h.2.2⟩
  | [], _ :: _, h => h.elim
  | _ :: _, [], h => h.elim
theorem SlotsN.fresh {K : PySem.W.Frag} {F' H' H : Hp} : ∀ {vs : List V} {ss : List Slot}, SlotsN K F' H' H vs ss → ∀ (i : Nat) (s : Slot) (p : Addr), ss[i]? = some s → s.own = true → vs[i]? = some (V.ref p) → H p = none
  | [], [], _, i, s, p, a, _, _ => by simp at a
  | v :: vs, s :: ss, h, 0, s', p, a, b, c => by
    simp at a c
    subst a
    exact h.1.2 p b c
  | v :: vs, s :: ss, h, i + 1, s', p, a, b, c => SlotsN.fresh h.2.1 i s' p (by simpa using a) b (by simpa using c)
  | [], _ :: _, h, _, _, _, _, _, _ => h.elim
  | _ :: _, [], h, _, _, _, _, _, _ => h.elim
theorem dax_cons {t : TA} {f1 : En → Option Slot} {f : En → Option (List Slot)} (ha : DX X e te f1) (hr : DAX X es t f) (hs : starEach (e :: es) X.env = (false, eval e X.env) :: starEach es X.env := by rfl) : DAX X (e :: es) (tCons te t) (fun ε => (f1 ε).bind fun d => (f ε).map (d :: ·)) :=
  ⟨pa_cons ha.p hr.p hs, fun F H ε σ ds Q r e q => by
    obtain ⟨d, e1, e2⟩ := Option.bind_eq_some_iff.mp e
    obtain ⟨ds', e3, rfl⟩ := Option.map_eq_some_iff.mp e2
    refine ha.r F H ε σ d _ r e1 fun v F1 H1 s1 d1 => ?_
    refine hr.r F1 H1 ε σ ds' _ (r.step s1) e3 fun vs F2 H2 s2 d2 => ?_
    refine q _ F2 H2 (s1.trans s2) ⟨⟨d1.1.step s2, d1.2⟩, d2.later fun p => s1.h.free, fun p a b i s' c o z => ?_⟩
    have n := d2.fresh i s' p c o z
    have there : ∃ u, H1 p = some u := by
      subst b
      have d3 := d1.1
      cases d with
      | f d => cases a
      | o ds => obtain ⟨_, _, z, h, _⟩ := d3; cases z; exact ⟨_, h⟩
      | od ds => obtain ⟨_, _, z, h, _⟩ := d3; cases z; exact ⟨_, h⟩
      | v y => cases a
    obtain ⟨u, hu⟩ := there
    rw [hu] at n
    cases n⟩
@[simp] def setE : List Nat → List Slot → En → En
  | i :: is, s :: ss, ε => setE is ss (ε.set i (some s))
  | _, _, ε => ε
def setV : List Nat → List V → L2.St → L2.St
  | i :: is, s :: ss, ε => setV is ss (ε.set i (some s))
  | _, _, ε => ε
theorem Rel.setAll {K : PySem.W.Frag} {F0 H0 H F' H' : Hp} (f : ∀ p, H p = none → H0 p = none) : ∀ (is : List Nat) (vs : List V) (ss : List Slot) (ε : En) (σ : L2.St), Rel K F0 H0 F' H' ε σ → SlotsN K F' H' H vs ss →
    (∀ (j : Nat) (p : Addr), OwnAt ε σ j p → ∀ (i : Nat) (s : Slot), ss[i]? = some s → s.own = true → vs[i]? ≠ some (V.ref p)) → is.length = ss.length → Rel K F0 H0 F' H' (setE is ss ε) (setV is vs σ) := by
  intro is
  induction is with
  | nil =>
    intro vs ss ε σ r h n l
    cases ss with
    | nil => cases vs with
      | nil => exact r
      | cons _ _ => exact h.elim
    | cons _ _ => cases l
  | cons i is ih =>
    intro vs ss ε σ r h n l
    cases ss with
    | nil => cases l
    | cons s ss => cases vs with
      | nil => exact h.elim
      | cons v vs =>
        have fr : ∀ p, s.own = true → v = .ref p → ∀ j, ¬ OwnAt ε σ j p := fun p a b j hj => n j p hj 0 s rfl a (by rw [b]; rfl)
        refine ih vs ss _ _ ⟨r.e.set h.1.1, r.st, fun j p hj => ?_, fun j k p hj hk => ?_⟩ h.2.1 (fun j p hj i' s' a b => ?_) (by simpa using l)
        · rcases OwnAt.set r.e.len hj with ⟨_, s', e1, e2, e3⟩ | ⟨_, hj⟩
          · cases e1; cases e3
            exact f p (h.1.2 p e2 rfl)
          · exact r.own j p hj
        · rcases OwnAt.set r.e.len hj with ⟨rfl, s', e1, e2, e3⟩ | ⟨_, hj2⟩
          · rcases OwnAt.set r.e.len hk with ⟨rfl, _⟩ | ⟨_, hk2⟩
            · rfl
            · cases e1; cases e3
              exact absurd hk2 (fr p e2 rfl k)
          · rcases OwnAt.set r.e.len hk with ⟨rfl, s', e1, e2, e3⟩ | ⟨_, hk2⟩
            · cases e1; cases e3
              exact absurd hj2 (fr p e2 rfl j)
            · exact r.sep j k p hj2 hk2
        · rcases OwnAt.set r.e.len hj with ⟨_, s'', e1, e2, e3⟩ | ⟨_, hj⟩
          · cases e1; cases e3
            exact h.2.2 p e2 rfl i' s' a b
          · exact n j p hj (i' + 1) s' (by simpa using a) b
def dPar (is : List Nat) (f : En → Option (List Slot)) : TD := fun R ε => ∃ ss, f ε = some ss ∧ ss.length = is.length ∧ R.nx (setE is ss ε)
theorem slotsN_own {K : PySem.W.Frag} {F H F' H' : Hp} {ε : En} {σ : L2.St} {vs : List V} {ss : List Slot} (r : RelE K F H ε σ) (h : SlotsN K F' H' H vs ss) : ∀ (j : Nat) (p : Addr), OwnAt ε σ j p → ∀ (i : Nat) (s : Slot), ss[i]? = some s → s.own = true → vs[i]? ≠ some (V.ref p) := fun j p hj i s a b c => by
  obtain ⟨⟨o, e⟩, _⟩ := hj.addr r
  rw [h.fresh i s p a b c] at e
  cases e
theorem SlotsN.length {K : PySem.W.Frag} {F' H' H : Hp} : ∀ {vs : List V} {ss : List Slot}, SlotsN K F' H' H vs ss → vs.length = ss.length
  | [], [], _ => rfl
  | v :: vs, s :: ss, h => by simp [SlotsN.length h.2.1]
  | [], _ :: _, h => h.elim
  | _ :: _, [], h => h.elim
theorem ds_par (i j : Nat) {x y : Str} {ta : TA} {f : En → Option (List Slot)} {px py pt : Pos} {kt k2 pt2} (hc : X.calm = true) (hN : X.N.Nodup) (ha : DAX X [a, b] ta f)
    (hw : swappedStores [.Tuple [.Name x px, .Name y py] kt pt] (.Tuple [a, b] k2 pt2) X.env = pure (some [x, y]) := by rfl) (hi : X.N[i]? = some x := by rfl) (hj : X.N[j]? = some y := by rfl) (hij : i ≠ j := by decide)
    (hx : X.env.scope.names.lookup x = some .local := by rfl) (hy : X.env.scope.names.lookup y = some .local := by rfl) 
    (hs : swapsWithSole [.Tuple [.Name x px, .Name y py] kt pt] (.Tuple [a, b] k2 pt2) pos.line X.env = pure false := by rfl) :
    DS X (.Assign [.Tuple [.Name x px, .Name y py] kt pt] (.Tuple [a, b] k2 pt2) pos) (tPar i j ta) (dPar [i, j] f) :=
  ⟨ps_par hc hN hi hj hij hx hy ha.p hw hs, fun F0 H0 F H ε σ R D r ⟨ss, e1, l, h'⟩ c => ha.r F H ε σ ss _ r.e e1 fun vs F' H' s sn => by
    match vs, ss, l, sn, h' with
    | [v, w], [s1, s2], _, sn, h' => exact ⟨v, w, rfl, c.nx _ _ _ _ (Rel.setAll (fun p => r.st.h.free) [i, j] _ _ _ _ (r.step s) sn (slotsN_own r.e sn) rfl) s.f h'⟩
    | [], [_, _], _, sn, _ => exact sn.elim
    | [_], [_, _], _, sn, _ => exact sn.2.1.elim
    | _ :: _ :: _ :: _, [_, _], _, sn, _ => exact sn.2.1.2.1.elim⟩
theorem ds_par3 (i j l : Nat) {c : Expr} {x y z : Str} {ta : TA} {f : En → Option (List Slot)} {px py pz pt : Pos} {kt k2 pt2} (hc : X.calm = true) (hN : X.N.Nodup) (ha : DAX X [a, b, c] ta f)
    (hw : swappedStores [.Tuple [.Name x px, .Name y py, .Name z pz] kt pt] (.Tuple [a, b, c] k2 pt2) X.env = pure (some [x, y, z]) := by rfl) (hi : X.N[i]? = some x := by rfl) (hj : X.N[j]? = some y := by rfl) (hl : X.N[l]? = some z := by rfl) (hij : i ≠ j := by decide) (hil : i ≠ l := by decide) (hjl : j ≠ l := by decide)
    (hx : X.env.scope.names.lookup x = some .local := by rfl) (hy : X.env.scope.names.lookup y = some .local := by rfl) (hz : X.env.scope.names.lookup z = some .local := by rfl)
    (hs : swapsWithSole [.Tuple [.Name x px, .Name y py, .Name z pz] kt pt] (.Tuple [a, b, c] k2 pt2) pos.line X.env = pure false := by rfl) :
    DS X (.Assign [.Tuple [.Name x px, .Name y py, .Name z pz] kt pt] (.Tuple [a, b, c] k2 pt2) pos) (tPar3 i j l ta) (dPar [i, j, l] f) :=
  ⟨ps_par3 hc hN hi hj hl hij hil hjl hx hy hz ha.p hw hs, fun F0 H0 F H ε σ R D r ⟨ss, e1, n, h'⟩ c => ha.r F H ε σ ss _ r.e e1 fun vs F' H' s sn => by
    match vs, ss, n, sn, h' with
    | [u, v, w], [s1, s2, s3], _, sn, h' => exact ⟨u, v, w, rfl, c.nx _ _ _ _ (Rel.setAll (fun p => r.st.h.free) [i, j, l] _ _ _ _ (r.step s) sn (slotsN_own r.e sn) rfl) s.f h'⟩
    | [], [_, _, _], _, sn, _ => exact sn.elim
    | [_], [_, _, _], _, sn, _ => exact sn.2.1.elim
    | [_, _], [_, _, _], _, sn, _ => exact sn.2.1.2.1.elim
    | _ :: _ :: _ :: _ :: _, [_, _, _], _, sn, _ => exact sn.2.1.2.1.2.1.elim⟩
end

/-! ### a def by its data -/
def startE (N : List Str) (ds : List PyData) : En := ds.map (fun d => some (.f d)) ++ List.replicate (N.length - ds.length) none
theorem startE_rel {K : PySem.W.Frag} {N : List Str} {F H : Hp} {vs : List V} {ds : List PyData} (s : Same F H) (a : DnAll K F vs ds) : Rel K F H F H (startE N ds) (L2.start N vs) := by
  have hl := a.length
  have no : ∀ (i : Nat) (s : Slot), (startE N ds)[i]? = some (some s) → ∃ d, ds[i]? = some d ∧ s = .f d := fun i s e => by
    unfold startE at e
    by_cases hi : i < ds.length
    · rw [List.getElem?_append_left (by rw [List.length_map]; exact hi), List.getElem?_map] at e
      obtain ⟨d, e1, e2⟩ := Option.map_eq_some_iff.mp e
      exact ⟨d, e1, (Option.some.inj e2).symm⟩
    · rw [List.getElem?_append_right (by rw [List.length_map]; omega), List.getElem?_replicate] at e
      split at e <;> cases e
  refine ⟨⟨s, by simp [startE, L2.start, hl], fun i s' e => ?_⟩, .refl s, fun i p ⟨s', h1, h2, _⟩ => ?_, fun i j p ⟨s', h1, h2, _⟩ => ?_⟩
  · obtain ⟨d, e1, rfl⟩ := no i s' e
    obtain ⟨v, h1, h2⟩ := a.get e1
    refine ⟨v, ?_, h2⟩
    have hi := (List.getElem?_eq_some_iff.mp h1).1
    show (vs.map some ++ _)[i]? = _
    rw [List.getElem?_append_left (by rw [List.length_map]; exact hi), List.getElem?_map, h1]
    rfl
  · obtain ⟨d, _, rfl⟩ := no i s' h1
    cases h2
  · obtain ⟨d, _, rfl⟩ := no i s' h1
    cases h2
@[simp] def Slot.val : Slot → Option PyData
  | .f d => some d
  | .o ds => some (.list ds)
  | .od kvs => some (.dict kvs)
  | .v _ => none
section
variable {P : Program} {w : World} {K : PySem.W.Frag} {mg : Str → Option Value} {base : Heap}
/-- a def by what its body does to the data: a value -/
theorem defP {x qual : Str} {st : Stmt} {f : Addr} {fd : FuncData} {N ps : List Str} {k : Nat} {g : List PyData → Option PyData} {T : TD} (F : Fun K x qual st f fd) (S : FnScope N ps (defScope st))
    (body : ∀ (cdv : Value) (A : Around) (outer : List Env) (s : Shared) (H : Hp) (E : XK), Room k (A.deeper (envOfC qual (defScope st) s.heap.objs.size f cdv)) → ∃ t, DSs (cxOf CX0 P w K mg base N qual (defScope st) f cdv A outer s H E).nox (defBody st) t T)
    (pure : ∀ ds d, g ds = some d → ds.length = ps.length ∧ T { nx := fun _ => d = .none, rt := fun s => s.val = some d } (startE N ds)) : FnOk P w K mg base CX0 (k + 1) f fd ps (PSp K g) := by
  refine F.ok S (fun vs H Q E ⟨F1, ds, d, s1, a, e, q⟩ => by rw [a.length]; exact (pure ds d e).1) (fun cdv A outer s H vs Q E hr ⟨F1, ds, d, s1, a, e, q⟩ => ?_)
  obtain ⟨t, ht⟩ := body cdv A outer s H E hr
  refine ⟨t, ht.p, ht.r F1 H F1 H _ _ _ _ (startE_rel s1 a) (pure ds d e).2 ⟨fun ε σ F' H' r _ h => ?_, fun sl v H' ⟨F', st, h1, h2⟩ h3 => ?_, fun _ _ _ _ _ _ h => h.elim, fun _ _ _ _ _ _ h => h.elim⟩⟩
  · subst h
    exact q _ F' H' r.st .non
  · cases sl with
    | f d' => cases h3; exact q v F' H' st h1
    | o ds' =>
      cases h3
      obtain ⟨p, vs', rfl, hp, hF, al⟩ := h1
      obtain ⟨s', d'⟩ := frz_new st (h2 p rfl rfl) hF hp al
      exact q _ _ _ s' d'
    | od ds' =>
      cases h3
      obtain ⟨p, vs', rfl, hp, hF, al⟩ := h1
      have n0 := h2 p rfl rfl
      have sf : Same F' (upd F' p (.dK vs')) := fun b o q => by rw [upd_ne (ne_of_none q hF)]; exact q
      refine q _ (upd F' p (.dK vs')) H' ⟨st.f.trans sf, st.h, fun b o q => ?_, fun b o q1 q2 => ?_⟩ (.dic upd_same (al.mv sf))
      · by_cases hb : b = p
        · subst hb; rw [upd_same] at q; cases q; exact hp
        · rw [upd_ne hb] at q; exact st.s _ _ q
      · rw [upd_ne (ne_of_none q1 n0)]; exact st.n _ _ q1 q2
    | v y => cases h3
/-- .. a new list -/
theorem defL {x qual : Str} {st : Stmt} {f : Addr} {fd : FuncData} {N ps : List Str} {k : Nat} {g : List PyData → Option (List PyData)} {T : TD} (F : Fun K x qual st f fd) (S : FnScope N ps (defScope st))
    (body : ∀ (cdv : Value) (A : Around) (outer : List Env) (s : Shared) (H : Hp) (E : XK), Room k (A.deeper (envOfC qual (defScope st) s.heap.objs.size f cdv)) → ∃ t, DSs (cxOf CX0 P w K mg base N qual (defScope st) f cdv A outer s H E).nox (defBody st) t T)
    (pure : ∀ ds d, g ds = some d → ds.length = ps.length ∧ T { nx := fun _ => False, rt := fun s => s = .o d } (startE N ds)) : FnOk P w K mg base CX0 (k + 1) f fd ps (LSp K g) := by
  refine F.ok S (fun vs H Q E ⟨F1, ds, d, s1, a, e, q⟩ => by rw [a.length]; exact (pure ds d e).1) (fun cdv A outer s H vs Q E hr ⟨F1, ds, d, s1, a, e, q⟩ => ?_)
  obtain ⟨t, ht⟩ := body cdv A outer s H E hr
  refine ⟨t, ht.p, ht.r F1 H F1 H _ _ _ _ (startE_rel s1 a) (pure ds d e).2 ⟨fun ε σ F' H' r _ h => h.elim, fun sl v H' ⟨F', st, h1, h2⟩ h3 => ?_, fun _ _ _ _ _ _ h => h.elim, fun _ _ _ _ _ _ h => h.elim⟩⟩
  subst h3
  obtain ⟨p, vs', rfl, hp, hF, al⟩ := h1
  exact q p vs' F' H' st (h2 p rfl rfl) hF hp al
end
end M


namespace M
open PySem PySem.Spec PyProof.Rows L2

/-- a def that may be called, by its promise -/
structure Cal (P : Program) (w : World) (K : PySem.W.Frag) (mg : Str → Option Value) (base : Heap) (x : Str) (k : Nat) (sp : Sp) : Prop where
  ex : ∃ (fa : Addr) (fd : FuncData) (ps : List Str), FnOk P w K mg base CX0 k fa fd ps sp ∧ mg x = some (.ref fa) ∧ PySem.W.keepIn K (.ref fa) = true ∧ Binds K fd ps []
section
variable {X : Cx} {e : Expr} {es : List Expr} {te : TE} {t : TA} {f : En → Option (List PyData)} {fe : En → Option PyData} {x : Str} {p pos : Pos} {k : Nat}
theorem Cal.mono {P : Program} {w : World} {K : PySem.W.Frag} {mg : Str → Option Value} {base : Heap} {j : Nat} {sp : Sp} (c : Cal P w K mg base x j sp) (h : j ≤ k) : Cal P w K mg base x k sp :=
  let ⟨fa, fd, ps, a, b⟩ := c.ex; ⟨fa, fd, ps, a.mono h, b⟩
theorem Cal.toP {P : Program} {w : World} {K : PySem.W.Frag} {mg : Str → Option Value} {base : Heap} {g : List PyData → Option (List PyData)} (c : Cal P w K mg base x k (LSp K g)) : Cal P w K mg base x k (PSp K fun ds => (g ds).map .list) :=
  let ⟨fa, fd, ps, a, b⟩ := c.ex; ⟨fa, fd, ps, LSp.toP a, b⟩
theorem de_cal {g : List PyData → Option PyData} {j : Nat} (c : Cal X.prog X.w X.K X.mg X.base x k (PSp X.K g)) (hr : Room j X.A) (ha : DA X (e :: es) t f) (hj : k ≤ j := by decide) (hg : Gl X x := by rfl) (hdb : (x == ("__debug__" : Str)) = false := by decide)
    (he : starEach (e :: es) X.env = (false, eval e X.env) :: starEach es X.env := by rfl) (hpl : (backTo pos (starEach es X.env)).any (·.1) = false := by rfl) : DE X (.Call (.Name x p) (e :: es) [] pos) (tCall (PSp X.K g) [] E0 t) (fun ε => (f ε).bind g) :=
  let ⟨_, _, _, G, hm, hk, hb⟩ := c.ex; de_fn G (hr.mono hj) hg hm hk hb ha hdb he hpl
theorem de_cal0 {g : List PyData → Option PyData} {j : Nat} (c : Cal X.prog X.w X.K X.mg X.base x k (PSp X.K g)) (hr : Room j X.A) (hj : k ≤ j := by decide) (hg : Gl X x := by rfl) (hdb : (x == ("__debug__" : Str)) = false := by decide) :
    DE X (.Call (.Name x p) [] [] pos) (tCall (PSp X.K g) [] E0 tNil) (fun ε => (some []).bind g) :=
  let ⟨_, _, _, G, hm, hk, hb⟩ := c.ex; de_fn0 G (hr.mono hj) hg hm hk hb hdb
theorem dl_cal {g : List PyData → Option (List PyData)} {j : Nat} (c : Cal X.prog X.w X.K X.mg X.base x k (LSp X.K g)) (hr : Room j X.A) (ha : DA X (e :: es) t f) (hj : k ≤ j := by decide) (hg : Gl X x := by rfl) (hdb : (x == ("__debug__" : Str)) = false := by decide)
    (he : starEach (e :: es) X.env = (false, eval e X.env) :: starEach es X.env := by rfl) (hpl : (backTo pos (starEach es X.env)).any (·.1) = false := by rfl) : DL X (.Call (.Name x p) (e :: es) [] pos) (tCall (LSp X.K g) [] E0 t) (fun ε => (f ε).bind g) :=
  let ⟨_, _, _, G, hm, hk, hb⟩ := c.ex; dl_fn G (hr.mono hj) hg hm hk hb ha hdb he hpl
theorem dl_cal0 {g : List PyData → Option (List PyData)} {j : Nat} (c : Cal X.prog X.w X.K X.mg X.base x k (LSp X.K g)) (hr : Room j X.A) (hj : k ≤ j := by decide) (hg : Gl X x := by rfl) (hdb : (x == ("__debug__" : Str)) = false := by decide) :
    DL X (.Call (.Name x p) [] [] pos) (tCall (LSp X.K g) [] E0 tNil) (fun ε => (some []).bind g) :=
  let ⟨_, _, _, G, hm, hk, hb⟩ := c.ex; dl_fn0 G (hr.mono hj) hg hm hk hb hdb
/-- the built-in names that stand as they were -/
structure Blt (mg : Str → Option Value) : Prop where
  len : mg "len" = none
  range : mg "range" = none
  enumerate : mg "enumerate" = none
  zip : mg "zip" = none
  sorted : mg "sorted" = none
  set : mg "set" = none
  list : mg "list" = none
  tuple : mg "tuple" = none
  str : mg "str" = none
  int : mg "int" = none
  bool : mg "bool" = none
  isinstance : mg "isinstance" = none
  sum : mg "sum" = none
  min : mg "min" = none
  max : mg "max" = none
  all : mg "all" = none

/-! ### built-ins by data -/
theorem BdAll.one {K : PySem.W.Frag} {F H : Hp} {vs : List V} {d : PyData} (h : BdAll K F H vs [d]) : ∃ v, vs = [v] ∧ Bd K F H v d := by
  match vs, h with
  | [v], h => exact ⟨v, rfl, h.1⟩
  | [], h => exact h.elim
  | _ :: _ :: _, h => exact h.2.elim
theorem BdAll.two {K : PySem.W.Frag} {F H : Hp} {vs : List V} {d e : PyData} (h : BdAll K F H vs [d, e]) : ∃ v w, vs = [v, w] ∧ Bd K F H v d ∧ Bd K F H w e := by
  match vs, h with
  | [v, w], h => exact ⟨v, w, rfl, h.1, h.2.1⟩
  | [], h => exact h.elim
  | [_], h => exact h.2.elim
  | _ :: _ :: _ :: _, h => exact h.2.2.elim
@[simp] def lenD : List PyData → Option PyData
  | [.str z] => if z.length ≤ sizeLine then some (.int z.length) else none
  | [.list ds] => some (.int ds.length)
  | [.tuple ds] => some (.int ds.length)
  | [.dict ds] => some (.int ds.length)
  | _ => none
theorem cr_len : CallR X (.builtin "len") (rGC X.K lenD) := by
  intro pins s σ H xs us Q I r ⟨F, ds, d, s1, hb, e, k⟩
  unfold lenD at e
  split at e
  · obtain ⟨v, rfl, h⟩ := hb.one
    split at e
    · rename_i hz
      cases e
      obtain ⟨rfl, o⟩ := h.str
      exact call_len pins s σ H _ us Q I r ⟨_, _, rfl, ⟨hz, rfl⟩, k _ F H (.refl s1) (.int _)⟩
    · cases e
  · obtain ⟨v, rfl, h⟩ := hb.one
    cases e
    obtain ⟨p, vs, rfl, hv, av⟩ := h.items s1
    exact call_len pins s σ H _ us Q I r ⟨_, _, rfl, .inl ⟨vs, hv, rfl⟩, by rw [av.length]; exact k _ F H (.refl s1) (.int _)⟩
  · obtain ⟨v, rfl, h⟩ := hb.one
    cases e
    obtain ⟨p, vs, rfl, _, hv, av⟩ := h.itemsT s1
    exact call_len pins s σ H _ us Q I r ⟨_, _, rfl, .inr ⟨vs, hv, rfl⟩, by rw [av.length]; exact k _ F H (.refl s1) (.int _)⟩
  · obtain ⟨v, rfl, h⟩ := hb.one
    cases e
    obtain ⟨p, vs, rfl, hv, av⟩ := h.entries s1
    have hl : vs.length = _ := DnKv.length av
    exact call_lenD pins s σ H _ us Q I r ⟨_, vs, rfl, hv, by rw [hl]; exact k _ F H (.refl s1) (.int _)⟩
  · cases e
/-- the signs of an int's text -/
def strI (i : Int) : Str := toString i
def strD : List PyData → Option PyData
  | [.int i] => if i.natAbs.log2 < 1920 ∧ PyData.strOk (strI i) = true then some (.str (strI i)) else none
  | _ => none
theorem cr_str : CallR X (.type "str") (rGC X.K strD) := by
  intro pins s σ H xs us Q I r ⟨F, ds, d, s1, hb, e, k⟩
  unfold strD at e
  split at e
  · obtain ⟨v, rfl, h⟩ := hb.one
    split at e
    · rename_i hz
      cases e
      obtain rfl := h.int
      exact call_str_int pins s σ H _ us Q I r ⟨_, rfl, hz.1, k _ F H (.refl s1) (.str _ hz.2)⟩
    · cases e
  · cases e
@[simp] def intD : List PyData → Option PyData
  | [.int i] => some (.int i)
  | [.bool b] => some (.int (if b then 1 else 0))
  | _ => none
theorem cr_int : CallR X (.type "int") (rGC X.K intD) := by
  intro pins s σ H xs us Q I r ⟨F, ds, d, s1, hb, e, k⟩
  unfold intD at e
  split at e
  · obtain ⟨v, rfl, h⟩ := hb.one
    cases e
    obtain rfl := h.int
    exact call_int1 pins s σ H _ us Q I r (.inl ⟨_, rfl, k _ F H (.refl s1) (.int _)⟩)
  · obtain ⟨v, rfl, h⟩ := hb.one
    cases e
    obtain rfl := h.bool
    exact call_int1 pins s σ H _ us Q I r (.inr ⟨_, rfl, k _ F H (.refl s1) (.int _)⟩)
  · cases e
def intsD : List PyData → Option (List Int)
  | [] => some []
  | .int i :: ds => (intsD ds).map (i :: ·)
  | _ => none
theorem intsD_vs {K : PySem.W.Frag} {F : Hp} : ∀ {ds : List PyData} {vs : List V} {is : List Int}, DnAll K F vs ds → intsD ds = some is → vs = is.map V.int
  | [], _, _, h, e => by cases h; cases e; rfl
  | .int i :: ds, _, is, h, e => by
    cases h with
    | cons a b =>
      obtain ⟨is', e1, rfl⟩ := Option.map_eq_some_iff.mp e
      rw [dn_int a, intsD_vs b e1]; rfl
  | .none :: _, _, _, _, e => by cases e
  | .bool _ :: _, _, _, _, e => by cases e
  | .str _ :: _, _, _, _, e => by cases e
  | .list _ :: _, _, _, _, e => by cases e
  | .tuple _ :: _, _, _, _, e => by cases e
  | .dict _ :: _, _, _, _, e => by cases e
def boolsD : List PyData → Option (List Bool)
  | [] => some []
  | .bool i :: ds => (boolsD ds).map (i :: ·)
  | _ => none
theorem boolsD_vs {K : PySem.W.Frag} {F : Hp} : ∀ {ds : List PyData} {vs : List V} {is : List Bool}, DnAll K F vs ds → boolsD ds = some is → vs = is.map V.bl
  | [], _, _, h, e => by cases h; cases e; rfl
  | .bool i :: ds, _, is, h, e => by
    cases h with
    | cons a b =>
      obtain ⟨is', e1, rfl⟩ := Option.map_eq_some_iff.mp e
      rw [dn_bool a, boolsD_vs b e1]; rfl
  | .none :: _, _, _, _, e => by cases e
  | .int _ :: _, _, _, _, e => by cases e
  | .str _ :: _, _, _, _, e => by cases e
  | .list _ :: _, _, _, _, e => by cases e
  | .tuple _ :: _, _, _, _, e => by cases e
  | .dict _ :: _, _, _, _, e => by cases e
def strsD : List PyData → Option (List Str)
  | [] => some []
  | .str i :: ds => (strsD ds).map (i :: ·)
  | _ => none
theorem strsD_vs {K : PySem.W.Frag} {F : Hp} : ∀ {ds : List PyData} {vs : List V} {is : List Str}, DnAll K F vs ds → strsD ds = some is → vs = is.map V.str ∧ ∀ x ∈ is, PyData.strOk x = true
  | [], _, _, h, e => by cases h; cases e; exact ⟨rfl, by simp⟩
  | .str i :: ds, _, is, h, e => by
    cases h with
    | cons a b =>
      obtain ⟨is', e1, rfl⟩ := Option.map_eq_some_iff.mp e
      obtain ⟨h1, h2⟩ := strsD_vs b e1
      cases a with
      | str _ ho =>
        rw [h1]
        refine ⟨rfl, fun x hx => ?_⟩
        rcases List.mem_cons.mp hx with z | z
        · rw [z]; exact ho
        · exact h2 x z
  | .none :: _, _, _, _, e => by cases e
  | .int _ :: _, _, _, _, e => by cases e
  | .bool _ :: _, _, _, _, e => by cases e
  | .list _ :: _, _, _, _, e => by cases e
  | .tuple _ :: _, _, _, _, e => by cases e
  | .dict _ :: _, _, _, _, e => by cases e
theorem strs_dn {K : PySem.W.Frag} {F : Hp} : ∀ {xs : List Str}, (∀ x ∈ xs, PyData.strOk x = true) → DnAll K F (xs.map V.str) (xs.map .str)
  | [], _ => .nil
  | x :: xs, h => .cons (.str x (h x List.mem_cons_self)) (strs_dn fun y hy => h y (List.mem_cons_of_mem _ hy))
def itemsOf : PyData → Option (List PyData)
  | .list ds => some ds
  | .tuple ds => some ds
  | _ => none
@[simp] def sumD : List PyData → Option PyData
  | [.list ds] => (intsD ds).map fun is => .int is.sum
  | _ => none
theorem cr_sumD (hc : X.calm = true) : CallR X (.builtin "sum") (rGC X.K sumD) := by
  intro pins s σ H xs us Q I r ⟨F, ds, d, s1, hb, e, k⟩
  unfold sumD at e
  split at e
  · obtain ⟨v, rfl, h⟩ := hb.one
    obtain ⟨is, e1, rfl⟩ := Option.map_eq_some_iff.mp e
    obtain ⟨p, vs, rfl, hv, av⟩ := h.items s1
    cases intsD_vs av e1
    exact cr_sum hc pins s σ H _ us Q I r ⟨_, is, rfl, hv, k _ F H (.refl s1) (.int _)⟩
  · cases e
/-- the least | greatest of some ints -/
def minI : List Int → Option Int
  | [] => none
  | i :: is => some (is.foldl min i)
def maxI : List Int → Option Int
  | [] => none
  | i :: is => some (is.foldl max i)
theorem foldl_min_mem : ∀ (is : List Int) (i : Int), is.foldl min i ∈ i :: is ∧ ∀ y ∈ i :: is, is.foldl min i ≤ y
  | [], i => by simp
  | j :: is, i => by
    obtain ⟨h1, h2⟩ := foldl_min_mem is (min i j)
    rw [List.foldl_cons]
    have hm : min i j ≤ i ∧ min i j ≤ j ∧ (min i j = i ∨ min i j = j) := by omega
    have h0 := h2 (min i j) List.mem_cons_self
    refine ⟨?_, fun y hy => ?_⟩
    · rcases List.mem_cons.mp h1 with z | z
      · rw [z]
        rcases hm.2.2 with q | q <;> rw [q] <;> simp
      · simp [z]
    · simp only [List.mem_cons] at hy
      rcases hy with z | z | z
      · omega
      · omega
      · exact h2 y (List.mem_cons_of_mem _ z)
theorem foldl_max_mem : ∀ (is : List Int) (i : Int), is.foldl max i ∈ i :: is ∧ ∀ y ∈ i :: is, y ≤ is.foldl max i
  | [], i => by simp
  | j :: is, i => by
    obtain ⟨h1, h2⟩ := foldl_max_mem is (max i j)
    rw [List.foldl_cons]
    have hm : i ≤ max i j ∧ j ≤ max i j ∧ (max i j = i ∨ max i j = j) := by omega
    have h0 := h2 (max i j) List.mem_cons_self
    refine ⟨?_, fun y hy => ?_⟩
    · rcases List.mem_cons.mp h1 with z | z
      · rw [z]
        rcases hm.2.2 with q | q <;> rw [q] <;> simp
      · simp [z]
    · simp only [List.mem_cons] at hy
      rcases hy with z | z | z
      · omega
      · omega
      · exact h2 y (List.mem_cons_of_mem _ z)
theorem minI_uniq {is : List Int} {m n : Int} (h : minI is = some n) (h1 : m ∈ is) (h2 : ∀ y ∈ is, m ≤ y) : m = n := by
  cases is with
  | nil => cases h
  | cons i is =>
    cases h
    obtain ⟨a, b⟩ := foldl_min_mem is i
    have := b m h1
    have := h2 _ a
    omega
theorem maxI_uniq {is : List Int} {m n : Int} (h : maxI is = some n) (h1 : m ∈ is) (h2 : ∀ y ∈ is, y ≤ m) : m = n := by
  cases is with
  | nil => cases h
  | cons i is =>
    cases h
    obtain ⟨a, b⟩ := foldl_max_mem is i
    have := b m h1
    have := h2 _ a
    omega
@[simp] def minD : List PyData → Option PyData
  | [.list ds] => (intsD ds).bind fun is => (minI is).map .int
  | [.int i, .int j] => some (.int (if j < i then j else i))
  | _ => none
@[simp] def maxD : List PyData → Option PyData
  | [.list ds] => (intsD ds).bind fun is => (maxI is).map .int
  | [.int i, .int j] => some (.int (if j > i then j else i))
  | _ => none
theorem cr_minD (hc : X.calm = true) : CallR X (.builtin "min") (rGC X.K minD) := by
  intro pins s σ H xs us Q I r ⟨F, ds, d, s1, hb, e, k⟩
  unfold minD at e
  split at e
  · obtain ⟨v, rfl, h⟩ := hb.one
    obtain ⟨is, e1, e2⟩ := Option.bind_eq_some_iff.mp e
    obtain ⟨m, e3, rfl⟩ := Option.map_eq_some_iff.mp e2
    obtain ⟨p, vs, rfl, hv, av⟩ := h.items s1
    cases intsD_vs av e1
    refine cr_min hc pins s σ H _ us Q I r ⟨_, is, rfl, hv, by cases is with | nil => cases e3 | cons _ _ => simp, fun m' h1 h2 => ?_⟩
    rw [minI_uniq e3 h1 h2]
    exact k _ F H (.refl s1) (.int _)
  · obtain ⟨v, w, rfl, h1, h2⟩ := hb.two
    cases e
    obtain rfl := h1.int
    obtain rfl := h2.int
    exact call_min2 hc pins s σ H _ us Q I r ⟨_, _, rfl, k _ F H (.refl s1) (.int _)⟩
  · cases e
theorem cr_maxD (hc : X.calm = true) : CallR X (.builtin "max") (rGC X.K maxD) := by
  intro pins s σ H xs us Q I r ⟨F, ds, d, s1, hb, e, k⟩
  unfold maxD at e
  split at e
  · obtain ⟨v, rfl, h⟩ := hb.one
    obtain ⟨is, e1, e2⟩ := Option.bind_eq_some_iff.mp e
    obtain ⟨m, e3, rfl⟩ := Option.map_eq_some_iff.mp e2
    obtain ⟨p, vs, rfl, hv, av⟩ := h.items s1
    cases intsD_vs av e1
    refine cr_max hc pins s σ H _ us Q I r ⟨_, is, rfl, hv, by cases is with | nil => cases e3 | cons _ _ => simp, fun m' h1 h2 => ?_⟩
    rw [maxI_uniq e3 h1 h2]
    exact k _ F H (.refl s1) (.int _)
  · obtain ⟨v, w, rfl, h1, h2⟩ := hb.two
    cases e
    obtain rfl := h1.int
    obtain rfl := h2.int
    exact call_max2 hc pins s σ H _ us Q I r ⟨_, _, rfl, k _ F H (.refl s1) (.int _)⟩
  · cases e
@[simp] def allD : List PyData → Option PyData
  | [.list ds] => (boolsD ds).map fun is => .bool (is.all id)
  | _ => none
theorem cr_allD (hc : X.calm = true) : CallR X (.builtin "all") (rGC X.K allD) := by
  intro pins s σ H xs us Q I r ⟨F, ds, d, s1, hb, e, k⟩
  unfold allD at e
  split at e
  · obtain ⟨v, rfl, h⟩ := hb.one
    obtain ⟨is, e1, rfl⟩ := Option.map_eq_some_iff.mp e
    obtain ⟨p, vs, rfl, hv, av⟩ := h.items s1
    cases boolsD_vs av e1
    exact cr_all hc pins s σ H _ us Q I r ⟨_, is, rfl, hv, k _ F H (.refl s1) (.bl _)⟩
  · cases e
@[simp] def listL : List PyData → Option (List PyData)
  | [.list ds] => some ds
  | [.tuple ds] => some ds
  | _ => none
theorem cr_list : CallR X (.type "list") (rGCL X.K listL) := by
  intro pins s σ H xs us Q I r ⟨F, ds, d, s1, hb, e, k⟩
  unfold listL at e
  split at e
  · obtain ⟨v, rfl, h⟩ := hb.one
    cases e
    obtain ⟨p, vs, rfl, hv, av⟩ := h.items s1
    refine call_list_of pins s σ H _ us Q I r ⟨_, vs, rfl, .inl hv, fun l hl => ?_⟩
    obtain ⟨st, nf, hp'⟩ := new_lst (vs := vs) s1 hl
    exact k l vs F _ st hl nf hp' av
  · obtain ⟨v, rfl, h⟩ := hb.one
    cases e
    obtain ⟨p, vs, rfl, _, hv, av⟩ := h.itemsT s1
    refine call_list_of pins s σ H _ us Q I r ⟨_, vs, rfl, .inr hv, fun l hl => ?_⟩
    obtain ⟨st, nf, hp'⟩ := new_lst (vs := vs) s1 hl
    exact k l vs F _ st hl nf hp' av
  · cases e
@[simp] def tupleD : List PyData → Option PyData
  | [.list ds] => some (.tuple ds)
  | [.tuple ds] => some (.tuple ds)
  | _ => none
theorem cr_tuple : CallR X (.type "tuple") (rGC X.K tupleD) := by
  intro pins s σ H xs us Q I r ⟨F, ds, d, s1, hb, e, k⟩
  unfold tupleD at e
  split at e
  · obtain ⟨v, rfl, h⟩ := hb.one
    cases e
    obtain ⟨p, vs, rfl, hv, av⟩ := h.items s1
    refine call_tuple_of pins s σ H _ us Q I r ⟨_, vs, rfl, .inl ⟨hv, fun l hl => ?_⟩⟩
    obtain ⟨st, dn⟩ := new_tup s1 hl av
    exact k _ _ _ st dn
  · obtain ⟨v, rfl, h⟩ := hb.one
    cases e
    obtain ⟨p, vs, rfl, hf, hv, av⟩ := h.itemsT s1
    exact call_tuple_of pins s σ H _ us Q I r ⟨_, vs, rfl, .inr ⟨hv, k _ F H (.refl s1) (.tup hf av)⟩⟩
  · cases e

/-! ### isinstance(x, T) -/
@[simp] def tyN : PyData → String
  | .none => "NoneType"
  | .bool _ => "bool"
  | .int _ => "int"
  | .str _ => "str"
  | .list _ => "list"
  | .tuple _ => "tuple"
  | .dict _ => "dict"
theorem Bd.ty {K : PySem.W.Frag} {F H : Hp} {v : V} {d : PyData} (s : Same F H) (h : Bd K F H v d) : TyX K H v (.type (tyN d)) := by
  cases d with
  | none => rw [h.none]; exact .base .non
  | bool b => rw [h.bool]; exact .base (.bl b)
  | int b => rw [h.int]; exact .base (.int b)
  | str b => rw [h.str.1]; exact .base (.str b)
  | list b =>
    obtain ⟨p, vs, rfl, hv, _⟩ := h.items s
    rcases hv with (hv | ⟨o, hv⟩) | ⟨o, its, n, hk, hc, _⟩
    · exact .base (.lst hv)
    · exact .base (.frz hv)
    · exact .kList hk hc
  | tuple b =>
    obtain ⟨p, vs, rfl, _, hv, _⟩ := h.itemsT s
    rcases hv with (hv | ⟨o, hv⟩) | ⟨o, its, n, hk, hc, _⟩
    · exact .base (.tup hv)
    · exact .fTuple hv
    · exact .kTuple hk hc
  | dict b =>
    obtain ⟨p, vs, rfl, hv, _⟩ := h.entries s
    exact .base (.dK hv)
@[simp] def isiD (T : String) (d : PyData) : Option PyData := (kitB (tyN d) T).map .bool
theorem de_isi {T : String} {y : Str} {p2 : Pos} (he : DE X e te fe) (hm : X.mg "isinstance" = none) (hmT : X.mg y = none) (hv : bootBuiltins y = some (.type T) := by decide +kernel) (hg : Gl X "isinstance" := by rfl) (hgT : Gl X y := by rfl)
    (hn : y ≠ "__name__" := by decide) (hd : (y == ("__debug__" : Str)) = false := by decide)
    (h1 : starEach (e :: [Expr.Name y p2]) X.env = (false, eval e X.env) :: starEach [Expr.Name y p2] X.env := by rfl) (h2 : starEach (Expr.Name y p2 :: []) X.env = (false, eval (.Name y p2) X.env) :: starEach [] X.env := by rfl) (hpl : (backTo pos (starEach [Expr.Name y p2] X.env)).any (·.1) = false := by rfl) :
    DE X (.Call (.Name "isinstance" p) [e, .Name y p2] [] pos) (tCB (rIsi X.K) (tCons te (tCons (tC (.ty T)) tNil))) (fun ε => (fe ε).bind (isiD T)) :=
  ⟨pe_callB call_isi hg hm (by decide +kernel) (pa_cons he.p (pa_cons (pe_bltn (v := .ty T) hgT hmT hv rfl hn hd) pa_nil h2) h1) (by decide) (by decide) h1 hpl, fun F H ε σ d Q r e k => by
    obtain ⟨d0, e1, e2⟩ := Option.bind_eq_some_iff.mp e
    obtain ⟨b, e3, rfl⟩ := Option.map_eq_some_iff.mp e2
    exact he.r F H ε σ d0 _ r e1 fun v F1 H1 s1 d1 => ⟨v, .ty T, .type (tyN d0), .type T, b, rfl, .ty T, (Bd.ty s1.s (.inl d1)), kit_ty e3, k _ F1 H1 s1 (.bl b)⟩⟩
theorem db_isi {T : String} {y : Str} {p2 : Pos} (he : DB X e te fe) (hm : X.mg "isinstance" = none) (hmT : X.mg y = none) (hv : bootBuiltins y = some (.type T) := by decide +kernel) (hg : Gl X "isinstance" := by rfl) (hgT : Gl X y := by rfl)
    (hn : y ≠ "__name__" := by decide) (hd : (y == ("__debug__" : Str)) = false := by decide)
    (h1 : starEach (e :: [Expr.Name y p2]) X.env = (false, eval e X.env) :: starEach [Expr.Name y p2] X.env := by rfl) (h2 : starEach (Expr.Name y p2 :: []) X.env = (false, eval (.Name y p2) X.env) :: starEach [] X.env := by rfl) (hpl : (backTo pos (starEach [Expr.Name y p2] X.env)).any (·.1) = false := by rfl) :
    DE X (.Call (.Name "isinstance" p) [e, .Name y p2] [] pos) (tCB (rIsi X.K) (tCons te (tCons (tC (.ty T)) tNil))) (fun ε => (fe ε).bind (isiD T)) :=
  ⟨pe_callB call_isi hg hm (by decide +kernel) (pa_cons he.p (pa_cons (pe_bltn (v := .ty T) hgT hmT hv rfl hn hd) pa_nil h2) h1) (by decide) (by decide) h1 hpl, fun F H ε σ d Q r e k => by
    obtain ⟨d0, e1, e2⟩ := Option.bind_eq_some_iff.mp e
    obtain ⟨b, e3, rfl⟩ := Option.map_eq_some_iff.mp e2
    exact he.r F H ε σ d0 _ r e1 fun v F1 H1 s1 d1 => ⟨v, .ty T, .type (tyN d0), .type T, b, rfl, .ty T, (Bd.ty s1.s d1), kit_ty e3, k _ F1 H1 s1 (.bl b)⟩⟩
end
end M


namespace M
open PySem PySem.Spec PyProof.Rows L2 RZ

theorem hv_of {A : Around} {k : Nat} (hr : Room k A) : A.units + 65 < cLine := by have := hr.un; omega
theorem hu1_of {A : Around} {k : Nat} (hr : Room k A) : A.units + 1 < cLine := by have := hr.un; omega
theorem ds_frzB {X : Cx} {st : Stmt} {t : TS} {T : TD} (i : Nat) (h : DS X st t T) : DS X st t (fun R ε => T { R with nx := fun ε' => R.nx (frzE i ε') } ε) := ⟨h.p, fun F0 H0 F H ε σ R D r h' c =>
  h.r F0 H0 F H ε σ _ D r h' ⟨fun ε' σ' F' H' r' z q => by
    obtain ⟨F2, r2, z2⟩ := r'.frzAt (i := i)
    exact c.nx _ _ _ _ r2 (z.trans z2) q, c.rt, c.bk, c.ct⟩⟩
def dFrzB (i : Nat) (T : TD) : TD := fun R ε => T { R with nx := fun ε' => R.nx (frzE i ε') } ε

section
variable {X : Cx} {e : Expr} {te : TE} {fe : En → Option PyData} {pos : Pos}
/-- [..] * n, the left one new -/
theorem rl_rep {K : PySem.W.Frag} {ta tb : TE} {fa : En → Option (List PyData)} {fb : En → Option PyData} (ha : RL K ta fa) (hb : RB K tb fb) : RL K (tOp rRep ta tb) (dOpL repL (fun ε => (fa ε).map .list) fb) := fun F H ε σ ds Q rel e k => by
  obtain ⟨a, e1, e2⟩ := Option.bind_eq_some_iff.mp e
  obtain ⟨as, e0, rfl⟩ := Option.map_eq_some_iff.mp e1
  obtain ⟨b, e3, e4⟩ := Option.bind_eq_some_iff.mp e2
  refine ha F H ε σ as _ rel e0 fun p vs F1 H1 s1 n nf hp d1 => ?_
  refine hb F1 H1 ε σ b _ (rel.step s1) e3 fun y F2 H2 s2 d2 => ?_
  unfold repL at e4
  split at e4
  · rename_i as' n' hq
    cases hq
    split at e4
    · rename_i hl
      cases e4
      obtain rfl := d2.int
      refine ⟨p, n', vs, rfl, rfl, s2.h _ _ hp, by omega, hl.2.1, by rw [d1.length]; exact hl.2.2, fun q hq => ?_⟩
      obtain ⟨st, nf', hq'⟩ := new_lst (vs := (List.replicate n'.toNat vs).flatten) s2.s hq
      exact k q _ F2 _ (s1.trans (s2.trans st)) (s1.h.free (s2.h.free hq)) nf' hq' ((d1.mv s2.f).rep _)
    · cases e4
  · cases e4
theorem dl_rep {a b : Expr} {ta tb : TE} {fa : En → Option (List PyData)} {fb : En → Option PyData} (ha : DL X a ta fa) (hb : DB X b tb fb) : DL X (.BinOp a .Mult b pos) (tOp rRep ta tb) (dOpL repL (fun ε => (fa ε).map .list) fb) :=
  ⟨pe_op op_rep ha.p hb.p, rl_rep ha.r hb.r⟩

/-! ### sorted -/
def headed : PyData → Bool
  | .tuple (_ :: _) => true
  | _ => false
def plainK : PyData → Bool
  | .none => false
  | .tuple _ => false
  | _ => true
def srtOk (ds : List PyData) : Bool := (ds.all fun d => ds.all fun d' => PySem.W.alike d d') && (ds.all headed || ds.all plainK) && ds.all (okD 50)
theorem srt_alike {ds : List PyData} (h : srtOk ds = true) : PySem.W.AllAlike ds ∧ PySem.W.Sortable ds ∧ ∀ d ∈ ds, okD 50 d = true := by
  unfold srtOk at h
  simp only [Bool.and_eq_true, Bool.or_eq_true, List.all_eq_true] at h
  refine ⟨fun d hd d' hd' => h.1.1 d hd d' hd', ?_, h.2⟩
  rcases h.1.2 with h1 | h1
  · refine .inl fun d hd => ?_
    have := h1 d hd
    unfold headed at this
    split at this
    · exact ⟨_, _, rfl⟩
    · cases this
  · refine .inr fun d hd => ?_
    have := h1 d hd
    cases d <;> simp [plainK] at this ⊢
def sortD (ds : List PyData) : List PyData := ds.mergeSort (PySem.W.dataLe false id)
@[simp] def sortedL : List PyData → Option (List PyData)
  | [.list ds] => if srtOk ds then some (sortD ds) else none
  | _ => none
/-- what the items stand for goes with them -/
theorem each_back {K : PySem.W.Frag} {F : Hp} : ∀ {out : List Value} {ds : List PyData}, PySem.W.EachIs (fun v d => ∃ x, RelV x v ∧ Dn K F x d) out ds → ∃ xs, Vals xs out ∧ DnAll K F xs ds
  | _, _, .nil => ⟨[], .nil, .nil⟩
  | _, _, .cons ⟨x, r, d⟩ t => let ⟨xs, a, b⟩ := each_back t; ⟨x :: xs, .cons r a, .cons d b⟩
theorem each_of {K : PySem.W.Frag} {F : Hp} : ∀ {xs : List V} {us : List Value} {ds : List PyData}, Vals xs us → DnAll K F xs ds → PySem.W.EachIs (fun v d => ∃ x, RelV x v ∧ Dn K F x d) us ds
  | _, _, _, .nil, .nil => .nil
  | _, _, _, .cons r t, .cons d e => .cons ⟨_, r, d⟩ (each_of t e)
theorem each_reads {pins : List (Addr × Obj)} {σ : L2.St} {H : Hp} {s : Shared} {F : Hp} (I : L2.Inv X pins σ H s) (sm : Same F H) : ∀ {xs : List V} {us : List Value} {ds : List PyData}, Vals xs us → DnAll X.K F xs ds → (∀ d ∈ ds, okD 50 d = true) → PySem.W.EachIs (fun v d => ∃ as, Reads s.heap v (id d) as) us ds
  | _, _, _, .nil, .nil, _ => .nil
  | _, _, _, .cons r t, .cons d e, h => .cons (Dp.reads I _ _ _ (Dn.dp _ _ 50 (d.mv sm) (h _ List.mem_cons_self)).1 r) (each_reads I sm t e fun d' hd => h d' (List.mem_cons_of_mem _ hd))
theorem sortD_len (ds : List PyData) : (sortD ds).length = ds.length := List.length_mergeSort ..
theorem cr_sortedA (hu : ∃ k, Room k X.A) : CallR X (.builtin "sorted") (rGCL X.K sortedL) := by
  intro pins s σ H xs us Q I r ⟨F, ds, d, s1, hb, e, k⟩
  unfold sortedL at e
  split at e
  · rename_i ds
    split at e
    · rename_i hok
      cases e
      obtain ⟨v, rfl, h⟩ := hb.one
      obtain ⟨p, vs, rfl, hv, av⟩ := h.items s1
      obtain ⟨its, rv, hl, hz⟩ := I.list hv
      obtain ⟨h1, h2, h3⟩ := srt_alike hok
      rw [Vals.ref1 r]
      refine PySem.W.sorted_data (bs := ds) (enc := id) (R := fun v d => ∃ x, RelV x v ∧ Dn X.K F x d) hl.isList (each_of rv av) (each_reads I s1 rv av h3) (by rw [List.map_id]; exact h1) (by rw [List.map_id]; exact h2) (by rw [← av.length]; exact hz) (fun b hb => ?_) fun out ho he => ?_
      · obtain ⟨j, hr⟩ := hu
        have := hr.un
        obtain ⟨i, hi⟩ := List.mem_iff_getElem?.mp hb
        obtain ⟨x, _, dn⟩ := av.get hi
        have := (Dn.dp b x 50 dn (h3 b hb)).2.2
        show X.A.units + 2 + b.depth < cLine
        omega
      · obtain ⟨ys, ry, dy⟩ := each_back he
        obtain ⟨ep, he'⟩ := PyProof.Rows.sortedAll_at s.heap its out.toArray
        have hn : H (s.heap.objs.size + 1) = none := I.hok.fresh (Nat.le_succ _)
        obtain ⟨st, nf, hp'⟩ := new_lst (vs := ys) s1 hn
        have hlen : ys.length ≤ sizeLine := by
          rw [dy.length]
          show (sortD ds).length ≤ _
          rw [sortD_len, ← av.length]; exact hz
        exact ⟨.ref _, upd H (s.heap.objs.size + 1) (.lst ys), I.laid (t' := s.toks) (fun _ _ => PyProof.Rows.sortedAll_old) (Nat.le_succ _) ⟨hlen, out, ep, ry, he'⟩, rfl, k _ ys F _ st hn nf hp' dy⟩
    · cases e
  · cases e

/-! ### zip -/
@[simp] def zipL : List PyData → List PyData → List PyData
  | a :: as, b :: bs => .tuple [a, b] :: zipL as bs
  | _, _ => []
@[simp] def zipD : List PyData → Option (List PyData)
  | [.list as, .list bs] => some (zipL as bs)
  | [.tuple as, .tuple bs] => some (zipL as bs)
  | _ => none
theorem zipL_get : ∀ {as bs : List PyData} {i : Nat} {d : PyData}, (zipL as bs)[i]? = some d → ∃ a b, as[i]? = some a ∧ bs[i]? = some b ∧ d = .tuple [a, b]
  | [], _, i, d, h => by simp [zipL] at h
  | _ :: _, [], i, d, h => by simp [zipL] at h
  | a :: as, b :: bs, 0, d, h => by simp [zipL] at h; exact ⟨a, b, rfl, rfl, h.symm⟩
  | a :: as, b :: bs, i + 1, d, h => by
    obtain ⟨x, y, h1, h2, h3⟩ := zipL_get (as := as) (bs := bs) (i := i) (d := d) (by simpa [zipL] using h)
    exact ⟨x, y, by simpa using h1, by simpa using h2, h3⟩
theorem zipL_len : ∀ {as bs : List PyData} {i : Nat}, (zipL as bs).length ≤ i → as.length ≤ i ∨ bs.length ≤ i
  | [], _, i, _ => .inl (Nat.zero_le _)
  | _ :: _, [], i, _ => .inr (Nat.zero_le _)
  | a :: as, b :: bs, i, h => by
    cases i with
    | zero => simp [zipL] at h
    | succ i =>
      rcases zipL_len (as := as) (bs := bs) (i := i) (by simpa [zipL] using h) with z | z
      · exact .inl (by simpa using z)
      · exact .inr (by simpa using z)
theorem walks_zip {K : PySem.W.Frag} {F1 : Hp} {p q : Addr} {vs ws : List V} {as bs : List PyData} (h : SqL K F1 p vs) (h' : SqL K F1 q ws) (a : DnAll K F1 vs as) (b : DnAll K F1 ws bs) : Walks K (Itz K p q) F1 (zipL as bs) := fun i F H s1 s2 => by
  have h1 : SqL K H p vs := Same.seq s2 (Same.seq s1 h)
  have h2 : SqL K H q ws := Same.seq s2 (Same.seq s1 h')
  refine ⟨fun d e => ?_, fun hl => ⟨vs, ws, h1, h2, by rw [a.length, b.length]; exact zipL_len (Nat.le_of_eq hl)⟩⟩
  obtain ⟨x, y, e1, e2, rfl⟩ := zipL_get e
  obtain ⟨v, k1, k2⟩ := a.get e1
  obtain ⟨w, k3, k4⟩ := b.get e2
  refine ⟨⟨vs, ws, v, w, h1, h2, k1, k3⟩, fun z H2 ⟨T, x', y', e3, hT, e4, g1, g2⟩ => ?_⟩
  subst e3 e4
  have q1 := g1 vs h1
  have q2 := g2 ws h2
  rw [k1] at q1; cases q1
  rw [k3] at q2; cases q2
  obtain ⟨st, dn⟩ := new_tup (K := K) s2 hT (.cons (k2.mv s1) (.one (k4.mv s1)))
  exact ⟨_, st, dn⟩
theorem walks_zipT {K : PySem.W.Frag} {F1 : Hp} {p q : Addr} {vs ws : List V} {as bs : List PyData} (h : SqT K F1 p vs) (h' : SqT K F1 q ws) (a : DnAll K F1 vs as) (b : DnAll K F1 ws bs) : Walks K (ItzT K p q) F1 (zipL as bs) := fun i F H s1 s2 => by
  have h1 : SqT K H p vs := seqT s2 (seqT s1 h)
  have h2 : SqT K H q ws := seqT s2 (seqT s1 h')
  refine ⟨fun d e => ?_, fun hl => ⟨vs, ws, h1, h2, by rw [a.length, b.length]; exact zipL_len (Nat.le_of_eq hl)⟩⟩
  obtain ⟨x, y, e1, e2, rfl⟩ := zipL_get e
  obtain ⟨v, k1, k2⟩ := a.get e1
  obtain ⟨w, k3, k4⟩ := b.get e2
  refine ⟨⟨vs, ws, v, w, h1, h2, k1, k3⟩, fun z H2 ⟨T, x', y', e3, hT, e4, g1, g2⟩ => ?_⟩
  subst e3 e4
  have q1 := g1 vs h1
  have q2 := g2 ws h2
  rw [k1] at q1; cases q1
  rw [k3] at q2; cases q2
  obtain ⟨st, dn⟩ := new_tup (K := K) s2 hT (.cons (k2.mv s1) (.one (k4.mv s1)))
  exact ⟨_, st, dn⟩
variable {e2 : Expr} {p tpos : Pos} {elts : List Expr} {kk : Nat} {ta' : TA} {fa' : En → Option (List PyData)}
theorem di_zip (hg : Gl X "zip") (hm : X.mg "zip" = none) (ha : DA X [e, e2] ta' fa')
    (hs : starEach [e, e2] X.env = (false, eval e X.env) :: starEach [e2] X.env := by rfl) (hpl : (backTo pos (starEach [e2] X.env)).any (·.1) = false := by rfl) :
    DI X (.Tuple elts kk tpos) (.Call (.Name "zip" p) [e, e2] [] pos) (iZipA X.K ta') (fun ε => (fa' ε).bind zipD) :=
  ⟨pi_zipA hg hm ha.p hs hpl, fun F H ε σ ds R r e k => by
    obtain ⟨d, e1, e2⟩ := Option.bind_eq_some_iff.mp e
    refine ha.r F H ε σ d _ r e1 fun vs F1 H1 s1 d1 => ?_
    unfold zipD at e2
    split at e2
    · cases e2
      cases d1 with | cons a b => cases b with | cons b c => cases c; cases a with | lst sa aa => cases b with | lst sb ab =>
        exact ⟨_, _, _, _, rfl, .inl ⟨Same.seq s1.s sa, Same.seq s1.s sb, k _ F1 H1 s1 (walks_zip sa sb aa ab)⟩⟩
    · cases e2
      cases d1 with | cons a b => cases b with | cons b c => cases c; cases a with | tup sa aa => cases b with | tup sb ab =>
        exact ⟨_, _, _, _, rfl, .inr ⟨seqT s1.s sa, seqT s1.s sb, k _ F1 H1 s1 (walks_zipT sa sb aa ab)⟩⟩
    · cases e2⟩

/-! ### xs[k] += e -/
def augP (i : Nat) (g : Int → Int → Int) (fk fe : En → Option PyData) : TD := fun R ε => ∃ ds k j a b, ε[i]? = some (some (.o ds)) ∧ fk ε = some (.int k) ∧ ixN ds.length k = some j ∧ ds[j]? = some (.int a) ∧ fe ε = some (.int b) ∧ R.nx (ε.set i (some (.o (ds.set j (.int (g a b))))))
def rGetL (K : PySem.W.Frag) : V → V → Hp → VK → Prop := rIxL K
theorem pget_list : PGet X (rIxL X.K) := by
  intro pins s σ H o i ov iv Q I ro ri ⟨p, xs, k, v, ho, hi, hp, hv, q⟩
  subst ho hi
  cases ro
  obtain ⟨t, rfl⟩ := ri
  obtain ⟨its, r, pl, hz⟩ := I.list hp
  obtain ⟨j, h1, h2, h3, h4, h5⟩ := L2.atI_get hv
  obtain ⟨w, ew, rw'⟩ := r.get h2
  have hl := r.length
  have hn := line63
  have fin : EP X pins σ Q w s := ⟨v, H, I, rw', q⟩
  by_cases h0 : 0 ≤ k
  · have hj : k.toNat = j := by
      rw [seqIndex_of h0 h5] at h1
      exact Option.some.inj h1
    exact wpAny_getItem_list pl.isList h0 (by omega) (by rw [hj]; simpa using ew) fin
  · have hj : (k + (its.toArray.size : Int)).toNat = j := by
      rw [seqIndex_neg (by omega) h4] at h1
      rw [List.size_toArray, ← hl]
      exact Option.some.inj h1
    exact wpAny_getItem_list_neg pl.isList (by omega) (by rw [List.size_toArray] <;> omega) (by omega) (by rw [hj]; simpa using ew) fin
theorem ds_augP (i : Nat) {x : Str} {op : Operator} {g : Int → Int → Int} {p1 tpos : Pos} {k : Expr} {tk : TE} {fk : En → Option PyData} (ho : PIp X op (ipI g)) (hk : DE X k tk fk) (he : DE X e te fe) (hN : X.N[i]? = some x := by rfl) (hv : Vis X.env.scope x := by first | exact Or.inl rfl | exact Or.inr (Or.inl rfl) | exact Or.inr (Or.inr rfl)) (hd : (x == ("__debug__" : Str)) = false := by decide)
    (hcd : (x == ("__classdict__" : Str)) = false := by decide) (ha : ∀ ov iv new, augStore k ov iv new = (do holding [new, ov, iv] (setItem ov iv new); release [new, ov, iv] []; pure .next) := by intros; rfl) :
    DS X (.AugAssign (.Subscript (.Name x p1) k tpos) op e pos) (tAugS (tVar i) tk te (rIxL X.K) (ipI g) rSetL) (augP i g fk fe) :=
  ⟨ps_augS (pe_var hN hv hd hcd) hk.p pget_list he.p ho set_list ha, fun F0 H0 F H ε σ R D r ⟨ds, k, j, a, b, e1, e2, e3, e4, e5, h'⟩ c => by
    obtain ⟨v, h1, h2⟩ := r.e.sl _ _ e1
    obtain ⟨p, vs, rfl, hp, hF, al⟩ := h2.own_o
    refine ⟨_, h1, hk.r F H ε σ _ _ r.e e2 fun y F1 H1 s1 d1 => ?_⟩
    cases dn_int d1
    obtain ⟨w, k1, k2⟩ := al.get e4
    cases dn_int k2
    have hx : ixN vs.length k = some j := by rw [al.length]; exact e3
    refine ⟨p, vs, k, .int a, rfl, rfl, SqL.of (s1.h _ _ hp), by unfold atI; rw [hx]; exact k1, he.r F1 H1 ε σ _ _ (r.e.step s1) e5 fun z F2 H2 s2 d2 => ?_⟩
    cases dn_int d2
    have s := s1.trans s2
    refine ⟨a, b, rfl, rfl, p, vs, k, j, rfl, rfl, s.h _ _ hp, hx, c.nx _ _ _ _ ((r.step s).put (s' := .o (ds.set j (.int (g a b)))) e1 h1 rfl rfl ⟨p, vs.set j (.int (g a b)), rfl, upd_same, s.n _ _ hp hF, (al.mv s.f).set (.int _) j⟩) s.f h'⟩⟩
end
end M


namespace M
open PySem PySem.Spec PyProof.Rows L2 Builtin

/-! ### enumerate over a tuple or a text -/
theorem meets_enum1 {v : Value} {o : Obj} {H : Heap → Prop} (B : PySem.Begins v o H) :
    Meets (Builtin.«enumerate.__new__» ⟨[.type "enumerate", v], []⟩) (fun _ R s => H s.heap ∧
      R (.ok (.ret (.ref (s.heap.push o).objs.size))) { s with heap := (s.heap.push o).push { cls := .type "enumerate", data := .fields #[.none, .bool false, .ref s.heap.objs.size, rawInt 0, .none, .none] } }) :=
  .of_wp fun prog w A R s h => by
    obtain ⟨hp, g, d, tk, os⟩ := s; obtain ⟨h1, h⟩ := h
    have hsub := sub_enumerate
    have q1 : ∀ {A' : Around} {E : Value → Shared → Prop} {Q : Value → Shared → Prop}, Q (.ref hp.objs.size) ⟨hp.push o, g, d, tk, os⟩ → wpAny (model prog w) A' (pyIter v) Q E ⟨hp, g, d, tk, os⟩ :=
      fun q => B.iter prog w _ _ ⟨hp, g, d, tk, os⟩ _ h1 q
    wp_walk using q1
    refine wpAny_stack_any fun st => wpAny_pure ?_
    split
    · rename_i c _ _ _ _ _
      cases (c == Value.type "enumerate")
      · wp_walk using q1
        exact ⟨_, rfl, h⟩
      · wp_walk using q1
        exact ⟨_, rfl, h⟩
    · wp_walk using q1
      exact ⟨_, rfl, h⟩
section
variable {prog : Program} {w : World} {A : Around} {E : Value → Shared → Prop} {s : Shared}
theorem enum_begins1 {v : Value} {o : Obj} {H : Heap → Prop} {Q : Value → Shared → Prop} (B : PySem.Begins v o H) (h1 : H s.heap)
    (h : ∀ h', IsEnum h' (s.heap.objs.size + 1) s.heap.objs.size 0 .none → h'.get? s.heap.objs.size = some o → h'.objs.size = s.heap.objs.size + 2 →
      (∀ b o, s.heap.get? b = some o → h'.get? b = some o) → Q (.ref (s.heap.objs.size + 1)) { s with heap := h' }) :
    wpAny (model prog w) A (call (.type "enumerate") [v]) Q E s := by
  refine callType_new F.called_enumerate (by decide) (F.typeCall_enumerate_1 _) (F.newCall_enumerate_1 _) (fun obj => F.args_object_init_2 obj _) F.entry_enumerate_new (meets_enum1 B) ⟨h1, ?_⟩
  have hz : (s.heap.push o).objs.size = s.heap.objs.size + 1 := Heap.size_push ..
  show _ ∧ _
  rw [hz]
  have he : IsEnum ((s.heap.push o).push { cls := .type "enumerate", data := .fields #[.none, .bool false, .ref s.heap.objs.size, rawInt 0, .none, .none] }) (s.heap.objs.size + 1) s.heap.objs.size 0 .none := by
    have := Heap.get?_push_size (s.heap.push o) (o := { cls := .type "enumerate", data := .fields #[.none, .bool false, .ref s.heap.objs.size, rawInt 0, .none, .none] }) rfl
    rw [hz] at this; exact this
  exact ⟨⟨_, he, rfl⟩, h _ he (Heap.get?_push_of_some _ (Heap.get?_push_size _ B.free)) (by rw [Heap.size_push, hz]) fun b o x => Heap.get?_push_of_some _ (Heap.get?_push_of_some _ x)⟩
end
/-- the tuple at a, its items in new pairs with their numbers -/
def Itet (K : PySem.W.Frag) (a : Addr) : It :=
  ⟨fun i H => ∃ (xs : List V) (x : V), SqT K H a xs ∧ xs[i]? = some x, fun i H v H' => ∃ T x, v = .ref T ∧ H T = none ∧ H' = upd H T (.tup [.int (i : Nat), x]) ∧ ∀ xs, SqT K H a xs → xs[i]? = some x, fun i H => ∃ xs : List V, SqT K H a xs ∧ xs.length = i⟩
theorem turn_enumT {P : Program} {w : World} {K : PySem.W.Frag} {elts : List Expr} {kk : Nat} {tpos : Pos} (a e it : Addr) (hai : a ≠ it) (hae : a ≠ e) :
    Turn P w K (.Tuple elts kk tpos) (Itet K a) [e, it] e (fun i h => (∃ old, IsEnum h e it ((i : Nat) : Int) old) ∧ h.IsTupleIter it a i ∧ e ≠ it) where
  mem := by simp
  obj := fun i h st b hb => by
    obtain ⟨⟨old, he⟩, ⟨o, ho, hc, hd⟩, _⟩ := st
    have e' : b = e ∨ b = it := by simpa using hb
    rcases e' with z | z
    · rw [z]; exact ⟨_, he, fun v q => nomatch q⟩
    · rw [z]; exact ⟨o, ho, fun v q => by rw [hd] at q; cases q⟩
  keep := fun i h h' st k => let ⟨⟨old, he⟩, hi, hne⟩ := st; ⟨⟨old, k e (by simp) _ he⟩, hi.at fun o q => k it (by simp) o q, hne⟩
  item := by
    intro X hP hw hK hc i pins s σ H E I hf st hg
    subst hP hw hK
    obtain ⟨⟨old, he⟩, hit, hne⟩ := st
    obtain ⟨xs, x, hq, hx⟩ := hg
    obtain ⟨its, rv, p, hz⟩ := I.tuple hq
    obtain ⟨u, hu, ru⟩ := rv.get hx
    have hel : e < s.heap.objs.size := Heap.lt_size he
    have hil : it < s.heap.objs.size := by obtain ⟨_, q, _⟩ := hit; exact Heap.lt_size q
    have pt : s.heap.IsTuple a its.toArray := p
    have hlt : i < its.toArray.size := by rw [List.size_toArray]; exact (List.getElem?_eq_some_iff.mp hu).1
    refine wpAny_pyNext_enum_itemD (PySem.Draws.tuple (A := X.A.in1) (I.ok.hd hc) it a hai its.toArray) he ⟨hit, pt⟩ hlt hne (by simp [Ne.symm hae, hne]) fun x' h' tk hPx ho hst' hT hsz hk => ?_
    have ex : x' = u := by
      rw [List.getElem?_toArray, hu] at hPx
      exact (Option.some.inj hPx).symm
    subst ex
    refine ⟨_, rfl, wpAny_letOwnedTupleGo_enum (s := { s with heap := h', toks := tk + 1 }) ho fun h'' he' sb => ?_⟩
    have hT2 : h''.get? s.heap.objs.size = some { cls := .type "tuple", data := .seq #[.int i tk, x'] } := (sb.2 _ (Nat.ne_of_gt hel)).trans hT
    have new : ObjOk X.prog X.w (upd H s.heap.objs.size (.tup [.int (i : Nat), x])) h'' s.heap.objs.size (.tup [.int (i : Nat), x]) :=
      ⟨by show 2 ≤ sizeLine; decide, [.int i tk, x'], .cons ⟨_, rfl⟩ (.cons ru .nil), ⟨_, hT2, rfl, _, rfl⟩⟩
    have I1 : L2.Inv X pins σ (upd H s.heap.objs.size (.tup [.int (i : Nat), x])) { s with heap := h'', toks := tk + 1 } :=
      I.turnedNew (ch := [e, it]) (fun b ob hb q => (sb.2 b (fun z => hb (by simp [z]))).trans (hk b ob (fun z => hb (by simp [z])) (fun z => hb (by simp [z])) q)) hf (Nat.le_refl _) new
    refine ⟨.ref s.heap.objs.size, _, I1, rfl, ⟨_, x, rfl, I.hok.fresh (Nat.le_refl _), rfl, fun ys hy => by rw [I.tuple_inj hy hq]; exact hx⟩, ⟨⟨x', ?_⟩, hst'.1.at fun o q => (sb.2 it (Ne.symm hne)).trans q, hne⟩, fun b hb => ?_⟩
    · have e1 : ((i + 1 : Nat) : Int) = (i : Int) + 1 := by omega
      rw [e1]; exact he'
    · have hb' : b < s.heap.objs.size := by
        have e' : b = e ∨ b = it := by simpa using hb
        rcases e' with z | z
        · rw [z]; exact hel
        · rw [z]; exact hil
      rw [upd_ne (Nat.ne_of_lt hb')]
      exact (hf b hb).1
  done := by
    intro X hP hw hK hc i pins s σ H E I hf st hg
    subst hP hw hK
    obtain ⟨⟨old, he⟩, hit, hne⟩ := st
    obtain ⟨xs, hq, hx⟩ := hg
    obtain ⟨its, rv, p, hz⟩ := I.tuple hq
    obtain ⟨f0, f1, f2, f3, f4, f5⟩ := hf it (by simp)
    have hl := rv.length
    have en : i = its.toArray.size := by rw [List.size_toArray]; omega
    have pt : s.heap.IsTuple a its.toArray := p
    exact wpAny_pyNext_enum_endD (PySem.Draws.tuple (A := X.A.in1) (I.ok.hd hc) it a hai its.toArray) he ⟨by rw [← en]; exact hit, pt⟩ fun h' eb => ⟨rfl, I.turned (t' := s.toks) (fun b o hb q => eb b o hb q) f0 f1 f3 f4 f5⟩
  self := fun A i s Q E st h => let ⟨⟨_, he⟩, _⟩ := st; wpAny_pyIter_enum he h
/-- the signs of a text in new pairs with their numbers -/
def Ites (z : Str) : It :=
  ⟨fun i _ => i < z.cps.size, fun i H v H' => ∃ T c, v = .ref T ∧ H T = none ∧ H' = upd H T (.tup [.int (i : Nat), .str ⟨#[c]⟩]) ∧ z.cps[i]? = some c, fun i _ => z.cps.size = i⟩
theorem turn_enumS {P : Program} {w : World} {K : PySem.W.Frag} {elts : List Expr} {kk : Nat} {tpos : Pos} (z : Str) (t : Tok) (e it : Addr) :
    Turn P w K (.Tuple elts kk tpos) (Ites z) [e, it] e (fun i h => (∃ old, IsEnum h e it ((i : Nat) : Int) old) ∧ h.IsStrIter it (strIterType z) z t i ∧ e ≠ it) where
  mem := by simp
  obj := fun i h st b hb => by
    obtain ⟨⟨old, he⟩, ⟨o, ho, hc, hd⟩, _⟩ := st
    have e' : b = e ∨ b = it := by simpa using hb
    rcases e' with z | z
    · rw [z]; exact ⟨_, he, fun v q => nomatch q⟩
    · rw [z]; exact ⟨o, ho, fun v q => by rw [hd] at q; cases q⟩
  keep := fun i h h' st k => let ⟨⟨old, he⟩, ⟨o, ho, r⟩, hne⟩ := st; ⟨⟨old, k e (by simp) _ he⟩, ⟨o, k it (by simp) o ho, r⟩, hne⟩
  item := by
    intro X hP hw hK hc i pins s σ H E I hf st hg
    subst hP hw hK
    obtain ⟨⟨old, he⟩, hit, hne⟩ := st
    have hlt : i < z.cps.size := hg
    have hel : e < s.heap.objs.size := Heap.lt_size he
    have hil : it < s.heap.objs.size := by obtain ⟨_, q, _⟩ := id hit; exact Heap.lt_size q
    refine wpAny_pyNext_enum_itemD (PySem.Draws.text (A := X.A.in1) (I.ok.hd hc) it z t) he hit hlt hne (by simp [hne]) fun x' h' tk hPx ho hst' hT hsz hk => ?_
    obtain ⟨c, u, hcu, rfl⟩ := hPx
    refine ⟨_, rfl, wpAny_letOwnedTupleGo_enum (s := { s with heap := h', toks := tk + 1 }) ho fun h'' he' sb => ?_⟩
    have hT2 : h''.get? s.heap.objs.size = some { cls := .type "tuple", data := .seq #[.int i tk, .str ⟨#[c]⟩ u] } := (sb.2 _ (Nat.ne_of_gt hel)).trans hT
    have new : ObjOk X.prog X.w (upd H s.heap.objs.size (.tup [.int (i : Nat), .str ⟨#[c]⟩])) h'' s.heap.objs.size (.tup [.int (i : Nat), .str ⟨#[c]⟩]) :=
      ⟨by show 2 ≤ sizeLine; decide, [.int i tk, .str ⟨#[c]⟩ u], .cons ⟨_, rfl⟩ (.cons ⟨_, rfl⟩ .nil), ⟨_, hT2, rfl, _, rfl⟩⟩
    have I1 : L2.Inv X pins σ (upd H s.heap.objs.size (.tup [.int (i : Nat), .str ⟨#[c]⟩])) { s with heap := h'', toks := tk + 1 } :=
      I.turnedNew (ch := [e, it]) (fun b ob hb q => (sb.2 b (fun z => hb (by simp [z]))).trans (hk b ob (fun z => hb (by simp [z])) (fun z => hb (by simp [z])) q)) hf (Nat.le_refl _) new
    obtain ⟨o2, ho2, r2⟩ := hst'
    refine ⟨.ref s.heap.objs.size, _, I1, rfl, ⟨_, c, rfl, I.hok.fresh (Nat.le_refl _), rfl, hcu⟩, ⟨⟨.str ⟨#[c]⟩ u, ?_⟩, ⟨o2, (sb.2 it (Ne.symm hne)).trans ho2, r2⟩, hne⟩, fun b hb => ?_⟩
    · have e1 : ((i + 1 : Nat) : Int) = (i : Int) + 1 := by omega
      rw [e1]; exact he'
    · have hb' : b < s.heap.objs.size := by
        have e' : b = e ∨ b = it := by simpa using hb
        rcases e' with z | z
        · rw [z]; exact hel
        · rw [z]; exact hil
      rw [upd_ne (Nat.ne_of_lt hb')]
      exact (hf b hb).1
  done := by
    intro X hP hw hK hc i pins s σ H E I hf st hg
    subst hP hw hK
    obtain ⟨⟨old, he⟩, hit, hne⟩ := st
    have en : z.cps.size = i := hg
    obtain ⟨f0, f1, f2, f3, f4, f5⟩ := hf it (by simp)
    exact wpAny_pyNext_enum_endD (PySem.Draws.text (A := X.A.in1) (I.ok.hd hc) it z t) he (by rw [en]; exact hit) fun h' eb => ⟨rfl, I.turned (t' := s.toks) (fun b o hb q => eb b o hb q) f0 f1 f3 f4 f5⟩
  self := fun A i s Q E st h => let ⟨⟨_, he⟩, _⟩ := st; wpAny_pyIter_enum he h
/-- enumerate of a list, a tuple, a text -/
def iEnumA (K : PySem.W.Frag) (ta : TA) : TI := fun σ H R => ta σ H fun vs H1 => (∃ a xs, vs = [.ref a] ∧ SqL K H1 a xs ∧ R (Ite K a) H1) ∨ (∃ a xs, vs = [.ref a] ∧ SqT K H1 a xs ∧ R (Itet K a) H1) ∨ ∃ z, vs = [.str z] ∧ R (Ites z) H1
theorem pi_enumA {X : Cx} {e : Expr} {ta : TA} {p pos tpos : Pos} {elts : List Expr} {kk : Nat} (hg : Gl X "enumerate") (hm : X.mg "enumerate" = none) (ha : PA X [e] ta) (hs : starEach [e] X.env = [(false, eval e X.env)] := by rfl) :
    PI X (.Tuple elts kk tpos) (.Call (.Name "enumerate" p) [e] [] pos) (iEnumA X.K ta) := by
  refine ⟨fun pins s σ H R I h => ?_⟩
  refine Call_ (ld_blt I hg hm boot_enumerate (PyProof.Rows.callWith_type1 (thn (ha.run pos pins s σ H _ I h) fun us s1 ⟨vs, H1, I1, r1, q1⟩ => ?_) hs rfl))
  have fin : ∀ b ∈ [s1.heap.objs.size + 1, s1.heap.objs.size], FpOk X pins H1 b := fun b hb => by
    have e' : b = s1.heap.objs.size + 1 ∨ b = s1.heap.objs.size := by simpa using hb
    have hle : s1.heap.objs.size ≤ b := by
      rcases e' with z | z
      · rw [z]; exact Nat.le_add_right _ _
      · rw [z]; exact Nat.le_refl _
    exact I1.fpOk hle (I1.hok.fresh hle)
  rcases q1 with ⟨a, xs, ex, hq, q⟩ | ⟨a, xs, ex, hq, q⟩ | ⟨z, ex, q⟩
  · subst ex
    rw [Vals.ref1 r1]
    obtain ⟨its, rv, p', hz⟩ := I1.list hq
    refine call_enumerate_list p'.isList fun h' he hit hsz hk => wpAny_pyIter_enum he ?_
    exact ⟨s1.heap.objs.size + 1, [s1.heap.objs.size + 1, s1.heap.objs.size], _, _, H1, rfl, I1.kept (t' := s1.toks) hk, turn_enum a (s1.heap.objs.size + 1) s1.heap.objs.size, ⟨⟨.none, he⟩, hit, Nat.succ_ne_self _⟩, fin, q⟩
  · subst ex
    rw [Vals.ref1 r1]
    obtain ⟨its, rv, p', hz⟩ := I1.tuple hq
    have pt : s1.heap.IsTuple a its.toArray := p'
    have hlt : a < s1.heap.objs.size := by obtain ⟨_, q, _⟩ := pt; exact Heap.lt_size q
    refine enum_begins1 (PySem.begins_tuple a its.toArray) pt fun h' he hit hsz hk => wpAny_pyIter_enum he ?_
    exact ⟨s1.heap.objs.size + 1, [s1.heap.objs.size + 1, s1.heap.objs.size], _, _, H1, rfl, I1.kept (t' := s1.toks) hk, turn_enumT a (s1.heap.objs.size + 1) s1.heap.objs.size (Nat.ne_of_lt hlt) (Nat.ne_of_lt (Nat.lt_succ_of_lt hlt)), ⟨⟨.none, he⟩, ⟨_, hit, rfl, rfl⟩, Nat.succ_ne_self _⟩, fin, q⟩
  · subst ex
    cases r1 with
    | cons r rr =>
      cases rr
      obtain ⟨t, rfl⟩ := r
      refine call_enumerate_str fun h' he hit hsz hk => wpAny_pyIter_enum he ?_
      exact ⟨s1.heap.objs.size + 1, [s1.heap.objs.size + 1, s1.heap.objs.size], _, _, H1, rfl, I1.kept (t' := s1.toks) hk, turn_enumS z t (s1.heap.objs.size + 1) s1.heap.objs.size, ⟨⟨.none, he⟩, hit, Nat.succ_ne_self _⟩, fin, q⟩
/-- pairs of a number and an item -/
@[simp] def enumL : Nat → List PyData → List PyData
  | _, [] => []
  | i, d :: ds => .tuple [.int (i : Nat), d] :: enumL (i + 1) ds
@[simp] def enumD : List PyData → Option (List PyData)
  | [x] => (seqD x).map (enumL 0)
  | _ => none
theorem enumL_get : ∀ {ds : List PyData} {k i : Nat} {d : PyData}, (enumL k ds)[i]? = some d → ∃ x, ds[i]? = some x ∧ d = .tuple [.int ((k + i : Nat) : Int), x]
  | [], k, i, d, h => by simp [enumL] at h
  | x :: ds, k, 0, d, h => by simp [enumL] at h; exact ⟨x, rfl, h.symm⟩
  | x :: ds, k, i + 1, d, h => by
    obtain ⟨y, h1, h2⟩ := enumL_get (ds := ds) (k := k + 1) (i := i) (d := d) (by simpa [enumL] using h)
    exact ⟨y, by simpa using h1, by rw [h2, show k + 1 + i = k + (i + 1) by omega]⟩
theorem enumL_len : ∀ {ds : List PyData} {k : Nat}, (enumL k ds).length = ds.length
  | [], _ => rfl
  | _ :: ds, k => by simp [enumL, enumL_len]
theorem walks_enum {K : PySem.W.Frag} {F1 : Hp} {p : Addr} {vs : List V} {ds : List PyData} (h : SqL K F1 p vs) (a : DnAll K F1 vs ds) : Walks K (Ite K p) F1 (enumL 0 ds) := fun i F H s1 s2 => by
  have hq : SqL K H p vs := Same.seq s2 (Same.seq s1 h)
  refine ⟨fun d e => ?_, fun hl => ⟨vs, hq, by rw [a.length, ← hl, enumL_len]; exact Nat.le_refl _⟩⟩
  obtain ⟨x, e1, rfl⟩ := enumL_get e
  obtain ⟨v, h1, h2⟩ := a.get e1
  refine ⟨⟨vs, v, hq, h1⟩, fun z H2 ⟨T, x', e3, hT, e4, g1⟩ => ?_⟩
  subst e3 e4
  have q1 := g1 vs hq
  rw [h1] at q1; cases q1
  obtain ⟨st, dn⟩ := new_tup (K := K) s2 hT (.cons (.int ((i : Nat) : Int)) (.one (h2.mv s1)))
  rw [Nat.zero_add]
  exact ⟨_, st, dn⟩
theorem walks_enumT {K : PySem.W.Frag} {F1 : Hp} {p : Addr} {vs : List V} {ds : List PyData} (h : SqT K F1 p vs) (a : DnAll K F1 vs ds) : Walks K (Itet K p) F1 (enumL 0 ds) := fun i F H s1 s2 => by
  have hq : SqT K H p vs := seqT s2 (seqT s1 h)
  refine ⟨fun d e => ?_, fun hl => ⟨vs, hq, by rw [a.length, ← hl, enumL_len]⟩⟩
  obtain ⟨x, e1, rfl⟩ := enumL_get e
  obtain ⟨v, h1, h2⟩ := a.get e1
  refine ⟨⟨vs, v, hq, h1⟩, fun z H2 ⟨T, x', e3, hT, e4, g1⟩ => ?_⟩
  subst e3 e4
  have q1 := g1 vs hq
  rw [h1] at q1; cases q1
  obtain ⟨st, dn⟩ := new_tup (K := K) s2 hT (.cons (.int ((i : Nat) : Int)) (.one (h2.mv s1)))
  rw [Nat.zero_add]
  exact ⟨_, st, dn⟩
theorem walks_enumS {K : PySem.W.Frag} {F1 : Hp} {z : Str} (h : PyData.strOk z = true) : Walks K (Ites z) F1 (enumL 0 (z.cps.toList.map fun c => .str ⟨#[c]⟩)) := fun i F H s1 s2 => by
  refine ⟨fun d e => ?_, fun hl => by rw [enumL_len, List.length_map, Array.length_toList] at hl; exact hl⟩
  obtain ⟨x, e1, rfl⟩ := enumL_get e
  rw [List.getElem?_map] at e1
  obtain ⟨c, e2, rfl⟩ := Option.map_eq_some_iff.mp e1
  rw [Array.getElem?_toList] at e2
  refine ⟨(Array.getElem?_eq_some_iff.mp e2).1, fun y H2 ⟨T, c', e3, hT, e4, g1⟩ => ?_⟩
  subst e3 e4
  rw [e2] at g1; cases g1
  have oc : PyData.strOk ⟨#[c]⟩ = true := strOk_iff.mpr (fun c' hc => by
    have hc' : c' = c := by simpa using hc
    subst hc'
    exact strOk_iff.mp h _ (List.mem_of_getElem? (by rw [Array.getElem?_toList]; exact e2)))
  obtain ⟨st, dn⟩ := new_tup (K := K) s2 hT (.cons (.int ((i : Nat) : Int)) (.one (.str _ oc)))
  rw [Nat.zero_add]
  exact ⟨_, st, dn⟩
theorem di_enum {X : Cx} {e : Expr} {ta : TA} {p pos tpos : Pos} {elts : List Expr} {kk : Nat} {fa : En → Option (List PyData)} (hg : Gl X "enumerate") (hm : X.mg "enumerate" = none) (ha : DA X [e] ta fa) (hs : starEach [e] X.env = [(false, eval e X.env)] := by rfl) :
    DI X (.Tuple elts kk tpos) (.Call (.Name "enumerate" p) [e] [] pos) (iEnumA X.K ta) (fun ε => (fa ε).bind enumD) :=
  ⟨pi_enumA hg hm ha.p hs, fun F H ε σ ds R r e k => by
    obtain ⟨d, e1, e2⟩ := Option.bind_eq_some_iff.mp e
    refine ha.r F H ε σ d _ r e1 fun vs F1 H1 s1 d1 => ?_
    unfold enumD at e2
    split at e2
    · rename_i x
      obtain ⟨ds', e3, rfl⟩ := Option.map_eq_some_iff.mp e2
      cases d1 with | cons a b =>
      cases b
      unfold seqD at e3
      split at e3
      · cases e3
        cases a with | lst sq al => exact .inl ⟨_, _, rfl, Same.seq s1.s sq, k _ F1 H1 s1 (walks_enum sq al)⟩
      · cases e3
        cases a with | tup sq al => exact .inr (.inl ⟨_, _, rfl, seqT s1.s sq, k _ F1 H1 s1 (walks_enumT sq al)⟩)
      · cases e3
        cases a with | str z hz => exact .inr (.inr ⟨_, rfl, k _ F1 H1 s1 (walks_enumS hz)⟩)
      · cases e3
    · cases e2⟩
end M


namespace M
open PySem PySem.Spec PyProof.Rows L2

section
variable {X : Cx} {x : Str} {pos : Pos}
theorem de_strE (l : List Nat) {j} (hx : x = mkS l := by decide +kernel) (h : PyData.strOk (mkS l) = true := by decide +kernel) : DE X (.Constant (.str x) j pos) (tC (.str x)) (fun _ => some (.str (mkS l))) := by
  subst hx
  exact de_str h
theorem de_gstrE (l : List Nat) {z : Str} {tk : Tok} (hg : Gl X x) (hm : X.mg x = some (.str z tk)) (hx : z = mkS l := by decide +kernel) (h : PyData.strOk (mkS l) = true := by decide +kernel) (hd : (x == ("__debug__" : Str)) = false := by decide) : DE X (.Name x pos) (tC (.str z)) (fun _ => some (.str (mkS l))) := by
  subst hx
  exact de_gstr hg hm h hd
end

/-! ### computing with the data -/
@[simp] theorem mkS_toList (l : List Nat) : (mkS l).cps.toList = l := by simp [mkS]
@[simp] theorem mem_mkS (c : Nat) (l : List Nat) : c ∈ (mkS l).cps ↔ c ∈ l := by rw [← Array.mem_toList_iff, mkS_toList]
@[simp] theorem mkS_length (l : List Nat) : (mkS l).length = l.length := by simp [mkS, Str.length]
@[simp] theorem mkS_app (a b : List Nat) : mkS a ++ mkS b = mkS (a ++ b) := by
  show Str.append _ _ = _
  simp [mkS, Str.append]
@[simp] theorem mkS_one (c : Nat) : (⟨#[c]⟩ : Str) = mkS [c] := rfl
@[simp] theorem mkS_mk (l : List Nat) : (⟨l.toArray⟩ : Str) = mkS l := rfl
@[simp] theorem mkS_inj {a b : List Nat} : mkS a = mkS b ↔ a = b := ⟨fun h => by simpa using congrArg (fun s : Str => s.cps.toList) h, fun h => by rw [h]⟩
theorem mkS_eta (s : Str) : s = mkS s.cps.toList := by obtain ⟨c⟩ := s; simp [mkS]
@[simp] theorem mkS_beq (a b : List Nat) : (mkS a == mkS b) = (a == b) := by
  rw [Bool.eq_iff_iff]; simp
@[simp] theorem repS_mk (l : List Nat) (n : Int) : repS (mkS l) n = mkS (List.replicate n.toNat l).flatten := by unfold repS; rw [mkS_toList]; rfl
@[simp] theorem sign1_mk (c : Nat) : sign1 (mkS [c]) = some c := by simp [sign1]
abbrev S (l : List Nat) : PyData := .str (mkS l)

@[simp] theorem eqv_str (a b : Str) : PyData.eqv (.str a) (.str b) = (a == b) := by simp [PyData.eqv]
@[simp] theorem eqv_int (a b : Int) : PyData.eqv (.int a) (.int b) = (a == b) := by simp [PyData.eqv]
@[simp] theorem eqv_bool (a b : Bool) : PyData.eqv (.bool a) (.bool b) = (a == b) := by simp [PyData.eqv]
@[simp] theorem eqv_none : PyData.eqv .none .none = true := by simp [PyData.eqv]
@[simp] theorem eqv_list (a b : List PyData) : PyData.eqv (.list a) (.list b) = PyData.eqvAll a b := by rw [PyData.eqv]
@[simp] theorem eqv_tuple (a b : List PyData) : PyData.eqv (.tuple a) (.tuple b) = PyData.eqvAll a b := by rw [PyData.eqv]
@[simp] theorem eqvAll_nil : PyData.eqvAll [] [] = true := by rw [PyData.eqvAll]
@[simp] theorem eqvAll_cons (a b : PyData) (as bs : List PyData) : PyData.eqvAll (a :: as) (b :: bs) = (PyData.eqv a b && PyData.eqvAll as bs) := by rw [PyData.eqvAll]
@[simp] theorem eqvAll_nc (b : PyData) (bs : List PyData) : PyData.eqvAll [] (b :: bs) = false := by rw [PyData.eqvAll]
@[simp] theorem eqvAll_cn (b : PyData) (bs : List PyData) : PyData.eqvAll (b :: bs) [] = false := by rw [PyData.eqvAll]
@[simp] theorem eqv_none_str (b : Str) : PyData.eqv .none (.str b) = false := by simp [PyData.eqv]
@[simp] theorem eqv_str_none (b : Str) : PyData.eqv (.str b) .none = false := by simp [PyData.eqv]
@[simp] theorem eqv_none_tuple (b : List PyData) : PyData.eqv .none (.tuple b) = false := by simp [PyData.eqv]
@[simp] theorem eqv_tuple_none (b : List PyData) : PyData.eqv (.tuple b) .none = false := by simp [PyData.eqv]
/-- == over a map that keeps its data apart -/
theorem eqvAll_map {α β : Type} [BEq α] {f : α → PyData} (h : ∀ a b, PyData.eqv (f a) (f b) = (a == b)) : ∀ xs ys : List α, PyData.eqvAll (xs.map f) (ys.map f) = (xs == ys)
  | [], [] => by simp
  | [], _ :: _ => by simp
  | _ :: _, [] => by simp
  | x :: xs, y :: ys => by simp [h, eqvAll_map (β := β) h xs ys]


/-! ### items and slices of lists -/
theorem atI_nat' {α : Type} (xs : List α) {i : Int} (h : 0 ≤ i) : atI xs i = xs[i.toNat]? := by
  unfold atI ixN
  rw [if_pos h]
  by_cases hl : i.toNat < xs.length
  · rw [if_pos (by omega)]; rfl
  · rw [if_neg (by omega), List.getElem?_eq_none (by omega)]; rfl
@[simp] theorem atI_ofNat {α : Type} (xs : List α) (n : Nat) : atI xs (OfNat.ofNat n : Int) = xs[n]? := by
  have : (OfNat.ofNat n : Int) = (n : Int) := rfl
  rw [this, atI_nat' xs (by omega)]; simp
@[simp] theorem atI_zero {α : Type} (xs : List α) : atI xs 0 = xs[0]? := atI_nat' xs (by omega)
@[simp] theorem atI_one {α : Type} (xs : List α) : atI xs 1 = xs[1]? := atI_nat' xs (by omega)
@[simp] theorem atI_cast {α : Type} (xs : List α) (n : Nat) : atI xs (n : Int) = xs[n]? := by rw [atI_nat' xs (by omega)]; simp
@[simp] theorem atI_neg1 {α : Type} (xs : List α) : atI xs (-1) = xs.getLast? := by
  unfold atI ixN
  rw [if_neg (by omega), List.getLast?_eq_getElem?]
  cases xs with
  | nil => simp
  | cons x r =>
    simp only [List.length_cons]
    split
    · rename_i h
      have e : ((-1 : Int) + ((r.length + 1 : Nat) : Int)).toNat = r.length + 1 - 1 := by omega
      show (x :: r)[_]? = _
      congr 1
    · omega
theorem sIx_pos {n d : Nat} {i : Int} (h : 0 ≤ i) : HT.sIx n d (some i) = min i.toNat n := by
  obtain ⟨k, rfl⟩ := Int.eq_ofNat_of_zero_le h
  exact HT.sIx_nat n d k
@[simp] theorem cutD_lo {α : Type} (xs : List α) {k : Int} (h : 0 ≤ k) : cutD xs (some k) none = xs.drop k.toNat := by
  unfold cutD
  rw [sIx_pos h, HT.sIx_none]
  by_cases hk : k.toNat ≤ xs.length
  · rw [Nat.min_eq_left hk, List.take_of_length_le (by rw [List.length_drop]; exact Nat.le_refl _)]
  · rw [Nat.min_eq_right (by omega), List.drop_eq_nil_of_le (Nat.le_refl _), List.drop_eq_nil_of_le (by omega)]; simp
@[simp] theorem cutD_hi {α : Type} (xs : List α) {k : Int} (h : 0 ≤ k) : cutD xs none (some k) = xs.take k.toNat := by
  unfold cutD
  rw [sIx_pos h, HT.sIx_none, List.drop_zero, Nat.sub_zero]
  by_cases hk : k.toNat ≤ xs.length
  · rw [Nat.min_eq_left hk]
  · rw [Nat.min_eq_right (by omega), List.take_of_length_le (Nat.le_refl _), List.take_of_length_le (by omega)]
@[simp] theorem cutD_lh {α : Type} (xs : List α) {a b : Int} (h : 0 ≤ a) (h' : 0 ≤ b) : cutD xs (some a) (some b) = (xs.drop a.toNat).take (b.toNat - a.toNat) := by
  unfold cutD
  rw [sIx_pos h, sIx_pos h']
  by_cases ha : a.toNat ≤ xs.length
  · rw [Nat.min_eq_left ha]
    by_cases hb : b.toNat ≤ xs.length
    · rw [Nat.min_eq_left hb]
    · rw [Nat.min_eq_right (by omega)]
      rw [List.take_of_length_le (by rw [List.length_drop]; omega), List.take_of_length_le (by rw [List.length_drop]; omega)]
  · rw [List.drop_eq_nil_of_le (as := xs) (i := min a.toNat xs.length) (by omega), List.drop_eq_nil_of_le (as := xs) (i := a.toNat) (by omega)]; simp
@[simp] theorem cutD_all {α : Type} (xs : List α) : cutD xs none none = xs := by
  unfold cutD
  rw [HT.sIx_none, HT.sIx_none, List.drop_zero, Nat.sub_zero, List.take_of_length_le (Nat.le_refl _)]
@[simp] theorem if_size {α : Type} {n : Nat} {a b : α} (h : n ≤ 16777216) : (if n ≤ sizeLine then a else b) = a := if_pos h
@[simp] theorem if_sizeL {α : Type} {n : Nat} {a b : α} (h : n < 16777216) : (if n < sizeLine then a else b) = a := if_pos h
theorem szl (n : Nat) (h : n ≤ 16777216 := by omega) : n ≤ sizeLine := h

/-! ### loops by what they do -/
/-- a comprehension over one name -/
theorem compD_nm {i : Nat} {c : En → Option Bool} {f : En → Option PyData} {ε : En} {p : PyData → Bool} {q : PyData → PyData} : ∀ {ds : List PyData},
    (∀ d ∈ ds, c (ε.set i (some (.f d))) = some (p d)) → (∀ d ∈ ds, p d = true → f (ε.set i (some (.f d))) = some (q d)) → compD (.nm i) c f ε ds = some ((ds.filter p).map q)
  | [], _, _ => rfl
  | d :: ds, h1, h2 => by
    have ih := compD_nm (ds := ds) (fun e he => h1 e (List.mem_cons_of_mem _ he)) (fun e he => h2 e (List.mem_cons_of_mem _ he))
    have a := h1 d List.mem_cons_self
    unfold compD
    simp only [Tg.put, Option.bind_some, a]
    cases hp : p d with
    | true => simp [h2 d List.mem_cons_self hp, ih, hp]
    | false => simp [ih, hp]
/-- .. over coded data -/
theorem compD_map {α : Type} {i : Nat} {c : En → Option Bool} {f : En → Option PyData} {ε : En} {enc : α → PyData} {p : α → Bool} {q : α → PyData} {xs : List α}
    (h1 : ∀ x ∈ xs, c (ε.set i (some (.f (enc x)))) = some (p x)) (h2 : ∀ x ∈ xs, p x = true → f (ε.set i (some (.f (enc x)))) = some (q x)) : compD (.nm i) c f ε (xs.map enc) = some ((xs.filter p).map q) := by
  induction xs with
  | nil => rfl
  | cons x xs ih =>
    have ih := ih (fun e he => h1 e (List.mem_cons_of_mem _ he)) (fun e he => h2 e (List.mem_cons_of_mem _ he))
    have a := h1 x List.mem_cons_self
    rw [List.map_cons]
    unfold compD
    simp only [Tg.put, Option.bind_some, a]
    cases hp : p x with
    | true => simp [h2 x List.mem_cons_self hp, ih, hp]
    | false => simp [ih, hp]
/-- .. without a test -/
theorem compD_all {α : Type} {i : Nat} {f : En → Option PyData} {ε : En} {enc : α → PyData} {q : α → PyData} {xs : List α} (h2 : ∀ x ∈ xs, f (ε.set i (some (.f (enc x)))) = some (q x)) : compD (.nm i) (fun _ => some true) f ε (xs.map enc) = some (xs.map q) := by
  rw [compD_map (p := fun _ => true) (q := q) (fun _ _ => rfl) (fun x hx _ => h2 x hx)]
  rw [List.filter_eq_self.mpr fun _ _ => rfl]
/-- targets that are pairs -/
theorem compD_pair {α : Type} {i j : Nat} {c : En → Option Bool} {f : En → Option PyData} {ε : En} {a b : α → PyData} {p : α → Bool} {q : α → PyData} {xs : List α}
    (h1 : ∀ x ∈ xs, c ((ε.set i (some (.f (a x)))).set j (some (.f (b x)))) = some (p x)) (h2 : ∀ x ∈ xs, p x = true → f ((ε.set i (some (.f (a x)))).set j (some (.f (b x)))) = some (q x)) :
    compD (.tp [i, j]) c f ε (xs.map fun x => .tuple [a x, b x]) = some ((xs.filter p).map q) := by
  induction xs with
  | nil => rfl
  | cons x xs ih =>
    have ih := ih (fun e he => h1 e (List.mem_cons_of_mem _ he)) (fun e he => h2 e (List.mem_cons_of_mem _ he))
    have z := h1 x List.mem_cons_self
    rw [List.map_cons]
    unfold compD
    simp only [Tg.put, putAll, List.length_cons, List.length_nil, if_pos, Option.bind_some, z]
    cases hp : p x with
    | true => simp [h2 x List.mem_cons_self hp, ih, hp]
    | false => simp [ih, hp]
/-- two clauses, names -/
theorem compD2_map {α : Type} {i j : Nat} {vs1 : List Nat} {src1 : En → Option (List PyData)} {cc1 : En → Option Bool} {f : En → Option PyData} {ε : En} {enc : α → PyData} {out : α → List PyData} {xs : List α} {ds1 : α → List PyData}
    (h1 : ∀ x ∈ xs, src1 (ε.set i (some (.f (enc x)))) = some (ds1 x)) (h2 : ∀ x ∈ xs, compD (.nm j) cc1 f (wipeE (ε.set i (some (.f (enc x)))) vs1) (ds1 x) = some (out x)) :
    compD2 (.nm i) (fun _ => some true) src1 vs1 (.nm j) cc1 f ε (xs.map enc) = some (xs.map out).flatten := by
  induction xs with
  | nil => rfl
  | cons x xs ih =>
    have ih := ih (fun e he => h1 e (List.mem_cons_of_mem _ he)) (fun e he => h2 e (List.mem_cons_of_mem _ he))
    rw [List.map_cons]
    unfold compD2
    simp [h1 x List.mem_cons_self, h2 x List.mem_cons_self, ih]
/-- a for that always goes on: by a state -/
theorem forT_fold {α : Type} {tt : Tg} {B : TD} {R : DEnds} (P : α → En → Prop) (step : α → PyData → α) : ∀ (ds : List PyData) (a : α) (ε : En), P a ε →
    (∀ a, ∀ d ∈ ds, ∀ ε (nx : En → Prop), P a ε → (∀ ε', P (step a d) ε' → nx ε') → ∃ ε', tt.put d ε = some ε' ∧ B { R with nx := nx, ct := nx, bk := R.nx } ε') → (∀ ε, P (ds.foldl step a) ε → R.nx ε) → forT tt B ds R ε
  | [], a, ε, h, _, k => k ε h
  | d :: ds, a, ε, h, hs, k => by
    obtain ⟨ε', e1, e2⟩ := hs a d List.mem_cons_self ε (forT tt B ds R) h fun ε' h' => forT_fold P step ds (step a d) ε' h' (fun a e he => hs a e (List.mem_cons_of_mem _ he)) k
    exact ⟨ε', e1, e2⟩
/-- .. over coded items -/
theorem forT_map {α β : Type} {tt : Tg} {B : TD} {R : DEnds} (P : α → En → Prop) (enc : β → PyData) (step : α → β → α) : ∀ (xs : List β) (a : α) (ε : En), P a ε →
    (∀ a, ∀ x ∈ xs, ∀ ε (nx : En → Prop), P a ε → (∀ ε', P (step a x) ε' → nx ε') → ∃ ε', tt.put (enc x) ε = some ε' ∧ B { R with nx := nx, ct := nx, bk := R.nx } ε') → (∀ ε, P (xs.foldl step a) ε → R.nx ε) → forT tt B (xs.map enc) R ε
  | [], a, ε, h, _, k => k ε h
  | d :: ds, a, ε, h, hs, k => by
    obtain ⟨ε', e1, e2⟩ := hs a d List.mem_cons_self ε (forT tt B (ds.map enc) R) h fun ε' h' => forT_map P enc step ds (step a d) ε' h' (fun a e he => hs a e (List.mem_cons_of_mem _ he)) k
    exact ⟨ε', e1, e2⟩
/-- with an invariant over the part taken so far -/
theorem forT_pre {β : Type} {tt : Tg} {B : TD} {R : DEnds} (enc : β → PyData) (P : List β → En → Prop) (xs : List β) : ∀ (pre post : List β) (ε : En), xs = pre ++ post → P pre ε →
    (∀ pre x post ε (nx : En → Prop), xs = pre ++ x :: post → P pre ε → (∀ ε', P (pre ++ [x]) ε' → nx ε') → ∃ ε', tt.put (enc x) ε = some ε' ∧ B { R with nx := nx, ct := nx, bk := R.nx } ε') → (∀ ε, P xs ε → R.nx ε) → forT tt B (post.map enc) R ε
  | pre, [], ε, e, h, _, k => k ε (by rw [List.append_nil] at e; rw [e]; exact h)
  | pre, x :: post, ε, e, h, hs, k => by
    obtain ⟨ε', e1, e2⟩ := hs pre x post ε (forT tt B (post.map enc) R) e h fun ε' h' => forT_pre enc P xs (pre ++ [x]) post ε' (by rw [e]; simp) h' hs k
    exact ⟨ε', e1, e2⟩

/-! ### data that is texts -/
def deT : PyData → Option (List Nat)
  | .str s => some s.cps.toList
  | _ => none
@[simp] theorem deT_S (l : List Nat) : deT (.str (mkS l)) = some l := by simp [deT]
theorem deT_eq {d : PyData} {l : List Nat} (h : deT d = some l) : d = S l := by
  cases d <;> simp [deT] at h
  rename_i s
  subst h
  rw [S, ← mkS_eta]
def deTs : List PyData → Option (List (List Nat))
  | [] => some []
  | d :: ds => (deT d).bind fun l => (deTs ds).map (l :: ·)
@[simp] theorem deTs_S : ∀ ls : List (List Nat), deTs (ls.map S) = some ls
  | [] => rfl
  | l :: ls => by simp [deTs, S, deTs_S ls]
@[simp] theorem deTs_S' (ls : List (List Nat)) : deTs (ls.map fun l => .str (mkS l)) = some ls := deTs_S ls
theorem deTs_eq : ∀ {ds : List PyData} {ls : List (List Nat)}, deTs ds = some ls → ds = ls.map S
  | [], ls, h => by cases h; rfl
  | d :: ds, ls, h => by
    obtain ⟨l, e1, e2⟩ := Option.bind_eq_some_iff.mp h
    obtain ⟨ls', e3, rfl⟩ := Option.map_eq_some_iff.mp e2
    rw [deT_eq e1, deTs_eq e3]; rfl
/-- a tuple of texts -/
def deW : PyData → Option (List (List Nat))
  | .tuple ds => deTs ds
  | _ => none
@[simp] theorem deW_S (ls : List (List Nat)) : deW (.tuple (ls.map S)) = some ls := deTs_S ls
theorem deW_eq {d : PyData} {ls : List (List Nat)} (h : deW d = some ls) : d = .tuple (ls.map S) := by
  cases d <;> simp [deW] at h
  rw [deTs_eq h]
@[simp] theorem all_okD_S (n : Nat) (ls : List (List Nat)) : (ls.map S).all (okD n) = true := by simp [S]

/-! ### sorted texts -/
def leT (a b : List Nat) : Bool := decide (a ≤ b)
def sortT (xs : List (List Nat)) : List (List Nat) := xs.mergeSort leT
theorem srtOk_S (xs : List (List Nat)) : srtOk (xs.map S) = true := by
  simp only [srtOk, List.all_map, Bool.and_eq_true, Bool.or_eq_true, List.all_eq_true, Function.comp, S]
  exact ⟨⟨fun _ _ _ _ => by simp [PySem.W.alike], .inr fun _ _ => rfl⟩, fun _ _ => by simp⟩
theorem dataLe_S (a b : List Nat) : PySem.W.dataLe false id (S a) (S b) = leT a b := by
  have h := congrFun (congrFun (PySem.W.dataLe_str (β := List Nat) fun l => mkS l) a) b
  simp only [mkS_toList] at h
  exact h
theorem sortD_S (xs : List (List Nat)) : sortD (xs.map S) = (sortT xs).map S := by
  unfold sortD sortT
  rw [List.map_mergeSort (f := S) (r := leT) (s := PySem.W.dataLe false id) fun a _ b _ => (dataLe_S a b).symm]
@[simp] theorem sortedL_S (xs : List (List Nat)) : sortedL [.list (xs.map S)] = some ((sortT xs).map S) := by
  show (if srtOk (xs.map S) = true then _ else _) = _
  rw [if_pos (srtOk_S xs), sortD_S]
theorem leT_trans (a b c : List Nat) : leT a b = true → leT b c = true → leT a c = true := by
  simp only [leT, decide_eq_true_eq]
  exact List.le_trans
theorem leT_total (a b : List Nat) : (leT a b || leT b a) = true := by
  simp only [leT, Bool.or_eq_true, decide_eq_true_eq]
  exact List.le_total a b
theorem leT_anti (a b : List Nat) : leT a b = true → leT b a = true → a = b := by
  simp only [leT, decide_eq_true_eq]
  exact List.le_antisymm
theorem sortT_perm (xs : List (List Nat)) : (sortT xs).Perm xs := List.mergeSort_perm ..
theorem sortT_sorted (xs : List (List Nat)) : (sortT xs).Pairwise fun a b => leT a b = true := List.pairwise_mergeSort leT_trans leT_total xs
/-- two sorted arrangements are one -/
theorem sorted_uniq {xs ys : List (List Nat)} (p : xs.Perm ys) (h1 : xs.Pairwise fun a b => leT a b = true) (h2 : ys.Pairwise fun a b => leT a b = true) : xs = ys :=
  List.Perm.eq_of_pairwise (le := fun a b => leT a b = true) (fun a b _ _ h h' => leT_anti a b h h') h1 h2 p
theorem sortT_eq {xs ys : List (List Nat)} (p : xs.Perm ys) : sortT xs = sortT ys := sorted_uniq ((sortT_perm xs).trans (p.trans (sortT_perm ys).symm)) (sortT_sorted xs) (sortT_sorted ys)
@[simp] theorem sortT_length (xs : List (List Nat)) : (sortT xs).length = xs.length := (sortT_perm xs).length_eq
theorem inB_S (a : List Nat) (xs : List (List Nat)) : inB (S a) (xs.map S) = decide (a ∈ xs) := by
  unfold inB
  rw [Bool.eq_iff_iff]
  simp [S]
theorem inB_N (a : Nat) (xs : List Nat) : inB (.int (a : Int)) (xs.map fun (k : Nat) => PyData.int (k : Int)) = decide (a ∈ xs) := by
  unfold inB
  rw [Bool.eq_iff_iff]
  simp
  constructor
  · rintro ⟨x, hx, e⟩
    have : x = a := by omega
    rw [← this]; exact hx
  · intro h; exact ⟨a, h, rfl⟩
@[simp] theorem all_okD_N (n : Nat) (ls : List Nat) : (ls.map fun (k : Nat) => PyData.int (k : Int)).all (okD n) = true := by simp
end M


namespace M
open PySem PySem.Spec PyProof.Rows L2

/-! ### evaluation that goes into nothing before its turn: what a later argument's type names is left alone -/
structure Blk {α : Sort u} (a : α) : Type where
section
variable {α β : Type}
def bnd (o : Option α) (f : α → Option β) (_ : Blk f) : Option β := o.bind f
@[simp] theorem bnd_some (a : α) (f : α → Option β) (b : Blk f) : bnd (some a) f b = f a := rfl
@[simp] theorem bnd_none (f : α → Option β) (b : Blk f) : bnd none f b = none := rfl
def exO (o : Option α) (P : α → Prop) (_ : Blk P) : Prop := ∃ s, o = some s ∧ P s
@[simp] theorem exO_some (a : α) (P : α → Prop) (b : Blk P) : exO (some a) P b = P a := by simp [exO]
theorem exO_of {o : Option α} {P : α → Prop} {b : Blk P} {a : α} (h : o = some a) (h' : P a) : exO o P b := ⟨a, h, h'⟩
def ifO (o : Option Bool) (A B : Prop) (_ : Blk (A, B)) : Prop := ∃ k, o = some k ∧ if k = true then A else B
@[simp] theorem ifO_some (b : Bool) (A B : Prop) (u : Blk (A, B)) : ifO (some b) A B u = if b = true then A else B := by simp [ifO]
theorem ifO_of {o : Option Bool} {A B : Prop} {u : Blk (A, B)} {b : Bool} (h : o = some b) (ht : b = true → A) (hf : b = false → B) : ifO o A B u := ⟨b, h, by cases b with | true => exact ht rfl | false => exact hf rfl⟩
def atE (ε : En) (k : En → Prop) (_ : Blk k) : Prop := k ε
@[simp] theorem atE_e (ε : En) (k : En → Prop) (b : Blk k) : atE ε k b = k ε := rfl
def atO (ε : En) (k : En → Option α) (_ : Blk k) : Option α := k ε
@[simp] theorem atO_e (ε : En) (k : En → Option α) (b : Blk k) : atO ε k b = k ε := rfl
end
def getS (i : Nat) (ε : En) : Option (Option Slot) := ε[i]?
@[simp] theorem getS_zero (x : Option Slot) (ε : En) : getS 0 (x :: ε) = some x := rfl
@[simp] theorem getS_succ (i : Nat) (x : Option Slot) (ε : En) : getS (i + 1) (x :: ε) = getS i ε := rfl
@[simp] theorem getF_zero (d : PyData) (ε : En) : getF 0 (some (.f d) :: ε) = some d := rfl
@[simp] theorem getF_succ (i : Nat) (x : Option Slot) (ε : En) : getF (i + 1) (x :: ε) = getF i ε := rfl
@[simp] theorem getB_zero (d : PyData) (ε : En) : getB 0 (some (.f d) :: ε) = some d := rfl
@[simp] theorem getB_zero' (d : List PyData) (ε : En) : getB 0 (some (.o d) :: ε) = some (.list d) := rfl
@[simp] theorem getB_zero'' (d : List (PyData × PyData)) (ε : En) : getB 0 (some (.od d) :: ε) = some (.dict d) := rfl
@[simp] theorem getB_succ (i : Nat) (x : Option Slot) (ε : En) : getB (i + 1) (x :: ε) = getB i ε := rfl
@[simp] theorem frzE_zero (s : Slot) (ε : En) : frzE 0 (some s :: ε) = some s.frz :: ε := rfl
@[simp] theorem frzE_succ (i : Nat) (x : Option Slot) (ε : En) : frzE (i + 1) (x :: ε) = x :: frzE i ε := by
  unfold frzE
  rw [List.getElem?_cons_succ]
  cases ε[i]? with
  | none => rfl
  | some z => cases z <;> rfl
section
variable {ε : En} {R : DEnds} {T U : TD} {i : Nat}
def forB (t : Tg) (B : TD) (ds : List PyData) (R : DEnds) (ε : En) (_ : Blk (B, R)) : Prop := forT t B ds R ε
def whB (c : En → Option Bool) (B : TD) (R : DEnds) (ε : En) (_ : Blk (c, B, R)) : Prop := dWhile c B R ε
def lcB (src : En → Option (List PyData)) (t : Tg) (vs : List Nat) (c : En → Option Bool) (f : En → Option PyData) (ε : En) (_ : Blk (src, c, f)) : Option (List PyData) := dLc src t vs c f ε
def lc2B (src : En → Option (List PyData)) (t : Tg) (vs : List Nat) (c : En → Option Bool) (src1 : En → Option (List PyData)) (vs1 : List Nat) (t1 : Tg) (c1 : En → Option Bool) (f : En → Option PyData) (ε : En) (_ : Blk (src, c, src1, c1, f)) : Option (List PyData) := dLc2 src t vs c src1 vs1 t1 c1 f ε
@[simp ↓] theorem dSeq_e : dSeq T U R ε = T ⟨U R, R.rt, R.bk, R.ct⟩ ε := rfl
@[simp ↓] theorem dNext_e : dNext R ε = R.nx ε := rfl
@[simp ↓] theorem dPass_e : dPass R ε = R.nx ε := rfl
@[simp ↓] theorem dBreak_e : dBreak R ε = R.bk ε := rfl
@[simp ↓] theorem dCont_e : dCont R ε = R.ct ε := rfl
@[simp ↓] theorem dFrz_e : dFrz i T R ε = atE (frzE i ε) (T R) ⟨⟩ := rfl
@[simp ↓] theorem dFrzB_e : dFrzB i T R ε = T ⟨fun ε' => atE (frzE i ε') R.nx ⟨⟩, R.rt, R.bk, R.ct⟩ ε := rfl
@[simp ↓] theorem dAsg_e {f : En → Option Slot} : dAsg i f R ε = exO (f ε) (fun s => atE (ε.set i (some s)) R.nx ⟨⟩) ⟨⟩ := rfl
@[simp ↓] theorem augI_e {g : Int → Int → Int} {f : En → Option PyData} : augI i g f R ε = exO (getF i ε) (fun a => exO (f ε) (fun b => match a, b with | .int a, .int b => atE (ε.set i (some (.f (.int (g a b))))) R.nx ⟨⟩ | _, _ => False) ⟨⟩) ⟨⟩ := by
  simp only [augI, exO, atE]
  rw [eq_iff_iff]
  constructor
  · rintro ⟨a, b, h1, h2, h3⟩
    exact ⟨_, h1, _, h2, h3⟩
  · rintro ⟨a, h1, b, h2, h3⟩
    split at h3
    · exact ⟨_, _, h1, h2, h3⟩
    · exact h3.elim
@[simp ↓] theorem dRet_e {f : En → Option Slot} : dRet f R ε = exO (f ε) (fun s => R.rt s) ⟨⟩ := rfl
@[simp ↓] theorem dRetV_e : dRetV i R ε = exO (getS i ε) (fun s => exO s (fun s => R.rt s) ⟨⟩) ⟨⟩ := by
  simp only [dRetV, exO, getS]
  rw [eq_iff_iff]
  exact ⟨fun ⟨s, h1, h2⟩ => ⟨_, h1, _, rfl, h2⟩, fun ⟨s, h1, s', h2, h3⟩ => ⟨s', by rw [h1, h2], h3⟩⟩
@[simp ↓] theorem dRetN_e : dRetN R ε = R.rt (.f .none) := rfl
@[simp ↓] theorem dDrop_e {f : En → Option PyData} : dDrop f R ε = exO (f ε) (fun _ => R.nx ε) ⟨⟩ := rfl
@[simp ↓] theorem dIf_e {g : En → Option Bool} : dIf g T U R ε = ifO (g ε) (T R ε) (U R ε) ⟨⟩ := rfl
@[simp ↓] theorem dTg_e {t : Tg} {f : En → Option PyData} : dTg t f R ε = exO (f ε) (fun d => exO (t.put d ε) (fun ε' => atE ε' R.nx ⟨⟩) ⟨⟩) ⟨⟩ := by
  simp only [dTg, exO, atE]
  rw [eq_iff_iff]
  exact ⟨fun ⟨d, e, h1, h2, h3⟩ => ⟨d, h1, e, h2, h3⟩, fun ⟨d, h1, e, h2, h3⟩ => ⟨d, e, h1, h2, h3⟩⟩
@[simp ↓] theorem dFor_e {t : Tg} {f : En → Option (List PyData)} : dFor f t T R ε = exO (f ε) (fun ds => forB t T ds R ε ⟨⟩) ⟨⟩ := rfl
@[simp ↓] theorem dWhile_e {c : En → Option Bool} : dWhile c T R ε = whB c T R ε ⟨⟩ := rfl
@[simp ↓] theorem dApp_e {f : En → Option PyData} : dApp i f R ε = exO (f ε) (fun d => exO (getS i ε) (fun s => exO s (fun s => match s with | .o ds => ds.length < sizeLine ∧ atE (ε.set i (some (.o (ds ++ [d])))) R.nx ⟨⟩ | _ => False) ⟨⟩) ⟨⟩) ⟨⟩ := by
  simp only [dApp, exO, atE, getS]
  rw [eq_iff_iff]
  constructor
  · rintro ⟨ds, d, h1, h2, h3, h4⟩
    exact ⟨d, h2, _, h1, _, rfl, h3, h4⟩
  · rintro ⟨d, h2, s, h1, s', h5, h3⟩
    subst h5
    split at h3
    · exact ⟨_, d, h1, h2, h3.1, h3.2⟩
    · exact h3.elim
@[simp ↓] theorem dPar_e {is : List Nat} {f : En → Option (List Slot)} : dPar is f R ε = exO (f ε) (fun ss => ss.length = is.length ∧ atE (setE is ss ε) R.nx ⟨⟩) ⟨⟩ := rfl
@[simp ↓] theorem dPut_e {fk fe : En → Option PyData} : dPut i fk fe R ε = exO (fe ε) (fun d => exO (getS i ε) (fun s => exO s (fun s => exO (fk ε) (fun k => match s, k with | .o ds, .int k => exO (ixN ds.length k) (fun j => atE (ε.set i (some (.o (ds.set j d)))) R.nx ⟨⟩) ⟨⟩ | _, _ => False) ⟨⟩) ⟨⟩) ⟨⟩) ⟨⟩ := by
  simp only [dPut, exO, atE, getS]
  rw [eq_iff_iff]
  constructor
  · rintro ⟨ds, d, k, j, h1, h2, h3, h4, h5⟩
    exact ⟨d, h1, _, h2, _, rfl, _, h3, _, h4, h5⟩
  · rintro ⟨d, h1, s, h2, s', h3, k, h4, h5⟩
    subst h3
    split at h5
    · obtain ⟨j, h6, h7⟩ := h5
      exact ⟨_, d, _, j, h1, h2, h4, h6, h7⟩
    · exact h5.elim
@[simp ↓] theorem dOp_e {g : G2} {fa fb : En → Option PyData} : dOp g fa fb ε = bnd (fa ε) (fun a => bnd (fb ε) (fun b => g a b) ⟨⟩) ⟨⟩ := rfl
@[simp ↓] theorem dOpL_e {g : PyData → PyData → Option (List PyData)} {fa fb : En → Option PyData} : dOpL g fa fb ε = bnd (fa ε) (fun a => bnd (fb ε) (fun b => g a b) ⟨⟩) ⟨⟩ := rfl
@[simp ↓] theorem dCons_e {fa : En → Option PyData} {fb : En → Option (List PyData)} : dCons fa fb ε = bnd (fa ε) (fun d => (fb ε).map (d :: ·)) ⟨⟩ := rfl
@[simp ↓] theorem dAnd_e {fa fb : En → Option Bool} : dAnd fa fb ε = bnd (fa ε) (fun k => if k then fb ε else some false) ⟨⟩ := rfl
@[simp ↓] theorem dOr_e {fa fb : En → Option Bool} : dOr fa fb ε = bnd (fa ε) (fun k => if k then some true else fb ε) ⟨⟩ := rfl
@[simp ↓] theorem dAndV_e {fa fb : En → Option PyData} : dAndV fa fb ε = bnd (boolOf (fa ε)) (fun k => if k then fb ε else some (.bool false)) ⟨⟩ := rfl
@[simp ↓] theorem dOrV_e {fa fb : En → Option PyData} : dOrV fa fb ε = bnd (boolOf (fa ε)) (fun k => if k then some (.bool true) else fb ε) ⟨⟩ := rfl
@[simp ↓] theorem dIfE_e {g : En → Option Bool} {fa fb : En → Option PyData} : dIfE g fa fb ε = bnd (g ε) (fun k => if k then fa ε else fb ε) ⟨⟩ := rfl
@[simp ↓] theorem dLc_e {src : En → Option (List PyData)} {t : Tg} {vs : List Nat} {c : En → Option Bool} {f : En → Option PyData} : dLc src t vs c f ε = lcB src t vs c f ε ⟨⟩ := rfl
@[simp ↓] theorem dLc2_e {src : En → Option (List PyData)} {t : Tg} {vs : List Nat} {c : En → Option Bool} {src1 : En → Option (List PyData)} {vs1 : List Nat} {t1 : Tg} {c1 : En → Option Bool} {f : En → Option PyData} : dLc2 src t vs c src1 vs1 t1 c1 f ε = lc2B src t vs c src1 vs1 t1 c1 f ε ⟨⟩ := rfl
end
/-! ### comprehensions -/
theorem limL_some {ds : List PyData} (h : ds.length ≤ 16777216) : limL (some ds) = some ds := if_pos h
/-- over a name, coded data -/
theorem dLc_map {α : Type} (xs : List α) (enc : α → PyData) (p : α → Bool) (q : α → PyData) {src : En → Option (List PyData)} {i : Nat} {vs : List Nat} {c : En → Option Bool} {f : En → Option PyData} {ε : En} {u : Blk _}
    (hs : src ε = some (xs.map enc)) (h1 : ∀ x ∈ xs, c ((wipeE ε vs).set i (some (.f (enc x)))) = some (p x)) (h2 : ∀ x ∈ xs, p x = true → f ((wipeE ε vs).set i (some (.f (enc x)))) = some (q x)) (hl : (xs.filter p).length ≤ 16777216) :
    lcB src (.nm i) vs c f ε u = some ((xs.filter p).map q) := by
  unfold lcB dLc
  rw [hs, Option.bind_some, compD_map h1 h2, limL_some (by rw [List.length_map]; exact hl)]
/-- .. without a test -/
theorem dLc_all {α : Type} (xs : List α) (enc : α → PyData) (q : α → PyData) {src : En → Option (List PyData)} {i : Nat} {vs : List Nat} {f : En → Option PyData} {ε : En} {u : Blk _}
    (hs : src ε = some (xs.map enc)) (h2 : ∀ x ∈ xs, f ((wipeE ε vs).set i (some (.f (enc x)))) = some (q x)) (hl : xs.length ≤ 16777216) :
    lcB src (.nm i) vs (fun _ => some true) f ε u = some (xs.map q) := by
  unfold lcB dLc
  rw [hs, Option.bind_some, compD_all h2, limL_some (by rw [List.length_map]; exact hl)]
/-- .. over pairs -/
theorem dLc_pair {α : Type} (xs : List α) (a b : α → PyData) (p : α → Bool) (q : α → PyData) {src : En → Option (List PyData)} {i j : Nat} {vs : List Nat} {c : En → Option Bool} {f : En → Option PyData} {ε : En} {u : Blk _}
    (hs : src ε = some (xs.map fun x => .tuple [a x, b x])) (h1 : ∀ x ∈ xs, c (((wipeE ε vs).set i (some (.f (a x)))).set j (some (.f (b x)))) = some (p x)) (h2 : ∀ x ∈ xs, p x = true → f (((wipeE ε vs).set i (some (.f (a x)))).set j (some (.f (b x)))) = some (q x)) (hl : (xs.filter p).length ≤ 16777216) :
    lcB src (.tp [i, j]) vs c f ε u = some ((xs.filter p).map q) := by
  unfold lcB dLc
  rw [hs, Option.bind_some, compD_pair h1 h2, limL_some (by rw [List.length_map]; exact hl)]
/-- two clauses -/
theorem dLc2_map {α : Type} (xs : List α) (enc : α → PyData) (ds1 : α → List PyData) (out : α → List PyData) {src : En → Option (List PyData)} {i j : Nat} {vs vs1 : List Nat} {src1 : En → Option (List PyData)} {cc1 : En → Option Bool} {f : En → Option PyData} {ε : En} {u : Blk _}
    (hs : src ε = some (xs.map enc)) (h1 : ∀ x ∈ xs, src1 ((wipeE ε vs).set i (some (.f (enc x)))) = some (ds1 x)) (h2 : ∀ x ∈ xs, compD (.nm j) cc1 f (wipeE ((wipeE ε vs).set i (some (.f (enc x)))) vs1) (ds1 x) = some (out x)) (hl : ((xs.map out).flatten).length ≤ 16777216) :
    lc2B src (.nm i) vs (fun _ => some true) src1 vs1 (.nm j) cc1 f ε u = some (xs.map out).flatten := by
  unfold lc2B dLc2
  rw [hs, Option.bind_some, compD2_map h1 h2, limL_some hl]
@[simp] theorem atI_succ {α : Type} (xs : List α) (k : Nat) : atI xs ((k : Int) + 1) = xs[k + 1]? := by
  have : (k : Int) + 1 = ((k + 1 : Nat) : Int) := by omega
  rw [this, atI_cast]
end M
namespace M
open PySem PySem.Spec PyProof.Rows L2
section
variable {ε : En}
@[simp ↓] theorem dChain_e {g g' : G2} {fa fb fc : En → Option PyData} : dChain g g' fa fb fc ε = bnd (fa ε) (fun a => bnd (fb ε) (fun b => bnd (boolOf (g a b)) (fun k => if k then bnd (fc ε) (fun c => g' b c) ⟨⟩ else some (.bool false)) ⟨⟩) ⟨⟩) ⟨⟩ := rfl
@[simp ↓] theorem dSl_e {fe : En → Option PyData} {fl fh : En → Option (Option Int)} : dSl fe fl fh ε = bnd (fe ε) (fun d => bnd (fl ε) (fun lo => bnd (fh ε) (fun hi => slD d lo hi) ⟨⟩) ⟨⟩) ⟨⟩ := rfl
@[simp ↓] theorem dSlL_e {fe : En → Option PyData} {fl fh : En → Option (Option Int)} : dSlL fe fl fh ε = bnd (fe ε) (fun d => bnd (fl ε) (fun lo => bnd (fh ε) (fun hi => slL d lo hi) ⟨⟩) ⟨⟩) ⟨⟩ := rfl
end
/-! ### loops by index -/
section
variable {β : Type} {tt : Tg} {B : TD} {R : DEnds}
theorem forT_ix (enc : β → PyData) (P : Nat → En → Prop) (xs : List β) (hs : ∀ i x ε (nx : En → Prop), xs[i]? = some x → P i ε → (∀ ε', P (i + 1) ε' → nx ε') → ∃ ε', tt.put (enc x) ε = some ε' ∧ B ⟨nx, R.rt, R.nx, nx⟩ ε') (k : ∀ ε, P xs.length ε → R.nx ε) :
    ∀ (post : List β) (i : Nat) (ε : En), xs.drop i = post → i ≤ xs.length → P i ε → forT tt B (post.map enc) R ε
  | [], i, ε, e, hi, h => k ε (by have := congrArg List.length e; simp at this; rw [show xs.length = i by omega]; exact h)
  | x :: post, i, ε, e, hi, h => by
    have e1 : xs[i]? = some x := by rw [← List.head?_drop, e]; rfl
    have hi' : i < xs.length := (List.getElem?_eq_some_iff.mp e1).1
    obtain ⟨ε', a, b⟩ := hs i x ε (forT tt B (post.map enc) R) e1 h fun ε' h' => forT_ix enc P xs hs k post (i + 1) ε' (by rw [← List.drop_drop, e]; rfl) hi' h'
    exact ⟨ε', a, b⟩
theorem forB_ix (enc : β → PyData) (xs : List β) (P : Nat → En → Prop) {ε : En} {u : Blk (B, R)} (h : P 0 ε) (hs : ∀ i x ε (nx : En → Prop), xs[i]? = some x → P i ε → (∀ ε', P (i + 1) ε' → nx ε') → ∃ ε', tt.put (enc x) ε = some ε' ∧ B ⟨nx, R.rt, R.nx, nx⟩ ε') (k : ∀ ε, P xs.length ε → R.nx ε) :
    forB tt B (xs.map enc) R ε u := forT_ix enc P xs hs k xs 0 ε rfl (Nat.zero_le _) h
theorem forT_enum (enc : β → PyData) (P : Nat → En → Prop) (xs : List β) (hs : ∀ i x ε (nx : En → Prop), xs[i]? = some x → P i ε → (∀ ε', P (i + 1) ε' → nx ε') → ∃ ε', tt.put (.tuple [.int (i : Int), enc x]) ε = some ε' ∧ B ⟨nx, R.rt, R.nx, nx⟩ ε') (k : ∀ ε, P xs.length ε → R.nx ε) :
    ∀ (post : List β) (i : Nat) (ε : En), xs.drop i = post → i ≤ xs.length → P i ε → forT tt B (enumL i (post.map enc)) R ε
  | [], i, ε, e, hi, h => k ε (by have := congrArg List.length e; simp at this; rw [show xs.length = i by omega]; exact h)
  | x :: post, i, ε, e, hi, h => by
    have e1 : xs[i]? = some x := by rw [← List.head?_drop, e]; rfl
    have hi' : i < xs.length := (List.getElem?_eq_some_iff.mp e1).1
    obtain ⟨ε', a, b⟩ := hs i x ε (forT tt B (enumL (i + 1) (post.map enc)) R) e1 h fun ε' h' => forT_enum enc P xs hs k post (i + 1) ε' (by rw [← List.drop_drop, e]; rfl) hi' h'
    exact ⟨ε', a, b⟩
theorem forB_enum (enc : β → PyData) (xs : List β) (P : Nat → En → Prop) {ε : En} {u : Blk (B, R)} (h : P 0 ε) (hs : ∀ i x ε (nx : En → Prop), xs[i]? = some x → P i ε → (∀ ε', P (i + 1) ε' → nx ε') → ∃ ε', tt.put (.tuple [.int (i : Int), enc x]) ε = some ε' ∧ B ⟨nx, R.rt, R.nx, nx⟩ ε') (k : ∀ ε, P xs.length ε → R.nx ε) :
    forB tt B (enumL 0 (xs.map enc)) R ε u := forT_enum enc P xs hs k xs 0 ε rfl (Nat.zero_le _) h
/-- while: by a measure -/
theorem whB_by {c : En → Option Bool} {ε : En} {u : Blk (c, B, R)} (P : Nat → En → Prop) (n : Nat) (h : P n ε) (hs : ∀ n ε (nx : En → Prop), P n ε → (∀ m ε', m < n → P m ε' → nx ε') → ∃ k, c ε = some k ∧ if k = true then B ⟨nx, R.rt, R.nx, nx⟩ ε else R.nx ε) : whB c B R ε u := by
  have key : ∀ N n ε, n < N → P n ε → whT c B N R ε := by
    intro N
    induction N with
    | zero => intro n ε h; omega
    | succ N ih =>
      intro n ε hn hp
      obtain ⟨k, h1, h2⟩ := hs n ε (whT c B N R) hp fun m ε' hm hp' => ih m ε' (by omega) hp'
      exact ⟨k, h1, h2⟩
  exact ⟨n + 1, key (n + 1) n ε (Nat.lt_succ_self _) h⟩
end
end M
namespace M
open PySem PySem.Spec PyProof.Rows L2
@[simp] theorem flat2_len {α β : Type} (f g : α → β) : ∀ xs : List α, (xs.map fun x => [f x, g x]).flatten.length = 2 * xs.length
  | [] => rfl
  | x :: xs => by
    have := flat2_len f g xs
    simp only [List.map_cons, List.flatten_cons, List.length_append, List.length_cons, List.length_nil] at this ⊢
    omega
theorem flat2_map {α β γ : Type} (f g : α → β) (h : β → γ) : ∀ xs : List α, (xs.map fun x => [h (f x), h (g x)]).flatten = (xs.flatMap fun x => [f x, g x]).map h
  | [] => rfl
  | x :: xs => by
    have := flat2_map f g h xs
    simp only [List.map_cons, List.flatten_cons, List.flatMap_cons, List.map_append, this, List.map_nil]
end M
namespace M
open PySem PySem.Spec PyProof.Rows L2
@[simp] theorem rng1_ok {i : Int} (h0 : -16777216 ≤ i) (h : i ≤ 16777216) : rng1D [.int i] = some ((List.range i.toNat).map fun (k : Nat) => .int (k : Int)) := by
  have : (-(2 ^ 62) ≤ i ∧ i < 2 ^ 62) := by omega
  rw [rng1D, if_pos this]
  simp
@[simp] theorem rng2_ok {i j : Int} (h0 : -16777216 ≤ i) (h : i ≤ 16777216) (h2 : -16777216 ≤ j) (h3 : j ≤ 16777216) : rng2D [.int i, .int j] = some ((List.range (j - i).toNat).map fun (k : Nat) => .int (i + (k : Int))) := by
  have : (-(2 ^ 62) ≤ i ∧ i < 2 ^ 62 ∧ -(2 ^ 62) ≤ j ∧ j < 2 ^ 62) := by omega
  rw [rng2D, if_pos this]
end M


namespace M
open PySem PySem.Spec PyProof.Rows L2
section
variable {X : Cx} {e a b elt tg iter tg1 iter1 : Expr} {es ifs ifs1 : List Expr} {te ta tb : TE} {fe fa fb : En → Option PyData} {pos spos : Pos} {st : Stmt} {body sts : List Stmt} {t u : TS} {T U B : TD} {wi wi1 : TI} {g g1 : TG} {src src1 : En → Option (List PyData)} {gt gt1 : Tg}
  {tt tt1 : TT} {cc cc1 : En → Option Bool} {scope : Scope} {vs vs1 : List Nat}
theorem dl_lcV (own : List (Str × Nat)) (hc : X.calm = true) (hN : X.N.Nodup) (ok : BlkOk X.N X.env.scope scope own) (hi : DI X tg iter wi src)
    (hg : ∀ (s : Shared) (H : Hp) (C : Addr) (cl : List (Str × Addr)) (fp : List Addr), DG (X.blk s H scope (compEnvC scope cl C X.env) fp) tg g gt)
    (ht : ∀ (s : Shared) (H : Hp) (C : Addr) (cl : List (Str × Addr)) (fp : List Addr), DTs (X.blk s H scope (compEnvC scope cl C X.env) fp) ifs tt cc)
    (he : ∀ (s : Shared) (H : Hp) (C : Addr) (cl : List (Str × Addr)) (fp : List Addr), DE (X.blk s H scope (compEnvC scope cl C X.env) fp) elt te fe)
    (hvs : own.map (·.2) = vs := by rfl) (hT : ∀ j ∈ gt.ix, j ∈ vs := by decide) (hs : ∀ x, foldedSetIterable iter X.env x = pure x := by intro _; rfl) :
    DL X (.ListComp elt [⟨tg, iter, ifs, 0⟩] scope pos) (tLc wi g tt te vs) (dLc src gt vs cc fe) := by
  subst hvs
  exact dl_lc own hc hN ok hi hg ht he hT hs
theorem dl_lc2V (own : List (Str × Nat)) (hc : X.calm = true) (hN : X.N.Nodup) (ok : BlkOk X.N X.env.scope scope own) (hi : DI X tg iter wi src)
    (hg : ∀ (s : Shared) (H : Hp) (C : Addr) (cl : List (Str × Addr)) (fp : List Addr), DG (X.blk s H scope (compEnvC scope cl C X.env) fp) tg g gt)
    (ht : ∀ (s : Shared) (H : Hp) (C : Addr) (cl : List (Str × Addr)) (fp : List Addr), DTs (X.blk s H scope (compEnvC scope cl C X.env) fp) ifs tt cc)
    (hi1 : ∀ (s : Shared) (H : Hp) (C : Addr) (cl : List (Str × Addr)) (fp : List Addr), DI (X.blk s H scope (compEnvC scope cl C X.env) fp) tg1 iter1 wi1 src1)
    (hg1 : ∀ (s : Shared) (H : Hp) (C : Addr) (cl : List (Str × Addr)) (fp : List Addr), DG (X.blk s H scope (compEnvC scope cl C X.env) fp) tg1 g1 gt1)
    (ht1 : ∀ (s : Shared) (H : Hp) (C : Addr) (cl : List (Str × Addr)) (fp : List Addr), DTs (X.blk s H scope (compEnvC scope cl C X.env) fp) ifs1 tt1 cc1)
    (he : ∀ (s : Shared) (H : Hp) (C : Addr) (cl : List (Str × Addr)) (fp : List Addr), DE (X.blk s H scope (compEnvC scope cl C X.env) fp) elt te fe)
    (hvs : own.map (·.2) = vs := by rfl) (hT : ∀ j ∈ gt.ix, j ∈ vs := by decide) (hv : ∀ i ∈ vs1, i ∈ vs := by decide) (hT1 : ∀ j ∈ gt1.ix, j ∈ vs1 := by decide) (hs : ∀ x, foldedSetIterable iter X.env x = pure x := by intro _; rfl) (hs1 : ∀ env x, foldedSetIterable iter1 env x = pure x := by intro _ _; rfl) :
    DL X (.ListComp elt [⟨tg, iter, ifs, 0⟩, ⟨tg1, iter1, ifs1, 0⟩] scope pos) (tLc2 wi g tt wi1 g1 tt1 te vs vs1) (dLc2 src gt vs cc src1 vs1 gt1 cc1 fe) := by
  subst hvs
  exact dl_lc2 own vs1 hc hN ok hi hg ht hi1 hg1 ht1 he hT hv hT1 hs hs1
theorem ds_setLcV {i : Nat} (own : List (Str × Nat)) {y : Str} {py : Pos} (hc : X.calm = true) (hN : X.N.Nodup)
    (ok : BlkOk X.N X.env.scope scope own) (hi : DI X tg iter wi src)
    (hg : ∀ (s : Shared) (H : Hp) (C : Addr) (cl : List (Str × Addr)) (fp : List Addr), DG (X.blk s H scope (compEnvC scope cl C X.env) fp) tg g gt)
    (ht : ∀ (s : Shared) (H : Hp) (C : Addr) (cl : List (Str × Addr)) (fp : List Addr), DTs (X.blk s H scope (compEnvC scope cl C X.env) fp) ifs tt cc)
    (he : ∀ (s : Shared) (H : Hp) (C : Addr) (cl : List (Str × Addr)) (fp : List Addr), DE (X.blk s H scope (compEnvC scope cl C X.env) fp) elt te fe)
    (hsw : swapsWith (.ListComp elt [⟨tg, iter, ifs, 0⟩] scope pos) (some (.Name y py)) spos.line X.env = pure true) (hy : X.N[i]? = some y := by rfl) (hyl : X.env.scope.names.lookup y = some .local := by rfl) (hvs : own.map (·.2) = vs := by rfl) (hT : ∀ j ∈ gt.ix, j ∈ vs := by decide) (hs : ∀ x, foldedSetIterable iter X.env x = pure x := by intro _; rfl) :
    DS X (.Assign [.Name y py] (.ListComp elt [⟨tg, iter, ifs, 0⟩] scope pos) spos) (tAsg (tLc wi g tt te vs) (gName i)) (dAsg i fun ε => (dLc src gt vs cc fe ε).map .o) := by
  subst hvs
  exact ds_setLc i own hc hN ok hi hg ht he hsw hy hyl hT hs
theorem ds_setLc2V {i : Nat} (own : List (Str × Nat)) {y : Str} {py : Pos} (hc : X.calm = true) (hN : X.N.Nodup) (ok : BlkOk X.N X.env.scope scope own) (hi : DI X tg iter wi src)
    (hg : ∀ (s : Shared) (H : Hp) (C : Addr) (cl : List (Str × Addr)) (fp : List Addr), DG (X.blk s H scope (compEnvC scope cl C X.env) fp) tg g gt)
    (ht : ∀ (s : Shared) (H : Hp) (C : Addr) (cl : List (Str × Addr)) (fp : List Addr), DTs (X.blk s H scope (compEnvC scope cl C X.env) fp) ifs tt cc)
    (hi1 : ∀ (s : Shared) (H : Hp) (C : Addr) (cl : List (Str × Addr)) (fp : List Addr), DI (X.blk s H scope (compEnvC scope cl C X.env) fp) tg1 iter1 wi1 src1)
    (hg1 : ∀ (s : Shared) (H : Hp) (C : Addr) (cl : List (Str × Addr)) (fp : List Addr), DG (X.blk s H scope (compEnvC scope cl C X.env) fp) tg1 g1 gt1)
    (ht1 : ∀ (s : Shared) (H : Hp) (C : Addr) (cl : List (Str × Addr)) (fp : List Addr), DTs (X.blk s H scope (compEnvC scope cl C X.env) fp) ifs1 tt1 cc1)
    (he : ∀ (s : Shared) (H : Hp) (C : Addr) (cl : List (Str × Addr)) (fp : List Addr), DE (X.blk s H scope (compEnvC scope cl C X.env) fp) elt te fe)
    (hsw : swapsWith (.ListComp elt [⟨tg, iter, ifs, 0⟩, ⟨tg1, iter1, ifs1, 0⟩] scope pos) (some (.Name y py)) spos.line X.env = pure true) (hy : X.N[i]? = some y := by rfl) (hyl : X.env.scope.names.lookup y = some .local := by rfl)
    (hvs : own.map (·.2) = vs := by rfl) (hT : ∀ j ∈ gt.ix, j ∈ vs := by decide) (hv : ∀ i ∈ vs1, i ∈ vs := by decide) (hT1 : ∀ j ∈ gt1.ix, j ∈ vs1 := by decide) (hs : ∀ x, foldedSetIterable iter X.env x = pure x := by intro _; rfl) (hs1 : ∀ env x, foldedSetIterable iter1 env x = pure x := by intro _ _; rfl) :
    DS X (.Assign [.Name y py] (.ListComp elt [⟨tg, iter, ifs, 0⟩, ⟨tg1, iter1, ifs1, 0⟩] scope pos) spos) (tAsg (tLc2 wi g tt wi1 g1 tt1 te vs vs1) (gName i)) (dAsg i fun ε => (dLc2 src gt vs cc src1 vs1 gt1 cc1 fe ε).map .o) := by
  subst hvs
  exact ds_setLc2 i own vs1 hc hN ok hi hg ht hi1 hg1 ht1 he hsw hy hyl hT hv hT1 hs hs1
end
section
variable {X : Cx} {e tg iter : Expr} {es : List Expr} {te te' : TE} {fe : En → Option PyData} {tt tt' : TT} {cc : En → Option Bool} {g g' : TG} {gt : Tg} {wi wi' : TI} {src : En → Option (List PyData)}
/-! a block's reading names nothing of the block -/
theorem DE.kk (h : DE X e te fe) (ht : te = te' := by first | rfl | dsimp only [Cx.blk]) : DE X e te' fe := ht ▸ h
theorem DTs.kk (h : DTs X es tt cc) (ht : tt = tt' := by first | rfl | dsimp only [Cx.blk]) : DTs X es tt' cc := ht ▸ h
theorem DG.kk (h : DG X tg g gt) (ht : g = g' := by first | rfl | dsimp only [Cx.blk]) : DG X tg g' gt := ht ▸ h
theorem DI.kk (h : DI X tg iter wi src) (ht : wi = wi' := by first | rfl | dsimp only [Cx.blk]) : DI X tg iter wi' src := ht ▸ h
end
end M


namespace M
open PySem PySem.Spec PyProof.Rows L2 GenW

/-! ### for in the body of a generator -/
section
variable {P : Program} {w : World} {A : Around} {R : GenEnd} {Y : Protocol} {n : Nat} {s₀ : Shared} {c : Code} {fs : List Frame} {s : Shared} {env : Env}
theorem seg_For {target iter : Expr} {body : List Stmt} {pos : Pos} {K : Flow → Sem PySem.Fin} {H : Value → Sem PySem.Fin} {gd : Bool → Bool} {lv : List Value → List Value} (hs : ∀ x, foldedSetIterable iter env x = pure x)
    (h : wpAny (model P w) (A.over c fs) (eval iter env) (fun x s1 => wpAny (model P w) (A.over c fs) (pyIter x) (fun it s2 => ∀ p, Seg (model P w) A R Y n s₀ (.forLoop target it body [] env) ((model P w).den (.forLoop target it body [] env))
      (.ret (fun r => ((match r with | .ok f => (.pure f : Sem Flow) | .error e => .raise e).onRaise (cameBack env)).wrap K H gd lv) none (gd false) (lv []) c p [] :: fs) s2)
      (fun x s' => Seg (model P w) A R Y n s₀ c (H x) fs s') s1) (fun x s' => Seg (model P w) A R Y n s₀ c (H x) fs s') s) :
    Seg (model P w) A R Y n s₀ c ((exec (.For target iter body [] pos) env).wrap K H gd lv) fs s := by
  rw [exec_For]
  refine seg_bind_wrap (wpAny_standAt ?_)
  refine seg_bind_wrap (wpAny_mono h (fun x s1 h1 => ?_) fun _ _ z => z)
  refine seg_bind_wrap (wpAny_of_eq (hs x) ?_)
  refine seg_bind_wrap (wpAny_standAt ?_)
  refine seg_bind_wrap (wpAny_holding (wpAny_mono h1 (fun it s2 h2 => ?_) fun _ _ z => z))
  exact seg_call h2
/-- what a loop's code does with an exception -/
def noteX (env : Env) (x : Value) : Sem PySem.Fin := (do noteFrame x env; theTreesLotGoes x : Sem Unit).bind fun _ => .raise x
theorem seg_forLoop {target : Expr} {it : Value} {body : List Stmt}
    (h : wpAny (model P w) (A.over (.forLoop target it body [] env) fs) (pyNext it) (fun r s1 => match r with
        | none => Seg (model P w) A R Y n s₀ (.forLoop target it body [] env) (.pure (.again (.block [] env))) fs s1
        | some v => wpAny (model P w) (A.over (.forLoop target it body [] env) fs) (letOwnedTupleGo target it v) (fun _ s2 => wpAny (model P w) (A.over (.forLoop target it body [] env) fs) (assign target env v) (fun _ s3 =>
            Seg (model P w) A R Y n s₀ (.forLoop target it body [] env) ((execs body env).wrap (fun f => match f with
              | .next | .cont => .pure (.again (.forLoop target it body [] env))
              | .brk => .pure (.done .next)
              | .ret v => .pure (.done (.ret v))) (noteX env) id id) fs s3) (fun x s' => Seg (model P w) A R Y n s₀ (.forLoop target it body [] env) (noteX env x) fs s') s2) (fun x s' => Seg (model P w) A R Y n s₀ (.forLoop target it body [] env) (noteX env x) fs s') s1)
      (fun x s' => Seg (model P w) A R Y n s₀ (.forLoop target it body [] env) (noteX env x) fs s') s) :
    Seg (model P w) A R Y n s₀ (.forLoop target it body [] env) ((model P w).den (.forLoop target it body [] env)) fs s := by
  show Seg _ A R Y n s₀ _ ((forTurn target it body [] env).onRaise (fun x => do noteFrame x env; theTreesLotGoes x)) fs s
  rw [Sem.onRaise_eq_wrap]
  unfold forTurn
  refine seg_bind_wrap (wpAny_standAt ?_)
  refine seg_bind_wrap (wpAny_onRaise (wpAny_mono h (fun r s1 h1 => ?_) fun x s' hx => wpAny_standAt hx))
  cases r with
  | none => exact h1
  | some v =>
    refine seg_bind_wrap (wpAny_mono h1 (fun _ s2 h2 => ?_) fun x s' hx => hx)
    refine seg_bind_wrap (wpAny_mono h2 (fun _ s3 h3 => ?_) fun x s' hx => hx)
    rw [Sem.bind_eq_wrap', Sem.wrap_wrap]
    refine Eq.mp (congrArg (fun t => Seg (model P w) A R Y n s₀ (.forLoop target it body [] env) t fs s3) (Eq.symm ?_)) h3
    exact Sem.wrap_congr _ _ _ (fun f => by cases f <;> rfl) (fun e => rfl)
end
section
variable {X : Cx}
theorem gi_fewer {S : Addr} {ip pl : List (Addr × Obj)} {ys : List V} {σ : L2.St} {H : Hp} {s : Shared} (h : GI X S (ip ++ pl) ys σ H s) : GI X S ip ys σ H s := by
  obtain ⟨acc, c, r, I⟩ := h
  refine ⟨acc, c, r, I.pins_of fun p hp => I.pin p ?_⟩
  refine List.mem_append_right _ ?_
  rcases List.mem_cons.mp hp with z | z
  · rw [z]; exact List.mem_cons_self
  · exact List.mem_cons_of_mem _ (List.mem_append_left _ z)
def tGFor (wi : TI) (g : TG) (tb : TGn) : TGn := fun D ys σ H => wi σ H fun J H1 => ∃ W : Nat → Nat → List V → L2.St → Hp → Prop, (∃ m, W 0 m ys σ H1) ∧ ∀ i m ys σ H, W i m ys σ H →
  (J.stop i H ∧ D.nx ys σ H) ∨ (J.go i H ∧ ∃ N : List V → L2.St → Hp → Prop, (∀ ys' σ' H', N ys' σ' H' → ∃ m', m' < m ∧ W (i + 1) m' ys' σ' H') ∧ ∀ x H', J.yld i H x H' → g x σ H' fun σ2 H2 => tb { D with nx := N, ct := N, bk := D.nx } ys σ2 H2)
theorem gs_for {tg iter : Expr} {body : List Stmt} {wi : TI} {g : TG} {tb : TGn} {pos : Pos} (hp : PassesOwn (model X.prog X.w) X.A X.env X.xe) (hc : X.calm = true) (hi : PI X tg iter wi) (hg : PG X tg g) (hb : GSs X body tb)
    (hs : ∀ x, foldedSetIterable iter X.env x = pure x := by intro _; rfl) : GS X (.For tg iter body [] pos) (tGFor wi g tb) := by
  refine ⟨fun A S ip R n ys s₀ c fs K J gd lv s σ H D g0 hn k hI ht => ?_⟩
  obtain ⟨acc0, cc0, r0, I0⟩ := hI
  refine seg_For hs ?_
  rw [g0.over]
  refine wpAny_mono (hi.run _ s σ H _ I0 ht) (fun v s1 h1 => ?_) fun x s' hx => k.exc n s₀ x s' hx
  refine wpAny_mono h1 (fun itv s2 h2 p => ?_) fun x s' hx => k.exc n s₀ x s' hx
  obtain ⟨it, fp, tn, Jt, H2, e, I2, T, st2, f2, W, ⟨m0, w0⟩, turn⟩ := h2
  subst e
  have gl := fun (kk : Result → Sem PySem.Fin) => gc_loop (k := kk) (c' := .forLoop tg (.ref it) body [] X.env) (l := lv []) (kp := []) (p := p) g0 rfl rfl
  have fpS : ∀ b ∈ fp, b ≠ S := fun b hb => Ne.symm ((f2 b hb).2.2.2.2.2 (S, lstObj acc0 cc0) (List.mem_append_right _ List.mem_cons_self))
  have stat : ∀ {H' : Hp} {acc' : Array Value} {c' : Nat}, (∀ b ∈ fp, H' b = none) → ∀ b ∈ fp, FpOk X ((S, lstObj acc' c') :: ip) H' b := fun {H' acc' c'} hn b hb => by
    obtain ⟨_, f1, f3, f4, f5, f6⟩ := f2 b hb
    refine ⟨hn b hb, f1, f3, f4, f5, fun p hp => ?_⟩
    rcases List.mem_append.mp hp with z | z
    · exact f6 p (List.mem_append_left _ z)
    · rcases List.mem_cons.mp z with z | z
      · rw [z]; exact f6 (S, lstObj acc0 cc0) (List.mem_append_right _ List.mem_cons_self)
      · exact f6 p (List.mem_append_right _ (List.mem_cons_of_mem _ z))
  have loop : ∀ (m n i : Nat) (ys : List V) (s₀ s : Shared) (σ : L2.St) (H : Hp), n + ys.length = sizeLine → W i m ys σ H → GI X S ip ys σ H s → tn i s.heap → (∀ b ∈ fp, H b = none) →
      Seg (model X.prog X.w) A R (GY X S) n s₀ (.forLoop tg (.ref it) body [] X.env) ((model X.prog X.w).den (.forLoop tg (.ref it) body [] X.env))
        (.ret (fun r => ((match r with | .ok f => (.pure f : Sem Flow) | .error e => .raise e).onRaise (cameBack X.env)).wrap K J gd lv) none (gd false) (lv []) c p [] :: fs) s := by
    intro m
    induction m using Nat.strongRecOn with
    | ind m ih =>
      intro n i ys s₀ s σ H hn w hI st fr
      have ee : ∀ (n : Nat) (s₀ : Shared) (x : Value) (s' : Shared), X.xe x s' → Seg (model X.prog X.w) A R (GY X S) n s₀ (.forLoop tg (.ref it) body [] X.env) (noteX X.env x)
          (.ret (fun r => ((match r with | .ok f => (.pure f : Sem Flow) | .error e => .raise e).onRaise (cameBack X.env)).wrap K J gd lv) none (gd false) (lv []) c p [] :: fs) s' := fun n s₀ x s' hx => by
        unfold noteX
        rw [Sem.bind_eq_wrap]
        refine seg_wrap ?_
        rw [(gl _).over]
        refine wpAny_bind (wpAny_mono (hp x s' hx) (fun _ s'' hcb => wpAny_theTreesLotGoes ?_) fun y s'' hcb => ?_)
        · exact seg_leaf (.error x) (seg_cameBack g0 k hcb)
        · exact seg_leaf (.error y) (seg_cameBack g0 k hcb)
      refine seg_forLoop ?_
      rw [(gl _).over]
      obtain ⟨acc, cc, r, I⟩ := hI
      rcases turn i m ys σ H w with ⟨stop, qn⟩ | ⟨go, N, hN, step⟩
      · refine wpAny_mono (T.done X rfl rfl rfl hc i _ s σ H X.xe I (stat fr) st stop) (fun r' s4 h4 => ?_) fun x s' hx => ee n s₀ x s' hx
        obtain ⟨hr, I4⟩ := h4
        subst hr
        exact seg_again rfl (seg_leaf (.ok .next) (k.ok n ys s₀ s4 .next hn ⟨σ, H, ⟨acc, cc, r, I4⟩, qn⟩))
      · refine wpAny_mono (T.item X rfl rfl rfl hc i _ s σ H X.xe I (stat fr) st go) (fun r' s4 h4 => ?_) fun x s' hx => ee n s₀ x s' hx
        obtain ⟨u, hr, h4⟩ := h4
        subst hr
        refine wpAny_mono h4 (fun _ s5 h5 => ?_) fun x s' hx => ee n s₀ x s' hx
        obtain ⟨x, H5, I5, r5, y5, st5, fr5⟩ := h5
        have I5' := I5.pinned (stat fr5) (T.obj _ _ st5)
        refine wpAny_mono (hg.run _ s5 σ H5 x u _ I5' r5 (step x H5 y5)) (fun _ s6 h6 => ?_) fun x s' hx => ee n s₀ x s' hx
        obtain ⟨σ6, H6, I6, q6⟩ := h6
        have g2 := gl fun r => ((match r with | .ok f => (.pure f : Sem Flow) | .error e => .raise e).onRaise (cameBack X.env)).wrap K J gd lv
        have g3 : GC X S (ip ++ pinsAt fp s5.heap) A (.forLoop tg (.ref it) body [] X.env) (.ret (fun r => ((match r with | .ok f => (.pure f : Sem Flow) | .error e => .raise e).onRaise (cameBack X.env)).wrap K J gd lv) none (gd false) (lv []) c p [] :: fs) id :=
          ⟨g2.pn, fun q hq => (List.mem_append.mp hq).elim (g2.ip q) fun z => fpS _ (of_pinsAt z).1, g2.apart, g2.over, g2.split, g2.guard, g2.gd⟩
        refine hb.run A S (ip ++ pinsAt fp s5.heap) R n ys s₀ _ _ _ _ id id s6 σ6 H6 { D with nx := N, ct := N, bk := D.nx } g3 hn ⟨fun n' ys' s₀' s7 f hn' hs => ?_, fun n' s₀' x s3 hx => ee n' s₀' x s3 hx⟩ ⟨acc, cc, r, I6⟩ q6
        have again : ∀ {σ7 : L2.St} {H7 : Hp}, GI X S (ip ++ pinsAt fp s5.heap) ys' σ7 H7 s7 → N ys' σ7 H7 → Seg (model X.prog X.w) A R (GY X S) n' s₀' (.forLoop tg (.ref it) body [] X.env) (.pure (.again (.forLoop tg (.ref it) body [] X.env)))
            (.ret (fun r => ((match r with | .ok f => (.pure f : Sem Flow) | .error e => .raise e).onRaise (cameBack X.env)).wrap K J gd lv) none (gd false) (lv []) c p [] :: fs) s7 := fun {σ7 H7} hG n7 => by
          obtain ⟨m', hm, w7⟩ := hN ys' σ7 H7 n7
          have hF := gi_fewer hG
          obtain ⟨a7, c7, r7, I7⟩ := hG
          have pin7 : ∀ b ∈ fp, ∀ o, s5.heap.get? b = some o → s7.heap.get? b = some o ∧ H7 b = none := fun b hb o e => by
            have := I7.pin (b, o) (List.mem_append_right _ (List.mem_cons_of_mem _ (List.mem_append_right _ (mem_pinsAt hb e))))
            exact ⟨this.1, this.2.1⟩
          refine seg_again rfl (ih m' hm n' (i + 1) ys' s₀' s7 σ7 H7 hn' w7 hF (T.keep _ _ _ st5 fun b hb o e => (pin7 b hb o e).1) fun b hb => ?_)
          obtain ⟨o, e, _⟩ := T.obj _ _ st5 b hb
          exact (pin7 b hb o e).2
        cases f with
        | next => obtain ⟨σ7, H7, I7, n7⟩ := hs; exact again I7 n7
        | cont => obtain ⟨σ7, H7, I7, n7⟩ := hs; exact again I7 n7
        | brk =>
          obtain ⟨σ7, H7, I7, n7⟩ := hs
          exact seg_leaf (.ok .next) (k.ok n' ys' s₀' s7 .next hn' ⟨σ7, H7, gi_fewer I7, n7⟩)
        | ret v =>
          obtain ⟨x7, σ7, H7, I7, rv7, n7⟩ := hs
          exact seg_leaf (.ok (.ret v)) (k.ok n' ys' s₀' s7 (.ret v) hn' ⟨x7, σ7, H7, gi_fewer I7, rv7, n7⟩)
  exact loop m0 n 0 ys s₀ s2 σ H2 hn w0 ⟨acc0, cc0, r0, I2⟩ st2 fun b hb => (f2 b hb).1
end
end M


namespace M
open PySem PySem.Spec PyProof.Rows L2 GenW
/-! ### generator defs by data -/
section
variable {X : Cx}
theorem ps_nox {st : Stmt} {t : TS} (h : PS X.nox st t) : PS X st t := ⟨fun pins s σ H D I hw =>
  wpAny_mono (h.run pins s σ H D (I.wish _) hw) (fun _ _ q => q.unwish) fun _ _ z => False.elim z⟩
end
/-- what a generator's body hands out -/
def RGS (K : PySem.W.Frag) (t : TGn) (T : TD) : Prop := ∀ (F0 H0 F H : Hp) (ε : En) (σ : L2.St) (R : DEnds) (D : GEnds), Rel K F0 H0 F H ε σ → T R ε →
  (∀ σ' F' H' out ds, Step F0 H0 F' H' → Same F F' → DnAll K F' out ds → R.rt (.f (.list ds)) → D.nx out σ' H') → t D [] σ H
def gSeq (T U : TD) : TD := fun R ε => T ⟨U R, fun _ => False, fun _ => False, fun _ => False⟩ ε
@[simp ↓] theorem gSeq_e {T U : TD} {R : DEnds} {ε : En} : gSeq T U R ε = T ⟨U R, fun _ => False, fun _ => False, fun _ => False⟩ ε := rfl
theorem rgs_seq {K : PySem.W.Frag} {t : TS} {u : TGn} {T U : TD} (a : RS K t T) (b : RGS K u U) : RGS K (tGThen (tPlain t) u) (gSeq T U) := fun F0 H0 F H ε σ R D r h k =>
  a F0 H0 F H ε σ _ _ r h ⟨fun ε' σ' F' H' r' z h' => b F0 H0 F' H' ε' σ' R D r' h' fun σ2 F2 H2 out ds s z2 d h2 => k σ2 F2 H2 out ds s (z.trans z2) d h2, fun _ _ _ _ h => h.elim, fun _ _ _ _ _ _ h => h.elim, fun _ _ _ _ _ _ h => h.elim⟩
def gYld (f : En → Option (List PyData)) (i : Nat) : TD := fun R ε => i < ε.length ∧ exO (f ε) (fun ds => ds.length ≤ sizeLine ∧ R.rt (.f (.list ds))) ⟨⟩
@[simp ↓] theorem gYld_e {f : En → Option (List PyData)} {i : Nat} {R : DEnds} {ε : En} : gYld f i R ε = (i < ε.length ∧ exO (f ε) (fun ds => ds.length ≤ sizeLine ∧ R.rt (.f (.list ds))) ⟨⟩) := rfl
theorem DnAll.snoc {K : PySem.W.Frag} {F : Hp} {vs : List V} {ds : List PyData} {v : V} {d : PyData} (a : DnAll K F vs ds) (h : Dn K F v d) : DnAll K F (vs ++ [v]) (ds ++ [d]) := a.append (.cons h .nil)
theorem DnAll.same' {K : PySem.W.Frag} {F F' : Hp} (e : Same F F') {vs : List V} {ds : List PyData} (a : DnAll K F vs ds) : DnAll K F' vs ds := DnAll.same e ds vs a
/-- for x in e: yield x -/
theorem rgs_yld {K : PySem.W.Frag} {wi : TI} {g : TG} {i : Nat} {f : En → Option (List PyData)} (hi : RI K wi f) (hg : RG K g (.nm i)) : RGS K (tGFor wi g (tGThen (tGYield (tVar i)) tG0)) (gYld f i) := fun F0 H0 F H ε σ R D r ⟨hiL, ds, e, hl, hrt⟩ k => by
  refine hi F H ε σ ds _ r.e e fun J F1 H1 s1 W => ?_
  refine ⟨fun j m ys σ H => m = ds.length - j ∧ j ≤ ds.length ∧ ∃ F ε, Rel K F0 H0 F H ε σ ∧ Same F1 F ∧ DnAll K F ys (ds.take j) ∧ i < ε.length, ⟨_, rfl, Nat.zero_le _, F1, ε, r.step s1, Same.refl _, .nil, hiL⟩, ?_⟩
  rintro j m ys σ2 H2 ⟨rfl, hj, F2, ε2, r2, sm, hd, hi2⟩
  obtain ⟨w1, w2⟩ := W j F2 H2 sm r2.e.sub
  by_cases hlt : j < ds.length
  · obtain ⟨g1, g2⟩ := w1 ds[j] (List.getElem?_eq_getElem hlt)
    refine .inr ⟨g1, fun ys' σ' H' => ∃ F ε, Rel K F0 H0 F H' ε σ' ∧ Same F1 F ∧ DnAll K F ys' (ds.take (j + 1)) ∧ i < ε.length, fun ys' σ' H' ⟨F', ε', a, b, c', d'⟩ => ⟨ds.length - (j + 1), by omega, rfl, hlt, F', ε', a, b, c', d'⟩, fun x H3 y => ?_⟩
    obtain ⟨F3, s3, d3⟩ := g2 x H3 y
    refine hg F0 H0 F3 H3 ε2 σ2 x _ (ε2.set i (some (.f ds[j]))) _ (r2.step s3) d3 rfl fun σ4 r4 => ?_
    have hlen := hd.length
    rw [List.length_take] at hlen
    refine ⟨by omega, ?_⟩
    refine re_var F3 H3 _ σ4 ds[j] _ r4.e (by unfold getF; rw [List.getElem?_set_self hi2]) fun v F5 H5 s5 dn => ?_
    refine ⟨F5, _, r4.step s5, sm.trans (s3.f.trans s5.f), ?_, by rw [List.length_set]; exact hi2⟩
    rw [List.take_add_one, List.getElem?_eq_getElem hlt]
    exact DnAll.snoc (DnAll.same' (s3.f.trans s5.f) hd) dn
  · have e' : j = ds.length := by omega
    subst e'
    rw [List.take_length] at hd
    exact .inl ⟨w2 rfl, k _ _ _ _ _ r2.st (s1.f.trans sm) hd hrt⟩
def GSp (K : PySem.W.Frag) (g : List PyData → Option (List PyData)) : SpG := fun vs H Q _ => ∃ F ds d, Same F H ∧ DnAll K F vs ds ∧ g ds = some d ∧ ∀ out F' H', Step F H F' H' → DnAll K F' out d → Q out H'
section
variable {P : Program} {w : World} {K : PySem.W.Frag} {mg : Str → Option Value} {base : Heap}
theorem defG {x qual : Str} {st : Stmt} {f : Addr} {fd : FuncData} {N ps : List Str} {k : Nat} {g : List PyData → Option (List PyData)} {T : TD} (F : Fun K x qual st f fd) (S : GScope N ps (defScope st))
    (body : ∀ (cdv : Value) (A : Around) (outer : List Env) (s : Shared) (H : Hp) (E : XK) (pn : List (Addr × Obj)), Room k (A.deeper (envOfC qual (defScope st) s.heap.objs.size f cdv)) → ∃ t, GSs (gcxOf P w K mg base N qual (defScope st) f cdv A outer s H E pn) (defBody st) t ∧ RGS K t T)
    (pure : ∀ ds d, g ds = some d → ds.length = ps.length ∧ T { nx := fun _ => False, rt := fun s => s = .f (.list d) } (startE N ds)) : GFn P w K mg base (k + 1) f fd ps (GSp K g) := by
  obtain ⟨oc, od, kV, doc, pm, an, cdv, ct, osl, rfl, lk, hcd⟩ := F.ex
  refine gfn_of lk hcd S (fun vs H Q E ⟨F1, ds, d, s1, a, e, q⟩ => by rw [a.length]; exact (pure ds d e).1) fun A outer s H vs Q E pn hr ⟨F1, ds, d, s1, a, e, q⟩ => ?_
  obtain ⟨t, h1, h2⟩ := body cdv A outer s H E pn hr
  refine ⟨t, h1, h2 F1 H F1 H _ _ _ _ (startE_rel s1 a) (pure ds d e).2 fun σ' F' H' out ds' st z dn hrt => ?_⟩
  cases hrt
  exact q out F' H' st dn
structure CalG (P : Program) (w : World) (K : PySem.W.Frag) (mg : Str → Option Value) (base : Heap) (x : Str) (k : Nat) (sp : SpG) : Prop where
  ex : ∃ (fa : Addr) (fd : FuncData) (ps : List Str), GFn P w K mg base k fa fd ps sp ∧ mg x = some (.ref fa) ∧ PySem.W.keepIn K (.ref fa) = true ∧ Binds K fd ps []
end
section
variable {X : Cx} {e : Expr} {es : List Expr} {t : TA} {f : En → Option (List PyData)} {x nm : Str} {p p2 pos pos2 : Pos} {k j : Nat}
theorem pass_no : Passes (CX X.prog X.w) X fun _ _ _ => False := fun _ _ _ _ _ _ _ h => by
  obtain ⟨_, _, _, _, _, _, _, _, _, _, _, _, h⟩ := h
  exact h.elim
theorem dl_listG {g : List PyData → Option (List PyData)} (c : CalG X.prog X.w X.K X.mg X.base x k (GSp X.K g)) (hr : Room j X.A) (hm : X.mg nm = none) (hn : nm = "list") (ha : DA X (e :: es) t f) (hj : k + 3 ≤ j := by decide) (hg : Gl X x := by rfl) (hg2 : Gl X nm := by rfl) (hdb : (x == ("__debug__" : Str)) = false := by decide)
    (he : starEach (e :: es) X.env = (false, eval e X.env) :: starEach es X.env := by rfl) (hpl : (backTo pos (starEach es X.env)).any (·.1) = false := by rfl)
    (he2 : starEach [.Call (.Name x p) (e :: es) [] pos] X.env = (false, eval (.Call (.Name x p) (e :: es) [] pos) X.env) :: starEach [] X.env := by rfl) : DL X (.Call (.Name nm p2) [.Call (.Name x p) (e :: es) [] pos] [] pos2) (tListG (tCallG (GSp X.K g) [] (fun _ _ _ => False) t)) (fun ε => (f ε).bind g) := by
  subst hn
  obtain ⟨fa, fd, ps, G, h1, h2, h3⟩ := c.ex
  refine ⟨pe_listG (pgen_call G (hr.mono (by omega)) hg h1 h2 h3 .nil ha.p hdb he hpl) pass_no (fun _ _ _ h => h.elim) (hr.mono hj) hg2 hm (by rfl) (by decide) (by decide) he2, fun F H ε σ ds Q r e0 q => ?_⟩
  obtain ⟨as, e1, e2⟩ := Option.bind_eq_some_iff.mp e0
  refine ha.r F H ε σ as _ r e1 fun vs F1 H1 s1 d1 => ?_
  rw [List.append_nil]
  refine ⟨F1, as, ds, s1.s, d1, e2, fun out F2 H2 s2 d2 p hp => ?_⟩
  have st := (s1.trans s2)
  have n1 : H p = none := by
    cases hz : H p with
    | none => rfl
    | some o => have := st.h p o hz; rw [hp] at this; cases this
  have n2 : F2 p = none := by
    cases hz : F2 p with
    | none => rfl
    | some o => have := st.s p o hz; rw [hp] at this; cases this
  exact q p out F2 _ (st.trans (new_lst st.s hp).1) n1 n2 upd_same d2
end
section
variable {X : Cx} {st : Stmt} {body : List Stmt} {t : TS} {u : TGn} {T U : TD} {tg iter e : Expr} {wi : TI} {g : TG} {i : Nat} {f : En → Option (List PyData)} {yp pos pos1 : Pos}
structure GD (X : Cx) (body : List Stmt) (t : TGn) (T : TD) : Prop where
  p : GSs X body t
  r : RGS X.K t T
theorem gd_cons (a : DS X.nox st t T) (b : GD X body u U) : GD X (st :: body) (tGThen (tPlain t) u) (gSeq T U) := ⟨gss_cons (gs_ps (ps_nox a.p)) b.p, rgs_seq a.r b.r⟩
theorem gd_yld (hp : PassesOwn (model X.prog X.w) X.A X.env X.xe) (hc : X.calm = true) (hi : DI X tg iter wi f) (hg : DG X tg g (.nm i)) (he : PE X e (tVar i)) (hs : ∀ x, foldedSetIterable iter X.env x = pure x := by intro _; rfl)
    (hco : X.env.scope.isCoroutine = false := by rfl) (hin : interactive X.env = false := by rfl) : GD X [.For tg iter [.Expr (.Yield (some e) yp) pos1] [] pos] (tGThen (tGFor wi g (tGThen (tGYield (tVar i)) tG0)) tG0) (gYld f i) :=
  ⟨gss_cons (gs_for hp hc hi.p hg.p (gss_cons (gs_yield he hco hin) gss_nil) hs) gss_nil, rgs_yld hi.r hg.r⟩
end
end M


namespace M
open PySem PySem.Spec PyProof.Rows L2 PySem.Froz

/-! ### sets of texts: made from a list, sorted -/
def keyX (e : Int × Value) : Str := match e.2 with | .str k _ => k | _ => ⟨#[]⟩
structure SxOk (P : Program) (w : World) (D : SD) (l : List Str) : Prop where
  tx : TxOk P w D l
  good : ∀ e ∈ D.1.toList, ∃ u, e.2 = Value.str (keyX e) u
  perm : (D.1.toList.map keyX).Perm l
  ris : Ris D.2.2.place.toList
  led : w.params.followText "set-order" = true ∨ D.2.2.led = true
def SetX (P : Program) (w : World) (h : Heap) (a : Addr) (l : List Str) : Prop := ∃ D : SD, h.get? a = some (sObj "set" D) ∧ SxOk P w D l
section
variable {P : Program} {w : World} {A : Around} {E : Value → Shared → Prop} {s : Shared}
theorem SetX.at {h h' : Heap} {a : Addr} {l : List Str} (R : SetX P w h a l) (k : ∀ o, h.get? a = some o → h'.get? a = some o) : SetX P w h' a l := by
  obtain ⟨D, ho, r⟩ := R
  exact ⟨D, k _ ho, r⟩
theorem sx_tail {ep : Nat} {es1 : Array (Int × Value)} {t2 : SetTable} {wd : Bool} {l : List Str} (F : SxOk P w (es1, ep, t2) l) : SxOk P w (tailTx ep es1 t2 wd) l := by
  have T := tail_ok (wasDummy := wd) F.tx
  by_cases c : (!wd && t2.tooFull) = true
  · have e : tailTx ep es1 t2 wd = ((relayAll t2 es1 (SetTable.grown es1.size)).1, ep + 2, (relayAll t2 es1 (SetTable.grown es1.size)).2.1) := by unfold tailTx; rw [if_pos c]
    rw [e] at T ⊢
    have pm := relayAll_perm t2 es1 (SetTable.grown es1.size)
    exact ⟨T, fun x hx => F.good x (pm.mem_iff.mp hx), (pm.map keyX).trans F.perm, relayAll_ris t2 es1 _, F.led.imp id fun z => by rw [relayAll_led]; exact z⟩
  · have e : tailTx ep es1 t2 wd = (es1, ep + 1, t2) := by unfold tailTx; rw [if_neg c]
    rw [e] at T ⊢
    exact ⟨T, F.good, F.perm, F.ris, F.led⟩
theorem sx_add {D : SD} {l : List Str} {k : Str} (u : Tok) (F : SxOk P w D l) : SxOk P w (addTx (hashStr w k) (.str k u) D) (k :: l) := by
  obtain ⟨es, ep, t⟩ := D
  have hp := layNew_perm t es (hashStr w k) (.str k u)
  have hf := layNew_fits t es (hashStr w k) (.str k u)
  have hr := layNew_ris t es (hashStr w k) (.str k u) F.ris
  have hl := layNew_led t es (hashStr w k) (.str k u)
  show SxOk P w (tailTx ep (layNew t es (hashStr w k) (.str k u)).1 (if (layNew t es (hashStr w k) (.str k u)).2.1.plain = true then { (layNew t es (hashStr w k) (.str k u)).2.1 with plain := false } else (layNew t es (hashStr w k) (.str k u)).2.1) (layNew t es (hashStr w k) (.str k u)).2.2.1) (k :: l)
  have hp' := hp
  rw [Array.toList_push] at hp'
  refine sx_tail ⟨F.tx.push hp ?_, fun x hx => ?_, ?_, ?_, ?_⟩
  · by_cases c : (layNew t es (hashStr w k) (.str k u)).2.1.plain = true
    · rw [if_pos c]; exact SetTable.fits_plain_off hf
    · rw [if_neg c]; exact hf
  · rcases List.mem_append.mp (hp'.mem_iff.mp hx) with z | z
    · exact F.good x z
    · rw [List.mem_singleton.mp z]; exact ⟨u, rfl⟩
  · refine (hp'.map keyX).trans ?_
    rw [List.map_append]
    exact (List.perm_append_comm).trans (List.Perm.cons k F.perm)
  · by_cases c : (layNew t es (hashStr w k) (.str k u)).2.1.plain = true
    · rw [if_pos c]; exact hr
    · rw [if_neg c]; exact hr
  · refine F.led.imp id fun z => ?_
    by_cases c : (layNew t es (hashStr w k) (.str k u)).2.1.plain = true
    · rw [if_pos c]; exact hl.trans z
    · rw [if_neg c]; exact hl.trans z
theorem sx_nil {ep : Nat} : SxOk P w (#[], ep, .fresh 0 0 (!w.params.followText "set-order")) [] :=
  ⟨TxOk.nil (by rfl), fun e he => by simp at he, .nil, List.Pairwise.nil, by
    show _ ∨ (!w.params.followText "set-order") = true
    cases w.params.followText "set-order"
    · exact .inr rfl
    · exact .inl rfl⟩
/-- l holds the texts of ns, each once -/
structure SetOf (l ns : List Str) : Prop where
  nd : l.Nodup
  mem : ∀ z, z ∈ l ↔ z ∈ ns
  len : l.length ≤ ns.length
theorem SetOf.perm {l l' ns : List Str} (h : SetOf l ns) (p : l'.Perm l) : SetOf l' ns := ⟨p.nodup_iff.mpr h.nd, fun z => p.mem_iff.trans (h.mem z), by rw [p.length_eq]; exact h.len⟩
/-- a text that is there already -/
theorem add_old {P : Program} {w : World} {A : Around} {E : Value → Shared → Prop} {s : Shared} {a : Addr} {T : String} {D : SD} {l : List Str} {k : Str} {u : Tok} {Q : Bool → Shared → Prop} (ho : s.heap.get? a = some (sObj T D)) (F : TxOk P w D l) (hk : k ∈ l) (hb : l.length < scanBound)
    (h : Q false s) : wpAny (model P w) A (setAddHashed a (.str k u) (hashStr w k)) Q E s := by
  obtain ⟨es, ep, t⟩ := D
  have hd : (sObj T (es, ep, t)).data = .set es ep t := rfl
  have hf : t.fits es.size = true := F.fit
  have hel : ElemsOf (strKind P w) es.toList := F.el
  have hsz : es.size = l.length := F.sz
  have hb0 : es.size < scanBound := by omega
  have hkey : (strKind P w).is k (.str k u) = true := is_str k u
  obtain ⟨e, he, hp⟩ := (F.mem k).mp hk
  have hsome : ∃ j, List.findIdx? (fun e => (strKind P w).is k e.2) es.toList = some j := by
    cases hr : List.findIdx? (fun e => (strKind P w).is k e.2) es.toList with
    | some j => exact ⟨j, rfl⟩
    | none =>
      have := List.findIdx?_eq_none_iff.mp hr e he
      rw [hp] at this
      cases this
  obtain ⟨j, hj⟩ := hsome
  unfold setAddHashed setAddHashedIn
  refine wpAny_holding (wpAny_bind (wpAny_setState_of ho hd hf ?_))
  dsimp only
  rw [byScan_of rfl hb0 hel]
  simp only [↓reduceIte]
  unfold setAddByScan
  refine wpAny_bind ?_
  refine wpAny_bind (wpAny_rule ?_)
  refine wpAny_bind (wpAny_setScan_of (knd := strKind P w) (k := k) hkey ho hd hf hel ?_)
  rw [hj]
  dsimp only
  refine wpAny_pure ?_
  dsimp only
  exact wpAny_pure h
theorem set_update_texts {I : Addr} {fp wr : List Addr} {G : Array GenState → Array GenState → Prop} {n : Nat} {Pv : Nat → Value → Prop} {St : Nat → Shared → Prop} {R : Result → Shared → Prop}
    (W : WalksS P w A.in1 I fp wr G n Pv St) (S : Addr) (hSf : S ∉ fp) (ns : List Str) (hn : n = ns.length) (hb : ns.length + 1 < scanBound) (hval : ∀ i v, Pv i v → ∃ k t, ns[i]? = some k ∧ v = .str k t) :
    ∀ (k i : Nat) (s : Shared), n - i = k → i ≤ n → St i s → (∃ l, SetOf l (ns.take i) ∧ SetX P w s.heap S l) →
      (∀ s' l, Moved (S :: wr) G s s' → SetOf l ns → SetX P w s'.heap S l → R (.ok (.ret .none)) s') →
      codeAny (model P w) A (.builtin "set.update.loop" ⟨[.ref S, .ref I], []⟩) R s := by
  have hSw : S ∉ wr := fun h => hSf (W.sub _ h)
  have hsub : ∀ b ∈ wr, b ∈ S :: wr := fun b hb => List.mem_cons_of_mem _ hb
  intro k
  induction k with
  | zero =>
    intro i s hk' hi hst ⟨l, hl, hS⟩ hR
    have hin : i = n := by omega
    subst hin
    refine codeAny_builtin F.entry_set_update_loop ?_
    rw [Around.under_plainId F.plain_set_update_loop _]
    show wpAny _ A.in1 (pyNext (.ref I) >>= _) _ _ s
    refine wpAny_bind (W.done s _ _ hst fun s' hm => ?_)
    show wpAny _ A.in1 (ret Value.none) _ _ s'
    rw [List.take_of_length_le (by omega)] at hl
    exact wpAny_pure (hR s' l (hm.mono hsub) hl (hS.at fun o e => hm.heap S o hSw e))
  | succ k ih =>
    intro i s hk' hi hst ⟨l, hl, hS⟩ hR
    have hlt : i < n := by omega
    refine codeAny_builtin F.entry_set_update_loop ?_
    rw [Around.under_plainId F.plain_set_update_loop _]
    show wpAny _ A.in1 (pyNext (.ref I) >>= _) _ _ s
    refine wpAny_bind (W.item i s _ _ hlt hst fun v s' hP hst' hm => ?_)
    obtain ⟨z, t, hz, rfl⟩ := hval i v hP
    obtain ⟨D, hD, FD⟩ : SetX P w s'.heap S l := hS.at fun o e => hm.heap S o hSw e
    have hll : l.length + 1 < scanBound := by
      have := hl.len
      rw [List.length_take] at this
      omega
    have htk : ns.take (i + 1) = ns.take i ++ [z] := by rw [List.take_add_one, hz]; rfl
    show wpAny _ A.in1 (holding [Value.str z t] (setAdd S (.str z t)) >>= _) _ _ s'
    refine wpAny_bind (wpAny_holding ?_)
    unfold setAdd
    refine wpAny_holding ?_
    refine wpAny_bind ((strKind P w).pyHash (k := z) (is_str _ _) ?_)
    by_cases hzl : z ∈ l
    · refine add_old (s := { s' with toks := s'.toks + 1 }) hD FD.tx hzl (by omega) ?_
      have hS3 : ∃ l', SetOf l' (ns.take (i + 1)) ∧ SetX P w s'.heap S l' := by
        refine ⟨l, ⟨hl.nd, fun y => ?_, ?_⟩, _, hD, FD⟩
        · rw [htk, List.mem_append, List.mem_singleton, hl.mem y]
          constructor
          · exact .inl
          · rintro (h | rfl)
            · exact h
            · exact (hl.mem y).mp hzl
        · have := hl.len
          rw [htk, List.length_append]
          omega
      refine wpAny_pure ⟨plainId_quiet F.plain_set_update_loop _, ih (i + 1) _ (by omega) hlt (W.frame _ s' _ _ hst' (Nat.le_succ _) fun b hb o e => e) hS3 fun s'' l2 hm'' hl'' hS'' => ?_⟩
      exact hR s'' l2 (Moved.trans W.gtrans ((hm.mono hsub).then_heap (Nat.le_succ _) fun b o hb e => e) hm'') hl'' hS''
    · refine add_x (s := { s' with toks := s'.toks + 1 }) hD FD.tx hzl hll ?_
      have hget : (s'.heap.update S (fun _ => sObj "set" (addTx (hashStr w z) (.str z t) D))).get? S = some (sObj "set" (addTx (hashStr w z) (.str z t) D)) := get_upd _ hD rfl
      have hoth : ∀ b, b ≠ S → (s'.heap.update S (fun _ => sObj "set" (addTx (hashStr w z) (.str z t) D))).get? b = s'.heap.get? b := fun b hb => Heap.get?_update_other _ _ (Ne.symm hb)
      have hS3 : ∃ l', SetOf l' (ns.take (i + 1)) ∧ SetX P w (s'.heap.update S (fun _ => sObj "set" (addTx (hashStr w z) (.str z t) D))) S l' := by
        refine ⟨z :: l, ⟨List.nodup_cons.mpr ⟨hzl, hl.nd⟩, fun y => ?_, ?_⟩, _, hget, sx_add t FD⟩
        · rw [htk, List.mem_append, List.mem_singleton, List.mem_cons, hl.mem y, or_comm]
        · have := hl.len
          rw [htk, List.length_append, List.length_cons, List.length_singleton]
          omega
      refine wpAny_pure ⟨plainId_quiet F.plain_set_update_loop _, ih (i + 1) _ (by omega) hlt (W.frame _ s' _ _ hst' (Nat.le_succ _) fun b hb o e => ?_) hS3 fun s'' l2 hm'' hl'' hS'' => ?_⟩
      · rw [hoth b (fun h : b = S => hSf (by rw [← h]; exact hb))]; exact e
      · refine hR s'' l2 (Moved.trans W.gtrans ((hm.mono hsub).then_heap (Nat.le_succ _) fun b o hb e => ?_) hm'') hl'' hS''
        rw [hoth b (fun h : b = S => hb (by rw [h]; exact List.mem_cons_self))]; exact e
theorem code_set_led2 (a : Value) {Q₁ : Value → Shared → Prop}
    (h : Q₁ (.ref s.heap.objs.size) { s with heap := s.heap.push { cls := .type "set", dict := none, data := .set #[] 0 (.fresh 0 0 (!w.params.followText "set-order")) } }) :
    codeAny (model P w) A (.call (.builtin "set.__new__") ⟨[.type "set", a], []⟩) (wants Q₁ E) s := code_set_led1 a h
theorem call_set_lstT {l : Addr} {items : Array Value} (ns : List Str) {Q : Value → Shared → Prop} (hh : A.handled = none) (hl : s.heap.IsList l items) (hisz : items.size = ns.length) (hb : ns.length + 1 < scanBound)
    (hval : ∀ (i : Nat) (v : Value), items[i]? = some v → ∃ k t, ns[i]? = some k ∧ v = .str k t)
    (h : ∀ (h' : Heap) (tk : Nat) (l' : List Str), SetOf l' ns → SetX P w h' s.heap.objs.size l' → (∀ b o, s.heap.get? b = some o → h'.get? b = some o) → Q (.ref s.heap.objs.size) { s with heap := h', toks := tk }) :
    wpAny (model P w) A (call (.type "set") [.ref l]) Q E s := by
  obtain ⟨c, tl, hmro⟩ := F.called_set.mro
  have hmade := F.called_set.made
  have hsub := F.called_set.sub
  refine wpAny_call (codeAny_of_tree ?_)
  show wpAny _ _ (callAny (.type "set") _) _ _ _
  refine wpAny_pure ⟨Code.quiet_builtin _ (by decide +kernel), codeAny_builtin F.entry_type_call ?_⟩
  rw [Around.under_plain (weight_type_call_type "set" [.ref l] []) rfl]
  have h1 := F.called_set.notType
  have h2 := F.called_set.canCreate
  have hct := F.typeCall_set_1 (.ref l)
  repeat (any_goals (first | assumption | wp_step))

  refine codeAny_mono (code_set_led1 (.ref l) (E := E) (Q₁ := fun obj s₁ => obj = .ref s.heap.objs.size ∧ s₁ = { s with heap := s.heap.push { cls := .type "set", dict := none, data := .set #[] 0 (.fresh 0 0 (!w.params.followText "set-order")) } }) ⟨rfl, rfl⟩) fun r s₁ hr => ?_
  cases r with
  | error e => exact hr
  | ok fl =>
    cases fl with
    | ret obj =>
      obtain ⟨rfl, rfl⟩ := hr
      have hS : (s.heap.push { cls := .type "set", dict := none, data := .set #[] 0 (.fresh 0 0 (!w.params.followText "set-order")) }).get? s.heap.objs.size = some { cls := .type "set", dict := none, data := .set #[] 0 (.fresh 0 0 (!w.params.followText "set-order")) } := Heap.get?_push_size _ rfl
      have hT : Shared.TypeIs { s with heap := s.heap.push { cls := .type "set", dict := none, data := .set #[] 0 (.fresh 0 0 (!w.params.followText "set-order")) } } (.ref s.heap.objs.size) "set" := ⟨_, hS, rfl⟩
      have hli := F.called_set.init.lookup
      have hbi := F.called_set.init.bind (.ref s.heap.objs.size)
      repeat (any_goals (first | assumption | wp_step))

      refine codeAny_mono (codeAny_call_builtin (R := wants (fun r s₂ => r = .none ∧ ∃ h' tk l', s₂ = { s with heap := h', toks := tk } ∧ SetOf l' ns ∧ SetX P w h' s.heap.objs.size l' ∧
          (∀ b o, s.heap.get? b = some o → h'.get? b = some o)) E) F.called_set.init.plain F.entry_set_init (check_set_init_1 hT ?_)) fun r₂ s₂ hr₂ => ?_
      · obtain ⟨ol, hol, hcl, nl, hdl⟩ := hl
        obtain ⟨ocls, odict, odata, oslots⟩ := ol
        simp only at hcl hdl
        subst hcl; subst hdl
        have hol' : (s.heap.push { cls := .type "set", dict := none, data := .set #[] 0 (.fresh 0 0 (!w.params.followText "set-order")) }).get? l = some { cls := .type "list", dict := odict, data := .seq items nl, slots := oslots } := Heap.get?_push_of_some _ hol
        have hsls := F.sub_list_set
        have hslf := F.sub_list_frozenset
        have hne : (Value.type "list" == Value.type "dict") = false := by decide
        have hl1 : (s.heap.push { cls := .type "set", dict := none, data := .set #[] 0 (.fresh 0 0 (!w.params.followText "set-order")) }).IsList l items := ⟨_, hol', rfl, nl, rfl⟩
        unfold Builtin.«set.__init__» noKeywords Builtin.Frozenset.updateFrom
        generalize hPI : pyIter = PI
        wp_walk
        subst hPI

        refine wpAny_pyIter_list hl1 ?_
        refine wpAny_bind (wpAny_runValue ?_)
        have hlS : l < s.heap.objs.size := Heap.lt_size hol
        have hh3 : A.in1.in1.in1.handled = none := by simp [hh]
        have hz1 : (s.heap.push { cls := .type "set", dict := none, data := .set #[] 0 (.fresh 0 0 (!w.params.followText "set-order")) }).objs.size = s.heap.objs.size + 1 := Heap.size_push ..
        have hneI : l ≠ (s.heap.push { cls := .type "set", dict := none, data := .set #[] 0 (.fresh 0 0 (!w.params.followText "set-order")) }).objs.size := by
          rw [Heap.size_push]; exact Nat.ne_of_lt (Nat.lt_succ_of_lt hlS)
        have hSf : s.heap.objs.size ∉ [(s.heap.push { cls := .type "set", dict := none, data := .set #[] 0 (.fresh 0 0 (!w.params.followText "set-order")) }).objs.size, l] := by
          rw [Heap.size_push]; simp only [List.mem_cons, List.mem_singleton, List.not_mem_nil, or_false, not_or]
          exact ⟨Nat.ne_of_lt (Nat.lt_succ_self _), Nat.ne_of_gt hlS⟩
        refine set_update_texts ((Walks.list hh3 _ l hneI items).toS) s.heap.objs.size
          hSf ns hisz hb hval (items.size - 0) 0 _ (by omega) (Nat.zero_le _)
          ⟨⟨_, Heap.get?_push_size _ rfl, rfl, rfl⟩, (hl1.push _)⟩ ?hS0 ?hR
        case hS0 =>
          have hget : ((s.heap.push { cls := .type "set", dict := none, data := .set #[] 0 (.fresh 0 0 (!w.params.followText "set-order")) }).push { cls := .type "list_iterator", data := .fields #[.ref l, .int 0 0] }).get? s.heap.objs.size
              = some { cls := .type "set", dict := none, data := .set #[] 0 (.fresh 0 0 (!w.params.followText "set-order")) } := Heap.get?_push_of_some _ hS
          exact ⟨[], ⟨.nil, fun z => by simp, by simp⟩, (#[], 0, .fresh 0 0 (!w.params.followText "set-order")), hget, sx_nil⟩
        case hR =>
          intro s' l' hm hc' hS'
          obtain ⟨h', g2, d', tk', os'⟩ := s'
          have eg : g2 = s.gens := hm.gens
          have ed : d' = s.drawn := hm.drawn
          have eo : os' = s.os := hm.os
          subst eg; subst ed; subst eo
          show wpAny _ _ _ _ _ _
          refine wpAny_pure ?_
          show wpAny _ _ (ret Value.none) _ _ _
          refine wpAny_pure ⟨rfl, h', tk', l', rfl, hc', hS', fun b o e => ?_⟩
          have hb0 : b < s.heap.objs.size := Heap.lt_size e
          have hb1 : b ≠ s.heap.objs.size := Nat.ne_of_lt hb0
          have hb2 : b ≠ (s.heap.push { cls := .type "set", dict := none, data := .set #[] 0 (.fresh 0 0 (!w.params.followText "set-order")) }).objs.size := by
            rw [Heap.size_push]; exact Nat.ne_of_lt (Nat.lt_succ_of_lt hb0)
          exact hm.heap b o (by simp only [List.mem_cons, List.mem_singleton, List.not_mem_nil, or_false, not_or]; exact ⟨hb1, hb2⟩) (Heap.get?_push_of_some _ (Heap.get?_push_of_some _ e))

      · cases r₂ with
        | error e => exact hr₂
        | ok fl₂ =>
          cases fl₂ with
          | ret r =>
            obtain ⟨rfl, h', tk, l', rfl, hc', hS', hk'⟩ := hr₂
            repeat (any_goals (first | assumption | wp_step))
            exact h _ _ _ hc' hS' hk'
          | _ => exact hr₂.elim
    | _ => exact hr.elim
def valX (v : Value) : Str := match v with | .str k _ => k | _ => ⟨#[]⟩
theorem each_strs : ∀ {vs : List Value}, (∀ v ∈ vs, ∃ u, v = Value.str (valX v) u) → PySem.W.EachIs (fun v (k : Str) => ∃ u, v = Value.str k u) vs (vs.map valX)
  | [], _ => .nil
  | v :: vs, h => .cons (h v List.mem_cons_self) (each_strs fun x hx => h x (List.mem_cons_of_mem _ hx))
theorem each_reads_strs {h : Heap} : ∀ {vs : List Value}, (∀ v ∈ vs, ∃ u, v = Value.str (valX v) u) → ∀ a : Addr, PySem.W.EachIs (fun v (k : Str) => ∃ as, Reads h v (PyData.str k) as ∧ a ∉ as) vs (vs.map valX)
  | [], _, _ => .nil
  | v :: vs, h, a => by
    obtain ⟨u, e⟩ := h v List.mem_cons_self
    refine .cons ⟨[], ?_, by simp⟩ (each_reads_strs (fun x hx => h x (List.mem_cons_of_mem _ hx)) a)
    generalize valX v = k at e
    subst e
    exact .str _ _
theorem sorted_setX {a : Addr} {l : List Str} {Q : Value → Shared → Prop} (R : SetX P w s.heap a l) (hh : A.handled = none) (hu : A.units + 3 < cLine) (hb : l.length < scanBound)
    (hQ : ∀ s' p (out : Array Value) (c : Nat), (∀ b o, s.heap.get? b = some o → s'.heap.get? b = some o) → s'.gens = s.gens → s'.os = s.os → s.heap.objs.size ≤ p →
      s'.heap.get? p = some (seqObj "list" out c) → (∃ bs : List Str, bs.Perm l ∧ PySem.W.EachIs (fun v (k : Str) => ∃ u, v = Value.str k u) out.toList (bs.mergeSort (PySem.W.dataLe false PyData.str))) → Q (.ref p) s') :
    wpAny (model P w) A (call (.builtin "sorted") [.ref a]) Q E s := by
  obtain ⟨⟨es, ep, t⟩, ho, tx, good, perm, hr, hl⟩ := R
  have hf : t.fits es.size = true := tx.fit
  have hsz : es.size = l.length := tx.sz
  refine Calls.call_function_entry kind_sorted plain_sorted entry_sorted (args_sorted1 _) ?_
  unfold Builtin.«sorted»
  refine wpAny_bind (m := checkCount "sorted" 1 1 _) (wpAny_pure ?_)
  refine wpAny_bind (collect_set (A := A.in1) hh ⟨_, ho, rfl, rfl⟩ hf (by rw [hsz]; exact hb) hr hl fun s1 vs k1 hz g1 o1 pm => ?_)
  have hvl : vs.length = l.length := by rw [pm.length_eq, List.length_map, Array.length_toList]; exact hsz
  have hgv : ∀ v ∈ vs, ∃ u, v = Value.str (valX v) u := fun v hv => by
    obtain ⟨e, he, q⟩ := List.mem_map.mp (pm.mem_iff.mp hv)
    obtain ⟨u, hu⟩ := good e he
    rw [← q, hu]
    exact ⟨u, rfl⟩
  have hpm : (vs.map valX).Perm l := by
    have q := pm.map valX
    rw [List.map_map] at q
    exact q.trans perm
  have hbl : vs.length ≤ sizeLine := by rw [hvl]; exact fits_of_scanBound hb
  refine wpAny_bind (wpAny_newList ?_ hbl)
  have hoL : (s1.heap.push (seqObj "list" vs.toArray 0)).get? s1.heap.objs.size = some (seqObj "list" vs.toArray 0) := Heap.get?_push_size _ rfl
  refine wpAny_bind (wpAny_holding ?_)
  refine PySem.W.list_sort_data (enc := PyData.str) (bs := vs.map valX) (R := fun v (k : Str) => ∃ u, v = Value.str k u) hoL (each_strs hgv) (each_reads_strs hgv _) (PySem.W.AllAlike.of fun b b' => by rfl) (PySem.W.Sortable.others fun b => ⟨by simp, by simp⟩) (by rw [List.length_map]; exact hbl) (fun b _ => ?_) fun out ho1 ho2 => ?_
  · show A.units + 1 + 1 + (PyData.str b).depth < cLine
    have : (PyData.str b).depth = 0 := by simp [PyData.depth]
    omega
  · obtain ⟨c, hc⟩ := sortedHeap_at (vs := vs) (out := out.toArray) hoL
    refine wpAny_pure ⟨_, rfl, hQ _ s1.heap.objs.size out.toArray c (fun b u e => ?_) g1 o1 hz hc ⟨vs.map valX, hpm, ho2⟩⟩
    have q := k1 b u e
    have hlt := Heap.lt_size q
    show (sortedHeap (s1.heap.push (seqObj "list" vs.toArray 0)) s1.heap.objs.size vs out.toArray).get? b = some u
    rw [sortedHeap_old (Nat.ne_of_lt hlt) (by rw [size_push']; exact Nat.lt_succ_of_lt hlt)]
    exact Heap.get?_push_of_some _ q
end
theorem vals_strs : ∀ {vs : List Value} {l : List Str}, PySem.W.EachIs (fun v (k : Str) => ∃ u, v = Value.str k u) vs l → Vals (l.map V.str) vs
  | _, _, .nil => .nil
  | _, _, .cons ⟨u, e⟩ t => .cons ⟨u, e⟩ (vals_strs t)
theorem strs_at : ∀ {us : List Value} {l : List Str}, Vals (l.map V.str) us → ∀ (i : Nat) (v : Value), us[i]? = some v → ∃ k t, l[i]? = some k ∧ v = Value.str k t
  | [], _, _, i, v, h => by simp at h
  | u :: us, [], r, _, _, _ => by cases r
  | u :: us, k :: l, r, i, v, h => by
    cases r with
    | cons a b =>
      cases i with
      | zero =>
        cases h
        obtain ⟨t, e⟩ := a
        exact ⟨k, t, rfl, e⟩
      | succ i => exact strs_at (l := l) b i v h
def tSS (K : PySem.W.Frag) (ta : TE) : TE := fun σ H Q => ta σ H fun x H1 => ∃ (a : Addr) (ks : List Str), x = .ref a ∧ SqL K H1 a (ks.map V.str) ∧ ks.length + 1 < scanBound ∧
  ∀ p, H1 p = none → ∀ bs : List Str, SetOf bs ks → Q (.ref p) (upd H1 p (.lst ((bs.mergeSort (PySem.W.dataLe false PyData.str)).map V.str)))
section
variable {X : Cx} {e : Expr} {ta : TE} {p p2 pos pos2 : Pos} {j : Nat}
theorem pe_sset (hr : Room j X.A) (hc : X.calm = true) (he : PE X e ta) (m1 : X.mg "sorted" = none) (m2 : X.mg "set" = none) (hg1 : Gl X "sorted" := by rfl) (hg2 : Gl X "set" := by rfl) (hs : starEach [e] X.env = (false, eval e X.env) :: starEach [] X.env := by rfl)
    (hs2 : starEach [.Call (.Name "set" p2) [e] [] pos2] X.env = (false, eval (.Call (.Name "set" p2) [e] [] pos2) X.env) :: starEach [] X.env := by rfl) : PE X (.Call (.Name "sorted" p) [.Call (.Name "set" p2) [e] [] pos2] [] pos) (tSS X.K ta) := by
  refine ⟨fun pins s σ H Q I h => ?_⟩
  refine wpAny_Call_Name_kw (ld_blt I hg1 m1 (by rfl) ?_ (by decide) (by decide))
  refine PyProof.Rows.callWith_builtin1 ?_ hs2 rfl
  rw [hs2]
  show wpAny _ _ (spliced ((false, eval (.Call (.Name "set" p2) [e] [] pos2) X.env) :: backTo pos (starEach [] X.env))) _ _ s
  refine Calls.spliced_cons ?_
  refine wpAny_Call_Name_kw (ld_blt I hg2 m2 PyProof.Rows.boot_set ?_ (by decide) (by decide))
  refine PyProof.Rows.callWith_type1 ?_ hs rfl
  rw [hs]
  show wpAny _ _ (spliced ((false, eval e X.env) :: backTo pos2 (starEach [] X.env))) _ _ s
  refine Calls.spliced_cons (thn (he.run pins s σ H _ I h) fun u s1 h1 => ?_)
  obtain ⟨x, H1, I1, rx, a, ks, ex, hq, hl, q⟩ := h1
  subst ex
  obtain rfl : u = Value.ref a := rx
  refine Calls.spliced_nil ?_
  obtain ⟨its, rv, pt, hz⟩ := I1.list hq
  have hd := I1.ok.hd hc
  have hlen : its.length = ks.length := by rw [← rv.length, List.length_map]
  refine call_set_lstT (items := its.toArray) ks hd pt.isList (by rw [List.size_toArray]; exact hlen) hl (fun i v hv => strs_at rv i v (by rw [List.getElem?_toArray] at hv; exact hv)) fun h' tk l' hp hS kp => ?_
  refine Calls.spliced_nil ?_
  have hll : l'.length < scanBound := by have := hp.len; omega
  refine sorted_setX (s := { s1 with heap := h', toks := tk }) hS hd (by have := hr.units; omega) hll fun s3 p3 out c k3 g3 o3 hle hp3 hbs => ?_
  obtain ⟨bs, hbp, hEach⟩ := hbs
  have kall : ∀ b u, s1.heap.get? b = some u → s3.heap.get? b = some u := fun b u e => k3 b u (kp b u e)
  have hsz : s1.heap.objs.size ≤ p3 := Nat.le_trans (Nat.le_of_lt (by obtain ⟨D, ho, _⟩ := hS; exact Heap.lt_size ho)) hle
  have hn : H1 p3 = none := I1.hok.fresh hsz
  refine ⟨.ref p3, _, I1.drained (ex := []) hsz ?_ hp3 (vals_strs hEach) ExOk.nil o3 (by rw [g3]; exact I1.bare) (Un.kept kall) (I1.hok.kept kall) hn, rfl, q p3 hn bs (hp.perm hbp)⟩
  rw [List.length_map, List.length_mergeSort, hbp.length_eq]
  have : its.length + 1 < 4096 := by rw [hlen]; exact hl
  have := hp.len
  exact szl _ (by omega)
end
/-- each once -/
def dd : List (List Nat) → List (List Nat)
  | [] => []
  | x :: xs => if x ∈ xs then dd xs else x :: dd xs
theorem mem_dd {z : List Nat} : ∀ {xs : List (List Nat)}, z ∈ dd xs ↔ z ∈ xs
  | [] => Iff.rfl
  | x :: xs => by
    unfold dd
    have ih := mem_dd (z := z) (xs := xs)
    split
    · rename_i h
      rw [ih, List.mem_cons]
      exact ⟨.inr, fun q => q.elim (fun e => by rw [e]; exact h) id⟩
    · rw [List.mem_cons, List.mem_cons, ih]
theorem dd_nodup : ∀ xs : List (List Nat), (dd xs).Nodup
  | [] => .nil
  | x :: xs => by
    unfold dd
    split
    · exact dd_nodup xs
    · rename_i h
      exact List.nodup_cons.mpr ⟨fun q => h (mem_dd.mp q), dd_nodup xs⟩
theorem dd_len : ∀ xs : List (List Nat), (dd xs).length ≤ xs.length
  | [] => Nat.le_refl _
  | x :: xs => by
    unfold dd
    have := dd_len xs
    split
    · rw [List.length_cons]; omega
    · rw [List.length_cons, List.length_cons]; omega
theorem dd_of {xs : List (List Nat)} (h : xs.Nodup) : dd xs = xs := by
  induction xs with
  | nil => rfl
  | cons x xs ih =>
    obtain ⟨h1, h2⟩ := List.nodup_cons.mp h
    rw [dd, if_neg h1, ih h2]
theorem perm_of_same {α : Type} [BEq α] [LawfulBEq α] {xs ys : List α} (h1 : xs.Nodup) (h2 : ys.Nodup) (h : ∀ z, z ∈ xs ↔ z ∈ ys) : xs.Perm ys := by
  rw [List.perm_iff_count]
  intro z
  by_cases hz : z ∈ xs
  · have a := List.count_pos_iff.mpr hz
    have b := List.count_pos_iff.mpr ((h z).mp hz)
    have c := List.nodup_iff_count.mp h1 z
    have d := List.nodup_iff_count.mp h2 z
    omega
  · rw [List.count_eq_zero_of_not_mem hz, List.count_eq_zero_of_not_mem fun q => hz ((h z).mpr q)]
/-- the sorted list of a set of texts -/
def ssetL : PyData → Option (List PyData)
  | .list ds => (deTs ds).bind fun ls => if ls.length ≤ 4000 then some ((sortT (dd ls)).map S) else none
  | _ => none
theorem ssetL_dd {ls : List (List Nat)} (hl : ls.length ≤ 4000) : ssetL (.list (ls.map S)) = some ((sortT (dd ls)).map S) := by
  rw [ssetL, deTs_S, Option.bind_some, if_pos hl]
theorem ssetL_S {ls : List (List Nat)} (h : ls.Nodup) (hl : ls.length ≤ 4000) : ssetL (.list (ls.map S)) = some ((sortT ls).map S) := by
  rw [ssetL_dd hl, dd_of h]
theorem setOf_perm {bs : List Str} {ls : List (List Nat)} (h : SetOf bs (ls.map mkS)) : bs.Perm ((dd ls).map mkS) := by
  have e : (bs.map fun s : Str => s.cps.toList).Perm (dd ls) := by
    refine perm_of_same ?_ (dd_nodup ls) fun z => ?_
    · refine List.pairwise_map.mpr (h.nd.imp fun {a b} hne q => hne ?_)
      rw [mkS_eta a, mkS_eta b, q]
    · rw [mem_dd, List.mem_map]
      constructor
      · rintro ⟨b, hb, rfl⟩
        obtain ⟨l, hl, q⟩ := List.mem_map.mp ((h.mem b).mp hb)
        rw [← q, mkS_toList]; exact hl
      · intro hz
        exact ⟨mkS z, (h.mem _).mpr (List.mem_map.mpr ⟨z, hz, rfl⟩), mkS_toList z⟩
  have := e.map mkS
  rw [List.map_map] at this
  have q : (mkS ∘ fun s : Str => s.cps.toList) = id := funext fun s => (mkS_eta s).symm
  rwa [q, List.map_id] at this
theorem dn_texts {K : PySem.W.Frag} {F : Hp} : ∀ {ls : List (List Nat)} {vs : List V}, DnAll K F vs (ls.map S) → vs = (ls.map mkS).map V.str ∧ ∀ l ∈ ls, PyData.strOk (mkS l) = true
  | [], vs, h => by cases h; exact ⟨rfl, fun _ h => by cases h⟩
  | l :: ls, vs, h => by
    cases h with
    | cons a b =>
      obtain ⟨e, h2⟩ := dn_texts b
      cases a with
      | str _ hz =>
        refine ⟨by rw [e]; rfl, fun x hx => ?_⟩
        rcases List.mem_cons.mp hx with rfl | hx
        · exact hz
        · exact h2 x hx
theorem texts_dn {K : PySem.W.Frag} {F : Hp} : ∀ {ls : List (List Nat)}, (∀ l ∈ ls, PyData.strOk (mkS l) = true) → DnAll K F ((ls.map mkS).map V.str) (ls.map S)
  | [], _ => .nil
  | l :: ls, h => .cons (.str _ (h l List.mem_cons_self)) (texts_dn fun x hx => h x (List.mem_cons_of_mem _ hx))
theorem sorted_strs {bs : List Str} {ls : List (List Nat)} (h : bs.Perm (ls.map mkS)) : bs.mergeSort (PySem.W.dataLe false PyData.str) = (sortT ls).map mkS := by
  have hle : PySem.W.dataLe false PyData.str = fun a b : Str => leT a.cps.toList b.cps.toList := PySem.W.dataLe_str (β := Str) fun k => k
  have e1 : (bs.mergeSort (PySem.W.dataLe false PyData.str)).map (fun s : Str => s.cps.toList) = sortT ls := by
    refine sorted_uniq ?_ ?_ (sortT_sorted ls)
    · refine ((List.mergeSort_perm _ _).map _).trans ((h.map _).trans ?_)
      rw [List.map_map]
      have : (ls.map ((fun s : Str => s.cps.toList) ∘ mkS)) = ls := by
        rw [show ((fun s : Str => s.cps.toList) ∘ mkS) = id from funext fun l => mkS_toList l, List.map_id]
      rw [this]
      exact (sortT_perm ls).symm
    · rw [List.pairwise_map, hle]
      exact List.pairwise_mergeSort (le := fun a b : Str => leT a.cps.toList b.cps.toList) (fun a b c => leT_trans a.cps.toList b.cps.toList c.cps.toList) (fun a b => leT_total a.cps.toList b.cps.toList) bs
  rw [← e1, List.map_map]
  have : (mkS ∘ fun s : Str => s.cps.toList) = id := funext fun s => (mkS_eta s).symm
  rw [this, List.map_id]
section
variable {X : Cx} {e : Expr} {te : TE} {fe : En → Option PyData} {p p2 pos pos2 : Pos} {j : Nat} {n1 n2 : Str}
theorem dl_sset (hr : Room j X.A) (hc : X.calm = true) (he : DB X e te fe) (m1 : X.mg n1 = none) (m2 : X.mg n2 = none) (e1 : n1 = "sorted") (e2 : n2 = "set") (hg1 : Gl X n1 := by rfl) (hg2 : Gl X n2 := by rfl) (hs : starEach [e] X.env = (false, eval e X.env) :: starEach [] X.env := by rfl)
    (hs2 : starEach [.Call (.Name n2 p2) [e] [] pos2] X.env = (false, eval (.Call (.Name n2 p2) [e] [] pos2) X.env) :: starEach [] X.env := by rfl) : DL X (.Call (.Name n1 p) [.Call (.Name n2 p2) [e] [] pos2] [] pos) (tSS X.K te) (fun ε => (fe ε).bind ssetL) := by
  subst e1; subst e2
  refine ⟨pe_sset hr hc he.p m1 m2 hg1 hg2 hs hs2, fun F H ε σ ds Q r e0 q => ?_⟩
  obtain ⟨d, e1, e2⟩ := Option.bind_eq_some_iff.mp e0
  refine he.r F H ε σ d _ r e1 fun v F1 H1 s1 bd => ?_
  unfold ssetL at e2
  split at e2
  · rename_i ds'
    obtain ⟨ls, e3, e4⟩ := Option.bind_eq_some_iff.mp e2
    split at e4
    · rename_i hcond
      cases e4
      obtain ⟨a, vs, rfl, hv, av⟩ := bd.items s1.s
      rw [deTs_eq e3] at av
      obtain ⟨rfl, hok⟩ := dn_texts av
      refine ⟨a, ls.map mkS, rfl, hv, ?_, fun p' hp' bs hbs => ?_⟩
      · rw [List.length_map]
        show ls.length + 1 < 4096
        omega
      · rw [sorted_strs (setOf_perm hbs)]
        have n1 : H p' = none := by
          cases hz : H p' with
          | none => rfl
          | some o => have := s1.h p' o hz; rw [hp'] at this; cases this
        exact q p' _ F1 _ (s1.trans (new_lst s1.s hp').1) n1 (s1.s.free hp') upd_same (texts_dn fun l hl => hok l (mem_dd.mp ((sortT_perm _).mem_iff.mp hl)))
    · cases e4
  · cases e2
end
end M


namespace M
open PySem PySem.Spec PyProof.Rows L2

/-! ### list(text), tuple(text) -/
def signsV (z : Str) : List V := z.cps.toList.map fun c => V.str ⟨#[c]⟩
theorem vals_get : ∀ {xs : List V} {us : List Value}, xs.length = us.length → (∀ (i : Nat) (v : Value), us[i]? = some v → ∃ x, xs[i]? = some x ∧ RelV x v) → Vals xs us
  | [], [], _, _ => .nil
  | x :: xs, u :: us, hl, h => by
    obtain ⟨x', e, r⟩ := h 0 u rfl
    cases e
    exact .cons r (vals_get (by simpa using hl) fun i v hv => h (i + 1) v hv)
  | [], _ :: _, hl, _ => by cases hl
  | _ :: _, [], hl, _ => by cases hl
theorem signs_vals {z : Str} {acc : Array Value} (h : ItemsOf (SignAt z) acc z.cps.size) : Vals (signsV z) acc.toList := by
  refine vals_get (by unfold signsV; rw [List.length_map, Array.length_toList, Array.length_toList]; exact h.1.symm) fun i v hv => ?_
  rw [Array.getElem?_toList] at hv
  obtain ⟨c, u, e1, e2⟩ := h.2 i v hv
  refine ⟨.str ⟨#[c]⟩, ?_, ⟨u, e2⟩⟩
  unfold signsV
  rw [List.getElem?_map, Array.getElem?_toList, e1]; rfl
theorem signs_dn {K : PySem.W.Frag} {F : Hp} {z : Str} (h : PyData.strOk z = true) : DnAll K F (signsV z) (z.cps.toList.map fun c => .str ⟨#[c]⟩) := by
  have key : ∀ l : List Nat, (∀ c ∈ l, c < 0x110000) → DnAll K F (l.map fun c => V.str ⟨#[c]⟩) (l.map fun c => PyData.str ⟨#[c]⟩) := by
    intro l
    induction l with
    | nil => intro _; exact .nil
    | cons c l ih =>
      intro h
      exact .cons (.str _ (strOk_iff.mpr (by simpa using h c List.mem_cons_self))) (ih fun x hx => h x (List.mem_cons_of_mem _ hx))
  exact key _ (strOk_iff.mp h)
section
variable {X : Cx}
def listSL : List PyData → Option (List PyData)
  | [.str z] => if z.length ≤ sizeLine then some (z.cps.toList.map fun c => .str ⟨#[c]⟩) else none
  | ds => listL ds
@[simp] theorem listSL_list (ds : List PyData) : listSL [.list ds] = some ds := rfl
@[simp] theorem listSL_tuple (ds : List PyData) : listSL [.tuple ds] = some ds := rfl
@[simp] theorem listSL_str (l : List Nat) (h : l.length ≤ 16777216) : listSL [.str (mkS l)] = some (l.map fun c => .str (mkS [c])) := by
  rw [listSL, if_pos (by rw [mkS_length]; exact h), mkS_toList]; rfl
theorem cr_listS (hc : X.calm = true) : CallR X (.type "list") (rGCL X.K listSL) := by
  intro pins s σ H xs us Q I r ⟨F, ds, d, s1, hb, e, k⟩
  unfold listSL at e
  split at e
  · rename_i z
    obtain ⟨v, rfl, h⟩ := hb.one
    split at e
    · rename_i hz
      cases e
      obtain ⟨rfl, o⟩ := h.str
      obtain ⟨u, rfl, rx⟩ := vals1 r
      obtain ⟨t, rfl⟩ := rx
      refine call_list_str (I.ok.hd hc) z t (fun h' tk acc c' kp hS ha => ?_) hz
      have hn : H s.heap.objs.size = none := I.hok.fresh (Nat.le_refl _)
      obtain ⟨st, nf, hp'⟩ := new_lst (vs := signsV z) s1 hn
      refine ⟨.ref _, _, I.laid (t' := tk) kp (Nat.le_refl _) (show ObjOk X.prog X.w _ h' _ (.lst (signsV z)) from ⟨?_, acc.toList, c', signs_vals ha, ?_⟩), rfl, k _ (signsV z) F _ st hn nf hp' (signs_dn o)⟩
      · unfold signsV; rw [List.length_map, Array.length_toList]; exact hz
      · rw [Array.toArray_toList]; exact hS
    · cases e
  · exact cr_list pins s σ H xs us Q I r ⟨F, ds, d, s1, hb, e, k⟩
def tupleSD : List PyData → Option PyData
  | [.str z] => if z.length ≤ sizeLine ∧ z.length ≠ 0 then some (.tuple (z.cps.toList.map fun c => .str ⟨#[c]⟩)) else none
  | ds => tupleD ds
@[simp] theorem tupleSD_list (ds : List PyData) : tupleSD [.list ds] = some (.tuple ds) := rfl
@[simp] theorem tupleSD_tuple (ds : List PyData) : tupleSD [.tuple ds] = some (.tuple ds) := rfl
@[simp] theorem tupleSD_str (l : List Nat) (h : l.length ≤ 16777216) (h' : l.length ≠ 0) : tupleSD [.str (mkS l)] = some (.tuple (l.map fun c => .str (mkS [c]))) := by
  rw [tupleSD, if_pos (by rw [mkS_length]; exact ⟨h, h'⟩), mkS_toList]; rfl
theorem cr_tupleS (hc : X.calm = true) : CallR X (.type "tuple") (rGC X.K tupleSD) := by
  intro pins s σ H xs us Q I r ⟨F, ds, d, s1, hb, e, k⟩
  unfold tupleSD at e
  split at e
  · rename_i z
    obtain ⟨v, rfl, h⟩ := hb.one
    split at e
    · rename_i hz
      cases e
      obtain ⟨rfl, o⟩ := h.str
      obtain ⟨u, rfl, rx⟩ := vals1 r
      obtain ⟨t, rfl⟩ := rx
      refine call_tuple_str (I.ok.hd hc) z t (fun h' tk acc kp ha => ?_) hz.1
      have I1 : Inv X pins σ H { s with heap := h' } := I.kept (t' := s.toks) kp
      have hl : (signsV z).length ≤ sizeLine := by unfold signsV; rw [List.length_map, Array.length_toList]; exact hz.1
      have I2 : Inv X pins σ (upd H h'.objs.size (.tup (signsV z))) { s with heap := h'.push { cls := .type "tuple", data := .seq acc }, toks := tk } :=
        I1.laid (t' := tk) (fun b o e => Heap.get?_push_of_some _ e) (Nat.le_refl _) (show ObjOk X.prog X.w _ _ _ (.tup (signsV z)) from ⟨hl, acc.toList, signs_vals ha, by rw [Array.toArray_toList]; exact IsTup.new _ _⟩)
      obtain ⟨st, dn⟩ := new_tup s1 (I1.hok.fresh (Nat.le_refl _)) (signs_dn (K := X.K) (F := F) o)
      exact ⟨.ref h'.objs.size, _, I2, rfl, k _ _ _ st dn⟩
    · cases e
  · exact cr_tuple pins s σ H xs us Q I r ⟨F, ds, d, s1, hb, e, k⟩
end
end M
namespace M
open PySem PySem.Spec PyProof.Rows L2
@[simp ↓] theorem augP_e {i : Nat} {g : Int → Int → Int} {fk fe : En → Option PyData} {R : DEnds} {ε : En} : augP i g fk fe R ε = exO (getS i ε) (fun s => exO s (fun s => exO (fk ε) (fun k => match s, k with
    | .o ds, .int k => exO (ixN ds.length k) (fun j => exO ds[j]? (fun a => exO (fe ε) (fun b => match a, b with | .int a, .int b => atE (ε.set i (some (.o (ds.set j (.int (g a b)))))) R.nx ⟨⟩ | _, _ => False) ⟨⟩) ⟨⟩) ⟨⟩
    | _, _ => False) ⟨⟩) ⟨⟩) ⟨⟩ := by
  simp only [augP, exO, atE, getS]
  rw [eq_iff_iff]
  constructor
  · rintro ⟨ds, k, j, a, b, h1, h2, h3, h4, h5, h6⟩
    exact ⟨_, h1, _, rfl, _, h2, _, h3, _, h4, _, h5, h6⟩
  · rintro ⟨s, h1, s', h2, k, h3, h4⟩
    subst h2
    split at h4
    · obtain ⟨j, h5, a, h6, b, h7, h8⟩ := h4
      split at h8
      · exact ⟨_, _, j, _, _, h1, h3, h5, h6, h7, h8⟩
      · exact h8.elim
    · exact h4.elim
theorem ixN_nat {n : Nat} {k : Int} (h0 : 0 ≤ k) (h : k < n) : ixN n k = some k.toNat := by
  unfold ixN
  rw [if_pos h0, if_pos (by omega)]
end M

/-! ### methods of texts -/
namespace M
open PySem PySem.Spec PyProof.Rows L2
def joinL (sep : List Nat) : List (List Nat) → List Nat
  | [] => []
  | [x] => x
  | x :: y :: r => x ++ sep ++ joinL sep (y :: r)
theorem join_mk (sep : List Nat) : ∀ ls : List (List Nat), Txt.join (mkS sep) (ls.map mkS) = mkS (joinL sep ls) := by
  have key : ∀ ls : List (List Nat), Str.join (mkS sep) (ls.map mkS) = mkS (joinL sep ls) := by
    intro ls
    induction ls with
    | nil => rfl
    | cons x r ih =>
      cases r with
      | nil => rfl
      | cons y r =>
        show mkS x ++ mkS sep ++ Str.join (mkS sep) ((y :: r).map mkS) = _
        rw [ih, mkS_app, mkS_app]; rfl
  intro ls
  rw [← key]
  exact eq_of_beq (join_plain_closes _ _)
theorem joinL_nil : ∀ ls : List (List Nat), joinL [] ls = ls.flatten
  | [] => rfl
  | [x] => by simp [joinL]
  | x :: y :: r => by rw [joinL, joinL_nil (y :: r)]; simp
theorem joinL_mem {sep : List Nat} : ∀ {ls : List (List Nat)} {c : Nat}, c ∈ joinL sep ls → c ∈ sep ∨ ∃ l ∈ ls, c ∈ l
  | [], _, h => by cases h
  | [x], c, h => .inr ⟨x, List.mem_singleton.mpr rfl, h⟩
  | x :: y :: r, c, h => by
    rw [joinL, List.mem_append, List.mem_append] at h
    rcases h with (h | h) | h
    · exact .inr ⟨x, by simp, h⟩
    · exact .inl h
    · rcases joinL_mem h with h | ⟨l, h1, h2⟩
      · exact .inl h
      · exact .inr ⟨l, List.mem_cons_of_mem _ h1, h2⟩
/-- sep.join(texts) -/
def joinD : G2
  | .str sep, .list ds => (deTs ds).bind fun ls => if (ls.map (·.length)).sum + ls.length * sep.length ≤ 16777216 then some (.str (mkS (joinL sep.cps.toList ls))) else none
  | .str sep, .tuple ds => (deTs ds).bind fun ls => if (ls.map (·.length)).sum + ls.length * sep.length ≤ 16777216 then some (.str (mkS (joinL sep.cps.toList ls))) else none
  | _, _ => none
theorem joinD_S (sep : List Nat) (ls : List (List Nat)) (h : (ls.map (·.length)).sum + ls.length * sep.length ≤ 16777216) : joinD (.str (mkS sep)) (.list (ls.map S)) = some (.str (mkS (joinL sep ls))) := by
  rw [joinD, deTs_S, Option.bind_some, mkS_length, if_pos h, mkS_toList]
theorem joinD_T (sep : List Nat) (ls : List (List Nat)) (h : (ls.map (·.length)).sum + ls.length * sep.length ≤ 16777216) : joinD (.str (mkS sep)) (.tuple (ls.map S)) = some (.str (mkS (joinL sep ls))) := by
  rw [joinD, deTs_S, Option.bind_some, mkS_length, if_pos h, mkS_toList]
section
variable {X : Cx} {o e : Expr} {to te : TE} {fo fe : En → Option PyData} {apos cpos : Pos}
theorem map_len (ls : List (List Nat)) : ((ls.map mkS).map fun x => x.length) = ls.map fun x => x.length := by
  rw [List.map_map]; exact List.map_congr_left fun l _ => mkS_length l
theorem join_ok {sep : Str} {ls : List (List Nat)} (h1 : PyData.strOk sep = true) (h2 : ∀ l ∈ ls, PyData.strOk (mkS l) = true) : PyData.strOk (mkS (joinL sep.cps.toList ls)) = true :=
  strOk_mk fun c hc => by
    rcases joinL_mem hc with h | ⟨l, hl, hm⟩
    · exact strOk_iff.mp h1 c h
    · exact strOk_iff.mp (h2 l hl) c (by rw [mkS_toList]; exact hm)
theorem de_join (ho : DB X o to fo) (he : DB X e te fe)
    (hbase : attributeBase o "join" X.env (eval o X.env) = eval o X.env := by rfl)
    (hfew : ((backTo cpos (starEach [e] X.env)).all (fun x => !x.1) && (backToKw cpos (keywordEach [] X.env)).all (fun x => x.1.isSome)
      && decide ([e].length + ([] : List Keyword).length + (if ([] : List Keyword).isEmpty then 0 else 1) < 30)) = true := by rfl)
    (hline : (apos.endLine == cpos.line) = true := by rfl) (hs : starEach [e] X.env = (false, eval e X.env) :: starEach [] X.env := by rfl) (hplain : (backTo cpos (starEach [] X.env)).any (·.1) = false := by rfl) :
    DE X (.Call (.Attribute o "join" apos) [e] [] cpos) (tBM X.K "str" (fun x xs H Q => ∃ a p, ∃ ys : List Str, x = .str a ∧ xs = [.ref p] ∧ (SqL X.K H p (ys.map V.str) ∨ SqT X.K H p (ys.map V.str)) ∧
    (ys.map (·.length)).sum + ys.length * a.length ≤ 16777216 ∧ Q (.str (Txt.join a ys)) H) to (tCons te tNil)) (dOp joinD fo fe) :=
  ⟨pe_bm PySem.F.plainAttrs_str PySem.F.slot_str_join PySem.F.type_str_join mt_join ho.p (pa_cons he.p pa_nil hs) hbase hfew hline hs hplain, fun F H ε σ d Q r e1 k => by
    obtain ⟨a, e2, e3⟩ := Option.bind_eq_some_iff.mp e1
    obtain ⟨b, e4, e5⟩ := Option.bind_eq_some_iff.mp e3
    refine ho.r F H ε σ a _ r e2 fun v F1 H1 s1 d1 => ?_
    unfold joinD at e5
    split at e5
    · rename_i sep ds
      obtain ⟨ls, e6, e7⟩ := Option.bind_eq_some_iff.mp e5
      obtain ⟨rfl, o1⟩ := d1.str
      split at e7
      · rename_i hz
        cases e7
        refine ⟨rfl, he.r F1 H1 ε σ _ _ (r.step s1) e4 fun w F2 H2 s2 d2 => ?_⟩
        obtain ⟨p, vs, rfl, hv, av⟩ := d2.items s2.s
        rw [deTs_eq e6] at av
        obtain ⟨rfl, ok⟩ := dn_texts av
        refine ⟨sep, p, ls.map mkS, rfl, rfl, .inl hv, by rw [map_len, List.length_map]; exact hz, ?_⟩
        have := join_mk sep.cps.toList ls
        rw [← mkS_eta sep] at this
        rw [this]
        exact k _ F2 H2 (s1.trans s2) (.str _ (join_ok o1 ok))
      · cases e7
    · rename_i sep ds
      obtain ⟨ls, e6, e7⟩ := Option.bind_eq_some_iff.mp e5
      obtain ⟨rfl, o1⟩ := d1.str
      split at e7
      · rename_i hz
        cases e7
        refine ⟨rfl, he.r F1 H1 ε σ _ _ (r.step s1) e4 fun w F2 H2 s2 d2 => ?_⟩
        obtain ⟨p, vs, rfl, _, hv, av⟩ := d2.itemsT s2.s
        rw [deTs_eq e6] at av
        obtain ⟨rfl, ok⟩ := dn_texts av
        refine ⟨sep, p, ls.map mkS, rfl, rfl, .inr hv, by rw [map_len, List.length_map]; exact hz, ?_⟩
        have := join_mk sep.cps.toList ls
        rw [← mkS_eta sep] at this
        rw [this]
        exact k _ F2 H2 (s1.trans s2) (.str _ (join_ok o1 ok))
      · cases e7
    · cases e5⟩
/-- text.count(sign) -/
def countD : G2
  | .str x, .str y => (sign1 y).map fun c => .int ((x.cps.toList.count c : Nat) : Int)
  | _, _ => none
theorem cnt_count (c : Nat) : ∀ l : List Nat, cnt c l = ((l.count c : Nat) : Int)
  | [] => rfl
  | n :: l => by
    rw [cnt_cons, cnt_count c l, List.count_cons]
    by_cases h : n = c
    · subst h; simp; omega
    · have : (n == c) = false := by simpa using h
      simp [h, this]
theorem countD_S (l : List Nat) (c : Nat) : countD (.str (mkS l)) (.str (mkS [c])) = some (.int ((l.count c : Nat) : Int)) := by
  rw [countD, sign1_mk, mkS_toList]; rfl
theorem de_count (ho : DB X o to fo) (he : DB X e te fe)
    (hbase : attributeBase o "count" X.env (eval o X.env) = eval o X.env := by rfl)
    (hfew : ((backTo cpos (starEach [e] X.env)).all (fun x => !x.1) && (backToKw cpos (keywordEach [] X.env)).all (fun x => x.1.isSome)
      && decide ([e].length + ([] : List Keyword).length + (if ([] : List Keyword).isEmpty then 0 else 1) < 30)) = true := by rfl)
    (hline : (apos.endLine == cpos.line) = true := by rfl) (hs : starEach [e] X.env = (false, eval e X.env) :: starEach [] X.env := by rfl) (hplain : (backTo cpos (starEach [] X.env)).any (·.1) = false := by rfl) :
    DE X (.Call (.Attribute o "count" apos) [e] [] cpos) (tBM X.K "str" (fun x xs H Q => ∃ a b, x = .str a ∧ xs = [.str b] ∧ Q (.int (Txt.count a b)) H) to (tCons te tNil)) (dOp countD fo fe) :=
  ⟨pe_bm PySem.F.plainAttrs_str PySem.F.slot_str_count PySem.F.type_str_count mt_count ho.p (pa_cons he.p pa_nil hs) hbase hfew hline hs hplain, fun F H ε σ d Q r e1 k => by
    obtain ⟨a, e2, e3⟩ := Option.bind_eq_some_iff.mp e1
    obtain ⟨b, e4, e5⟩ := Option.bind_eq_some_iff.mp e3
    refine ho.r F H ε σ a _ r e2 fun v F1 H1 s1 d1 => ?_
    unfold countD at e5
    split at e5
    · rename_i x y
      obtain ⟨c, e6, rfl⟩ := Option.map_eq_some_iff.mp e5
      obtain ⟨rfl, o1⟩ := d1.str
      refine ⟨rfl, he.r F1 H1 ε σ _ _ (r.step s1) e4 fun w F2 H2 s2 d2 => ?_⟩
      obtain ⟨rfl, o2⟩ := d2.str
      have hy : y = ⟨#[c]⟩ := by
        unfold sign1 at e6
        split at e6
        · rename_i c' hc'
          cases e6
          obtain ⟨yc⟩ := y
          congr 1
          exact Array.toList_inj.mp hc'
        · cases e6
      subst hy
      refine ⟨x, _, rfl, rfl, ?_⟩
      rw [count_cnt, cnt_count]
      exact k _ F2 H2 (s1.trans s2) (.int _)
    · cases e5⟩
end
end M


namespace M
open PySem PySem.Spec PyProof.Rows L2

/-! ### dicts of a def's own: keys that are ints and texts -/
def keyEq : PyData → PyData → Bool
  | .str a, .str b => a == b
  | .int a, .int b => a == b
  | _, _ => false
def lookD (kvs : List (PyData × PyData)) (k : PyData) : Option PyData := (kvs.find? fun p => keyEq p.1 k).map (·.2)
def putD (kvs : List (PyData × PyData)) (k v : PyData) : List (PyData × PyData) :=
  if (kvs.any fun p => keyEq p.1 k) = true then kvs.map (fun p => if keyEq p.1 k = true then (p.1, v) else p) else kvs ++ [(k, v)]
def isKeyD : PyData → Bool
  | .str _ => true
  | .int _ => true
  | _ => false
section
variable {K : PySem.W.Frag} {F : Hp}
theorem dn_key {v : V} {d : PyData} (h : Dn K F v d) (hk : isKeyD d = true) : ∃ k : Key, v = kV k := by
  cases h with
  | int i => exact ⟨.inl i, rfl⟩
  | str x _ => exact ⟨.inr x, rfl⟩
  | _ => cases hk
theorem key_is {k : Key} {e : PyData} (h : Dn K F (kV k) e) : (∃ s, k = .inr s ∧ e = .str s) ∨ ∃ i, k = .inl i ∧ e = .int i := by
  cases k with
  | inl i => cases h; exact .inr ⟨i, rfl, rfl⟩
  | inr s => cases h; exact .inl ⟨s, rfl, rfl⟩
theorem keyEq_dec {k j : Key} {e f : PyData} (h : Dn K F (kV k) e) (h' : Dn K F (kV j) f) : keyEq e f = decide (k = j) := by
  rcases key_is h with ⟨s, rfl, rfl⟩ | ⟨s, rfl, rfl⟩ <;> rcases key_is h' with ⟨t, rfl, rfl⟩ | ⟨t, rfl, rfl⟩
  · simp only [keyEq, Sum.inr.injEq]; rw [Bool.eq_iff_iff]; simp
  · simp [keyEq]
  · simp [keyEq]
  · simp only [keyEq, Sum.inl.injEq]; rw [Bool.eq_iff_iff]; simp
theorem kv_look {j : Key} {f : PyData} (h' : Dn K F (kV j) f) : ∀ {vs : List (Key × V)} {ds : List (PyData × PyData)}, DnKv K F vs ds →
    (lookD ds f = none ∧ valV vs j = none) ∨ ∃ d v, lookD ds f = some d ∧ valV vs j = some v ∧ Dn K F v d
  | _, _, .nil => .inl ⟨rfl, rfl⟩
  | (k, v) :: vs, (e, d) :: ds, .cons a b c => by
    have q := keyEq_dec a h'
    by_cases hk : k = j
    · refine .inr ⟨d, v, ?_, valV_pos hk, b⟩
      rw [decide_eq_true hk] at q
      unfold lookD
      rw [List.find?_cons, q]; rfl
    · rw [decide_eq_false hk] at q
      have e1 : lookD ((e, d) :: ds) f = lookD ds f := by
        unfold lookD
        rw [List.find?_cons]
        simp only [q]
      rw [e1, valV_neg hk]
      exact kv_look h' c
theorem kv_any {j : Key} {f : PyData} (h' : Dn K F (kV j) f) : ∀ {vs : List (Key × V)} {ds : List (PyData × PyData)}, DnKv K F vs ds → (vs.any fun kv => decide (kv.1 = j)) = ds.any fun p => keyEq p.1 f
  | _, _, .nil => rfl
  | (k, v) :: vs, (e, d) :: ds, .cons a b c => by
    rw [List.any_cons, List.any_cons, kv_any h' c, keyEq_dec a h']
theorem kv_map {j : Key} {f : PyData} (h' : Dn K F (kV j) f) {y : V} {d' : PyData} (hy : Dn K F y d') : ∀ {vs : List (Key × V)} {ds : List (PyData × PyData)}, DnKv K F vs ds →
    DnKv K F (vs.map fun kv => if kv.1 = j then (kv.1, y) else kv) (ds.map fun p => if keyEq p.1 f = true then (p.1, d') else p)
  | _, _, .nil => .nil
  | (k, v) :: vs, (e, d) :: ds, .cons a b c => by
    rw [List.map_cons, List.map_cons]
    have q := keyEq_dec a h'
    by_cases hk : k = j
    · rw [decide_eq_true hk] at q
      simp only [hk, q, if_true]
      subst hk
      exact .cons a hy (kv_map h' hy c)
    · rw [decide_eq_false hk] at q
      simp only [hk, q, if_false, Bool.false_eq_true]
      exact .cons a b (kv_map h' hy c)
theorem kv_snoc {j : Key} {f : PyData} (h' : Dn K F (kV j) f) {y : V} {d' : PyData} (hy : Dn K F y d') : ∀ {vs : List (Key × V)} {ds : List (PyData × PyData)}, DnKv K F vs ds → DnKv K F (vs ++ [(j, y)]) (ds ++ [(f, d')])
  | _, _, .nil => .cons h' hy .nil
  | _, _, .cons a b c => .cons a b (kv_snoc h' hy c)
theorem kv_put {j : Key} {f : PyData} (h' : Dn K F (kV j) f) {y : V} {d' : PyData} (hy : Dn K F y d') {vs : List (Key × V)} {ds : List (PyData × PyData)} (h : DnKv K F vs ds) : DnKv K F (putK vs j y) (putD ds f d') := by
  unfold putK putD
  rw [kv_any h' h]
  split
  · exact kv_map h' hy h
  · exact kv_snoc h' hy h
end
section
variable {X : Cx} {a b e : Expr} {ta tb te : TE} {fa fb fe : En → Option PyData} {pos spos p1 : Pos}
/-- d[k] -/
def dgetD : G2
  | .dict kvs, k => if isKeyD k = true then lookD kvs k else none
  | _, _ => none
theorem de_dget (hu : X.A.units + 1 < cLine) (ha : DB X a ta fa) (hb : DE X b tb fb) (hs : NoSl b := by exact fun _ _ => rfl) : DE X (.Subscript a b pos) (tDGet ta tb) (dOp dgetD fa fb) :=
  ⟨pe_dget hu ha.p hb.p hs, fun F H ε σ d Q r e1 q => by
    obtain ⟨d0, e2, e3⟩ := Option.bind_eq_some_iff.mp e1
    obtain ⟨k, e4, e5⟩ := Option.bind_eq_some_iff.mp e3
    refine ha.r F H ε σ d0 _ r e2 fun x F1 H1 s1 d1 => hb.r F1 H1 ε σ k _ (r.step s1) e4 fun y F2 H2 s2 d2 => ?_
    unfold dgetD at e5
    split at e5
    · rename_i kvs
      split at e5
      · rename_i hk
        obtain ⟨p, vs, rfl, hv, av⟩ := (d1.step s2).entries s2.s
        obtain ⟨j, rfl⟩ := dn_key d2 hk
        rcases kv_look d2 av with ⟨h1, _⟩ | ⟨d', v, h1, h2, h3⟩
        · rw [h1] at e5; cases e5
        · rw [h1] at e5
          cases e5
          exact ⟨p, v, rfl, h2 ▸ DGet.k hv, q v F2 H2 (s1.trans s2) h3⟩
      · cases e5
    · cases e5⟩
/-- k in d -/
def dinD : G2
  | k, .dict kvs => if isKeyD k = true then some (.bool (lookD kvs k).isSome) else none
  | _, _ => none
def dninD : G2
  | k, .dict kvs => if isKeyD k = true then some (.bool (!(lookD kvs k).isSome)) else none
  | _, _ => none
theorem re_din {K : PySem.W.Frag} (ha : RE K ta fa) (hb : RB K tb fb) : RE K (tDIn ta tb) (dOp dinD fa fb) := fun F H ε σ d Q r e1 q => by
  obtain ⟨k, e2, e3⟩ := Option.bind_eq_some_iff.mp e1
  obtain ⟨d0, e4, e5⟩ := Option.bind_eq_some_iff.mp e3
  refine ha F H ε σ k _ r e2 fun y F1 H1 s1 d1 => hb F1 H1 ε σ d0 _ (r.step s1) e4 fun x F2 H2 s2 d2 => ?_
  unfold dinD at e5
  split at e5
  · rename_i kvs
    split at e5
    · rename_i hk
      cases e5
      obtain ⟨p, vs, rfl, hv, av⟩ := d2.entries s2.s
      obtain ⟨j, rfl⟩ := dn_key d1 hk
      refine ⟨p, _, rfl, DGet.k hv, ?_⟩
      rcases kv_look (d1.mv s2.f) av with ⟨h1, h2⟩ | ⟨d', v, h1, h2, _⟩
      · rw [h2]; rw [h1] at q; exact q _ F2 H2 (s1.trans s2) (.bl _)
      · rw [h2]; rw [h1] at q; exact q _ F2 H2 (s1.trans s2) (.bl _)
    · cases e5
  · cases e5
theorem re_dnin {K : PySem.W.Frag} (ha : RE K ta fa) (hb : RB K tb fb) : RE K (tDNotIn ta tb) (dOp dninD fa fb) := fun F H ε σ d Q r e1 q => by
  obtain ⟨k, e2, e3⟩ := Option.bind_eq_some_iff.mp e1
  obtain ⟨d0, e4, e5⟩ := Option.bind_eq_some_iff.mp e3
  refine ha F H ε σ k _ r e2 fun y F1 H1 s1 d1 => hb F1 H1 ε σ d0 _ (r.step s1) e4 fun x F2 H2 s2 d2 => ?_
  unfold dninD at e5
  split at e5
  · rename_i kvs
    split at e5
    · rename_i hk
      cases e5
      obtain ⟨p, vs, rfl, hv, av⟩ := d2.entries s2.s
      obtain ⟨j, rfl⟩ := dn_key d1 hk
      refine ⟨p, _, rfl, DGet.k hv, ?_⟩
      rcases kv_look (d1.mv s2.f) av with ⟨h1, h2⟩ | ⟨d', v, h1, h2, _⟩
      · rw [h2]; rw [h1] at q; exact q _ F2 H2 (s1.trans s2) (.bl _)
      · rw [h2]; rw [h1] at q; exact q _ F2 H2 (s1.trans s2) (.bl _)
    · cases e5
  · cases e5
theorem de_din (hu : X.A.units + 1 < cLine) (ha : DE X a ta fa) (hb : DB X b tb fb) (hm : behindInMarks .In b = false) : DE X (.Compare a [.In] [b] pos) (tDIn ta tb) (dOp dinD fa fb) :=
  ⟨pe_cmp (pc_din hu ha.p hb.p) hm, re_din ha.r hb.r⟩
theorem de_dnin (hu : X.A.units + 1 < cLine) (ha : DE X a ta fa) (hb : DB X b tb fb) (hm : behindInMarks .NotIn b = false) : DE X (.Compare a [.NotIn] [b] pos) (tDNotIn ta tb) (dOp dninD fa fb) :=
  ⟨pe_cmp (pc_dnotin hu ha.p hb.p) hm, re_dnin ha.r hb.r⟩
theorem dt_din (hu : X.A.units + 1 < cLine) (ha : DE X a ta fa) (hb : DB X b tb fb) (hm : behindInMarks .In b = false) : DT X (.Compare a [.In] [b] pos) (tB (tDIn ta tb)) (fun ε => boolOf (dOp dinD fa fb ε)) :=
  ⟨pt_cmp (pc_din hu ha.p hb.p) hm, fun F H ε σ k Q r e q => re_din ha.r hb.r F H ε σ (.bool k) _ r (boolOf_some e) fun v F' H' s d => ⟨k, dn_bool d, q F' H' s⟩⟩
theorem dt_dnin (hu : X.A.units + 1 < cLine) (ha : DE X a ta fa) (hb : DB X b tb fb) (hm : behindInMarks .NotIn b = false) : DT X (.Compare a [.NotIn] [b] pos) (tB (tDNotIn ta tb)) (fun ε => boolOf (dOp dninD fa fb ε)) :=
  ⟨pt_cmp (pc_dnotin hu ha.p hb.p) hm, fun F H ε σ k Q r e q => re_dnin ha.r hb.r F H ε σ (.bool k) _ r (boolOf_some e) fun v F' H' s d => ⟨k, dn_bool d, q F' H' s⟩⟩
/-- {} -/
theorem new_dk {F H : Hp} {p : Addr} (s : Same F H) (n : H p = none) : Step F H F (upd H p (.dK [])) ∧ F p = none := by
  refine ⟨⟨Same.refl _, fun b o q => by rw [upd_ne (ne_of_none q n)]; exact q, fun b o q => ?_, fun b o q1 q2 => q2⟩, s.free n⟩
  rw [upd_ne (ne_of_none (s _ _ q) n)]; exact s _ _ q
theorem dx_dnew : DX X (.Dict [] [] pos) tDNewK (fun _ => some (.od [])) := ⟨pe_dnewK, fun F H ε σ s Q r e k => by
  cases e
  intro p hp
  obtain ⟨st, nf⟩ := new_dk r.sub hp
  exact k _ F _ st ⟨⟨p, [], rfl, upd_same, nf, .nil⟩, fun p' _ z => by cases z; exact hp⟩⟩
/-- d[k] = v -/
def dDPut (i : Nat) (fk fe : En → Option PyData) : TD := fun R ε => ∃ kvs d k, fe ε = some d ∧ ε[i]? = some (some (.od kvs)) ∧ fk ε = some k ∧ isKeyD k = true ∧ kvs.length < sizeLine ∧ R.nx (ε.set i (some (.od (putD kvs k d))))
theorem ds_dput (i : Nat) {x : Str} {k : Expr} {tk : TE} {fk : En → Option PyData} (hu : X.A.units + 1 < cLine) (he : DE X e te fe) (hk : DE X k tk fk) (hN : X.N[i]? = some x := by rfl) (hv : Vis X.env.scope x := by first | exact Or.inl rfl | exact Or.inr (Or.inl rfl) | exact Or.inr (Or.inr rfl)) (hd : (x == ("__debug__" : Str)) = false := by decide)
    (hcd : (x == ("__classdict__" : Str)) = false := by decide) (hs : swapsWith e (some (.Subscript (.Name x p1) k spos)) pos.line X.env = pure false := by rfl) :
    DS X (.Assign [.Subscript (.Name x p1) k spos] e pos) (sDPut (tVar i) tk te) (dDPut i fk fe) :=
  ⟨ps_dput hu (pe_var hN hv hd hcd) hk.p he.p hs, fun F0 H0 F H ε σ R D r ⟨kvs, d, k, e1, e2, e3, e4, e5, h'⟩ c => by
    obtain ⟨v, h1, h2⟩ := r.e.sl _ _ e2
    obtain ⟨p, vs, rfl, hp, hF, al⟩ := h2
    refine he.r F H ε σ d _ r.e e1 fun y F1 H1 s1 d1 => ⟨_, h1, hk.r F1 H1 ε σ _ _ (r.e.step s1) e3 fun z F2 H2 s2 d2 => ?_⟩
    have s := s1.trans s2
    obtain ⟨j, rfl⟩ := dn_key d2 e4
    refine ⟨p, _, rfl, DPut.k (s.h _ _ hp) (by rw [DnKv.length al]; exact e5), ?_⟩
    exact c.nx _ _ _ _ ((r.step s).put (s' := .od (putD kvs k d)) e2 h1 rfl rfl ⟨p, _, rfl, upd_same, s.n _ _ hp hF, kv_put d2 (d1.mv s2.f) (al.mv s.f)⟩) s.f h'⟩
end
@[simp ↓] theorem dDPut_e {i : Nat} {fk fe : En → Option PyData} {R : DEnds} {ε : En} : dDPut i fk fe R ε = exO (fe ε) (fun d => exO (getS i ε) (fun s => exO s (fun s => exO (fk ε) (fun k => match s with
    | .od kvs => isKeyD k = true ∧ kvs.length < sizeLine ∧ atE (ε.set i (some (.od (putD kvs k d)))) R.nx ⟨⟩
    | _ => False) ⟨⟩) ⟨⟩) ⟨⟩) ⟨⟩ := by
  simp only [dDPut, exO, atE, getS]
  rw [eq_iff_iff]
  constructor
  · rintro ⟨kvs, d, k, h1, h2, h3, h4, h5, h6⟩
    exact ⟨d, h1, _, h2, _, rfl, k, h3, h4, h5, h6⟩
  · rintro ⟨d, h1, s, h2, s', h3, k, h4, h5⟩
    subst h3
    split at h5
    · exact ⟨_, d, k, h1, h2, h4, h5.1, h5.2.1, h5.2.2⟩
    · exact h5.elim
section
variable {X : Cx}
/-- sorted, of dicts with text keys too -/
def sortedSL : List PyData → Option (List PyData)
  | [.dict kvs] => (deTs (kvs.map (·.1))).bind fun ls => if ls.length < 64 ∧ ls.Nodup then some ((sortT ls).map S) else none
  | ds => sortedL ds
@[simp] theorem sortedSL_list (ds : List PyData) : sortedSL [.list ds] = sortedL [.list ds] := rfl
end
end M
namespace M
open PySem PySem.Spec PyProof.Rows L2
theorem rising_pw : ∀ (r : List Str) (x : Str), risingS x r = true → (x :: r).Pairwise fun a b => leT a.cps.toList b.cps.toList = true
  | [], x, _ => List.pairwise_singleton _ _
  | y :: r, x, h => by
    unfold risingS at h
    rw [Bool.and_eq_true] at h
    have ih := rising_pw r y h.2
    have hxy : leT x.cps.toList y.cps.toList = true := by
      have := h.1
      rw [ltCps_eq] at this
      unfold leT
      rw [decide_eq_true_eq]
      intro q
      rw [decide_eq_true q] at this
      cases this
    refine List.pairwise_cons.mpr ⟨fun z hz => ?_, ih⟩
    rcases List.mem_cons.mp hz with rfl | hz
    · exact hxy
    · exact leT_trans _ _ _ hxy ((List.pairwise_cons.mp ih).1 z hz)
theorem sortedS_pw {l : List Str} (h : sortedS l = true) : l.Pairwise fun a b => leT a.cps.toList b.cps.toList = true := by
  cases l with
  | nil => exact .nil
  | cons x r => exact rising_pw r x h
theorem sortedS_is {ys : List Str} {ls : List (List Nat)} (h : ys.Perm (ls.map mkS)) (hs : sortedS ys = true) : ys = (sortT ls).map mkS := by
  have e1 : ys.map (fun s : Str => s.cps.toList) = sortT ls := by
    refine sorted_uniq ((h.map _).trans ?_) (List.pairwise_map.mpr (sortedS_pw hs)) (sortT_sorted ls)
    rw [List.map_map, show ((fun s : Str => s.cps.toList) ∘ mkS) = id from funext fun l => mkS_toList l, List.map_id]
    exact (sortT_perm ls).symm
  rw [← e1, List.map_map, show (mkS ∘ fun s : Str => s.cps.toList) = id from funext fun s => (mkS_eta s).symm, List.map_id]
section
variable {X : Cx}
theorem kv_texts {K : PySem.W.Frag} {F : Hp} : ∀ {vs : List (Key × V)} {kvs : List (PyData × PyData)} {ls : List (List Nat)}, DnKv K F vs kvs → deTs (kvs.map (·.1)) = some ls → vs.map (·.1) = (ls.map mkS).map Sum.inr ∧ ∀ l ∈ ls, PyData.strOk (mkS l) = true
  | _, _, ls, .nil, e => by cases e; exact ⟨rfl, fun _ h => by cases h⟩
  | _, _, ls, .cons (k := k) (e := e0) a b c, e => by
    rw [List.map_cons] at e
    obtain ⟨l, e1, e2⟩ := Option.bind_eq_some_iff.mp e
    obtain ⟨ls', e3, rfl⟩ := Option.map_eq_some_iff.mp e2
    obtain ⟨h1, h2⟩ := kv_texts c e3
    have e4 := deT_eq e1
    simp only at e4
    subst e4
    rcases key_is a with ⟨s, rfl, q⟩ | ⟨i, rfl, q⟩
    · cases q
      have ho : PyData.strOk (mkS l) = true := by
        cases a with
        | str _ ho => exact ho
      refine ⟨by rw [List.map_cons, h1]; rfl, fun x hx => ?_⟩
      rcases List.mem_cons.mp hx with rfl | hx
      · exact ho
      · exact h2 x hx
    · cases q
theorem cr_sortedSA (hc : X.calm = true) (hu : ∃ k, Room k X.A) : CallR X (.builtin "sorted") (rGCL X.K sortedSL) := by
  intro pins s σ H xs us Q I r ⟨F, ds, d, s1, hb, e, k⟩
  unfold sortedSL at e
  split at e
  · rename_i kvs
    obtain ⟨ls, e1, e2⟩ := Option.bind_eq_some_iff.mp e
    split at e2
    · rename_i hcond
      cases e2
      obtain ⟨v, rfl, h⟩ := hb.one
      obtain ⟨p, vs, rfl, hv, av⟩ := h.entries s1
      obtain ⟨hk, hok⟩ := kv_texts av e1
      refine call_sortedD hc pins s σ H _ us Q I r ⟨p, vs, ls.map mkS, rfl, .inl hv, hk, by rw [List.length_map]; exact hcond.1, fun ys p' hp hs hn => ?_⟩
      rw [sortedS_is hp hs]
      obtain ⟨st, nf, hp'⟩ := new_lst (vs := ((sortT ls).map mkS).map V.str) s1 hn
      exact k p' _ F _ st hn nf hp' (texts_dn fun l hl => hok l ((sortT_perm _).mem_iff.mp hl))
    · cases e2
  · exact cr_sortedA hu pins s σ H xs us Q I r ⟨F, ds, d, s1, hb, e, k⟩
end
end M


namespace M
open PySem PySem.Spec PyProof.Rows L2
/-- a ten -/
def isTen (w : List Nat) : Bool := match w with | [c, _] => decide (50 ≤ c ∧ c ≤ 57) | _ => false
def isJoint (one other : List Nat) : Bool := isTen one && (match other with | [c] => c != 48 | _ => false)
/-- the figures of a word read by itself -/
def digitsOf (w : List Nat) : List Nat := match w with
  | [] => []
  | c :: r => if c = 100 then List.replicate 2 (r.getLast?.getD c) else if c = 116 then List.replicate 3 (r.getLast?.getD c) else w
/-- the utterances that the laws lay: few words, none empty, none long -/
def okW (ws : List (List Nat)) : Bool := decide (ws.length ≤ 40) && ws.all fun w => decide (w ≠ []) && decide (w.length ≤ 8)
theorem okW_iff {ws : List (List Nat)} : okW ws = true ↔ ws.length ≤ 40 ∧ ∀ w ∈ ws, w ≠ [] ∧ w.length ≤ 8 := by simp [okW]
def jw (ws : List (List Nat)) (i : Nat) : Bool := match ws[i]?, ws[i + 1]? with | some a, some b => isJoint a b | _, _ => false
def jointsOf (ws : List (List Nat)) : List Nat := (List.range (ws.length - 1)).filter (jw ws)
/-- one datum that is an utterance -/
theorem one_W {ds : List PyData} {d : PyData} {f : List (List Nat) → PyData} (h : (match ds with | [d] => (deW d).bind fun ws => if okW ws = true then some (f ws) else none | _ => none) = some d) : ∃ ws : List (List Nat), ds = [.tuple (ws.map S)] ∧ okW ws = true ∧ d = f ws := by
  split at h
  · obtain ⟨ws, e1, e2⟩ := Option.bind_eq_some_iff.mp h
    rw [deW_eq e1]
    split at e2
    · rename_i h1
      cases e2
      exact ⟨ws, rfl, h1, rfl⟩
    · cases e2
  · cases h
/-- what an utterance may stand for, in the order the program finds it -/
def rd : List (List Nat) → List (List Nat)
  | [] => [[]]
  | [a] => [digitsOf a]
  | a :: b :: r => if isJoint a b = true then (rd r).map ((a ++ b) ++ ·) ++ (rd r).map ((a.take 1 ++ b) ++ ·) else (rd (b :: r)).map (digitsOf a ++ ·)
theorem isJoint_one {a b : List Nat} (h : isJoint a b = true) : b.length = 1 ∧ a.length = 2 := by
  unfold isJoint isTen at h
  match a, b, h with
  | [_, _], [_], _ => exact ⟨rfl, rfl⟩
  | [], _, h => simp at h
  | [_], _, h => simp at h
  | _ :: _ :: _ :: _, _, h => simp at h
  | [_, _], [], h => simp at h
  | [_, _], _ :: _ :: _, h => simp at h
theorem isJoint_two {b : List Nat} (h : b.length = 1) (c : List Nat) : isJoint b c = false := by
  match b, h with
  | [x], _ => simp [isJoint, isTen]
theorem rd_joint {a b : List Nat} {r : List (List Nat)} (h : isJoint a b = true) : rd (a :: b :: r) = (rd r).map ((a ++ b) ++ ·) ++ (rd r).map ((a.take 1 ++ b) ++ ·) := by
  rw [rd, if_pos h]
theorem rd_not {a : List Nat} {r : List (List Nat)} (h : ∀ b r', r = b :: r' → isJoint a b = false) : rd (a :: r) = (rd r).map (digitsOf a ++ ·) := by
  match r with
  | [] => simp [rd]
  | b :: r => rw [rd, if_neg (by rw [h b r rfl]; decide)]
theorem digitsOf_len (w : List Nat) (h : w.length ≤ 8) : (digitsOf w).length ≤ 8 := by
  unfold digitsOf
  split
  · simp
  · split
    · simp
    · split
      · simp
      · exact h
theorem rd_ne : ∀ ws : List (List Nat), rd ws ≠ []
  | [] => by simp [rd]
  | [a] => by simp [rd]
  | a :: b :: r => by
    have h1 := rd_ne r
    have h2 := rd_ne (b :: r)
    rw [rd]
    split <;> simp [h1, h2]
theorem rd_len : ∀ (ws : List (List Nat)), (∀ w ∈ ws, w.length ≤ 8) → ∀ t ∈ rd ws, t.length ≤ 8 * ws.length
  | [], _, t, ht => by simp [rd] at ht; subst ht; simp
  | [a], h, t, ht => by
    simp [rd] at ht
    subst ht
    exact digitsOf_len a (h a List.mem_cons_self)
  | a :: b :: r, h, t, ht => by
    have h1 := rd_len r (fun w hw => h w (by simp [hw]))
    have h2 := rd_len (b :: r) (fun w hw => h w (by simp at hw; simp [hw]))
    have ha := h a (by simp)
    have hb := h b (by simp)
    have hd := digitsOf_len a ha
    rw [rd] at ht
    split at ht
    · simp only [List.mem_append, List.mem_map] at ht
      rcases ht with ⟨x, hx, rfl⟩ | ⟨x, hx, rfl⟩ <;> have := h1 x hx <;> simp only [List.length_append, List.length_cons, List.length_take] <;> omega
    · simp only [List.mem_map] at ht
      obtain ⟨x, hx, rfl⟩ := ht
      have := h2 x hx
      simp only [List.length_append, List.length_cons] at *
      omega
theorem rd_size : ∀ (ws : List (List Nat)), (rd ws).length * (rd ws).length ≤ 2 ^ ws.length
  | [] => by simp [rd]
  | [a] => by simp [rd]
  | a :: b :: r => by
    have h1 := rd_size r
    have h2 := rd_size (b :: r)
    rw [rd]
    split
    · simp only [List.length_append, List.length_map, List.length_cons, Nat.pow_succ]
      have : ((rd r).length + (rd r).length) * ((rd r).length + (rd r).length) = 4 * ((rd r).length * (rd r).length) := by rw [← Nat.two_mul, Nat.mul_mul_mul_comm]
      omega
    · rw [List.length_map]
      refine Nat.le_trans h2 ?_
      rw [List.length_cons (a := a), Nat.pow_succ]
      omega
theorem rd_size' {ws : List (List Nat)} (h : ws.length ≤ 40) : (rd ws).length ≤ 1048576 := by
  have h1 := rd_size ws
  have h2 : 2 ^ ws.length ≤ 2 ^ 40 := Nat.pow_le_pow_right (by decide) h
  apply Decidable.byContradiction
  intro hn
  have h3 : 1048577 * 1048577 ≤ (rd ws).length * (rd ws).length := Nat.mul_le_mul (by omega) (by omega)
  omega
/-- found, with every end put on, is all -/
def putEnds (F rest : List (List Nat)) : List (List Nat) := F.flatMap fun x => (rd rest).map (x ++ ·)
theorem putEnds_len (F rest : List (List Nat)) : F.length ≤ (putEnds F rest).length := by
  have : 1 ≤ (rd rest).length := by
    have := rd_ne rest
    cases h : rd rest with
    | nil => exact absurd h this
    | cons _ _ => simp
  induction F with
  | nil => simp
  | cons x F ih =>
    simp only [putEnds, List.flatMap_cons, List.length_append, List.length_map, List.length_cons] at ih ⊢
    omega
theorem putEnds_text {F rest all : List (List Nat)} (h : putEnds F rest = all) {n : Nat} (hn : ∀ t ∈ all, t.length ≤ n) : ∀ x ∈ F, x.length ≤ n := by
  intro x hx
  obtain ⟨t, ht⟩ := List.exists_mem_of_ne_nil _ (rd_ne rest)
  have : x ++ t ∈ all := by
    rw [← h]
    exact List.mem_flatMap.mpr ⟨x, hx, List.mem_map.mpr ⟨t, ht, rfl⟩⟩
  have := hn _ this
  rw [List.length_append] at this
  omega
theorem putEnds_joint {F : List (List Nat)} {a b : List Nat} {r : List (List Nat)} (h : isJoint a b = true) : putEnds (F.flatMap fun x => [x ++ (a ++ b), x ++ (a.take 1 ++ b)]) r = putEnds F (a :: b :: r) := by
  unfold putEnds
  rw [rd_joint h, List.flatMap_assoc]
  congr 1
  funext x
  simp [List.map_map, Function.comp_def]
theorem putEnds_not {F : List (List Nat)} {a : List Nat} {r : List (List Nat)} (h : ∀ b r', r = b :: r' → isJoint a b = false) : putEnds (F.map (· ++ digitsOf a)) r = putEnds F (a :: r) := by
  unfold putEnds
  rw [rd_not h, List.flatMap_map]
  congr 1
  funext x
  simp [List.map_map, Function.comp_def]
theorem jw_at {ws : List (List Nat)} {i : Nat} {a b : List Nat} (h1 : ws[i]? = some a) (h2 : ws[i + 1]? = some b) : jw ws i = isJoint a b := by simp [jw, h1, h2]
theorem mem_jointsOf {ws : List (List Nat)} {i : Nat} : i ∈ jointsOf ws ↔ jw ws i = true := by
  unfold jointsOf
  rw [List.mem_filter, List.mem_range]
  constructor
  · exact fun h => h.2
  · intro h
    refine ⟨?_, h⟩
    unfold jw at h
    cases h1 : ws[i + 1]? with
    | none => rw [h1] at h; cases h0 : ws[i]? <;> simp [h0] at h
    | some b => have := (List.getElem?_eq_some_iff.mp h1).1; omega
theorem drop_at {ws : List (List Nat)} {i : Nat} {a : List Nat} (h : ws[i]? = some a) : ws.drop i = a :: ws.drop (i + 1) := by
  obtain ⟨h1, h2⟩ := List.getElem?_eq_some_iff.mp h
  rw [List.drop_eq_getElem_cons h1, h2]
def mostOf (ws : List (List Nat)) : Nat := (ws.map fun w => (digitsOf w).length).sum
@[simp] theorem intsD_map {α : Type} (f : α → Int) : ∀ xs : List α, intsD (xs.map fun x => .int (f x)) = some (xs.map f)
  | [] => rfl
  | x :: xs => by simp [intsD, intsD_map f xs]
theorem sum_cast {α : Type} (f : α → Nat) : ∀ xs : List α, (xs.map fun x => (f x : Int)).sum = ((xs.map f).sum : Nat)
  | [] => rfl
  | x :: xs => by simp [sum_cast f xs]
/-- a row of the triangle -/
def prow : Nat → List Nat
  | 0 => [1]
  | n + 1 => List.zipWith (· + ·) (0 :: prow n) (prow n ++ [0])
def cntL (ws : List (List Nat)) (L : Int) : Nat := if (mostOf ws : Int) - (jointsOf ws).length ≤ L ∧ L ≤ mostOf ws then (prow (jointsOf ws).length).getD (L - ((mostOf ws : Int) - (jointsOf ws).length)).toNat 0 else 0
theorem prow_length : ∀ n, (prow n).length = n + 1
  | 0 => rfl
  | n + 1 => by simp [prow, prow_length n]
theorem zipL_map {α β : Type} (f : α → PyData) (g : β → PyData) : ∀ (xs : List α) (ys : List β), zipL (xs.map f) (ys.map g) = (xs.zip ys).map fun p => .tuple [f p.1, g p.2]
  | [], _ => by simp
  | _ :: _, [] => by simp
  | x :: xs, y :: ys => by simp [zipL_map f g xs ys]
theorem jointsOf_len (ws : List (List Nat)) : (jointsOf ws).length ≤ ws.length := Nat.le_trans (List.length_filter_le _ _) (by rw [List.length_range]; omega)
/-- two data: an utterance and an int -/
theorem one_WI {ds : List PyData} {d : PyData} {f : List (List Nat) → Int → PyData} (h : (match ds with | [d, .int L] => (deW d).bind fun ws => if okW ws = true then some (f ws L) else none | _ => none) = some d) : ∃ (ws : List (List Nat)) (L : Int), ds = [.tuple (ws.map S), .int L] ∧ okW ws = true ∧ d = f ws L := by
  split at h
  · obtain ⟨ws, e1, e2⟩ := Option.bind_eq_some_iff.mp h
    rw [deW_eq e1]
    split at e2
    · rename_i h1
      cases e2
      exact ⟨ws, _, rfl, h1, rfl⟩
    · cases e2
  · cases h
theorem intsD_eq : ∀ {ds : List PyData} {ns : List Int}, intsD ds = some ns → ds = ns.map .int
  | [], ns, h => by cases h; rfl
  | .int i :: ds, ns, h => by
    obtain ⟨ns', e1, rfl⟩ := Option.map_eq_some_iff.mp h
    rw [intsD_eq e1]; rfl
  | .none :: _, _, h => by cases h
  | .bool _ :: _, _, h => by cases h
  | .str _ :: _, _, h => by cases h
  | .list _ :: _, _, h => by cases h
  | .tuple _ :: _, _, h => by cases h
  | .dict _ :: _, _, h => by cases h
/-- a number's text -/
def nT (k : Nat) : List Nat := (strI (k : Int)).cps.toList
/-- the 48 words -/
def lawWords : List (List Nat) := ((List.range 20).map nT ++ (List.range 8).map fun k => nT (10 * (2 + k))) ++ ((List.range 10).map fun k => [100, 111, 117, 98, 108, 101, 32] ++ nT k) ++ ((List.range 10).map fun k => [116, 114, 105, 112, 108, 101, 32] ++ nT k)
theorem nT_ok (n : Nat) (h : n < 1000) : (n.log2 < 1920 ∧ PyData.strOk (strI (n : Int)) = true) ∧ (nT n).length ≤ 3 := by
  have key : ∀ n : Nat, n < 1000 → (n.log2 < 1920 ∧ PyData.strOk (strI (n : Int)) = true) ∧ (nT n).length ≤ 3 := by decide +kernel
  exact key n h
theorem strI_nT (n : Nat) : strI (n : Int) = mkS (nT n) := mkS_eta _
theorem strD_nat {n : Nat} (h : n < 1000) : strD [.int (n : Int)] = some (.str (mkS (nT n))) := by
  have := (nT_ok n h).1
  rw [strD, ← strI_nT]
  exact if_pos this
theorem strD_ok {i : Int} (h0 : 0 ≤ i) (h : i < 1000) : strD [.int i] = some (.str (mkS (nT i.toNat))) := by
  obtain ⟨n, rfl⟩ := Int.eq_ofNat_of_zero_le h0
  exact strD_nat (by omega)
theorem lawWords_ok : ∀ w ∈ lawWords, w ≠ [] ∧ w.length ≤ 8 := by decide +kernel
theorem lawWords_len : lawWords.length = 48 := by decide +kernel
theorem nT_mem : (∀ k, k < 10 → nT k ∈ lawWords) ∧ ∀ k, k < 8 → nT (20 + 10 * k) ∈ lawWords := by decide +kernel
theorem okW_mem {ws : List (List Nat)} (h : ws.length ≤ 40) (hm : ∀ w ∈ ws, w ∈ lawWords) : okW ws = true := okW_iff.mpr ⟨h, fun w hw => lawWords_ok w (hm w hw)⟩
theorem single_ok : ∀ a ∈ lawWords, ∀ b ∈ lawWords, isJoint a b = true → digitsOf a = a ∧ digitsOf b = b := by decide +kernel
/-! ### fits: the places reached -/
def stepsL (ps : List Nat) (part dg : List Nat) : List Nat := (ps.filter fun p => (dg.drop p).take part.length == part).map (· + part.length)
/-- the places reached, word by word -/
def reachL (dg : List Nat) (ws : List (List Nat)) : Nat → List Nat
  | 0 => [0]
  | i + 1 => stepsL (reachL dg ws i) (digitsOf (ws.getD i [])) dg ++ (match i with | 0 => [] | j + 1 => if isJoint (ws.getD j []) (ws.getD (j + 1) []) = true then stepsL (reachL dg ws j) ((ws.getD j []).take 1 ++ ws.getD (j + 1) []) dg else [])
def fitsL (ws : List (List Nat)) (dg : List Nat) : Bool := decide (dg.length ∈ reachL dg ws ws.length)
/-- an utterance read, as a relation -/
inductive Rdg : List (List Nat) → List Nat → Prop
  | nil : Rdg [] []
  | one {a ws t} : Rdg ws t → Rdg (a :: ws) (digitsOf a ++ t)
  | two {a b ws t} : isJoint a b = true → Rdg ws t → Rdg (a :: b :: ws) (a.take 1 ++ b ++ t)
theorem Rdg.snoc {ws : List (List Nat)} {t : List Nat} (h : Rdg ws t) (a : List Nat) : Rdg (ws ++ [a]) (t ++ digitsOf a) := by
  induction h with
  | nil => have := Rdg.one (a := a) Rdg.nil; simpa using this
  | @one a' ws' t' _ ih => have := Rdg.one (a := a') ih; simpa [List.append_assoc] using this
  | two hj _ ih => have := Rdg.two hj ih; simpa [List.append_assoc] using this
theorem Rdg.snoc2 {ws : List (List Nat)} {t : List Nat} (h : Rdg ws t) {a b : List Nat} (hj : isJoint a b = true) : Rdg (ws ++ [a, b]) (t ++ (a.take 1 ++ b)) := by
  induction h with
  | nil => have := Rdg.two hj Rdg.nil; simpa using this
  | @one a' ws' t' _ ih => have := Rdg.one (a := a') ih; simpa [List.append_assoc] using this
  | two hj' _ ih => have := Rdg.two hj' ih; simpa [List.append_assoc] using this
/-- the last step of a reading -/
theorem Rdg.last {us : List (List Nat)} {t : List Nat} (h : Rdg us t) : us = [] ∧ t = [] ∨ (∃ ws a t', us = ws ++ [a] ∧ t = t' ++ digitsOf a ∧ Rdg ws t') ∨ ∃ ws a b t', us = ws ++ [a, b] ∧ t = t' ++ (a.take 1 ++ b) ∧ isJoint a b = true ∧ Rdg ws t' := by
  induction h with
  | nil => exact .inl ⟨rfl, rfl⟩
  | @one a ws t h ih =>
    right
    rcases ih with ⟨rfl, rfl⟩ | ⟨ws', a', t', rfl, rfl, h'⟩ | ⟨ws', a', b', t', rfl, rfl, hj, h'⟩
    · exact .inl ⟨[], a, [], rfl, by simp, .nil⟩
    · exact .inl ⟨a :: ws', a', digitsOf a ++ t', rfl, by simp, .one h'⟩
    · exact .inr ⟨a :: ws', a', b', digitsOf a ++ t', rfl, by simp, hj, .one h'⟩
  | @two a b ws t hab h ih =>
    right
    rcases ih with ⟨rfl, rfl⟩ | ⟨ws', a', t', rfl, rfl, h'⟩ | ⟨ws', a', b', t', rfl, rfl, hj, h'⟩
    · exact .inr ⟨[], a, b, [], rfl, by simp, hab, .nil⟩
    · exact .inl ⟨a :: b :: ws', a', a.take 1 ++ b ++ t', rfl, by simp, .two hab h'⟩
    · exact .inr ⟨a :: b :: ws', a', b', a.take 1 ++ b ++ t', rfl, by simp, hj, .two hab h'⟩
theorem reachL_s (dg : List Nat) (ws : List (List Nat)) (i : Nat) : reachL dg ws (i + 1) = stepsL (reachL dg ws i) (digitsOf (ws.getD i [])) dg ++ (match i with | 0 => [] | j + 1 => if isJoint (ws.getD j []) (ws.getD (j + 1) []) = true then stepsL (reachL dg ws j) ((ws.getD j []).take 1 ++ ws.getD (j + 1) []) dg else []) := by
  cases i <;> rfl
theorem rdg_rd : ∀ {ws : List (List Nat)}, (∀ w ∈ ws, w ∈ lawWords) → ∀ t, t ∈ rd ws ↔ Rdg ws t
  | [], _, t => ⟨fun h => by simp [rd] at h; subst h; exact .nil, fun h => by cases h; simp [rd]⟩
  | [a], _, t => by
    constructor
    · intro h
      simp [rd] at h
      subst h
      have := Rdg.one (a := a) Rdg.nil
      simpa using this
    · intro h
      cases h with
      | one h => cases h; simp [rd]
  | a :: b :: r, hm, t => by
    have h1 := rdg_rd (ws := r) fun w hw => hm w (by simp [hw])
    have h2 := rdg_rd (ws := b :: r) fun w hw => hm w (by simp at hw; simp [hw])
    by_cases hj : isJoint a b = true
    · obtain ⟨d1, d2⟩ := single_ok a (hm a (by simp)) b (hm b (by simp)) hj
      have hl1 := (isJoint_one hj).1
      rw [rd_joint hj]
      simp only [List.mem_append, List.mem_map]
      constructor
      · rintro (⟨x, hx, rfl⟩ | ⟨x, hx, rfl⟩)
        · have := Rdg.one (a := a) (Rdg.one (a := b) ((h1 x).mp hx))
          rw [d1, d2, ← List.append_assoc] at this
          exact this
        · exact .two hj ((h1 x).mp hx)
      · intro h
        cases h with
        | one h =>
          left
          cases h with
          | @one _ _ x h => exact ⟨x, (h1 x).mpr h, by rw [d1, d2, List.append_assoc]⟩
          | two hj' _ => rw [isJoint_two hl1] at hj'; cases hj'
        | @two _ _ _ x _ h => exact .inr ⟨x, (h1 x).mpr h, rfl⟩
    · rw [rd, if_neg hj]
      simp only [List.mem_map]
      constructor
      · rintro ⟨x, hx, rfl⟩
        exact .one ((h2 x).mp hx)
      · intro h
        cases h with
        | @one _ _ x h => exact ⟨x, (h2 x).mpr h, rfl⟩
        | two hj' _ => exact absurd hj' hj
theorem mem_stepsL {ps : List Nat} {part dg : List Nat} {q : Nat} : q ∈ stepsL ps part dg ↔ ∃ p ∈ ps, (dg.drop p).take part.length = part ∧ q = p + part.length := by
  unfold stepsL
  simp only [List.mem_map, List.mem_filter, beq_iff_eq]
  constructor
  · rintro ⟨p, ⟨h1, h2⟩, rfl⟩; exact ⟨p, h1, h2, rfl⟩
  · rintro ⟨p, h1, h2, rfl⟩; exact ⟨p, ⟨h1, h2⟩, rfl⟩
theorem take_step {dg t part : List Nat} (h1 : dg.take t.length = t) (h2 : (dg.drop t.length).take part.length = part) : dg.take (t ++ part).length = t ++ part := by
  rw [List.length_append, List.take_add, h1, h2]
theorem step_take {dg t part : List Nat} (h : dg.take (t ++ part).length = t ++ part) : dg.take t.length = t ∧ (dg.drop t.length).take part.length = part := by
  rw [List.length_append, List.take_add] at h
  have hl : (dg.take t.length).length = t.length := by
    have := congrArg List.length h
    simp only [List.length_append, List.length_take, List.length_drop] at this ⊢
    omega
  exact ⟨(List.append_inj h hl).1, (List.append_inj h hl).2⟩
/-- a place is reached after i words iff a reading of them stands before it -/
theorem mem_reachL {dg : List Nat} {ws : List (List Nat)} : ∀ {i : Nat}, i ≤ ws.length → ∀ p, p ∈ reachL dg ws i ↔ ∃ t, Rdg (ws.take i) t ∧ dg.take t.length = t ∧ p = t.length
  | 0, _, p => by
    rw [reachL, List.take_zero]
    constructor
    · intro h; simp at h; exact ⟨[], .nil, by simp, by simp [h]⟩
    · rintro ⟨t, h, _, rfl⟩; cases h; simp
  | i + 1, hi, p => by
    have ih := mem_reachL (dg := dg) (ws := ws) (i := i) (by omega)
    have hg : ws[i]? = some (ws.getD i []) := by rw [List.getD_eq_getElem?_getD, List.getElem?_eq_getElem (by omega)]; rfl
    have htk : ws.take (i + 1) = ws.take i ++ [ws.getD i []] := by rw [List.take_add_one, hg]; rfl
    rw [reachL_s, List.mem_append, mem_stepsL]
    constructor
    · rintro (⟨q, h1, h2, rfl⟩ | h)
      · obtain ⟨t, r1, r2, rfl⟩ := (ih q).mp h1
        exact ⟨t ++ digitsOf (ws.getD i []), by rw [htk]; exact r1.snoc _, take_step r2 h2, by simp⟩
      · match i, hi, ih, hg, htk, h with
        | 0, _, _, _, _, h => simp at h
        | j + 1, hi, _, hg, htk, h =>
          simp only at h
          split at h
          · rename_i hj
            obtain ⟨q, h1, h2, rfl⟩ := mem_stepsL.mp h
            obtain ⟨t, r1, r2, rfl⟩ := (mem_reachL (dg := dg) (ws := ws) (i := j) (by omega) q).mp h1
            have hg2 : ws[j]? = some (ws.getD j []) := by rw [List.getD_eq_getElem?_getD, List.getElem?_eq_getElem (by omega)]; rfl
            have htk2 : ws.take (j + 1) = ws.take j ++ [ws.getD j []] := by rw [List.take_add_one, hg2]; rfl
            exact ⟨t ++ ((ws.getD j []).take 1 ++ ws.getD (j + 1) []), by rw [htk, htk2, List.append_assoc]; exact r1.snoc2 hj, take_step r2 h2, by simp⟩
          · cases h
    · rintro ⟨t, r, ht, rfl⟩
      rcases r.last with ⟨e, _⟩ | ⟨us, a, t', e, rfl, r'⟩ | ⟨us, a, b, t', e, rfl, hj, r'⟩
      · rw [htk] at e; simp at e
      · rw [htk] at e
        obtain ⟨rfl, e2⟩ := List.append_inj' e rfl
        cases e2
        obtain ⟨h1, h2⟩ := step_take ht
        exact .inl ⟨t'.length, (ih _).mpr ⟨t', r', h1, rfl⟩, h2, by simp⟩
      · right
        match i, hi, ih, hg, htk with
        | 0, _, _, _, htk =>
          have := congrArg List.length e
          simp at this
          omega
        | j + 1, hi, _, hg, htk =>
          have hg2 : ws[j]? = some (ws.getD j []) := by rw [List.getD_eq_getElem?_getD, List.getElem?_eq_getElem (by omega)]; rfl
          have htk2 : ws.take (j + 1) = ws.take j ++ [ws.getD j []] := by rw [List.take_add_one, hg2]; rfl
          rw [htk, htk2, List.append_assoc] at e
          obtain ⟨rfl, e2⟩ := List.append_inj' e rfl
          cases e2
          obtain ⟨h1, h2⟩ := step_take ht
          simp only
          rw [if_pos hj]
          exact mem_stepsL.mpr ⟨t'.length, (mem_reachL (i := j) (by omega) _).mpr ⟨t', r', h1, rfl⟩, h2, by simp⟩
theorem fitsL_eq {ws : List (List Nat)} (hm : ∀ w ∈ ws, w ∈ lawWords) (dg : List Nat) : fitsL ws dg = decide (dg ∈ rd ws) := by
  unfold fitsL
  rw [Bool.eq_iff_iff, decide_eq_true_iff, decide_eq_true_iff, mem_reachL (Nat.le_refl _), rdg_rd hm, List.take_length]
  constructor
  · rintro ⟨t, h1, h2, h3⟩
    rw [← h3, List.take_length] at h2
    rw [h2]; exact h1
  · intro h
    exact ⟨dg, h, List.take_length, rfl⟩
/-! ### strings heard alike -/
def hiF (c : Nat) : Bool := decide (50 ≤ c ∧ c ≤ 57)
def loF (c : Nat) : Bool := decide (49 ≤ c ∧ c ≤ 57)
theorem hiF_iff {c : Nat} : hiF c = true ↔ 50 ≤ c ∧ c ≤ 57 := by simp [hiF]
theorem loF_iff {c : Nat} : loF c = true ↔ 49 ≤ c ∧ c ≤ 57 := by simp [loF]
theorem loF_48 : loF 48 = false := by decide
/-- the sizes of the places at the front -/
def plAt : List Nat → List Nat
  | a :: b :: r => if hiF a && loF b then [2] else if hiF a && b == 48 && loF (r.headD 0) then [3] else []
  | _ => []
/-- what stands there when it is changed -/
def chg (x : List Nat) (s : Nat) : List Nat := match x with
  | a :: b :: r => if s = 2 then [a, 48, b] else [a, r.headD 0]
  | _ => []
def al : List Nat → List (List Nat)
  | [] => [[]]
  | [a] => [[a]]
  | [a, b] => (al [b]).map (a :: ·) ++ if hiF a && loF b then [[a, 48, b]] else []
  | a :: b :: c :: r => (al (b :: c :: r)).map (a :: ·) ++ if hiF a && loF b then (al (c :: r)).map ([a, 48, b] ++ ·) else if hiF a && b == 48 && loF c then (al r).map ([a, c] ++ ·) else []
theorem loF_0 : loF 0 = false := by decide
theorem al_cons (a : Nat) (r : List Nat) : al (a :: r) = (al r).map (a :: ·) ++ (plAt (a :: r)).flatMap fun s => (al ((a :: r).drop s)).map (chg (a :: r) s ++ ·) := by
  match r with
  | [] => simp [al, plAt]
  | [b] =>
    conv => lhs; rw [al]
    by_cases h : (hiF a && loF b) = true
    · simp [plAt, h, al, chg]
    · simp [plAt, h, loF_0]
  | b :: c :: r =>
    conv => lhs; rw [al]
    by_cases h : (hiF a && loF b) = true
    · simp [plAt, h, chg]
    · by_cases h2 : (hiF a && b == 48 && loF c) = true
      · simp [plAt, h, h2, chg]
      · simp [plAt, h, h2]
inductive Al : List Nat → List Nat → Prop
  | nil : Al [] []
  | same {c : Nat} {x y : List Nat} : Al x y → Al (c :: x) (c :: y)
  | ins {c d : Nat} {x y : List Nat} : hiF c = true → loF d = true → Al x y → Al (c :: d :: x) (c :: 48 :: d :: y)
  | del {c d : Nat} {x y : List Nat} : hiF c = true → loF d = true → Al x y → Al (c :: 48 :: d :: x) (c :: d :: y)
theorem Al.symm : ∀ {x y : List Nat}, Al x y → Al y x
  | _, _, .nil => .nil
  | _, _, .same h => .same h.symm
  | _, _, .ins a b h => .del a b h.symm
  | _, _, .del a b h => .ins a b h.symm
theorem Al.refl : ∀ x : List Nat, Al x x
  | [] => .nil
  | _ :: x => .same (Al.refl x)
theorem plAt_mem {a s : Nat} {r : List Nat} (h : s ∈ plAt (a :: r)) : (∃ b r', r = b :: r' ∧ hiF a = true ∧ loF b = true ∧ s = 2) ∨ (∃ c r', r = 48 :: c :: r' ∧ hiF a = true ∧ loF c = true ∧ s = 3) := by
  match r with
  | [] => simp [plAt] at h
  | b :: r =>
    rw [plAt] at h
    split at h
    · rename_i hc
      simp only [Bool.and_eq_true] at hc
      exact .inl ⟨b, r, rfl, hc.1, hc.2, by simpa using h⟩
    · split at h
      · rename_i hc
        simp only [Bool.and_eq_true, beq_iff_eq] at hc
        obtain ⟨⟨h1, rfl⟩, h2⟩ := hc
        match r with
        | [] => rw [List.headD_nil, loF_0] at h2; cases h2
        | c :: r => exact .inr ⟨c, r, rfl, h1, h2, by simpa using h⟩
      · cases h
theorem plAt_len (x : List Nat) : (plAt x).length ≤ 1 := by
  unfold plAt
  split
  · split
    · simp
    · split <;> simp
  · simp
theorem plAt_two {a b : Nat} {r : List Nat} (h1 : hiF a = true) (h2 : loF b = true) : plAt (a :: b :: r) = [2] := by simp [plAt, h1, h2]
theorem plAt_three {a c : Nat} {r : List Nat} (h1 : hiF a = true) (h2 : loF c = true) : plAt (a :: 48 :: c :: r) = [3] := by simp [plAt, h1, h2, loF_48]
theorem mem_al : ∀ (n : Nat) (x y : List Nat), x.length ≤ n → (y ∈ al x ↔ Al x y) := by
  intro n
  induction n with
  | zero =>
    intro x y h
    match x, h with
    | [], _ =>
      simp only [al, List.mem_singleton]
      exact ⟨fun e => by rw [e]; exact .nil, fun h => by cases h; rfl⟩
  | succ n ih =>
    intro x y h
    match x with
    | [] =>
      simp only [al, List.mem_singleton]
      exact ⟨fun e => by rw [e]; exact .nil, fun h => by cases h; rfl⟩
    | a :: r =>
      simp only [List.length_cons] at h
      rw [al_cons, List.mem_append, List.mem_map, List.mem_flatMap]
      constructor
      · rintro (⟨t, ht, rfl⟩ | ⟨s, hs, ht⟩)
        · exact .same ((ih r t (by omega)).mp ht)
        · obtain ⟨t, ht, rfl⟩ := List.mem_map.mp ht
          rcases plAt_mem hs with ⟨b, r', rfl, h1, h2, rfl⟩ | ⟨c, r', rfl, h1, h2, rfl⟩
          · simp only [List.length_cons] at h
            exact .ins h1 h2 ((ih r' t (by omega)).mp (by simpa using ht))
          · simp only [List.length_cons] at h
            exact .del h1 h2 ((ih r' t (by omega)).mp (by simpa using ht))
      · intro q
        cases q with
        | same q => exact .inl ⟨_, (ih r _ (by omega)).mpr q, rfl⟩
        | ins h1 h2 q =>
          simp only [List.length_cons] at h
          refine .inr ⟨2, by rw [plAt_two h1 h2]; simp, ?_⟩
          rename_i d x y
          exact List.mem_map.mpr ⟨y, by simpa using (ih x y (by omega)).mpr q, by simp [chg]⟩
        | del h1 h2 q =>
          simp only [List.length_cons] at h
          refine .inr ⟨3, by rw [plAt_three h1 h2]; simp, ?_⟩
          rename_i d x y
          exact List.mem_map.mpr ⟨y, by simpa using (ih x y (by omega)).mpr q, by simp [chg]⟩
theorem mem_alI {x y : List Nat} : y ∈ al x ↔ Al x y := mem_al x.length x y (Nat.le_refl _)
theorem al_ne (x : List Nat) : al x ≠ [] := fun h => by
  have := mem_alI.mpr (Al.refl x)
  rw [h] at this
  cases this
theorem Al.len {x y : List Nat} (h : Al x y) : y.length ≤ 2 * x.length := by
  induction h with
  | nil => simp
  | same _ ih => simp only [List.length_cons]; omega
  | ins _ _ _ ih => simp only [List.length_cons]; omega
  | del _ _ _ ih => simp only [List.length_cons]; omega
theorem Al.figs {p : Nat → Prop} (p0 : p 48) {x y : List Nat} (h : Al x y) (hx : ∀ c ∈ x, p c) : ∀ c ∈ y, p c := by
  induction h with
  | nil => exact hx
  | same _ ih =>
    simp only [List.mem_cons, forall_eq_or_imp] at hx ⊢
    exact ⟨hx.1, ih hx.2⟩
  | ins _ _ _ ih =>
    simp only [List.mem_cons, forall_eq_or_imp] at hx ⊢
    exact ⟨hx.1, p0, hx.2.1, ih hx.2.2⟩
  | del _ _ _ ih =>
    simp only [List.mem_cons, forall_eq_or_imp] at hx ⊢
    exact ⟨hx.1, hx.2.2.1, ih hx.2.2.2⟩
theorem al_size : ∀ (n : Nat) (x : List Nat), x.length ≤ n → (al x).length ≤ 2 ^ n := by
  intro n
  induction n using Nat.strongRecOn with
  | ind n ih =>
    intro x h
    match x with
    | [] => simp only [al, List.length_singleton]; exact Nat.one_le_two_pow
    | a :: r =>
      simp only [List.length_cons] at h
      obtain ⟨n, rfl⟩ : ∃ k, n = k + 1 := ⟨n - 1, by omega⟩
      have h1 := ih n (by omega) r (by omega)
      rw [al_cons, List.length_append, List.length_map]
      have h2 : ((plAt (a :: r)).flatMap fun s => (al ((a :: r).drop s)).map (chg (a :: r) s ++ ·)).length ≤ 2 ^ n := by
        cases hp : plAt (a :: r) with
        | nil => simp
        | cons s t =>
          have hs : s ∈ plAt (a :: r) := by rw [hp]; simp
          have ht : t = [] := by
            have := plAt_len (a :: r)
            rw [hp] at this
            simpa using this
          subst ht
          simp only [List.flatMap_cons, List.flatMap_nil, List.append_nil, List.length_map]
          rcases plAt_mem hs with ⟨b, r', rfl, _, _, rfl⟩ | ⟨c, r', rfl, _, _, rfl⟩
          · simp only [List.length_cons] at h
            exact ih n (by omega) _ (by simp; omega)
          · simp only [List.length_cons] at h
            exact ih n (by omega) _ (by simp; omega)
      rw [Nat.pow_succ]
      omega
theorem al_nodup : ∀ (n : Nat) (x : List Nat), x.length ≤ n → (al x).Nodup := by
  intro n
  induction n using Nat.strongRecOn with
  | ind n ih =>
    intro x h
    match x with
    | [] => simp [al]
    | a :: r =>
      simp only [List.length_cons] at h
      have h1 := ih r.length (by omega) r (Nat.le_refl _)
      rw [al_cons]
      have inj : ∀ (p : List Nat) (xs : List (List Nat)), xs.Nodup → (xs.map (p ++ ·)).Nodup := fun p xs hx => by
        refine List.pairwise_map.mpr (hx.imp fun {u v} hne e => hne (List.append_cancel_left e))
      refine List.nodup_append.mpr ⟨by simpa using inj [a] _ h1, ?_, ?_⟩
      · cases hp : plAt (a :: r) with
        | nil => simp
        | cons s t =>
          have hs : s ∈ plAt (a :: r) := by rw [hp]; simp
          have ht : t = [] := by
            have := plAt_len (a :: r)
            rw [hp] at this
            simpa using this
          subst ht
          simp only [List.flatMap_cons, List.flatMap_nil, List.append_nil]
          refine inj _ _ ?_
          rcases plAt_mem hs with ⟨b, r', rfl, _, _, rfl⟩ | ⟨c, r', rfl, _, _, rfl⟩
          · simp only [List.length_cons] at h
            exact ih r'.length (by omega) _ (by simp)
          · simp only [List.length_cons] at h
            exact ih r'.length (by omega) _ (by simp)
      · intro u hu v hv e
        subst e
        obtain ⟨t, ht, rfl⟩ := List.mem_map.mp hu
        have at1 : Al r t := mem_alI.mp ht
        obtain ⟨s, hs, hv⟩ := List.mem_flatMap.mp hv
        obtain ⟨t', ht', e⟩ := List.mem_map.mp hv
        rcases plAt_mem hs with ⟨b, r', rfl, h1, h2, rfl⟩ | ⟨c, r', rfl, h1, h2, rfl⟩
        · simp only [chg, if_true, List.cons_append, List.nil_append, List.cons.injEq, true_and] at e
          subst e
          cases at1 <;> revert h2 <;> decide
        · simp only [chg, show ¬ (3 : Nat) = 2 by decide, if_false, List.cons_append, List.nil_append, List.cons.injEq, true_and] at e
          subst e
          cases at1 <;> revert h2 <;> decide
theorem al_nodupI (x : List Nat) : (al x).Nodup := al_nodup x.length x (Nat.le_refl _)
/-! ### the words of two strings -/
def com1 (a : Nat) (k : List Nat → List Nat → Option (List (List Nat))) : List Nat → List Nat → Option (List (List Nat))
  | _ :: l :: x, m :: y => if hiF a && loF m && l == m then (k x y).map ([[a, 48], [m]] ++ ·) else none
  | _, _ => none
def com2 (a : Nat) (k : List Nat → List Nat → Option (List (List Nat))) : List Nat → List Nat → Option (List (List Nat))
  | m :: x, _ :: l :: y => if hiF a && loF m && l == m then (k x y).map ([[a, 48], [m]] ++ ·) else none
  | _, _ => none
def com : Nat → List Nat → List Nat → Option (List (List Nat))
  | _, [], [] => some []
  | n + 1, a :: x, b :: y =>
    if a ≠ b then none
    else if x.head? ≠ y.head? ∧ (x.head? = some 48 ∨ y.head? = some 48) then (if x.head? = some 48 then com1 a (com n) x y else com2 a (com n) x y)
    else (com n x y).map ([[a]] ++ ·)
  | _, _, _ => none
theorem Al.head {x y : List Nat} (h : Al x y) : x.head? = y.head? := by cases h <;> rfl
theorem com_al : ∀ (n : Nat) (x y : List Nat), x.length ≤ n → Al x y → (com n x y).isSome = true := by
  intro n
  induction n with
  | zero =>
    intro x y hl h
    cases h with
    | nil => rfl
    | same _ => simp at hl
    | ins _ _ _ => simp at hl
    | del _ _ _ => simp at hl
  | succ n ih =>
    intro x y hl h
    cases h with
    | nil => rfl
    | same h =>
      rename_i c x y
      simp only [List.length_cons] at hl
      have e := h.head
      rw [com, if_neg (by simp), if_neg (by rw [e]; simp), Option.isSome_map]
      exact ih x y (by omega) h
    | ins h1 h2 h =>
      rename_i c d x y
      simp only [List.length_cons] at hl
      have hd : d ≠ 48 := by rw [loF_iff] at h2; omega
      have hd' : (48 : Nat) ≠ d := fun e => hd e.symm
      rw [com, if_neg (by simp), if_pos (by simp [hd]), if_neg (by simp [hd])]
      simp only [com1, com2, h1, h2, Bool.and_self, beq_self_eq_true, if_true, Option.isSome_map]
      exact ih x y (by omega) h
    | del h1 h2 h =>
      rename_i c d x y
      simp only [List.length_cons] at hl
      have hd : d ≠ 48 := by rw [loF_iff] at h2; omega
      have hd' : (48 : Nat) ≠ d := fun e => hd e.symm
      rw [com, if_neg (by simp), if_pos (by simp [hd']), if_pos (by simp)]
      simp only [com1, com2, h1, h2, Bool.and_self, beq_self_eq_true, if_true, Option.isSome_map]
      exact ih x y (by omega) h
/-- words that stand for figures alone -/
structure ComOk (x y : List Nat) (ws : List (List Nat)) : Prop where
  al : Al x y
  len : ws.length ≤ x.length ∧ ws.length ≤ y.length
  rx : x ∈ rd ws
  ry : y ∈ rd ws
  wd : (∀ c ∈ x, 48 ≤ c ∧ c ≤ 57) → ∀ w ∈ ws, w ∈ lawWords
theorem words_one : ∀ c, c < 58 → 48 ≤ c → [c] ∈ lawWords ∧ (50 ≤ c → [c, 48] ∈ lawWords) := by decide +kernel
theorem digitsOf_one {c : Nat} (h : c ≠ 100) (h' : c ≠ 116) : digitsOf [c] = [c] := by simp [digitsOf, h, h']
theorem rd_one {c : Nat} (h : c ≠ 100) (h' : c ≠ 116) (ws : List (List Nat)) : rd ([c] :: ws) = (rd ws).map ([c] ++ ·) := by
  rw [rd_not (fun b r' _ => by simp [isJoint, isTen]), digitsOf_one h h']
theorem rd_two {a m : Nat} (h1 : hiF a = true) (h2 : loF m = true) (ws : List (List Nat)) : rd ([a, 48] :: [m] :: ws) = (rd ws).map ([a, 48, m] ++ ·) ++ (rd ws).map ([a, m] ++ ·) := by
  rw [hiF_iff] at h1
  rw [loF_iff] at h2
  rw [rd_joint (by simp [isJoint, isTen]; omega)]
  simp
theorem com_ok : ∀ (n : Nat) (x y : List Nat) (ws : List (List Nat)), com n x y = some ws → (∀ c ∈ x, c ≠ 100 ∧ c ≠ 116) → ComOk x y ws := by
  intro n
  induction n with
  | zero =>
    intro x y ws h hf
    match x, y with
    | [], [] => cases h; exact ⟨.nil, by simp, by simp [rd], by simp [rd], fun _ w hw => by simp at hw⟩
    | [], _ :: _ => simp [com] at h
    | _ :: _, [] => simp [com] at h
    | _ :: _, _ :: _ => simp [com] at h
  | succ n ih =>
    intro x y ws h hf
    match x, y with
    | [], [] => cases h; exact ⟨.nil, by simp, by simp [rd], by simp [rd], fun _ w hw => by simp at hw⟩
    | [], _ :: _ => simp [com] at h
    | _ :: _, [] => simp [com] at h
    | a :: x, b :: y =>
      rw [com] at h
      split at h
      · cases h
      · rename_i hab
        have hab : a = b := by simpa using hab
        subst hab
        split at h
        · rename_i hc
          split at h
          · rename_i hx
            match x, y, h with
            | c0 :: l :: x', m :: y', h =>
              simp only [List.head?_cons, Option.some.injEq] at hx
              subst hx
              simp only [com1, com2] at h
              split at h
              · rename_i hq
                simp only [Bool.and_eq_true, beq_iff_eq] at hq
                obtain ⟨⟨h1, h2⟩, rfl⟩ := hq
                obtain ⟨ws', e1, rfl⟩ := Option.map_eq_some_iff.mp h
                simp only [List.mem_cons, forall_eq_or_imp] at hf
                have I := ih x' y' ws' e1 hf.2.2.2
                refine ⟨.del h1 h2 I.al, by have := I.len; simp; omega, ?_, ?_, fun hfig => ?_⟩
                · rw [List.cons_append, List.cons_append, List.nil_append, rd_two h1 h2]
                  exact List.mem_append.mpr (.inl (List.mem_map.mpr ⟨x', I.rx, rfl⟩))
                · rw [List.cons_append, List.cons_append, List.nil_append, rd_two h1 h2]
                  exact List.mem_append.mpr (.inr (List.mem_map.mpr ⟨y', I.ry, rfl⟩))
                · simp only [List.mem_cons, forall_eq_or_imp] at hfig
                  simp only [List.cons_append, List.nil_append, List.mem_cons, forall_eq_or_imp]
                  rw [hiF_iff] at h1
                  exact ⟨(words_one a (by omega) (by omega)).2 h1.1, (words_one l (by omega) (by omega)).1, I.wd hfig.2.2.2⟩
              · cases h
            | [], _, h => simp [com1] at h
            | [_], _, h => simp [com1] at h
            | _ :: _ :: _, [], h => simp [com1] at h
          · rename_i hx
            match x, y, h with
            | m :: x', c0 :: l :: y', h =>
              have hc0 : c0 = 48 := by
                rcases hc.2 with z | z
                · exact absurd z hx
                · simpa using z
              subst hc0
              simp only [com1, com2] at h
              split at h
              · rename_i hq
                simp only [Bool.and_eq_true, beq_iff_eq] at hq
                obtain ⟨⟨h1, h2⟩, rfl⟩ := hq
                obtain ⟨ws', e1, rfl⟩ := Option.map_eq_some_iff.mp h
                simp only [List.mem_cons, forall_eq_or_imp] at hf
                have I := ih x' y' ws' e1 hf.2.2
                refine ⟨.ins h1 h2 I.al, by have := I.len; simp; omega, ?_, ?_, fun hfig => ?_⟩
                · rw [List.cons_append, List.cons_append, List.nil_append, rd_two h1 h2]
                  exact List.mem_append.mpr (.inr (List.mem_map.mpr ⟨x', I.rx, rfl⟩))
                · rw [List.cons_append, List.cons_append, List.nil_append, rd_two h1 h2]
                  exact List.mem_append.mpr (.inl (List.mem_map.mpr ⟨y', I.ry, rfl⟩))
                · simp only [List.mem_cons, forall_eq_or_imp] at hfig
                  simp only [List.cons_append, List.nil_append, List.mem_cons, forall_eq_or_imp]
                  rw [hiF_iff] at h1
                  exact ⟨(words_one a (by omega) (by omega)).2 h1.1, (words_one _ (by omega) (by omega)).1, I.wd hfig.2.2⟩
              · cases h
            | [], _, h => simp [com2] at h
            | _ :: _, [], h => simp [com2] at h
            | _ :: _, [_], h => simp [com2] at h
        · obtain ⟨ws', e1, rfl⟩ := Option.map_eq_some_iff.mp h
          simp only [List.mem_cons, forall_eq_or_imp] at hf
          have I := ih x y ws' e1 hf.2
          refine ⟨.same I.al, by have := I.len; simp; omega, ?_, ?_, fun hfig => ?_⟩
          · rw [List.cons_append, List.nil_append, rd_one hf.1.1 hf.1.2]
            exact List.mem_map.mpr ⟨x, I.rx, rfl⟩
          · rw [List.cons_append, List.nil_append, rd_one hf.1.1 hf.1.2]
            exact List.mem_map.mpr ⟨y, I.ry, rfl⟩
          · simp only [List.mem_cons, forall_eq_or_imp] at hfig
            simp only [List.cons_append, List.nil_append, List.mem_cons, forall_eq_or_imp]
            exact ⟨(words_one a (by omega) (by omega)).1, I.wd hfig.2⟩
/-- what is laid at a place -/
def chgAt (x : List Nat) (p : Nat × Nat) : List Nat := chg (x.drop p.1) p.2
def m_is_ten : List PyData → Option PyData
  | [.str s] => if s.length ≤ 1000 then some (.bool (isTen s.cps.toList)) else none
  | _ => none
def N_is_ten : List Str := ["word"]
def T_is_ten : TD := (dRet (fun ε => ((dAndV (dOp eqD (fun ε => ((dCons (getB 0) (fun _ => some [])) ε).bind lenD) (fun _ => some (PyData.int 2))) (dOp inD (dOp ixD (getB 0) (fun _ => some (PyData.int 0))) (dSl (fun _ => some (PyData.str (mkS [48, 49, 50, 51, 52, 53, 54, 55, 56, 57]))) (fun ε => intOf ((fun _ => some (PyData.int 2)) ε)) (fun _ => some none)))) ε).map Slot.f))
theorem st_is_ten (a0 : PyData) : startE N_is_ten [a0] = [some (.f a0)] := rfl
theorem pure_is_ten : ∀ ds d, m_is_ten ds = some d → ds.length = ["word"].length ∧ T_is_ten { nx := fun _ => d = .none, rt := fun s => s.val = some d } (startE N_is_ten ds) := by
  intro ds d h
  unfold m_is_ten at h
  split at h
  · rename_i s
    split at h
    · rename_i hl
      cases h
      refine ⟨rfl, ?_⟩
      rw [mkS_eta s] at hl ⊢
      generalize s.cps.toList = l at hl ⊢
      rw [mkS_length] at hl
      match l with
      | [] => simp -dsimp -implicitDefEqProofs (disch := first | omega | simp) [T_is_ten, startE, N_is_ten, isTen]
      | [c] => simp -dsimp -implicitDefEqProofs (disch := first | omega | simp) [T_is_ten, startE, N_is_ten, isTen]
      | [c, e] =>
        simp -dsimp -implicitDefEqProofs (disch := first | omega | simp) [T_is_ten, startE, N_is_ten, isTen]
        rw [Bool.eq_iff_iff]; simp; omega
      | c :: e :: f :: r =>
        simp only [List.length_cons] at hl
        have : ¬ ((r.length : Int) + 1 + 1 + 1 = 2) := by omega
        simp -dsimp -implicitDefEqProofs (disch := first | omega | simp) [T_is_ten, startE, N_is_ten, isTen, this]
    · cases h
  · cases h
@[simp] theorem m_is_ten_S (l : List Nat) (h : l.length ≤ 1000) : m_is_ten [.str (mkS l)] = some (.bool (isTen l)) := by simp [m_is_ten, h]
def m_is_joint : List PyData → Option PyData
  | [.str s, .str t] => if s.length ≤ 1000 ∧ t.length ≤ 1000 then some (.bool (isJoint s.cps.toList t.cps.toList)) else none
  | _ => none
def N_is_joint : List Str := ["one", "other"]
def T_is_joint : TD := (dRet (fun ε => ((dAndV (fun ε => ((dCons (getF 0) (fun _ => some [])) ε).bind m_is_ten) (dAndV (dOp eqD (fun ε => ((dCons (getB 1) (fun _ => some [])) ε).bind lenD) (fun _ => some (PyData.int 1))) (dOp neD (getB 1) (fun _ => some (PyData.str (mkS [48])))))) ε).map Slot.f))
theorem st_is_joint (a0 a1 : PyData) : startE N_is_joint [a0, a1] = [some (.f a0), some (.f a1)] := rfl
theorem pure_is_joint : ∀ ds d, m_is_joint ds = some d → ds.length = ["one", "other"].length ∧ T_is_joint { nx := fun _ => d = .none, rt := fun s => s.val = some d } (startE N_is_joint ds) := by
  intro ds d h
  unfold m_is_joint at h
  split at h
  · rename_i s t
    split at h
    · rename_i hl
      cases h
      refine ⟨rfl, ?_⟩
      rw [mkS_eta s, mkS_eta t] at hl ⊢
      generalize s.cps.toList = l at hl ⊢
      generalize t.cps.toList = k at hl ⊢
      rw [mkS_length, mkS_length] at hl
      obtain ⟨h1, h2⟩ := hl
      cases ht : isTen l with
      | false => simp -dsimp -implicitDefEqProofs (disch := first | omega | simp) [T_is_joint, startE, N_is_joint, isJoint, ht]
      | true =>
        match k with
        | [] => simp -dsimp -implicitDefEqProofs (disch := first | omega | simp) [T_is_joint, startE, N_is_joint, isJoint, ht]
        | [c] =>
          simp -dsimp -implicitDefEqProofs (disch := first | omega | simp) [T_is_joint, startE, N_is_joint, isJoint, ht, bne]
        | c :: e :: r =>
          simp only [List.length_cons] at h2
          have : ¬ ((r.length : Int) + 1 + 1 = 1) := by omega
          simp -dsimp -implicitDefEqProofs (disch := first | omega | simp) [T_is_joint, startE, N_is_joint, isJoint, ht, this]
    · cases h
  · cases h
@[simp] theorem m_is_joint_S (l k : List Nat) (h : l.length ≤ 1000) (h' : k.length ≤ 1000) : m_is_joint [.str (mkS l), .str (mkS k)] = some (.bool (isJoint l k)) := by simp [m_is_joint, h, h']
def m_digits_of : List PyData → Option PyData
  | [.str s] => if s.length ≤ 1000 ∧ s.cps.toList ≠ [] then some (S (digitsOf s.cps.toList)) else none
  | _ => none
def N_digits_of : List Str := ["word"]
def T_digits_of : TD := (dSeq (dIf (fun ε => boolOf (dOp eqD (dOp ixD (getB 0) (fun _ => some (PyData.int 0))) (fun _ => some (PyData.str (mkS [100]))) ε)) (dRet (fun ε => ((dOp mulD (dOp ixD (getB 0) (fun ε => ((fun _ => some (PyData.int 1)) ε).bind negD)) (fun _ => some (PyData.int 2))) ε).map Slot.f)) dNext)
    (dRet (fun ε => ((dIfE (fun ε => boolOf (dOp eqD (dOp ixD (getB 0) (fun _ => some (PyData.int 0))) (fun _ => some (PyData.str (mkS [116]))) ε)) (dOp mulD (dOp ixD (getB 0) (fun ε => ((fun _ => some (PyData.int 1)) ε).bind negD)) (fun _ => some (PyData.int 3))) (getF 0)) ε).map Slot.f)))
theorem st_digits_of (a0 : PyData) : startE N_digits_of [a0] = [some (.f a0)] := rfl
theorem pure_digits_of : ∀ ds d, m_digits_of ds = some d → ds.length = ["word"].length ∧ T_digits_of { nx := fun _ => d = .none, rt := fun s => s.val = some d } (startE N_digits_of ds) := by
  intro ds d h
  unfold m_digits_of at h
  split at h
  · rename_i s
    split at h
    · rename_i hl
      cases h
      refine ⟨rfl, ?_⟩
      rw [mkS_eta s] at hl ⊢
      generalize s.cps.toList = l at hl ⊢
      rw [mkS_length] at hl
      obtain ⟨h1, h2⟩ := hl
      match l with
      | [] => exact absurd rfl h2
      | c :: r =>
        simp only [List.length_cons] at h1
        by_cases h3 : c = 100
        · simp -dsimp -implicitDefEqProofs (disch := first | omega | simp) [T_digits_of, startE, N_digits_of, digitsOf, h3, List.getLast?_cons]
        · by_cases h4 : c = 116
          · simp -dsimp -implicitDefEqProofs (disch := first | omega | simp) [T_digits_of, startE, N_digits_of, digitsOf, h3, h4, List.getLast?_cons]
          · simp -dsimp -implicitDefEqProofs (disch := first | omega | simp) [T_digits_of, startE, N_digits_of, digitsOf, h3, h4]
    · cases h
  · cases h
@[simp] theorem m_digits_of_S (l : List Nat) (h : l.length ≤ 1000) (h' : l ≠ []) : m_digits_of [.str (mkS l)] = some (.str (mkS (digitsOf l))) := by simp [m_digits_of, h, h', S]
def deN : List PyData → Option (List Nat)
  | [] => some []
  | .int i :: ds => if 0 ≤ i then (deN ds).map (i.toNat :: ·) else none
  | _ => none
theorem deN_eq : ∀ {ds : List PyData} {ns : List Nat}, deN ds = some ns → ds = ns.map fun (k : Nat) => .int (k : Int)
  | [], ns, h => by cases h; rfl
  | .int i :: ds, ns, h => by
    unfold deN at h
    split at h
    · rename_i h0
      obtain ⟨ns', e1, rfl⟩ := Option.map_eq_some_iff.mp h
      rw [deN_eq e1, List.map_cons, Int.toNat_of_nonneg h0]
    · cases h
  | .none :: _, _, h => by cases h
  | .bool _ :: _, _, h => by cases h
  | .str _ :: _, _, h => by cases h
  | .list _ :: _, _, h => by cases h
  | .tuple _ :: _, _, h => by cases h
  | .dict _ :: _, _, h => by cases h
theorem deN_map : ∀ ns : List Nat, deN (ns.map fun (k : Nat) => .int (k : Int)) = some ns
  | [] => rfl
  | n :: ns => by
    rw [List.map_cons, deN, if_pos (by omega), deN_map ns]; rfl
def m_steps : List PyData → Option PyData
  | [.list ds, .str s, .str t] => (deN ds).bind fun ps => if ps.length ≤ 1000000 ∧ s.length ≤ 1000 ∧ t.length ≤ 1000 then some (.list ((stepsL ps s.cps.toList t.cps.toList).map fun (k : Nat) => .int (k : Int))) else none
  | _ => none
def N_steps : List Str := ["places", "part", "digits", "place"]
def T_steps : TD := (dRet (fun ε => ((fun ε => ((dLc (fun ε => ((getF 0) ε).bind seqD) (.nm 3) [3] (fun ε => boolOf (dOp eqD (dSl (getB 2) (fun ε => intOf ((getB 3) ε)) (fun ε => intOf ((dOp addA (getB 3) (fun ε => ((dCons (getB 1) (fun _ => some [])) ε).bind lenD)) ε))) (getB 1) ε)) (dOp addA (getB 3) (fun ε => ((dCons (getB 1) (fun _ => some [])) ε).bind lenD))) ε).map PyData.list) ε).map Slot.f))
theorem st_steps (a0 a1 a2 : PyData) : startE N_steps [a0, a1, a2] = [some (.f a0), some (.f a1), some (.f a2), none] := rfl
theorem pure_steps : ∀ ds d, m_steps ds = some d → ds.length = ["places", "part", "digits"].length ∧ T_steps { nx := fun _ => d = .none, rt := fun s => s.val = some d } (startE N_steps ds) := by
  intro ds d h
  unfold m_steps at h
  split at h
  · rename_i ds s t
    obtain ⟨ps, e1, e2⟩ := Option.bind_eq_some_iff.mp h
    split at e2
    · rename_i hl
      cases e2
      clear h
      refine ⟨rfl, ?_⟩
      rw [st_steps, deN_eq e1]
      rw [mkS_eta s, mkS_eta t] at hl ⊢
      generalize s.cps.toList = l at hl ⊢
      generalize t.cps.toList = k at hl ⊢
      rw [mkS_length, mkS_length] at hl
      obtain ⟨hl0, hl1, hl2⟩ := hl
      simp -dsimp -implicitDefEqProofs (disch := first | omega | simp) [T_steps]
      rw [dLc_map ps (fun (k : Nat) => .int (k : Int)) (fun p => (k.drop p).take l.length == l) (fun (p : Nat) => .int ((p : Int) + (l.length : Int)))]
      · simp -dsimp -implicitDefEqProofs [stepsL, Function.comp_def]
      · simp -dsimp -implicitDefEqProofs
      · intro p _
        have e : ((p : Int) + (l.length : Int)).toNat - p = l.length := by omega
        simp -dsimp -implicitDefEqProofs (disch := first | omega | simp) [e]
      · intro p _ _
        simp -dsimp -implicitDefEqProofs (disch := first | omega | simp)
      · have := List.length_filter_le (fun p => (k.drop p).take l.length == l) ps
        omega
    · cases e2
  · cases h
theorem m_steps_S (ps l k : List Nat) (h : ps.length ≤ 1000000) (h1 : l.length ≤ 1000) (h2 : k.length ≤ 1000) : m_steps [.list (ps.map fun (k : Nat) => .int (k : Int)), .str (mkS l), .str (mkS k)] = some (.list ((stepsL ps l k).map fun (k : Nat) => .int (k : Int))) := by
  rw [m_steps, deN_map, Option.bind_some, if_pos ⟨h, by simpa using h1, by simpa using h2⟩]
  simp
/-- utterances whose places may be followed -/
def okF (ws : List (List Nat)) : Bool := decide (ws.length ≤ 16) && ws.all fun w => decide (w ∈ lawWords)
theorem okF_iff {ws : List (List Nat)} : okF ws = true ↔ ws.length ≤ 16 ∧ ∀ w ∈ ws, w ∈ lawWords := by simp [okF]
def m_fits : List PyData → Option PyData
  | [d, .str s] => (deW d).bind fun ws => if okF ws = true ∧ s.length ≤ 1000 then some (.bool (fitsL ws s.cps.toList)) else none
  | _ => none
def N_fits : List Str := ["words", "digits", "reached", "index", "word", "later"]
def T_fits : TD := (dSeq (dAsg 2 (fun ε => ((fun ε => limL ((dCons (fun ε => ((fun ε => limL ((dCons (fun _ => some (PyData.int 0)) (fun _ => some [])) ε)) ε).map PyData.list) (fun _ => some [])) ε)) ε).map Slot.o))
    (dSeq (dFor (fun ε => ((dCons (getF 0) (fun _ => some [])) ε).bind enumD) (.tp [3, 4]) (dSeq (dAsg 5 (fun ε => ((fun ε => ((dCons (dOp ixD (getB 2) (getB 3)) (dCons (fun ε => ((dCons (getF 4) (fun _ => some [])) ε).bind m_digits_of) (dCons (getF 1) (fun _ => some [])))) ε).bind m_steps) ε).map Slot.f))
    (dSeq (dIf (dAnd (fun ε => boolOf (dOp gtD (getB 3) (fun _ => some (PyData.int 0)) ε)) (fun ε => ((fun ε => ((dCons (dOp ixD (getB 0) (dOp subD (getB 3) (fun _ => some (PyData.int 1)))) (dCons (getF 4) (fun _ => some []))) ε).bind m_is_joint) ε).bind truD)) (dAsg 5 (fun ε => ((dOp addA (getB 5) (fun ε => ((dCons (dOp ixD (getB 2) (dOp subD (getB 3) (fun _ => some (PyData.int 1)))) (dCons (dOp addA (dOp ixD (dOp ixD (getB 0) (dOp subD (getB 3) (fun _ => some (PyData.int 1)))) (fun _ => some (PyData.int 0))) (getB 4)) (dCons (getF 1) (fun _ => some [])))) ε).bind m_steps)) ε).map Slot.f)) dNext)
    (dApp 2 (getF 5)))))
    (dRet (fun ε => ((dOp inD (fun ε => ((dCons (getB 1) (fun _ => some [])) ε).bind lenD) (dOp ixD (getB 2) (fun ε => ((fun _ => some (PyData.int 1)) ε).bind negD))) ε).map Slot.f))))
theorem st_fits (a0 a1 : PyData) : startE N_fits [a0, a1] = [some (.f a0), some (.f a1), none, none, none, none] := rfl
theorem reachL_len (dg : List Nat) (ws : List (List Nat)) : ∀ i, (reachL dg ws i).length ≤ 2 ^ i ∧ (reachL dg ws (i + 1)).length ≤ 2 ^ (i + 1) := by
  have hs : ∀ ps part, (stepsL ps part dg).length ≤ ps.length := fun ps part => by
    unfold stepsL
    rw [List.length_map]
    exact List.length_filter_le _ _
  intro i
  induction i with
  | zero =>
    refine ⟨by simp [reachL], ?_⟩
    rw [reachL_s]
    have := hs (reachL dg ws 0) (digitsOf (ws.getD 0 []))
    have h0 : (reachL dg ws 0).length = 1 := by simp [reachL]
    simp only [List.append_nil]
    omega
  | succ i ih =>
    refine ⟨ih.2, ?_⟩
    rw [reachL_s, List.length_append]
    have a1 := hs (reachL dg ws (i + 1)) (digitsOf (ws.getD (i + 1) []))
    have a2 := hs (reachL dg ws i) ((ws.getD i []).take 1 ++ ws.getD (i + 1) [])
    have a3 : (2 : Nat) ^ (i + 2) = 2 ^ (i + 1) + 2 ^ (i + 1) := by rw [Nat.pow_succ]; omega
    have a4 : (2 : Nat) ^ i ≤ 2 ^ (i + 1) := Nat.pow_le_pow_right (by decide) (by omega)
    simp only
    split
    · omega
    · simp only [List.length_nil]; omega
theorem reachL_len' (dg : List Nat) (ws : List (List Nat)) {i : Nat} (h : i ≤ 16) : (reachL dg ws i).length ≤ 65536 := by
  have h1 := (reachL_len dg ws i).1
  have h2 : (2 : Nat) ^ i ≤ 2 ^ 16 := Nat.pow_le_pow_right (by decide) h
  omega
def nList (ns : List Nat) : PyData := .list (ns.map fun (k : Nat) => .int (k : Int))
def fitInv (ws : List (List Nat)) (dg : List Nat) (i : Nat) (ε : En) : Prop := ∃ a b c : Option Slot, ε = [some (.f (.tuple (ws.map S))), some (.f (.str (mkS dg))), some (.o ((List.range (i + 1)).map fun j => nList (reachL dg ws j))), a, b, c]
theorem at_range {f : Nat → PyData} {n j : Nat} (h : j < n) : atI ((List.range n).map f) (j : Int) = some (f j) := by
  rw [atI_cast, List.getElem?_map, List.getElem?_range h]; rfl
theorem pure_fits : ∀ ds d, m_fits ds = some d → ds.length = ["words", "digits"].length ∧ T_fits { nx := fun _ => d = .none, rt := fun s => s.val = some d } (startE N_fits ds) := by
  intro ds d h
  unfold m_fits at h
  split at h
  · rename_i d0 s
    obtain ⟨ws, e1, e2⟩ := Option.bind_eq_some_iff.mp h
    split at e2
    · rename_i hl
      cases e2
      clear h
      refine ⟨rfl, ?_⟩
      rw [st_fits, deW_eq e1]
      rw [mkS_eta s] at hl ⊢
      generalize s.cps.toList = dg at hl ⊢
      rw [mkS_length] at hl
      obtain ⟨hok, hdl⟩ := hl
      obtain ⟨h16, hm⟩ := okF_iff.mp hok
      simp -dsimp -implicitDefEqProofs (disch := first | omega | simp) [T_fits]
      refine forB_enum S ws (fitInv ws dg) ?_ ?_ ?_
      · exact ⟨_, _, _, rfl⟩
      · rintro i w ε nx hi ⟨a, b, c, rfl⟩ kk
        have hiL := (List.getElem?_eq_some_iff.mp hi).1
        have hwm := hm w (List.mem_of_getElem? hi)
        obtain ⟨hw1, hw2⟩ := lawWords_ok w hwm
        have hdw := digitsOf_len w hw2
        have hgw : ws.getD i [] = w := by rw [List.getD_eq_getElem?_getD, hi]; rfl
        have hlen := reachL_len' dg ws (i := i) (by omega)
        have hst : m_steps [nList (reachL dg ws i), .str (mkS (digitsOf w)), .str (mkS dg)] = some (nList (stepsL (reachL dg ws i) (digitsOf w) dg)) := m_steps_S _ _ _ (by omega) (by omega) hdl
        have hat : atI ((List.range (i + 1)).map fun j => nList (reachL dg ws j)) (i : Int) = some (nList (reachL dg ws i)) := at_range (by omega)
        have hd : m_digits_of [.str (mkS w)] = some (.str (mkS (digitsOf w))) := m_digits_of_S w (by omega) hw1
        have hrn : ((List.range (i + 1 + 1)).map fun j => nList (reachL dg ws j)) = ((List.range (i + 1)).map fun j => nList (reachL dg ws j)) ++ [nList (reachL dg ws (i + 1))] := by
          rw [List.range_succ, List.map_append]; rfl
        have hrl : ((List.range (i + 1)).map fun j => nList (reachL dg ws j)).length ≤ 17 := by rw [List.length_map, List.length_range]; omega
        have hrs := reachL_s dg ws i
        rw [hgw] at hrs
        have hsl : (stepsL (reachL dg ws i) (digitsOf w) dg).length ≤ 65536 := by
          unfold stepsL
          rw [List.length_map]
          exact Nat.le_trans (List.length_filter_le _ _) hlen
        refine ⟨_, rfl, ?_⟩
        cases i with
        | zero =>
          simp only [List.append_nil] at hrs
          generalize ((List.range (0 + 1)).map fun j => nList (reachL dg ws j)) = RL at hat hrn hrl
          have hat0 : RL[0]? = some (nList (reachL dg ws 0)) := by rw [← atI_cast]; exact hat
          simp -dsimp -implicitDefEqProofs (disch := first | omega | simp) [hat0, hd, hst, S]
          refine ⟨szl _ (by omega), kk _ ?_⟩
          unfold fitInv
          rw [hrn, hrs]
          exact ⟨_, _, _, rfl⟩
        | succ j =>
          have hjL : j < ws.length := by omega
          have hj : ws[j]? = some ws[j] := List.getElem?_eq_getElem hjL
          generalize hgj : ws[j] = v at hj
          have hvm := hm v (List.mem_of_getElem? hj)
          obtain ⟨hv1, hv2⟩ := lawWords_ok v hvm
          have hgv : ws.getD j [] = v := by rw [List.getD_eq_getElem?_getD, hj]; rfl
          obtain ⟨c0, v', rfl⟩ : ∃ c r, v = c :: r := by cases v with | nil => exact absurd rfl hv1 | cons c r => exact ⟨c, r, rfl⟩
          simp only [hgv, hgw] at hrs
          have hij : m_is_joint [.str (mkS (c0 :: v')), .str (mkS w)] = some (.bool (isJoint (c0 :: v') w)) := m_is_joint_S _ _ (by omega) (by omega)
          have hlen2 := reachL_len' dg ws (i := j) (by omega)
          have hst2 : m_steps [nList (reachL dg ws j), .str (mkS (c0 :: w)), .str (mkS dg)] = some (nList (stepsL (reachL dg ws j) (c0 :: w) dg)) := m_steps_S _ _ _ (by omega) (by simp; omega) hdl
          have hsl2 : (stepsL (reachL dg ws j) (c0 :: w) dg).length ≤ 65536 := by
            unfold stepsL
            rw [List.length_map]
            exact Nat.le_trans (List.length_filter_le _ _) hlen2
          have hat2 : atI ((List.range (j + 1 + 1)).map fun j => nList (reachL dg ws j)) (j : Int) = some (nList (reachL dg ws j)) := at_range (by omega)
          have hat' : atI ((List.range (j + 1 + 1)).map fun j => nList (reachL dg ws j)) ((j : Int) + 1) = some (nList (reachL dg ws (j + 1))) := hat
          generalize ((List.range (j + 1 + 1)).map fun j => nList (reachL dg ws j)) = RL at hat hat' hat2 hrn hrl
          have hpos : (0 : Int) < (j : Int) + 1 := by omega
          have hRL : RL.length < sizeLine := szl _ (by omega)
          have hadd : addA (nList (stepsL (reachL dg ws (j + 1)) (digitsOf w) dg)) (nList (stepsL (reachL dg ws j) (c0 :: w) dg)) = some (nList (stepsL (reachL dg ws (j + 1)) (digitsOf w) dg ++ stepsL (reachL dg ws j) (c0 :: w) dg)) := by
            simp only [addA, nList, List.length_map]
            rw [if_size (by omega), List.map_append]
          have hadd2 : addA (.str (mkS [c0])) (.str (mkS w)) = some (.str (mkS (c0 :: w))) := by
            simp (disch := first | omega | (simp; omega))
          simp only [List.length_cons] at hv2
          by_cases hjj : isJoint (c0 :: v') w = true
          · rw [if_pos hjj] at hrs
            simp -dsimp -implicitDefEqProofs (disch := first | omega | simp) [hat', hat2, hd, hst, hst2, S, hij, hjj, hj, hgj, hpos, hadd, hadd2, hRL, -addA]
            refine kk _ ?_
            unfold fitInv
            rw [hrn, hrs]
            exact ⟨_, _, _, rfl⟩
          · rw [if_neg hjj, List.append_nil] at hrs
            simp -dsimp -implicitDefEqProofs (disch := first | omega | simp) [hat', hat2, hd, hst, hst2, S, hij, hjj, hj, hgj, hpos, hRL]
            refine kk _ ?_
            unfold fitInv
            rw [hrn, hrs]
            exact ⟨_, _, _, rfl⟩
      · rintro ε ⟨a, b, c, rfl⟩
        have hlast : ((List.range (ws.length + 1)).map fun j => nList (reachL dg ws j)).getLast? = some (nList (reachL dg ws ws.length)) := by rw [List.range_succ]; simp
        generalize ((List.range (ws.length + 1)).map fun j => nList (reachL dg ws j)) = RL at hlast
        simp -dsimp -implicitDefEqProofs (disch := first | omega | simp) [hlast, nList, inB_N, fitsL]
    · cases e2
  · cases h
theorem m_fits_S (ws : List (List Nat)) (dg : List Nat) (h : okF ws = true) (h1 : dg.length ≤ 1000) : m_fits [.tuple (ws.map S), .str (mkS dg)] = some (.bool (decide (dg ∈ rd ws))) := by
  rw [← fitsL_eq (okF_iff.mp h).2]
  simp [m_fits, h, h1]
/-- all places of some digits -/
def plsAt (x : List Nat) (i : Nat) : List (Nat × Nat) := (plAt (x.drop i)).map fun s => (i, s)
def plsL (x : List Nat) : List (Nat × Nat) := (List.range (x.length - 1)).flatMap (plsAt x)
def encPl (p : Nat × Nat) : PyData := .tuple [.int (p.1 : Int), .int (p.2 : Int)]
def m_places : List PyData → Option PyData
  | [.str s] => if s.length ≤ 1000 then some (.list ((plsL s.cps.toList).map encPl)) else none
  | _ => none
def N_places : List Str := ["digits", "found", "index"]
def T_places : TD := (dSeq (dAsg 1 (fun ε => ((fun ε => limL ((fun _ => some []) ε)) ε).map Slot.o))
    (dSeq (dFor (fun ε => ((dCons (dOp subD (fun ε => ((dCons (getB 0) (fun _ => some [])) ε).bind lenD) (fun _ => some (PyData.int 1))) (fun _ => some [])) ε).bind rng1D) (.nm 2) (dSeq (dIf (dAnd (fun ε => boolOf (dOp inD (dOp ixD (getB 0) (getB 2)) (dSl (fun _ => some (PyData.str (mkS [48, 49, 50, 51, 52, 53, 54, 55, 56, 57]))) (fun ε => intOf ((fun _ => some (PyData.int 2)) ε)) (fun _ => some none)) ε)) (fun ε => boolOf (dOp inD (dOp ixD (getB 0) (dOp addA (getB 2) (fun _ => some (PyData.int 1)))) (dSl (fun _ => some (PyData.str (mkS [48, 49, 50, 51, 52, 53, 54, 55, 56, 57]))) (fun ε => intOf ((fun _ => some (PyData.int 1)) ε)) (fun _ => some none)) ε))) (dApp 1 (fun ε => (limL ((dCons (getF 2) (dCons (fun _ => some (PyData.int 2)) (fun _ => some []))) ε)).map PyData.tuple)) dNext)
    (dIf (dAnd (fun ε => boolOf (dOp inD (dOp ixD (getB 0) (getB 2)) (dSl (fun _ => some (PyData.str (mkS [48, 49, 50, 51, 52, 53, 54, 55, 56, 57]))) (fun ε => intOf ((fun _ => some (PyData.int 2)) ε)) (fun _ => some none)) ε)) (dAnd (fun ε => boolOf (dOp eqD (dOp ixD (getB 0) (dOp addA (getB 2) (fun _ => some (PyData.int 1)))) (fun _ => some (PyData.str (mkS [48]))) ε)) (fun ε => boolOf (dOp inD (dSl (getB 0) (fun ε => intOf ((dOp addA (getB 2) (fun _ => some (PyData.int 2))) ε)) (fun ε => intOf ((dOp addA (getB 2) (fun _ => some (PyData.int 3))) ε))) (fun ε => ((fun ε => ((dCons (dSl (fun _ => some (PyData.str (mkS [48, 49, 50, 51, 52, 53, 54, 55, 56, 57]))) (fun ε => intOf ((fun _ => some (PyData.int 1)) ε)) (fun _ => some none)) (fun _ => some [])) ε).bind listSL) ε).map PyData.list) ε)))) (dApp 1 (fun ε => (limL ((dCons (getF 2) (dCons (fun _ => some (PyData.int 3)) (fun _ => some []))) ε)).map PyData.tuple)) dNext)))
    (dRetV 1)))
theorem st_places (a0 : PyData) : startE N_places [a0] = [some (.f a0), none, none] := rfl
theorem plsL_take_len (x : List Nat) : ∀ n, ((List.range n).flatMap (plsAt x)).length ≤ n
  | 0 => by simp
  | n + 1 => by
    rw [List.range_succ, List.flatMap_append, List.length_append]
    have h1 := plsL_take_len x n
    have h2 := plAt_len (x.drop n)
    simp only [List.flatMap_cons, List.flatMap_nil, List.append_nil, plsAt, List.length_map]
    omega
theorem range_ix {i x n : Nat} (h : (List.range n)[i]? = some x) : x = i ∧ i < n := by
  have hL := (List.getElem?_eq_some_iff.mp h).1
  rw [List.length_range] at hL
  rw [List.getElem?_eq_getElem (by rw [List.length_range]; exact hL), List.getElem_range] at h
  cases h
  exact ⟨rfl, hL⟩
theorem hiF_in (c : Nat) : decide (c ∈ [50, 51, 52, 53, 54, 55, 56, 57]) = hiF c := by
  unfold hiF
  rw [decide_eq_decide]
  simp only [List.mem_cons, List.not_mem_nil, or_false]
  omega
theorem loF_in (c : Nat) : decide (c ∈ [49, 50, 51, 52, 53, 54, 55, 56, 57]) = loF c := by
  unfold loF
  rw [decide_eq_decide]
  simp only [List.mem_cons, List.not_mem_nil, or_false]
  omega
theorem inHi (c : Nat) : inD (.str (mkS [c])) (.str (mkS [50, 51, 52, 53, 54, 55, 56, 57])) = some (.bool (hiF c)) := by
  rw [← hiF_in]; simp
theorem inLo (c : Nat) : inD (.str (mkS [c])) (.str (mkS [49, 50, 51, 52, 53, 54, 55, 56, 57])) = some (.bool (loF c)) := by
  rw [← loF_in]; simp
theorem inLoL (r : List Nat) : inD (.str (mkS (r.take 1))) (.list [.str (mkS [49]), .str (mkS [50]), .str (mkS [51]), .str (mkS [52]), .str (mkS [53]), .str (mkS [54]), .str (mkS [55]), .str (mkS [56]), .str (mkS [57])]) = some (.bool (loF (r.headD 0))) := by
  have e := inB_S (r.take 1) [[49], [50], [51], [52], [53], [54], [55], [56], [57]]
  have key : decide (r.take 1 ∈ [[49], [50], [51], [52], [53], [54], [55], [56], [57]]) = loF (r.headD 0) := by
    cases r with
    | nil => decide
    | cons c r => rw [List.headD_cons, ← loF_in]; simp
  rw [key] at e
  generalize loF (r.headD 0) = k at e
  generalize r.take 1 = t at e
  simp only [List.map_cons, List.map_nil, S] at e
  simp [e]
theorem pure_places : ∀ ds d, m_places ds = some d → ds.length = ["digits"].length ∧ T_places { nx := fun _ => d = .none, rt := fun s => s.val = some d } (startE N_places ds) := by
  intro ds d h
  unfold m_places at h
  split at h
  · rename_i s
    split at h
    · rename_i hl
      cases h
      refine ⟨rfl, ?_⟩
      rw [st_places]
      rw [mkS_eta s] at hl ⊢
      rw [mkS_toList]
      generalize s.cps.toList = l at hl ⊢
      rw [mkS_length] at hl
      simp -dsimp -implicitDefEqProofs (disch := first | omega | simp) [T_places]
      refine forB_ix (fun (k : Nat) => .int (k : Int)) (List.range (l.length - 1)) (fun n ε => ∃ a : Option Slot, ε = [some (.f (S l)), some (.o (((List.range n).flatMap (plsAt l)).map encPl)), a]) ⟨_, rfl⟩ ?_ ?_
      · rintro i x ε nx hx ⟨a, rfl⟩ kk
        obtain ⟨rfl, hi⟩ := range_ix hx
        have hz := plsL_take_len l x
        have hr : (List.range (x + 1)).flatMap (plsAt l) = (List.range x).flatMap (plsAt l) ++ plsAt l x := by
          rw [List.range_succ, List.flatMap_append]; simp
        generalize (List.range x).flatMap (plsAt l) = G at hz hr
        have hd : l.drop x = l[x] :: l[x + 1] :: l.drop (x + 2) := by
          rw [List.drop_eq_getElem_cons (by omega), List.drop_eq_getElem_cons (i := x + 1) (by omega)]
        have hp : plsAt l x = (plAt (l[x] :: l[x + 1] :: l.drop (x + 2))).map fun s => (x, s) := by unfold plsAt; rw [hd]
        have e3 : ((x : Int) + 3).toNat - (x + 2) = 1 := by omega
        have e2 : ((x : Int) + 2).toNat = x + 2 := by omega
        have hin := inLoL (l.drop (x + 2))
        have hkk : nx [some (.f (S l)), some (.o ((G ++ plsAt l x).map encPl)), some (.f (.int (x : Int)))] := by
          refine kk _ ?_
          rw [hr]
          exact ⟨_, rfl⟩
        rw [hp, plAt] at hkk
        refine ⟨_, rfl, ?_⟩
        generalize loF ((l.drop (x + 2)).headD 0) = c0 at hin hkk
        by_cases hA : hiF l[x] = true
        · by_cases hB : loF l[x + 1] = true
          · have hn : l[x + 1] ≠ 48 := fun e => by rw [e, loF_48] at hB; cases hB
            simp only [hA, hB, Bool.and_self, if_true, List.map_append, List.map_cons, List.map_nil] at hkk
            simp -dsimp -implicitDefEqProofs (disch := first | omega | simp) [e2, e3, S, encPl, inHi, inLo, hin, hA, hB, hn, -inD]
            exact ⟨szl _ (by omega), hkk⟩
          · have hB' : loF l[x + 1] = false := by simpa using hB
            by_cases hZ : l[x + 1] = 48
            · cases c0 with
              | true =>
                simp only [hA, hZ, loF_48, Bool.and_false, Bool.false_eq_true, if_false, beq_self_eq_true, Bool.and_self, if_true, List.map_append, List.map_cons, List.map_nil] at hkk
                simp -dsimp -implicitDefEqProofs (disch := first | omega | simp) [e2, e3, S, encPl, inHi, inLo, hin, hA, hZ, loF_48, -inD]
                exact ⟨szl _ (by omega), hkk⟩
              | false =>
                simp only [hA, hZ, loF_48, Bool.and_false, Bool.false_eq_true, if_false, List.map_nil, List.append_nil] at hkk
                simp -dsimp -implicitDefEqProofs (disch := first | omega | simp) [e2, e3, S, encPl, inHi, inLo, hin, hA, hZ, loF_48, -inD]
                exact hkk
            · have hZ' : (l[x + 1] == 48) = false := by simpa using hZ
              simp only [hA, hB', hZ', Bool.and_false, Bool.false_and, Bool.false_eq_true, if_false, List.map_nil, List.append_nil] at hkk
              simp -dsimp -implicitDefEqProofs (disch := first | omega | simp) [e2, e3, S, encPl, inHi, inLo, hin, hA, hB', hZ, -inD]
              exact hkk
        · have hA' : hiF l[x] = false := by simpa using hA
          simp only [hA', Bool.false_and, Bool.false_eq_true, if_false, List.map_nil, List.append_nil] at hkk
          simp -dsimp -implicitDefEqProofs (disch := first | omega | simp) [e2, e3, S, encPl, inHi, inLo, hin, hA', -inD]
          exact hkk
      · rintro ε ⟨a, rfl⟩
        rw [List.length_range]
        simp -dsimp -implicitDefEqProofs (disch := first | omega | simp) [plsL]
    · cases h
  · cases h
theorem m_places_S (l : List Nat) (h : l.length ≤ 1000) : m_places [.str (mkS l)] = some (.list ((plsL l).map encPl)) := by simp [m_places, h]
/-- the ends reached, a place taken -/
def apPl {α : Type} (cat : α → Nat × Nat → α → α) (i : Nat) (E : Nat → α) (p : Nat × Nat) : Nat → α := if p.1 = i then fun j => if j = i + p.2 then cat (E i) p (E j) else E j else E
/-- the ends behind a figure -/
def nxEn {α : Type} (one : Nat → α → α → α) (cat : α → Nat × Nat → α → α) (pl : List (Nat × Nat)) (E : Nat → α) (i : Nat) : Nat → α := pl.foldl (apPl cat i) (fun j => if j = i + 1 then one i (E i) (E j) else E j)
def enF {α : Type} (z e : α) (one : Nat → α → α → α) (cat : α → Nat × Nat → α → α) (pl : List (Nat × Nat)) : Nat → Nat → α
  | 0 => fun j => if j = 0 then e else z
  | i + 1 => nxEn one cat pl (enF z e one cat pl i) i
theorem foldl_filter_ap {α : Type} (cat : α → Nat × Nat → α → α) (i : Nat) : ∀ (pl : List (Nat × Nat)) (E : Nat → α), pl.foldl (apPl cat i) E = (pl.filter fun p => p.1 == i).foldl (apPl cat i) E
  | [], _ => rfl
  | p :: pl, E => by
    by_cases h : p.1 = i
    · rw [List.filter_cons, if_pos (by simpa using h), List.foldl_cons, List.foldl_cons, foldl_filter_ap cat i pl]
    · rw [List.filter_cons, if_neg (by simpa using h), List.foldl_cons, foldl_filter_ap cat i pl]
      congr 1
      unfold apPl
      rw [if_neg h]
theorem plAt_short {x : List Nat} (h : x.length ≤ 1) : plAt x = [] := by
  match x, h with
  | [], _ => rfl
  | [a], _ => rfl
theorem plsL_at (x : List Nat) (i : Nat) : (plsL x).filter (fun p => p.1 == i) = plsAt x i := by
  have key : ∀ n, ((List.range n).flatMap (plsAt x)).filter (fun p => p.1 == i) = if i < n then plsAt x i else [] := by
    intro n
    induction n with
    | zero => simp
    | succ n ih =>
      rw [List.range_succ, List.flatMap_append, List.filter_append, ih]
      have e : (plsAt x n).filter (fun p => p.1 == i) = if n = i then plsAt x i else [] := by
        by_cases h : n = i
        · subst h
          rw [if_pos rfl, List.filter_eq_self]
          intro p hp
          obtain ⟨s, _, rfl⟩ := List.mem_map.mp hp
          simp
        · rw [if_neg h, List.filter_eq_nil_iff]
          intro p hp
          obtain ⟨s, _, rfl⟩ := List.mem_map.mp hp
          simpa using h
      simp only [List.flatMap_cons, List.flatMap_nil, List.append_nil]
      rw [e]
      by_cases h1 : i < n
      · rw [if_pos h1, if_neg (by omega), if_pos (by omega), List.append_nil]
      · by_cases h2 : n = i
        · rw [if_neg h1, if_pos h2, if_pos (by omega), List.nil_append]
        · rw [if_neg h1, if_neg h2, if_neg (by omega), List.append_nil]
  unfold plsL
  rw [key]
  split
  · rfl
  · rename_i h
    unfold plsAt
    rw [plAt_short (by rw [List.length_drop]; omega)]
    rfl
/-- one turn, told by the place at the front -/
theorem nxEn_at {α : Type} (one : Nat → α → α → α) (cat : α → Nat × Nat → α → α) (x : List Nat) (E : Nat → α) (i : Nat) : nxEn one cat (plsL x) E i = (plsAt x i).foldl (apPl cat i) (fun j => if j = i + 1 then one i (E i) (E j) else E j) := by
  unfold nxEn
  rw [foldl_filter_ap, plsL_at]
theorem nxEn_eq {α : Type} (one : Nat → α → α → α) (cat : α → Nat × Nat → α → α) (x : List Nat) (E : Nat → α) (i j : Nat) : nxEn one cat (plsL x) E i j =
    match plAt (x.drop i) with
    | [] => if j = i + 1 then one i (E i) (E j) else E j
    | s :: _ => if s = 2 ∨ s = 3 then (if j = i + s then cat (E i) (i, s) (E j) else if j = i + 1 then one i (E i) (E j) else E j) else nxEn one cat (plsL x) E i j := by
  rw [nxEn_at]
  unfold plsAt
  have hl := plAt_len (x.drop i)
  match h : plAt (x.drop i), hl with
  | [], _ => simp
  | [s], _ =>
    simp only [List.map_cons, List.map_nil, List.foldl_cons, List.foldl_nil]
    split
    · rename_i hs
      unfold apPl
      simp only [if_true]
      by_cases h1 : j = i + s
      · rw [if_pos h1, if_pos h1, if_neg (by omega), if_neg (by omega)]
      · rw [if_neg h1, if_neg h1]
    · rfl
theorem plAt_size {x : List Nat} {s : Nat} {t : List Nat} (h : plAt x = s :: t) : s = 2 ∨ s = 3 := by
  match x with
  | [] => cases h
  | a :: r =>
    have hs : s ∈ plAt (a :: r) := by rw [h]; simp
    rcases plAt_mem hs with ⟨_, _, _, _, _, rfl⟩ | ⟨_, _, _, _, _, rfl⟩
    · exact .inl rfl
    · exact .inr rfl
theorem enF_succ {α : Type} (z e : α) (one : Nat → α → α → α) (cat : α → Nat × Nat → α → α) (pl : List (Nat × Nat)) (i : Nat) : enF z e one cat pl (i + 1) = nxEn one cat pl (enF z e one cat pl i) i := rfl
/-- the texts at the ends -/
def txE (x : List Nat) : Nat → Nat → List (List Nat) := enF [] [[]] (fun i a b => b ++ a.map (· ++ [x.getD i 0])) (fun a p b => b ++ a.map (· ++ chgAt x p)) (plsL x)
/-- how many -/
def cnE (x : List Nat) : Nat → Nat → Nat := enF 0 1 (fun _ a b => b + a) (fun a _ b => b + a) (plsL x)
theorem nxEn_hom {α β : Type} (f : α → β) {one : Nat → α → α → α} {one' : Nat → β → β → β} {cat : α → Nat × Nat → α → α} {cat' : β → Nat × Nat → β → β}
    (h1 : ∀ i a b, f (one i a b) = one' i (f a) (f b)) (h2 : ∀ a p b, f (cat a p b) = cat' (f a) p (f b)) (i : Nat) : ∀ (pl : List (Nat × Nat)) (E : Nat → α) (E' : Nat → β), (∀ j, f (E j) = E' j) → ∀ j, f (pl.foldl (apPl cat i) E j) = pl.foldl (apPl cat' i) E' j
  | [], E, E', h, j => h j
  | p :: pl, E, E', h, j => by
    rw [List.foldl_cons, List.foldl_cons]
    refine nxEn_hom f h1 h2 i pl _ _ (fun j => ?_) j
    unfold apPl
    split
    · show f (if j = i + p.2 then _ else _) = if j = i + p.2 then _ else _
      split
      · rw [h2, h, h]
      · exact h j
    · exact h j
theorem enF_hom {α β : Type} (f : α → β) {z e : α} {one : Nat → α → α → α} {one' : Nat → β → β → β} {cat : α → Nat × Nat → α → α} {cat' : β → Nat × Nat → β → β} (pl : List (Nat × Nat))
    (h1 : ∀ i a b, f (one i a b) = one' i (f a) (f b)) (h2 : ∀ a p b, f (cat a p b) = cat' (f a) p (f b)) : ∀ i j, f (enF z e one cat pl i j) = enF (f z) (f e) one' cat' pl i j
  | 0, j => by unfold enF; split <;> rfl
  | i + 1, j => by
    rw [enF_succ, enF_succ]
    unfold nxEn
    refine nxEn_hom f h1 h2 i pl _ _ (fun j => ?_) j
    have ih := enF_hom f (z := z) (e := e) pl h1 h2 i
    split
    · rw [h1, ih, ih]
    · exact ih j
theorem cnE_len (x : List Nat) (i j : Nat) : cnE x i j = (txE x i j).length := by
  unfold txE
  rw [enF_hom List.length (one' := fun _ a b => b + a) (cat' := fun a _ b => b + a) (plsL x) (fun i a b => by simp) (fun a p b => by simp)]
  rfl
theorem txE_eq (x : List Nat) (i j : Nat) : txE x (i + 1) j =
    match plAt (x.drop i) with
    | [] => if j = i + 1 then txE x i (i + 1) ++ (txE x i i).map (· ++ [x.getD i 0]) else txE x i j
    | s :: _ => if j = i + s then txE x i j ++ (txE x i i).map (· ++ chgAt x (i, s)) else if j = i + 1 then txE x i (i + 1) ++ (txE x i i).map (· ++ [x.getD i 0]) else txE x i j := by
  show nxEn (fun i a b => b ++ a.map (· ++ [x.getD i 0])) (fun a p b => b ++ a.map (· ++ chgAt x p)) (plsL x) (txE x i) i j = _
  rw [nxEn_eq]
  split
  · split
    · rename_i h; rw [h]
    · rfl
  · rename_i s t hp
    rw [if_pos (plAt_size hp)]
    split
    · rfl
    · split
      · rename_i h; rw [h]
      · rfl
theorem txE_far (x : List Nat) : ∀ i j, i + 2 < j → txE x i j = []
  | 0, j, h => by show (if j = 0 then _ else _) = _; rw [if_neg (by omega)]
  | i + 1, j, h => by
    rw [txE_eq]
    have h0 := txE_far x i j (by omega)
    split
    · rw [if_neg (by omega), h0]
    · rename_i s t hp
      have := plAt_size hp
      rw [if_neg (by omega), if_neg (by omega), h0]
section
variable (y : List Nat)
theorem count_flatMap2 {F : List (List Nat)} (A B : List Nat → List (List Nat)) : (F.flatMap fun t => A t ++ B t).count y = (F.flatMap A).count y + (F.flatMap B).count y := by
  induction F with
  | nil => rfl
  | cons t F ih =>
    simp only [List.flatMap_cons, List.count_append, ih]
    omega
def alN (F : List (List Nat)) (r : List Nat) : Nat := (F.flatMap fun t => (al r).map (t ++ ·)).count y
theorem alN_app (F G : List (List Nat)) (r : List Nat) : alN y (F ++ G) r = alN y F r + alN y G r := by
  unfold alN; rw [List.flatMap_append, List.count_append]
theorem alN_cons (F : List (List Nat)) (a : Nat) (r : List Nat) : alN y F (a :: r) = alN y (F.map (· ++ [a])) r + (match plAt (a :: r) with | [] => 0 | s :: _ => alN y (F.map (· ++ chg (a :: r) s)) ((a :: r).drop s)) := by
  unfold alN
  rw [al_cons]
  simp only [List.map_append, List.map_map]
  rw [count_flatMap2]
  congr 1
  · rw [List.flatMap_map]
    congr 2
    funext t
    simp [Function.comp_def]
  · have hl := plAt_len (a :: r)
    match h : plAt (a :: r), hl with
    | [], _ =>
      simp only [List.flatMap_nil]
      induction F with
      | nil => rfl
      | cons _ _ ih => simpa using ih
    | [s], _ =>
      simp only [List.flatMap_cons, List.flatMap_nil, List.append_nil, List.flatMap_map, List.map_map]
      congr 2
      funext t
      simp [Function.comp_def]
theorem txE_sum (x : List Nat) : ∀ i, i ≤ x.length → alN y (txE x i i) (x.drop i) + alN y (txE x i (i + 1)) (x.drop (i + 1)) + alN y (txE x i (i + 2)) (x.drop (i + 2)) = (al x).count y
  | 0, _ => by
    have h0 : txE x 0 0 = [[]] := rfl
    have h1 : txE x 0 (0 + 1) = [] := rfl
    have h2 : txE x 0 (0 + 2) = [] := rfl
    rw [h0, h1, h2]
    simp [alN]
  | i + 1, h => by
    rw [← txE_sum x i (by omega)]
    have hd : x.drop i = x[i] :: x.drop (i + 1) := List.drop_eq_getElem_cons (by omega)
    have hal := alN_cons y (txE x i i) x[i] (x.drop (i + 1))
    have hg : x.getD i 0 = x[i] := by rw [List.getD_eq_getElem?_getD, List.getElem?_eq_getElem (by omega)]; rfl
    rw [← hd, ← hg] at hal
    have f3 := txE_far x i (i + 3) (by omega)
    have e1 : txE x (i + 1) (i + 1) = txE x i (i + 1) ++ (txE x i i).map (· ++ [x.getD i 0]) := by
      rw [txE_eq]
      split
      · rw [if_pos rfl]
      · rename_i s t hp
        have := plAt_size hp
        rw [if_neg (by omega), if_pos rfl]
    have e2 := txE_eq x i (i + 2)
    have e3 := txE_eq x i (i + 3)
    rw [show i + 1 + 1 = i + 2 from rfl, show i + 1 + 2 = i + 3 from rfl, e1, e2, e3, hal, f3]
    cases hp : plAt (x.drop i) with
    | nil =>
      simp only [if_neg (show ¬ i + 2 = i + 1 by omega), if_neg (show ¬ i + 3 = i + 1 by omega), alN_app]
      have : alN y [] (x.drop (i + 3)) = 0 := rfl
      omega
    | cons s t =>
      have z : alN y [] (x.drop (i + 3)) = 0 := rfl
      rcases plAt_size hp with rfl | rfl
      · simp only [if_true, if_neg (show ¬ i + 3 = i + 2 by omega), if_neg (show ¬ i + 3 = i + 1 by omega), alN_app, List.drop_drop, chgAt]
        omega
      · simp only [if_true, if_neg (show ¬ i + 2 = i + 3 by omega), if_neg (show ¬ i + 2 = i + 1 by omega), alN_app, List.drop_drop, chgAt, List.nil_append]
        omega
end
theorem alN_nil (y : List Nat) (F : List (List Nat)) : alN y F [] = F.count y := by
  unfold alN
  congr 1
  rw [show (fun t : List Nat => (al []).map (t ++ ·)) = fun t => [t] from funext fun t => by simp [al]]
  exact List.flatMap_singleton' F
theorem plAt_fit {x : List Nat} {i s : Nat} {t : List Nat} (h : plAt (x.drop i) = s :: t) : i + s ≤ x.length := by
  cases hd : x.drop i with
  | nil => rw [hd] at h; cases h
  | cons a r =>
    rw [hd] at h
    have hlen := congrArg List.length hd
    rw [List.length_drop, List.length_cons] at hlen
    have hs : s ∈ plAt (a :: r) := by rw [h]; simp
    rcases plAt_mem hs with ⟨b, r', rfl, _, _, rfl⟩ | ⟨c, r', rfl, _, _, rfl⟩
    · simp only [List.length_cons] at hlen; omega
    · simp only [List.length_cons] at hlen; omega
theorem txE_over (x : List Nat) : ∀ i j, i ≤ x.length → x.length < j → txE x i j = []
  | 0, j, _, h => by show (if j = 0 then _ else _) = _; rw [if_neg (by omega)]
  | i + 1, j, hi, h => by
    rw [txE_eq]
    have h0 := txE_over x i j (by omega) h
    split
    · rw [if_neg (by omega), h0]
    · rename_i s t hp
      have := plAt_fit hp
      rw [if_neg (by omega), if_neg (by omega), h0]
theorem txE_end (x : List Nat) : (txE x x.length x.length).Perm (al x) := by
  rw [List.perm_iff_count]
  intro y
  rw [← txE_sum y x x.length (Nat.le_refl _), txE_over x x.length (x.length + 1) (Nat.le_refl _) (by omega), txE_over x x.length (x.length + 2) (Nat.le_refl _) (by omega), List.drop_length, alN_nil]
  rfl
theorem cnE_end (x : List Nat) : cnE x x.length x.length = (al x).length := by rw [cnE_len, (txE_end x).length_eq]
theorem alN_zero {y : List Nat} {F : List (List Nat)} {r : List Nat} {t : List Nat} (ht : t ∈ F) (hy : y ∈ (al r).map (t ++ ·)) : 0 < alN y F r := by
  unfold alN
  rw [List.count_pos_iff]
  exact List.mem_flatMap.mpr ⟨t, ht, hy⟩
/-- every end's text is the front of some string heard alike -/
theorem txE_mem (x : List Nat) {i j : Nat} (hi : i ≤ x.length) (hj : j = i ∨ j = i + 1 ∨ j = i + 2) {t : List Nat} (ht : t ∈ txE x i j) : ∃ z, t ++ z ∈ al x := by
  obtain ⟨z, hz⟩ := List.exists_mem_of_ne_nil _ (al_ne (x.drop j))
  refine ⟨z, ?_⟩
  have h := txE_sum (t ++ z) x i hi
  have hp := alN_zero (y := t ++ z) (r := x.drop j) ht (List.mem_map.mpr ⟨z, hz, rfl⟩)
  rw [← List.count_pos_iff]
  rcases hj with rfl | rfl | rfl <;> omega
theorem txE_tlen (x : List Nat) {i j : Nat} (hi : i ≤ x.length) (hj : j = i ∨ j = i + 1 ∨ j = i + 2) : ∀ t ∈ txE x i j, t.length ≤ 2 * x.length := by
  intro t ht
  obtain ⟨z, hz⟩ := txE_mem x hi hj ht
  have := (mem_alI.mp hz).len
  rw [List.length_append] at this
  omega
theorem txE_size (x : List Nat) : ∀ i j, (txE x i j).length ≤ 2 ^ i
  | 0, j => by
    show (if j = 0 then [[]] else []).length ≤ 1
    split <;> simp
  | i + 1, j => by
    have h1 := txE_size x i j
    have h2 := txE_size x i i
    have h3 := txE_size x i (i + 1)
    have h4 : (2 : Nat) ^ (i + 1) = 2 ^ i + 2 ^ i := by rw [Nat.pow_succ]; omega
    rw [txE_eq, h4]
    split
    · split
      · rw [List.length_append, List.length_map]; omega
      · omega
    · split
      · rw [List.length_append, List.length_map]; omega
      · split
        · rw [List.length_append, List.length_map]; omega
        · omega
theorem plsL_fit {x : List Nat} {p : Nat × Nat} (h : p ∈ plsL x) : p.1 + p.2 ≤ x.length ∧ (p.2 = 2 ∨ p.2 = 3) := by
  obtain ⟨i, hi, hs⟩ := List.mem_flatMap.mp h
  obtain ⟨s, hs2, rfl⟩ := List.mem_map.mp hs
  cases hp : plAt (x.drop i) with
  | nil => rw [hp] at hs2; cases hs2
  | cons s' t =>
    have hl := plAt_len (x.drop i)
    rw [hp] at hl hs2
    have : t = [] := by simpa using hl
    subst this
    rw [List.mem_singleton.mp hs2]
    exact ⟨plAt_fit hp, plAt_size hp⟩
theorem fold_take {α β : Type} {f : β → α → β} {e : β} {xs : List α} {k : Nat} {p : α} (h : xs[k]? = some p) : (xs.take (k + 1)).foldl f e = f ((xs.take k).foldl f e) p := by
  rw [List.take_add_one, h, Option.toList_some, List.foldl_append, List.foldl_cons, List.foldl_nil]
theorem part_fold {α : Type} (cat : α → Nat × Nat → α → α) (x : List Nat) (y k : Nat) (E : Nat → α) : ((plsL x).take k).foldl (apPl cat y) E = E ∨ ∃ s, (s = 2 ∨ s = 3) ∧ ((plsL x).take k).foldl (apPl cat y) E = fun j => if j = y + s then cat (E y) (y, s) (E j) else E j := by
  rw [foldl_filter_ap]
  have hs : (((plsL x).take k).filter fun p => p.1 == y).Sublist ((plsL x).filter fun p => p.1 == y) := (List.take_sublist k _).filter _
  rw [plsL_at] at hs
  have hl := hs.length_le
  have hl2 := plAt_len (x.drop y)
  unfold plsAt at hl
  rw [List.length_map] at hl
  match h : ((plsL x).take k).filter fun p => p.1 == y with
  | [] => rw [h]; exact .inl rfl
  | [p] =>
    have hp : p ∈ ((plsL x).take k).filter fun p => p.1 == y := by rw [h]; simp
    obtain ⟨h1, h2⟩ := List.mem_filter.mp hp
    have h3 := (plsL_fit (List.mem_of_mem_take h1)).2
    have h4 : p.1 = y := by simpa using h2
    obtain ⟨i, s⟩ := p
    simp only at h3 h4
    subst h4
    refine .inr ⟨s, h3, ?_⟩
    rw [h]
    show apPl cat i E (i, s) = _
    unfold apPl
    rw [if_pos rfl]
  | p :: q :: r => rw [h] at hl; simp only [List.length_cons] at hl; omega
theorem al_len_cons (a : Nat) (r : List Nat) : (al (a :: r)).length = (al r).length + (match plAt (a :: r) with | [] => 0 | s :: _ => (al ((a :: r).drop s)).length) := by
  rw [al_cons, List.length_append, List.length_map]
  have hl := plAt_len (a :: r)
  match h : plAt (a :: r), hl with
  | [], _ => simp
  | [s], _ => simp
theorem row_set {α : Type} (n i : Nat) (f : Nat → α) (x : α) : ((List.range n).map f).set i x = (List.range n).map fun j => if j = i then x else f j := by
  refine List.ext_getElem? fun k => ?_
  rw [List.getElem?_set, List.getElem?_map]
  by_cases hk : k < n
  · rw [List.getElem?_range hk]
    by_cases h : i = k
    · subst h
      rw [if_pos rfl, if_pos (by rw [List.length_map, List.length_range]; exact hk)]
      simp [hk]
    · rw [if_neg h, List.getElem?_map, List.getElem?_range hk]
      have : ¬ k = i := fun e => h e.symm
      simp [this]
  · have e1 : (List.range n)[k]? = none := List.getElem?_eq_none (by rw [List.length_range]; omega)
    rw [List.getElem?_map, e1]
    by_cases h : i = k
    · rw [if_pos h, if_neg (by rw [List.length_map, List.length_range]; omega)]; rfl
    · rw [if_neg h]; rfl
def figsB (x : List Nat) : Bool := x.all fun c => decide (48 ≤ c ∧ c ≤ 57)
theorem figsB_iff {x : List Nat} : figsB x = true ↔ ∀ c ∈ x, 48 ≤ c ∧ c ≤ 57 := by simp [figsB]
def okPl (x : List Nat) (i s : Int) : Bool := decide (0 ≤ i) && (decide (s = 2) && decide (i.toNat + 2 ≤ x.length) || decide (s = 3) && decide (i.toNat + 3 ≤ x.length))
def m_changed : List PyData → Option PyData
  | [.str s, .tuple [.int i, .int k]] => if s.length ≤ 1000 ∧ okPl s.cps.toList i k = true then some (S (chgAt s.cps.toList (i.toNat, k.toNat))) else none
  | _ => none
def N_changed : List Str := ["digits", "place", "start", "size", "part"]
def T_changed : TD := (dSeq (dTg (.tp [2, 3]) (getF 1))
    (dSeq (dAsg 4 (fun ε => ((dSl (getB 0) (fun ε => intOf ((getB 2) ε)) (fun ε => intOf ((dOp addA (getB 2) (getB 3)) ε))) ε).map Slot.f))
    (dRet (fun ε => ((dIfE (fun ε => boolOf (dOp eqD (getB 3) (fun _ => some (PyData.int 2)) ε)) (dOp addA (dOp addA (dOp ixD (getB 4) (fun _ => some (PyData.int 0))) (fun _ => some (PyData.str (mkS [48])))) (dOp ixD (getB 4) (fun _ => some (PyData.int 1)))) (dOp addA (dOp ixD (getB 4) (fun _ => some (PyData.int 0))) (dOp ixD (getB 4) (fun _ => some (PyData.int 2))))) ε).map Slot.f))))
theorem st_changed (a0 a1 : PyData) : startE N_changed [a0, a1] = [some (.f a0), some (.f a1), none, none, none] := rfl
theorem pure_changed : ∀ ds d, m_changed ds = some d → ds.length = ["digits", "place"].length ∧ T_changed { nx := fun _ => d = .none, rt := fun s => s.val = some d } (startE N_changed ds) := by
  intro ds d h
  unfold m_changed at h
  split at h
  · rename_i s i k
    split at h
    · rename_i hl
      cases h
      refine ⟨rfl, ?_⟩
      rw [st_changed]
      rw [mkS_eta s] at hl ⊢
      rw [mkS_toList] at hl ⊢
      generalize s.cps.toList = l at hl ⊢
      rw [mkS_length] at hl
      obtain ⟨hl, hk⟩ := hl
      simp only [okPl, Bool.and_eq_true, Bool.or_eq_true, decide_eq_true_eq] at hk
      obtain ⟨h0, hk⟩ := hk
      obtain ⟨i, rfl⟩ := Int.eq_ofNat_of_zero_le h0
      rw [Int.toNat_natCast] at hk ⊢
      rcases hk with ⟨rfl, hk⟩ | ⟨rfl, hk⟩
      · have hd : l.drop i = l[i] :: l[i + 1] :: l.drop (i + 2) := by
          rw [List.drop_eq_getElem_cons (by omega), List.drop_eq_getElem_cons (i := i + 1) (by omega)]
        generalize l[i] = a at hd
        generalize l[i + 1] = b at hd
        generalize l.drop (i + 2) = r at hd
        have e3 : ((i : Int) + 2).toNat - i = 2 := by omega
        simp -dsimp -implicitDefEqProofs (disch := first | omega | simp) [T_changed, e3, hd, chgAt, chg]
      · have hd : l.drop i = l[i] :: l[i + 1] :: l[i + 2] :: l.drop (i + 3) := by
          rw [List.drop_eq_getElem_cons (by omega), List.drop_eq_getElem_cons (i := i + 1) (by omega), List.drop_eq_getElem_cons (i := i + 1 + 1) (by omega)]
        generalize l[i] = a at hd
        generalize l[i + 1] = b at hd
        generalize l[i + 2] = c at hd
        generalize l.drop (i + 3) = r at hd
        have e3 : ((i : Int) + 3).toNat - i = 3 := by omega
        simp -dsimp -implicitDefEqProofs (disch := first | omega | simp) [T_changed, e3, hd, chgAt, chg, show ∀ a b c : Nat, atI [a, b, c] 2 = some c from fun _ _ _ => rfl]
    · cases h
  · cases h
theorem m_changed_S (l : List Nat) (p : Nat × Nat) (h : l.length ≤ 1000) (hp : p ∈ plsL l) : m_changed [.str (mkS l), encPl p] = some (S (chgAt l p)) := by
  obtain ⟨i, hi, hs⟩ := List.mem_flatMap.mp hp
  obtain ⟨s, hs2, rfl⟩ := List.mem_map.mp hs
  clear hs
  have hs := hs2
  have ho : okPl l (i : Int) (s : Int) = true := by
    cases hd : l.drop i with
    | nil => rw [hd] at hs; cases hs
    | cons a r =>
      rw [hd] at hs
      have hlen := congrArg List.length hd
      rw [List.length_drop, List.length_cons] at hlen
      simp only [okPl, Bool.and_eq_true, Bool.or_eq_true, decide_eq_true_eq]
      rcases plAt_mem hs with ⟨b, r', rfl, _, _, rfl⟩ | ⟨c, r', rfl, _, _, rfl⟩
      · simp only [List.length_cons] at hlen
        refine ⟨by omega, .inl ⟨by omega, by omega⟩⟩
      · simp only [List.length_cons] at hlen
        refine ⟨by omega, .inr ⟨by omega, by omega⟩⟩
  unfold encPl m_changed
  simp only [mkS_length, mkS_toList]
  rw [if_pos ⟨h, ho⟩]
  rfl
def m_all_alike : List PyData → Option (List PyData)
  | [.str s] => if s.length ≤ 16 then some ((sortT (al s.cps.toList)).map S) else none
  | _ => none
def N_all_alike : List Str := ["digits", "ends", "index", "sign", "place", "more", "text"]
def T_all_alike : TD := (gSeq (dAsg 1 (fun ε => ((dOpL catL (fun ε => ((fun ε => limL ((dCons (fun ε => ((fun ε => limL ((dCons (fun _ => some (PyData.str (mkS []))) (fun _ => some [])) ε)) ε).map PyData.list) (fun _ => some [])) ε)) ε).map PyData.list) (fun ε => ((dLc (fun ε => ((getF 0) ε).bind seqD) (.nm 3) [3] (fun _ => some true) (fun ε => ((fun ε => limL ((fun _ => some []) ε)) ε).map PyData.list)) ε).map PyData.list)) ε).map Slot.o))
    (gSeq (dFor (fun ε => ((dCons (getF 0) (fun _ => some [])) ε).bind enumD) (.tp [2, 3]) (dSeq (dPut 1 (dOp addA (getB 2) (fun _ => some (PyData.int 1))) (dOp addA (dOp ixD (getB 1) (dOp addA (getB 2) (fun _ => some (PyData.int 1)))) (fun ε => ((dLc (fun ε => ((dOp ixD (getB 1) (getB 2)) ε).bind seqD) (.nm 6) [6] (fun _ => some true) (dOp addA (getB 6) (getB 3))) ε).map PyData.list)))
    (dFor (fun ε => ((fun ε => ((dCons (getF 0) (fun _ => some [])) ε).bind m_places) ε).bind seqD) (.nm 4) (dIf (fun ε => boolOf (dOp eqD (dOp ixD (getB 4) (fun _ => some (PyData.int 0))) (getB 2) ε)) (dSeq (dFrzB 5 (dAsg 5 fun ε => ((dLc (fun ε => ((dOp ixD (getB 1) (getB 2)) ε).bind seqD) (.nm 6) [6] (fun _ => some true) (dOp addA (getB 6) (fun ε => ((dCons (getF 0) (dCons (getF 4) (fun _ => some []))) ε).bind m_changed))) ε).map Slot.o))
    (dPut 1 (dOp addA (getB 2) (dOp ixD (getB 4) (fun _ => some (PyData.int 1)))) (dOp addA (dOp ixD (getB 1) (dOp addA (getB 2) (dOp ixD (getB 4) (fun _ => some (PyData.int 1))))) (getB 5)))) dNext))))
    (gYld (fun ε => ((fun ε => ((fun ε => ((dCons (dOp ixD (getB 1) (fun ε => ((dCons (getB 0) (fun _ => some [])) ε).bind lenD)) (fun _ => some [])) ε).bind sortedSL) ε).map PyData.list) ε).bind seqD) 6)))
theorem st_all_alike (a0 : PyData) : startE N_all_alike [a0] = [some (.f a0), none, none, none, none, none, none] := rfl
def tL (xs : List (List Nat)) : PyData := .list (xs.map S)
def rowT (n : Nat) (E : Nat → List (List Nat)) : List PyData := (List.range n).map fun j => tL (E j)
theorem rowT_get {n j : Nat} {E : Nat → List (List Nat)} (h : j < n) : (rowT n E)[j]? = some (tL (E j)) := by
  unfold rowT
  rw [List.getElem?_map, List.getElem?_range h]; rfl
theorem rowT_at {n j : Nat} {E : Nat → List (List Nat)} (h : j < n) : atI (rowT n E) (j : Int) = some (tL (E j)) := by rw [atI_cast]; exact rowT_get h
theorem rowT_at' {n j : Nat} {k : Int} {E : Nat → List (List Nat)} (h : j < n) (e : k = (j : Int)) : atI (rowT n E) k = some (tL (E j)) := by rw [e]; exact rowT_at h
theorem rowT_len (n : Nat) (E : Nat → List (List Nat)) : (rowT n E).length = n := by simp [rowT]
theorem rowT_set (n i : Nat) (v : List (List Nat)) (E : Nat → List (List Nat)) : (rowT n E).set i (tL v) = rowT n fun j => if j = i then v else E j := by
  unfold rowT
  rw [row_set]
  congr 1
  funext j
  show (if j = i then _ else _) = tL (if j = i then v else E j)
  split <;> rfl
theorem pow16 {i : Nat} (h : i ≤ 16) : 2 ^ i ≤ 65536 := Nat.le_trans (Nat.pow_le_pow_right (by decide) h) (by decide)
theorem add_tL (a b : List (List Nat)) (h : a.length + b.length ≤ 16777216) : addA (tL a) (tL b) = some (tL (a ++ b)) := by
  simp only [addA, tL, List.length_map]
  rw [if_size h, List.map_append]
theorem add_tL2 (a b : List (List Nat)) (l : List Nat) (h : a.length + b.length ≤ 16777216) : addA (tL a) (.list (b.map fun t => S (t ++ l))) = some (tL (a ++ b.map (· ++ l))) := by
  have := add_tL a (b.map (· ++ l)) (by rw [List.length_map]; exact h)
  rw [← this]
  simp [tL, List.map_map, Function.comp_def, S]
theorem ixL (ds : List PyData) (i : Int) : ixD (.list ds) (.int i) = atI ds i := rfl
theorem addI (a b : Int) : addA (.int a) (.int b) = some (.int (a + b)) := rfl
theorem seq_tL (a : List (List Nat)) : seqD (tL a) = some (a.map S) := rfl
theorem pure_all_alike : ∀ ds d, m_all_alike ds = some d → ds.length = ["digits"].length ∧ T_all_alike { nx := fun _ => False, rt := fun s => s = .f (.list d) } (startE N_all_alike ds) := by
  intro ds d h
  unfold m_all_alike at h
  split at h
  · rename_i s
    split at h
    · rename_i hl
      cases h
      refine ⟨rfl, ?_⟩
      rw [st_all_alike]
      rw [mkS_eta s] at hl ⊢
      rw [mkS_toList]
      generalize s.cps.toList = x at hl ⊢
      rw [mkS_length] at hl
      have hpl := m_places_S x (by omega)
      have h0 : PyData.list [PyData.str (mkS [])] :: (x.map fun _ => PyData.list []) = rowT (x.length + 1) (txE x 0) := by
        unfold rowT
        rw [List.range_succ_eq_map, List.map_cons, List.map_map]
        refine congrArg _ ?_
        rw [show ((fun j => tL (txE x 0 j)) ∘ Nat.succ) = fun _ => PyData.list [] from rfl, List.map_const', List.map_const', List.length_range]
      simp -dsimp -implicitDefEqProofs (disch := first | omega | simp) [T_all_alike]
      rw [dLc_all x (fun c => S [c]) (fun _ => .list [])]
      · simp -dsimp -implicitDefEqProofs (disch := first | omega | simp) [h0, -List.map_const', -List.map_const]
        refine forB_enum (fun c => S [c]) x (fun n ε => ∃ a b c d e : Option Slot, ε = [some (.f (S x)), some (.o (rowT (x.length + 1) (txE x n))), a, b, c, d, e]) ⟨_, _, _, _, _, rfl⟩ ?_ ?_
        · rintro y sg ε nx hy ⟨a, b, c, d, e, rfl⟩ kk
          have hi := (List.getElem?_eq_some_iff.mp hy).1
          refine ⟨_, rfl, ?_⟩
          have e1 : ((y : Int) + 1).toNat = y + 1 := by omega
          have g1 : ixN (x.length + 1) ((y : Int) + 1) = some (y + 1) := by rw [ixN_nat (by omega) (by omega), e1]
          have r1 := rowT_at' (n := x.length + 1) (j := y + 1) (k := (y : Int) + 1) (E := txE x y) (by omega) (by omega)
          have a0 := rowT_at (n := x.length + 1) (j := y) (E := txE x y) (by omega)
          have s0 := txE_size x y y
          have s1 := txE_size x y (y + 1)
          have p16 := pow16 (i := y) (by omega)
          have t0 := txE_tlen x (i := y) (j := y) (by omega) (.inl rfl)
          have hsg : x.getD y 0 = sg := by rw [List.getD_eq_getElem?_getD, hy]; rfl
          simp -dsimp -implicitDefEqProofs (disch := first | omega | simp) [r1, a0, seq_tL, addI, -addA]
          rw [dLc_all (txE x y y) S (fun t => S (t ++ [sg]))]
          · have had := add_tL2 (txE x y (y + 1)) (txE x y y) [sg] (by omega)
            have hE : txE x (y + 1) = (plsL x).foldl (apPl (fun a p b => b ++ a.map (· ++ chgAt x p)) y) (fun j => if j = y + 1 then txE x y (y + 1) ++ (txE x y y).map (· ++ [sg]) else txE x y j) := by
              show nxEn (fun i a b => b ++ a.map (· ++ [x.getD i 0])) (fun a p b => b ++ a.map (· ++ chgAt x p)) (plsL x) (txE x y) y = _
              unfold nxEn
              congr 1
              funext j
              split
              · rename_i h; simp only [h, hsg]
              · rfl
            generalize hE1 : (fun j => if j = y + 1 then txE x y (y + 1) ++ (txE x y y).map (· ++ [sg]) else txE x y j) = E1 at hE
            have hset : (rowT (x.length + 1) (txE x y)).set (y + 1) (tL (txE x y (y + 1) ++ (txE x y y).map (· ++ [sg]))) = rowT (x.length + 1) E1 := by rw [rowT_set, hE1]
            simp -dsimp -implicitDefEqProofs (disch := first | omega | simp) [had, rowT_len, g1, hset, hpl, addI, -addA]
            refine forB_ix encPl (plsL x) (fun k ε => ∃ b c d : Option Slot, ε = [some (.f (S x)), some (.o (rowT (x.length + 1) (((plsL x).take k).foldl (apPl (fun a p b => b ++ a.map (· ++ chgAt x p)) y) E1))), some (.f (.int (y : Int))), some (.f (S [sg])), b, c, d]) ⟨_, _, _, rfl⟩ ?_ ?_
            · rintro k p ε nx' hp ⟨b, c, d, rfl⟩ kk'
              have hft := fold_take (f := apPl (fun a p b => b ++ a.map (· ++ chgAt x p)) y) (e := E1) hp
              have hEl : ∀ j, ((((plsL x).take k).foldl (apPl (fun a p b => b ++ a.map (· ++ chgAt x p)) y) E1) j).length ≤ 2 ^ (y + 1) := by
                intro j
                have e2 : (2 : Nat) ^ (y + 1) = 2 ^ y + 2 ^ y := by rw [Nat.pow_succ]; omega
                have hb : ∀ j, (E1 j).length ≤ 2 ^ (y + 1) ∧ (j ≠ y + 1 → (E1 j).length ≤ 2 ^ y) := by
                  intro j
                  have sj := txE_size x y j
                  rw [← hE1]
                  simp only
                  split
                  · rw [List.length_append, List.length_map]; exact ⟨by omega, fun h => absurd (by assumption) h⟩
                  · exact ⟨by omega, fun _ => sj⟩
                have hy1 : E1 y = txE x y y := by rw [← hE1]; simp only; rw [if_neg (by omega)]
                rcases part_fold (fun a p b => b ++ a.map (· ++ chgAt x p)) x y k E1 with h | ⟨s, hs, h⟩
                · rw [h]; exact (hb j).1
                · rw [h]
                  simp only
                  split
                  · rename_i hj
                    have := (hb j).2 (by omega)
                    rw [List.length_append, List.length_map, hy1]
                    omega
                  · exact (hb j).1
              have hEy : (((plsL x).take k).foldl (apPl (fun a p b => b ++ a.map (· ++ chgAt x p)) y) E1) y = txE x y y := by
                have hy1 : E1 y = txE x y y := by rw [← hE1]; simp only; rw [if_neg (by omega)]
                rcases part_fold (fun a p b => b ++ a.map (· ++ chgAt x p)) x y k E1 with h | ⟨s, hs, h⟩
                · rw [h, hy1]
                · rw [h]
                  simp only
                  rw [if_neg (by omega), hy1]
              have p17 := pow16 (i := y + 1) (by omega)
              generalize ((plsL x).take k).foldl (apPl (fun a p b => b ++ a.map (· ++ chgAt x p)) y) E1 = E at hft hEl hEy
              have hpm := List.mem_of_getElem? hp
              have hfit := plsL_fit hpm
              have hch := m_changed_S x p (by omega) hpm
              obtain ⟨i, s⟩ := p
              simp only at hfit
              refine ⟨_, rfl, ?_⟩
              by_cases h : i = y
              · subst h
                have e2 : ((i : Int) + (s : Int)).toNat = i + s := by omega
                have g2 : ixN (x.length + 1) ((i : Int) + (s : Int)) = some (i + s) := by rw [ixN_nat (by omega) (by omega), e2]
                have a2 := rowT_at' (n := x.length + 1) (j := i + s) (k := (i : Int) + (s : Int)) (E := E) (by omega) (by omega)
                have a3 := rowT_at (n := x.length + 1) (j := i) (E := E) (by omega)
                rw [hEy] at a3
                have hlc := hEl (i + s)
                have hal := add_tL2 (E (i + s)) (txE x i i) (chgAt x (i, s)) (by omega)
                have ha : apPl (fun a p b => b ++ a.map (· ++ chgAt x p)) i E (i, s) = fun j => if j = i + s then E (i + s) ++ (txE x i i).map (· ++ chgAt x (i, s)) else E j := by
                  unfold apPl
                  rw [if_pos rfl, hEy]
                  funext j
                  split
                  · rename_i h; rw [h]
                  · rfl
                have hk := kk' [some (.f (S x)), some (.o (rowT (x.length + 1) (apPl (fun a p b => b ++ a.map (· ++ chgAt x p)) i E (i, s)))), some (.f (.int (i : Int))), some (.f (S [sg])), some (.f (encPl (i, s))), some (.f (.list ((txE x i i).map fun t => S (t ++ chgAt x (i, s))))), d] ⟨_, _, _, by rw [hft]⟩
                rw [ha, ← rowT_set] at hk
                have hcl : (chgAt x (i, s)).length ≤ 3 := by
                  unfold chgAt chg
                  split
                  · split <;> simp
                  · simp
                have hix : ixD (encPl (i, s)) (.int 0) = some (.int (i : Int)) := rfl
                have hix1 : ixD (encPl (i, s)) (.int 1) = some (.int (s : Int)) := rfl
                simp -dsimp -implicitDefEqProofs (disch := first | omega | simp) [hix, hix1, -ixD]
                rw [dLc_all (txE x i i) S (fun t => S (t ++ chgAt x (i, s)))]
                · simp -dsimp -implicitDefEqProofs (disch := first | omega | simp) [hix, hix1, ixL, a2, hal, addI, rowT_len, g2, -ixD, -addA]
                  exact hk
                · simp -dsimp -implicitDefEqProofs (disch := first | omega | simp) [ixL, a3, seq_tL, -ixD, -seqD]
                · intro t ht
                  have := t0 t ht
                  simp -dsimp -implicitDefEqProofs (disch := first | omega | simp) [S, hch]
                · omega
              · have h' : ¬ (i : Int) = (y : Int) := by omega
                have hix : ixD (encPl (i, s)) (.int 0) = some (.int (i : Int)) := rfl
                have ha : apPl (fun a p b => b ++ a.map (· ++ chgAt x p)) y E (i, s) = E := by unfold apPl; rw [if_neg h]
                have hk := kk' [some (.f (S x)), some (.o (rowT (x.length + 1) (apPl (fun a p b => b ++ a.map (· ++ chgAt x p)) y E (i, s)))), some (.f (.int (y : Int))), some (.f (S [sg])), some (.f (encPl (i, s))), c, d] ⟨_, _, _, by rw [hft]⟩
                rw [ha] at hk
                simp -dsimp -implicitDefEqProofs (disch := first | omega | simp) [h', hix, -ixD]
                exact hk
            · rintro ε ⟨b, c, d, rfl⟩
              rw [List.take_length, ← hE]
              exact kk _ ⟨_, _, _, _, _, rfl⟩
          · simp -dsimp -implicitDefEqProofs (disch := first | omega | simp) [a0, seq_tL, -seqD]
          · intro t ht
            have := t0 t ht
            simp -dsimp -implicitDefEqProofs (disch := first | omega | simp) [S]
          · omega
        · rintro ε ⟨a, b, c, d, e, rfl⟩
          have a0 := rowT_at (n := x.length + 1) (j := x.length) (E := txE x x.length) (by omega)
          have hsrt : sortedSL [tL (txE x x.length x.length)] = some ((sortT (al x)).map S) := by
            rw [tL, sortedSL_list, sortedL_S, sortT_eq (txE_end x)]
          have hz := al_size 16 x hl
          have hzl := sortT_length (al x)
          simp -dsimp -implicitDefEqProofs (disch := first | omega | simp) [a0, hsrt, hzl, -sortedL, -sortedSL_list]
          exact szl _ (by omega)
      · simp -dsimp -implicitDefEqProofs
      · intro c _
        simp -dsimp -implicitDefEqProofs
      · omega
    · cases h
  · cases h
theorem m_all_alike_S (l : List Nat) (h : l.length ≤ 16) : m_all_alike [.str (mkS l)] = some ((sortT (al l)).map S) := by simp [m_all_alike, h]
def comD (x y : List Nat) : PyData := match com x.length x y with
  | some ws => .tuple (ws.map S)
  | none => .none
def m_common_words : List PyData → Option PyData
  | [.str s, .str t] => if s.length ≤ 1000 ∧ t.length ≤ 1000 then some (comD s.cps.toList t.cps.toList) else none
  | _ => none
def N_common_words : List Str := ["one", "other", "words", "at", "to", "sign", "first", "second", "last", "behind"]
def T_common_words : TD := (dSeq (dPar [2, 3, 4] (fun ε => ((fun ε => ((fun ε => ((fun ε => limL ((fun _ => some []) ε)) ε).map PyData.list) ε).map Slot.f) ε).bind fun d => ((fun ε => ((fun ε => ((fun _ => some (PyData.int 0)) ε).map Slot.f) ε).bind fun d => ((fun ε => ((fun ε => ((fun _ => some (PyData.int 0)) ε).map Slot.f) ε).bind fun d => ((fun _ => some []) ε).map (d :: ·)) ε).map (d :: ·)) ε).map (d :: ·)))
    (dSeq (dWhile (dOr (fun ε => boolOf (dOp ltD (getB 3) (fun ε => ((dCons (getB 0) (fun _ => some [])) ε).bind lenD) ε)) (fun ε => boolOf (dOp ltD (getB 4) (fun ε => ((dCons (getB 1) (fun _ => some [])) ε).bind lenD) ε))) (dSeq (dPar [5, 6, 7] (fun ε => ((fun ε => ((dSl (getB 0) (fun ε => intOf ((getB 3) ε)) (fun ε => intOf ((dOp addA (getB 3) (fun _ => some (PyData.int 1))) ε))) ε).map Slot.f) ε).bind fun d => ((fun ε => ((fun ε => ((dSl (getB 0) (fun ε => intOf ((dOp addA (getB 3) (fun _ => some (PyData.int 1))) ε)) (fun ε => intOf ((dOp addA (getB 3) (fun _ => some (PyData.int 2))) ε))) ε).map Slot.f) ε).bind fun d => ((fun ε => ((fun ε => ((dSl (getB 1) (fun ε => intOf ((dOp addA (getB 4) (fun _ => some (PyData.int 1))) ε)) (fun ε => intOf ((dOp addA (getB 4) (fun _ => some (PyData.int 2))) ε))) ε).map Slot.f) ε).bind fun d => ((fun _ => some []) ε).map (d :: ·)) ε).map (d :: ·)) ε).map (d :: ·)))
    (dSeq (dIf (dOr (fun ε => boolOf (dOp eqD (getB 5) (fun _ => some (PyData.str (mkS []))) ε)) (fun ε => boolOf (dOp neD (getB 5) (dSl (getB 1) (fun ε => intOf ((getB 4) ε)) (fun ε => intOf ((dOp addA (getB 4) (fun _ => some (PyData.int 1))) ε))) ε))) (dRet (fun ε => ((fun _ => some PyData.none) ε).map Slot.f)) dNext)
    (dIf (dAnd (fun ε => boolOf (dOp neD (getB 6) (getB 7) ε)) (fun ε => boolOf (dOp inD (fun _ => some (PyData.str (mkS [48]))) (fun ε => (limL ((dCons (getF 6) (dCons (getF 7) (fun _ => some []))) ε)).map PyData.tuple) ε))) (dSeq (dAsg 8 (fun ε => ((dIfE (fun ε => boolOf (dOp eqD (getB 6) (fun _ => some (PyData.str (mkS [48]))) ε)) (getF 7) (getF 6)) ε).map Slot.f))
    (dSeq (dAsg 9 (fun ε => ((dIfE (fun ε => boolOf (dOp eqD (getB 6) (fun _ => some (PyData.str (mkS [48]))) ε)) (dSl (getB 0) (fun ε => intOf ((dOp addA (getB 3) (fun _ => some (PyData.int 2))) ε)) (fun ε => intOf ((dOp addA (getB 3) (fun _ => some (PyData.int 3))) ε))) (dSl (getB 1) (fun ε => intOf ((dOp addA (getB 4) (fun _ => some (PyData.int 2))) ε)) (fun ε => intOf ((dOp addA (getB 4) (fun _ => some (PyData.int 3))) ε)))) ε).map Slot.f))
    (dSeq (dIf (dOr (fun ε => boolOf (dOp notInD (getB 5) (fun ε => ((fun ε => ((dCons (dSl (fun _ => some (PyData.str (mkS [48, 49, 50, 51, 52, 53, 54, 55, 56, 57]))) (fun ε => intOf ((fun _ => some (PyData.int 2)) ε)) (fun _ => some none)) (fun _ => some [])) ε).bind listSL) ε).map PyData.list) ε)) (dOr (fun ε => boolOf (dOp notInD (getB 8) (fun ε => ((fun ε => ((dCons (dSl (fun _ => some (PyData.str (mkS [48, 49, 50, 51, 52, 53, 54, 55, 56, 57]))) (fun ε => intOf ((fun _ => some (PyData.int 1)) ε)) (fun _ => some none)) (fun _ => some [])) ε).bind listSL) ε).map PyData.list) ε)) (fun ε => boolOf (dOp neD (getB 9) (getB 8) ε)))) (dRet (fun ε => ((fun _ => some PyData.none) ε).map Slot.f)) dNext)
    (dSeq (dAsg 2 (fun ε => ((dOp addA (getB 2) (fun ε => ((fun ε => limL ((dCons (dOp addA (getB 5) (fun _ => some (PyData.str (mkS [48])))) (dCons (getF 8) (fun _ => some []))) ε)) ε).map PyData.list)) ε).map Slot.f))
    (dPar [3, 4] (fun ε => ((fun ε => ((dOp addA (dOp addA (getB 3) (fun _ => some (PyData.int 2))) (fun ε => ((dCons (dOp eqD (getB 6) (fun _ => some (PyData.str (mkS [48])))) (fun _ => some [])) ε).bind intD)) ε).map Slot.f) ε).bind fun d => ((fun ε => ((fun ε => ((dOp addA (dOp addA (getB 4) (fun _ => some (PyData.int 2))) (fun ε => ((dCons (dOp eqD (getB 7) (fun _ => some (PyData.str (mkS [48])))) (fun _ => some [])) ε).bind intD)) ε).map Slot.f) ε).bind fun d => ((fun _ => some []) ε).map (d :: ·)) ε).map (d :: ·))))))) (dPar [2, 3, 4] (fun ε => ((fun ε => ((dOp addA (getB 2) (fun ε => ((fun ε => limL ((dCons (getF 5) (fun _ => some [])) ε)) ε).map PyData.list)) ε).map Slot.f) ε).bind fun d => ((fun ε => ((fun ε => ((dOp addA (getB 3) (fun _ => some (PyData.int 1))) ε).map Slot.f) ε).bind fun d => ((fun ε => ((fun ε => ((dOp addA (getB 4) (fun _ => some (PyData.int 1))) ε).map Slot.f) ε).bind fun d => ((fun _ => some []) ε).map (d :: ·)) ε).map (d :: ·)) ε).map (d :: ·)))))))
    (dRet (fun ε => ((fun ε => ((dCons (getB 2) (fun _ => some [])) ε).bind tupleSD) ε).map Slot.f))))
theorem st_common_words (a0 a1 : PyData) : startE N_common_words [a0, a1] = [some (.f a0), some (.f a1), none, none, none, none, none, none, none, none] := rfl
theorem inHiL (c : Nat) : notInD (.str (mkS [c])) (.list [.str (mkS [50]), .str (mkS [51]), .str (mkS [52]), .str (mkS [53]), .str (mkS [54]), .str (mkS [55]), .str (mkS [56]), .str (mkS [57])]) = some (.bool (!hiF c)) := by
  have e := inB_S [c] [[50], [51], [52], [53], [54], [55], [56], [57]]
  have key : decide ([c] ∈ [[50], [51], [52], [53], [54], [55], [56], [57]]) = hiF c := by
    rw [← hiF_in]
    simp
  rw [key] at e
  generalize hiF c = k at e
  simp only [List.map_cons, List.map_nil, S] at e
  simp [e]
theorem notLoL (r : List Nat) : notInD (.str (mkS (r.take 1))) (.list [.str (mkS [49]), .str (mkS [50]), .str (mkS [51]), .str (mkS [52]), .str (mkS [53]), .str (mkS [54]), .str (mkS [55]), .str (mkS [56]), .str (mkS [57])]) = some (.bool (!loF (r.headD 0))) := by
  rw [notInD, inLoL]; rfl
theorem notLo1 (c : Nat) : notInD (.str (mkS [c])) (.list [.str (mkS [49]), .str (mkS [50]), .str (mkS [51]), .str (mkS [52]), .str (mkS [53]), .str (mkS [54]), .str (mkS [55]), .str (mkS [56]), .str (mkS [57])]) = some (.bool (!loF c)) := notLoL [c]
theorem notLo0 : notInD (.str (mkS [])) (.list [.str (mkS [49]), .str (mkS [50]), .str (mkS [51]), .str (mkS [52]), .str (mkS [53]), .str (mkS [54]), .str (mkS [55]), .str (mkS [56]), .str (mkS [57])]) = some (.bool true) := notLoL []
theorem com_nn (n : Nat) : com n [] [] = some [] := by cases n <;> simp [com]
theorem com_xn (n c : Nat) (x : List Nat) : com n (c :: x) [] = none := by cases n <;> simp [com]
theorem com_nx (n c : Nat) (x : List Nat) : com n [] (c :: x) = none := by cases n <;> simp [com]
theorem com_cc (n a b : Nat) (x y : List Nat) : com (n + 1) (a :: x) (b :: y) = if a ≠ b then none
    else if x.head? ≠ y.head? ∧ (x.head? = some 48 ∨ y.head? = some 48) then (if x.head? = some 48 then com1 a (com n) x y else com2 a (com n) x y)
    else (com n x y).map ([[a]] ++ ·) := rfl
theorem com_fuel : ∀ {n m : Nat} {x y : List Nat}, x.length ≤ n → x.length ≤ m → com n x y = com m x y
  | n, m, [], [], _, _ => by rw [com_nn, com_nn]
  | n, m, [], _ :: _, _, _ => by rw [com_nx, com_nx]
  | n, m, _ :: _, [], _, _ => by rw [com_xn, com_xn]
  | 0, _, _ :: _, _ :: _, h, _ => by simp at h
  | _, 0, _ :: _, _ :: _, _, h => by simp at h
  | n + 1, m + 1, a :: x, b :: y, h1, h2 => by
    simp only [List.length_cons] at h1 h2
    rw [com_cc, com_cc]
    have e0 : com n x y = com m x y := com_fuel (by omega) (by omega)
    have e1 : com1 a (com n) x y = com1 a (com m) x y := by
      unfold com1
      split
      · rename_i _ l x' q y'
        simp only [List.length_cons] at h1 h2
        rw [com_fuel (n := n) (m := m) (x := x') (y := y') (by omega) (by omega)]
      · rfl
    have e2 : com2 a (com n) x y = com2 a (com m) x y := by
      unfold com2
      split
      · rename_i q x' _ l y'
        simp only [List.length_cons] at h1 h2
        rw [com_fuel (n := n) (m := m) (x := x') (y := y') (by omega) (by omega)]
      · rfl
    rw [e0, e1, e2]
def cwInv (x y : List Nat) (m : Nat) (ε : En) : Prop := ∃ (W : List (List Nat)) (a b : Nat) (c d e f g : Option Slot), ε = [some (.f (S x)), some (.f (S y)), some (.f (.list (W.map S))), some (.f (.int (a : Int))), some (.f (.int (b : Int))), c, d, e, f, g] ∧
  a ≤ x.length ∧ b ≤ y.length ∧ m = x.length - a ∧ W.length ≤ a ∧ com x.length x y = (com (x.length - a) (x.drop a) (y.drop b)).map (W ++ ·)
theorem pure_common_words : ∀ ds d, m_common_words ds = some d → ds.length = ["one", "other"].length ∧ T_common_words { nx := fun _ => d = .none, rt := fun s => s.val = some d } (startE N_common_words ds) := by
  intro ds d h
  unfold m_common_words at h
  split at h
  · rename_i s t
    split at h
    · rename_i hl
      cases h
      refine ⟨rfl, ?_⟩
      rw [st_common_words]
      rw [mkS_eta s, mkS_eta t] at hl ⊢
      rw [mkS_toList, mkS_toList]
      generalize s.cps.toList = x at hl ⊢
      generalize t.cps.toList = y at hl ⊢
      rw [mkS_length, mkS_length] at hl
      obtain ⟨hx, hy⟩ := hl
      simp -dsimp -implicitDefEqProofs (disch := first | omega | simp) [T_common_words, setE]
      refine whB_by (cwInv x y) x.length ⟨[], 0, 0, _, _, _, _, _, rfl, by omega, by omega, by omega, by simp, by simp⟩ ?_
      rintro m ε nx ⟨W, a, b, s5, s6, s7, s8, s9, rfl, ha, hb, hm, hW, hcom⟩ kk
      have a1 : ((a : Int) + 1).toNat - a = 1 := by omega
      have b1 : ((b : Int) + 1).toNat - b = 1 := by omega
      have a2 : ((a : Int) + 2).toNat - (a + 1) = 1 := by omega
      have b2 : ((b : Int) + 2).toNat - (b + 1) = 1 := by omega
      have a3 : ((a : Int) + 3).toNat - (a + 2) = 1 := by omega
      have b3 : ((b : Int) + 3).toNat - (b + 2) = 1 := by omega
      have a2n : ((a : Int) + 2).toNat = a + 2 := by omega
      have b2n : ((b : Int) + 2).toNat = b + 2 := by omega
      by_cases hxa : a < x.length
      · obtain ⟨c, x', hx'⟩ : ∃ c x', x.drop a = c :: x' := ⟨_, _, List.drop_eq_getElem_cons hxa⟩
        have hx1 : x.drop (a + 1) = x' := by rw [← List.drop_drop, hx']; rfl
        have hx2 : x.drop (a + 2) = x'.drop 1 := by rw [← hx1, List.drop_drop]
        have hxl : x'.length + 1 = x.length - a := by have := congrArg List.length hx'; rw [List.length_drop, List.length_cons] at this; omega
        have hxi : (a : Int) < x.length := by omega
        rw [hx', show x.length - a = x'.length + 1 by omega] at hcom
        by_cases hyb : b < y.length
        · obtain ⟨d, y', hy'⟩ : ∃ c x', y.drop b = c :: x' := ⟨_, _, List.drop_eq_getElem_cons hyb⟩
          have hy1 : y.drop (b + 1) = y' := by rw [← List.drop_drop, hy']; rfl
          have hy2 : y.drop (b + 2) = y'.drop 1 := by rw [← hy1, List.drop_drop]
          have hyl : y'.length + 1 = y.length - b := by have := congrArg List.length hy'; rw [List.length_drop, List.length_cons] at this; omega
          have hyi : (b : Int) < y.length := by omega
          rw [hy', com_cc] at hcom
          by_cases hcd : c = d
          · subst hcd
            rw [if_neg (by simp)] at hcom
            simp -dsimp -implicitDefEqProofs (disch := first | omega | simp) [hxi, hyi, a1, b1, a2, b2, hx', hy', hx1, hy1, setE]
            -- both figures are read as they stand
            have same : (x'.head? ≠ y'.head? ∧ (x'.head? = some 48 ∨ y'.head? = some 48) → False) → nx [some (.f (S x)), some (.f (S y)), some (.f (.list ((W ++ [[c]]).map S))), some (.f (.int ((a : Int) + 1))), some (.f (.int ((b : Int) + 1))), some (.f (S [c])), some (.f (S (x'.take 1))), some (.f (S (y'.take 1))), s8, s9] := by
              intro h
              rw [if_neg h] at hcom
              refine kk (x.length - (a + 1)) _ (by omega) ⟨W ++ [[c]], a + 1, b + 1, _, _, _, _, _, rfl, by omega, by omega, rfl, by simp; omega, ?_⟩
              rw [hcom, hx1, hy1, show x.length - (a + 1) = x'.length by omega, Option.map_map]
              congr 1
              funext z
              simp
            match x', y', hx', hx1, hx2, hxl, hy', hy1, hy2, hyl, hcom, same with
            | [], [], hx', hx1, hx2, hxl, hy', hy1, hy2, hyl, hcom, same =>
              have same := same (by simp)
              simp -dsimp -implicitDefEqProofs (disch := first | omega | simp) [setE]
              rw [List.map_append] at same
              exact same
            | [], q :: y', hx', hx1, hx2, hxl, hy', hy1, hy2, hyl, hcom, same =>
              by_cases hq : q = 48
              · subst hq
                rw [if_pos (by simp), if_neg (by simp), com2, Option.map_none] at hcom
                · simp -dsimp -implicitDefEqProofs (disch := first | omega | simp) [inB, a2, b2, a2n, b2n, b3, hx', hy', hx2, hy2, hcom, comD, inHiL, notLo0, setE, -notInD]
                · intro _ _ _ _ _ h; cases h
              · have same := same (by simp [hq])
                have hq' : (48 == q) = false := by rw [beq_eq_false_iff_ne]; exact fun h => hq h.symm
                simp -dsimp -implicitDefEqProofs (disch := first | omega | simp) [inB, hq', hq, setE]
                rw [List.map_append] at same
                exact same
            | p :: x', [], hx', hx1, hx2, hxl, hy', hy1, hy2, hyl, hcom, same =>
              by_cases hp : p = 48
              · subst hp
                rw [if_pos (by simp), if_pos (by simp), com1, Option.map_none] at hcom
                · simp -dsimp -implicitDefEqProofs (disch := first | omega | simp) [inB, a2, b2, a2n, b2n, a3, hx', hy', hx2, hy2, hcom, comD, inHiL, notLo0, setE, -notInD]
                · intro _ _ _ _ _ _ h; cases h
              · have same := same (by simp [hp])
                have hp' : (48 == p) = false := by rw [beq_eq_false_iff_ne]; exact fun h => hp h.symm
                simp -dsimp -implicitDefEqProofs (disch := first | omega | simp) [inB, hp', hp, setE]
                rw [List.map_append] at same
                exact same
            | p :: x', q :: y', hx', hx1, hx2, hxl, hy', hy1, hy2, hyl, hcom, same =>
              by_cases hpq : p = q
              · subst hpq
                have same := same (by simp)
                simp -dsimp -implicitDefEqProofs (disch := first | omega | simp) [setE]
                rw [List.map_append] at same
                exact same
              · have hpq' : (p == q) = false := by simpa using hpq
                by_cases hp : p = 48
                · subst hp
                  have hq' : (q == 48) = false := by rw [beq_eq_false_iff_ne]; exact fun h => hpq h.symm
                  have hq2 : ¬ q = 48 := fun h => hpq h.symm
                  rw [if_pos (by simp [hpq]), if_pos (by simp)] at hcom
                  match x', hx', hx1, hx2, hxl, hcom with
                  | [], hx', hx1, hx2, hxl, hcom =>
                    have hc0 : com1 c (com [48].length) [48] (q :: y') = none := rfl
                    rw [hc0, Option.map_none] at hcom
                    cases hA : hiF c <;> cases hB : loF q <;> simp -dsimp -implicitDefEqProofs (disch := first | omega | simp) [inB, hpq, hpq', a2, b2, a2n, b2n, a3, hx', hy', hx2, hy2, hcom, comD, inHiL, notLo1, hA, hB, setE, -notInD]
                  | l :: x', hx', hx1, hx2, hxl, hcom =>
                    have hc0 : com1 c (com (48 :: l :: x').length) (48 :: l :: x') (q :: y') = if hiF c && loF q && l == q then (com (48 :: l :: x').length x' y').map ([[c, 48], [q]] ++ ·) else none := rfl
                    rw [hc0] at hcom
                    by_cases hok : (hiF c && loF q && l == q) = true
                    · rw [if_pos hok, Option.map_map] at hcom
                      simp only [Bool.and_eq_true, beq_iff_eq] at hok
                      obtain ⟨⟨hA, hB⟩, rfl⟩ := hok
                      have hk : nx [some (.f (S x)), some (.f (S y)), some (.f (.list ((W ++ [[c, 48], [l]]).map S))), some (.f (.int ((a : Int) + 3))), some (.f (.int ((b : Int) + 2))), some (.f (S [c])), some (.f (S [48])), some (.f (S [l])), some (.f (S [l])), some (.f (S [l]))] := by
                        simp only [List.length_cons] at hxl hyl
                        refine kk (x.length - (a + 3)) _ (by omega) ⟨W ++ [[c, 48], [l]], a + 3, b + 2, _, _, _, _, _, rfl, by omega, by omega, rfl, by simp; omega, ?_⟩
                        have hx3 : x.drop (a + 3) = x' := by rw [show a + 3 = a + 2 + 1 from rfl, ← List.drop_drop, hx2]; rfl
                        rw [hcom, hx3, hy2, List.drop_one, List.tail_cons, com_fuel (by rw [List.length_cons, List.length_cons]; omega) (by omega : x'.length ≤ x.length - (a + 3))]
                        congr 1
                        funext z
                        simp
                      rw [List.map_append] at hk
                      simp -dsimp -implicitDefEqProofs (disch := first | omega | simp) [inB, hpq, hpq', hq', hq2, a2, b2, a2n, b2n, a3, hx', hy', hx2, hy2, inHiL, notLo1, hA, hB, setE, -notInD]
                      exact hk
                    · rw [if_neg hok, Option.map_none] at hcom
                      have hA : hiF c = true ∨ hiF c = false := by cases hiF c <;> simp
                      cases hA : hiF c
                      · simp -dsimp -implicitDefEqProofs (disch := first | omega | simp) [inB, hpq, hpq', hq', hq2, a2, b2, a2n, b2n, a3, hx', hy', hx2, hy2, inHiL, notLo1, hA, hcom, comD, setE, -notInD]
                      · cases hB : loF q
                        · simp -dsimp -implicitDefEqProofs (disch := first | omega | simp) [inB, hpq, hpq', hq', hq2, a2, b2, a2n, b2n, a3, hx', hy', hx2, hy2, inHiL, notLo1, hA, hB, hcom, comD, setE, -notInD]
                        · have hlq : ¬ l = q := fun h => hok (by rw [hA, hB, h]; simp)
                          have hlq' : (l == q) = false := by simpa using hlq
                          simp -dsimp -implicitDefEqProofs (disch := first | omega | simp) [inB, hpq, hpq', hq', hq2, a2, b2, a2n, b2n, a3, hx', hy', hx2, hy2, inHiL, notLo1, hA, hB, hlq, hlq', hcom, comD, setE, -notInD]
                · by_cases hq : q = 48
                  · subst hq
                    have hp' : (p == 48) = false := by simpa using hp
                    have hp2 : ¬ 48 = p := fun h => hp h.symm
                    rw [if_pos (by simp [hp]), if_neg (by simp [hp])] at hcom
                    match y', hy', hy1, hy2, hyl, hcom with
                    | [], hy', hy1, hy2, hyl, hcom =>
                      have hc0 : com2 c (com (p :: x').length) (p :: x') [48] = none := rfl
                      rw [hc0, Option.map_none] at hcom
                      cases hA : hiF c <;> cases hB : loF p <;> simp -dsimp -implicitDefEqProofs (disch := first | omega | simp) [inB, hpq, hpq', hp', hp, hp2, a2, b2, a2n, b2n, b3, hx', hy', hx2, hy2, hcom, comD, inHiL, notLo1, hA, hB, setE, -notInD]
                    | l :: y', hy', hy1, hy2, hyl, hcom =>
                      have hc0 : com2 c (com (p :: x').length) (p :: x') (48 :: l :: y') = if hiF c && loF p && l == p then (com (p :: x').length x' y').map ([[c, 48], [p]] ++ ·) else none := rfl
                      rw [hc0] at hcom
                      by_cases hok : (hiF c && loF p && l == p) = true
                      · rw [if_pos hok, Option.map_map] at hcom
                        simp only [Bool.and_eq_true, beq_iff_eq] at hok
                        obtain ⟨⟨hA, hB⟩, rfl⟩ := hok
                        have hk : nx [some (.f (S x)), some (.f (S y)), some (.f (.list ((W ++ [[c, 48], [l]]).map S))), some (.f (.int ((a : Int) + 2))), some (.f (.int ((b : Int) + 3))), some (.f (S [c])), some (.f (S [l])), some (.f (S [48])), some (.f (S [l])), some (.f (S [l]))] := by
                          simp only [List.length_cons] at hxl hyl
                          refine kk (x.length - (a + 2)) _ (by omega) ⟨W ++ [[c, 48], [l]], a + 2, b + 3, _, _, _, _, _, rfl, by omega, by omega, rfl, by simp; omega, ?_⟩
                          have hy3 : y.drop (b + 3) = y' := by rw [show b + 3 = b + 2 + 1 from rfl, ← List.drop_drop, hy2]; rfl
                          rw [hcom, hx2, hy3, List.drop_one, List.tail_cons, com_fuel (by rw [List.length_cons]; omega) (by omega : x'.length ≤ x.length - (a + 2))]
                          congr 1
                          funext z
                          simp
                        rw [List.map_append] at hk
                        simp -dsimp -implicitDefEqProofs (disch := first | omega | simp) [inB, hpq, hpq', hp', hp, hp2, a2, b2, a2n, b2n, b3, hx', hy', hx2, hy2, inHiL, notLo1, hA, hB, setE, -notInD]
                        exact hk
                      · rw [if_neg hok, Option.map_none] at hcom
                        cases hA : hiF c
                        · simp -dsimp -implicitDefEqProofs (disch := first | omega | simp) [inB, hpq, hpq', hp', hp, hp2, a2, b2, a2n, b2n, b3, hx', hy', hx2, hy2, inHiL, notLo1, hA, hcom, comD, setE, -notInD]
                        · cases hB : loF p
                          · simp -dsimp -implicitDefEqProofs (disch := first | omega | simp) [inB, hpq, hpq', hp', hp, hp2, a2, b2, a2n, b2n, b3, hx', hy', hx2, hy2, inHiL, notLo1, hA, hB, hcom, comD, setE, -notInD]
                          · have hlq : ¬ l = p := fun h => hok (by rw [hA, hB, h]; simp)
                            have hlq' : (l == p) = false := by simpa using hlq
                            simp -dsimp -implicitDefEqProofs (disch := first | omega | simp) [inB, hpq, hpq', hp', hp, hp2, a2, b2, a2n, b2n, b3, hx', hy', hx2, hy2, inHiL, notLo1, hA, hB, hlq, hlq', hcom, comD, setE, -notInD]
                  · have same := same (by simp [hp, hq])
                    have hp' : (48 == p) = false := by rw [beq_eq_false_iff_ne]; exact fun h => hp h.symm
                    have hq' : (48 == q) = false := by rw [beq_eq_false_iff_ne]; exact fun h => hq h.symm
                    simp -dsimp -implicitDefEqProofs (disch := first | omega | simp) [inB, hp', hq', hp, hq, hpq, hpq', setE]
                    rw [List.map_append] at same
                    exact same
          · have hcd' : (c == d) = false := by simpa using hcd
            rw [if_pos hcd] at hcom
            simp -dsimp -implicitDefEqProofs (disch := first | omega | simp) [hxi, hyi, a1, b1, a2, b2, hx', hy', hx1, hy1, hcd, hcd', comD, hcom, setE]
        · have hyz : y.drop b = [] := List.drop_eq_nil_of_le (by omega)
          have hyi : ¬ (b : Int) < y.length := by omega
          have hy1 : y.drop (b + 1) = [] := List.drop_eq_nil_of_le (by omega)
          rw [hyz, com_xn, Option.map_none] at hcom
          simp -dsimp -implicitDefEqProofs (disch := first | omega | simp) [hxi, hyi, a1, b1, a2, b2, hx', hyz, hx1, hy1, comD, hcom, setE]
      · have hxz : x.drop a = [] := List.drop_eq_nil_of_le (by omega)
        have hx1 : x.drop (a + 1) = [] := List.drop_eq_nil_of_le (by omega)
        have hxi : ¬ (a : Int) < x.length := by omega
        have hn : x.length - a = 0 := by omega
        rw [hxz, hn] at hcom
        by_cases hyb : b < y.length
        · have hyi : (b : Int) < y.length := by omega
          obtain ⟨d, y', hy'⟩ : ∃ c x', y.drop b = c :: x' := ⟨_, _, List.drop_eq_getElem_cons hyb⟩
          have hy1 : y.drop (b + 1) = y' := by rw [← List.drop_drop, hy']; rfl
          rw [hy', com_nx, Option.map_none] at hcom
          simp -dsimp -implicitDefEqProofs (disch := first | omega | simp) [hxi, hyi, a1, b1, a2, b2, hxz, hy', hx1, hy1, comD, hcom, setE]
        · have hyi : ¬ (b : Int) < y.length := by omega
          have hyz : y.drop b = [] := List.drop_eq_nil_of_le (by omega)
          rw [hyz, com_nn, Option.map_some] at hcom
          simp -dsimp -implicitDefEqProofs (disch := first | omega | simp) [hxi, hyi, comD, hcom]
    · cases h
  · cases h
theorem m_common_words_S (x y : List Nat) (h : x.length ≤ 1000) (h' : y.length ≤ 1000) : m_common_words [.str (mkS x), .str (mkS y)] = some (comD x y) := by simp [m_common_words, h, h']
theorem comD_is {x y : List Nat} (h : Al x y) : isNone (comD x y) = false := by
  have := com_al x.length x y (Nat.le_refl _) h
  unfold comD
  cases hc : com x.length x y with
  | none => rw [hc] at this; cases this
  | some ws => rfl
theorem comD_not {x y : List Nat} (hf : ∀ c ∈ x, 48 ≤ c ∧ c ≤ 57) (h : ¬ Al x y) : comD x y = .none := by
  unfold comD
  cases hc : com x.length x y with
  | none => rfl
  | some ws => exact absurd (com_ok _ _ _ _ hc fun c hm => by have := hf c hm; omega).al h
/-- the places of x that stand otherwise in y -/
def chgs : Nat → Nat → List Nat → List Nat → List (Nat × Nat)
  | n + 1, a, _ :: x, _ :: y =>
    if x.head? ≠ y.head? ∧ (x.head? = some 48 ∨ y.head? = some 48) then (if x.head? = some 48 then (a, 3) :: chgs n (a + 3) (x.drop 2) (y.drop 1) else (a, 2) :: chgs n (a + 2) (x.drop 1) (y.drop 2))
    else chgs n (a + 1) x y
  | _, _, _, _ => []
def chD (x y : List Nat) : PyData := if isNone (comD x y) = true then .none else .list ((chgs x.length 0 x y).map encPl)
def m_changes : List PyData → Option PyData
  | [.str s, .str t] => if s.length ≤ 1000 ∧ t.length ≤ 1000 ∧ (s.cps.toList.all fun c => decide (48 ≤ c ∧ c ≤ 57)) = true then some (chD s.cps.toList t.cps.toList) else none
  | _ => none
def N_changes : List Str := ["one", "other", "words", "found", "at", "index", "size"]
def T_changes : TD := (dSeq (dAsg 2 (fun ε => ((fun ε => ((dCons (getF 0) (dCons (getF 1) (fun _ => some []))) ε).bind m_common_words) ε).map Slot.f))
    (dSeq (dIf (fun ε => boolOf (dOp isnD (getB 2) (fun _ => some PyData.none) ε)) (dRet (fun ε => ((fun _ => some PyData.none) ε).map Slot.f)) dNext)
    (dSeq (dPar [3, 4, 5] (fun ε => ((fun ε => ((fun ε => limL ((fun _ => some []) ε)) ε).map Slot.o) ε).bind fun d => ((fun ε => ((fun ε => ((fun _ => some (PyData.int 0)) ε).map Slot.f) ε).bind fun d => ((fun ε => ((fun ε => ((fun _ => some (PyData.int 0)) ε).map Slot.f) ε).bind fun d => ((fun _ => some []) ε).map (d :: ·)) ε).map (d :: ·)) ε).map (d :: ·)))
    (dSeq (dWhile (fun ε => boolOf (dOp ltD (getB 5) (fun ε => ((dCons (getB 2) (fun _ => some [])) ε).bind lenD) ε)) (dIf (fun ε => boolOf (dOp eqD (fun ε => ((dCons (dOp ixD (getB 2) (getB 5)) (fun _ => some [])) ε).bind lenD) (fun _ => some (PyData.int 2)) ε)) (dSeq (dAsg 6 (fun ε => ((dIfE (fun ε => boolOf (dOp eqD (dOp ixD (getB 0) (dOp addA (getB 4) (fun _ => some (PyData.int 1)))) (fun _ => some (PyData.str (mkS [48]))) ε)) (fun _ => some (PyData.int 3)) (fun _ => some (PyData.int 2))) ε).map Slot.f))
    (dSeq (dApp 3 (fun ε => (limL ((dCons (getF 4) (dCons (getF 6) (fun _ => some []))) ε)).map PyData.tuple))
    (dPar [4, 5] (fun ε => ((fun ε => ((dOp addA (getB 4) (getB 6)) ε).map Slot.f) ε).bind fun d => ((fun ε => ((fun ε => ((dOp addA (getB 5) (fun _ => some (PyData.int 2))) ε).map Slot.f) ε).bind fun d => ((fun _ => some []) ε).map (d :: ·)) ε).map (d :: ·))))) (dPar [4, 5] (fun ε => ((fun ε => ((dOp addA (getB 4) (fun _ => some (PyData.int 1))) ε).map Slot.f) ε).bind fun d => ((fun ε => ((fun ε => ((dOp addA (getB 5) (fun _ => some (PyData.int 1))) ε).map Slot.f) ε).bind fun d => ((fun _ => some []) ε).map (d :: ·)) ε).map (d :: ·)))))
    (dRetV 3)))))
theorem st_changes (a0 a1 : PyData) : startE N_changes [a0, a1] = [some (.f a0), some (.f a1), none, none, none, none, none] := rfl
inductive AlW : Nat → List Nat → List Nat → List (List Nat) → List (Nat × Nat) → Prop
  | nil {a : Nat} : AlW a [] [] [] []
  | same {a c : Nat} {x y : List Nat} {ws : List (List Nat)} {L : List (Nat × Nat)} : AlW (a + 1) x y ws L → AlW a (c :: x) (c :: y) ([c] :: ws) L
  | ins {a c d : Nat} {x y : List Nat} {ws : List (List Nat)} {L : List (Nat × Nat)} : hiF c = true → loF d = true → AlW (a + 2) x y ws L → AlW a (c :: d :: x) (c :: 48 :: d :: y) ([c, 48] :: [d] :: ws) ((a, 2) :: L)
  | del {a c d : Nat} {x y : List Nat} {ws : List (List Nat)} {L : List (Nat × Nat)} : hiF c = true → loF d = true → AlW (a + 3) x y ws L → AlW a (c :: 48 :: d :: x) (c :: d :: y) ([c, 48] :: [d] :: ws) ((a, 3) :: L)
theorem al_w : ∀ (n a : Nat) (x y : List Nat), x.length ≤ n → Al x y → ∃ ws, com n x y = some ws ∧ AlW a x y ws (chgs n a x y) := by
  intro n
  induction n with
  | zero =>
    intro a x y hl h
    cases h with
    | nil => exact ⟨[], rfl, .nil⟩
    | same _ => simp at hl
    | ins _ _ _ => simp at hl
    | del _ _ _ => simp at hl
  | succ n ih =>
    intro a x y hl h
    cases h with
    | nil => exact ⟨[], rfl, .nil⟩
    | same h =>
      rename_i c x y
      simp only [List.length_cons] at hl
      have e := h.head
      obtain ⟨ws, h1, h2⟩ := ih (a + 1) x y (by omega) h
      refine ⟨[c] :: ws, ?_, ?_⟩
      · rw [com_cc, if_neg (by simp), if_neg (by rw [e]; simp), h1]; rfl
      · rw [chgs, if_neg (by rw [e]; simp)]
        exact .same h2
    | ins h1 h2 h =>
      rename_i c d x y
      simp only [List.length_cons] at hl
      have hd : d ≠ 48 := by rw [loF_iff] at h2; omega
      have hd' : (48 : Nat) ≠ d := fun e => hd e.symm
      obtain ⟨ws, g1, g2⟩ := ih (a + 2) x y (by omega) h
      refine ⟨[c, 48] :: [d] :: ws, ?_, ?_⟩
      · rw [com_cc, if_neg (by simp), if_pos (by simp [hd]), if_neg (by simp [hd])]
        simp only [com2, h1, h2, Bool.and_self, beq_self_eq_true, if_true, g1]; rfl
      · rw [chgs, if_pos (by simp [hd]), if_neg (by simp [hd])]
        exact .ins h1 h2 g2
    | del h1 h2 h =>
      rename_i c d x y
      simp only [List.length_cons] at hl
      have hd : d ≠ 48 := by rw [loF_iff] at h2; omega
      have hd' : (48 : Nat) ≠ d := fun e => hd e.symm
      obtain ⟨ws, g1, g2⟩ := ih (a + 3) x y (by omega) h
      refine ⟨[c, 48] :: [d] :: ws, ?_, ?_⟩
      · rw [com_cc, if_neg (by simp), if_pos (by simp [hd']), if_pos (by simp)]
        simp only [com1, h1, h2, Bool.and_self, beq_self_eq_true, if_true, g1]; rfl
      · rw [chgs, if_pos (by simp [hd']), if_pos (by simp)]
        exact .del h1 h2 g2
theorem AlW.al {a : Nat} {x y : List Nat} {ws : List (List Nat)} {L : List (Nat × Nat)} (h : AlW a x y ws L) : Al x y := by
  induction h with
  | nil => exact .nil
  | same _ ih => exact .same ih
  | ins h1 h2 _ ih => exact .ins h1 h2 ih
  | del h1 h2 _ ih => exact .del h1 h2 ih
theorem AlW.len {a : Nat} {x y : List Nat} {ws : List (List Nat)} {L : List (Nat × Nat)} (h : AlW a x y ws L) : L.length ≤ x.length ∧ ws.length ≤ x.length := by
  induction h with
  | nil => simp
  | same _ ih => simp only [List.length_cons]; omega
  | ins _ _ _ ih => simp only [List.length_cons]; omega
  | del _ _ _ ih => simp only [List.length_cons]; omega
theorem AlW.fun {a : Nat} {x y : List Nat} {ws : List (List Nat)} {L : List (Nat × Nat)} (h : AlW a x y ws L) : ∀ {n : Nat}, x.length ≤ n → L = chgs n a x y := by
  induction h with
  | nil => intro n _; cases n <;> rfl
  | same h ih =>
    intro n hn
    simp only [List.length_cons] at hn
    obtain ⟨n, rfl⟩ : ∃ k, n = k + 1 := ⟨n - 1, by omega⟩
    rw [chgs, if_neg (by rw [h.al.head]; simp)]
    exact ih (by omega)
  | ins h1 h2 h ih =>
    intro n hn
    rename_i a c d x y ws L
    have hd : d ≠ 48 := by rw [loF_iff] at h2; omega
    simp only [List.length_cons] at hn
    obtain ⟨n, rfl⟩ : ∃ k, n = k + 1 := ⟨n - 1, by omega⟩
    rw [chgs, if_pos (by simp [hd]), if_neg (by simp [hd]), ih (n := n) (by omega)]
    rfl
  | del h1 h2 h ih =>
    intro n hn
    rename_i a c d x y ws L
    have hd : d ≠ 48 := by rw [loF_iff] at h2; omega
    have hd' : (48 : Nat) ≠ d := fun e => hd e.symm
    simp only [List.length_cons] at hn
    obtain ⟨n, rfl⟩ : ∃ k, n = k + 1 := ⟨n - 1, by omega⟩
    rw [chgs, if_pos (by simp [hd']), if_pos (by simp), ih (n := n) (by omega)]
    rfl
def chInv (x y : List Nat) (ws : List (List Nat)) (L : List (Nat × Nat)) (n : Nat) (ε : En) : Prop := ∃ (a i : Nat) (L1 L2 : List (Nat × Nat)) (x' y' : List Nat) (ws' : List (List Nat)) (s6 : Option Slot),
  AlW a x' y' ws' L2 ∧ x.drop a = x' ∧ ws.drop i = ws' ∧ L1 ++ L2 = L ∧ n = ws'.length ∧ i ≤ ws.length ∧ a ≤ x.length ∧
  ε = [some (.f (S x)), some (.f (S y)), some (.f (.tuple (ws.map S))), some (.o (L1.map encPl)), some (.f (.int (a : Int))), some (.f (.int (i : Int))), s6]
theorem pure_changes : ∀ ds d, m_changes ds = some d → ds.length = ["one", "other"].length ∧ T_changes { nx := fun _ => d = .none, rt := fun s => s.val = some d } (startE N_changes ds) := by
  intro ds d h
  unfold m_changes at h
  split at h
  · rename_i s t
    split at h
    · rename_i hl
      cases h
      refine ⟨rfl, ?_⟩
      rw [st_changes]
      rw [mkS_eta s, mkS_eta t] at hl ⊢
      simp only [mkS_toList] at hl ⊢
      generalize s.cps.toList = x at hl ⊢
      generalize t.cps.toList = y at hl ⊢
      simp only [mkS_length] at hl
      obtain ⟨hl1, hl2, hf⟩ := hl
      have hf : ∀ c ∈ x, 48 ≤ c ∧ c ≤ 57 := by simpa using hf
      have hc := m_common_words_S x y hl1 hl2
      by_cases hA : Al x y
      · have hi := comD_is hA
        obtain ⟨ws, hw, hL⟩ := al_w x.length 0 x y (Nat.le_refl _) hA
        have hcD : comD x y = .tuple (ws.map S) := by unfold comD; rw [hw]
        have hch : chD x y = .list ((chgs x.length 0 x y).map encPl) := by unfold chD; rw [hi]; rfl
        rw [hcD] at hc
        rw [hch]
        obtain ⟨z1, z2⟩ := hL.len
        generalize chgs x.length 0 x y = L at hL z1
        simp -dsimp -implicitDefEqProofs (disch := first | omega | simp) [T_changes, hc]
        refine whB_by (chInv x y ws L) ws.length ⟨0, 0, [], L, x, y, ws, _, hL, rfl, rfl, rfl, rfl, by omega, by omega, rfl⟩ ?_
        rintro n ε nx ⟨a, i, L1, L2, x', y', ws', s6, hW, hx, hw', hLL, rfl, hi', ha', rfl⟩ kk
        have hxl := congrArg List.length hx
        have hwl := congrArg List.length hw'
        have hLl := congrArg List.length hLL
        rw [List.length_drop] at hxl hwl
        rw [List.length_append] at hLl
        cases hW with
        | nil =>
          simp only [List.length_nil] at hwl
          have h1 : ¬ (i : Int) < (ws.length : Int) := by omega
          rw [List.append_nil] at hLL
          simp -dsimp -implicitDefEqProofs (disch := first | omega | simp) [h1, hLL]
        | same hW =>
          rename_i c x1 y1 ws1
          simp only [List.length_cons] at hxl hwl
          have h1 : (i : Int) < (ws.length : Int) := by omega
          have h2 : ws[i]? = some [c] := by have := congrArg List.head? hw'; rw [List.head?_drop] at this; exact this
          obtain ⟨h2b, h2a⟩ := List.getElem?_eq_some_iff.mp h2
          simp -dsimp -implicitDefEqProofs (disch := first | omega | simp) [h1, h2, h2a, S]
          exact kk _ _ (by simp only [List.length_cons]; omega) ⟨a + 1, i + 1, L1, L2, x1, y1, ws1, _, hW, by rw [← List.drop_drop, hx]; rfl, by rw [← List.drop_drop, hw']; rfl, hLL, rfl, by omega, by omega, rfl⟩
        | ins q1 q2 hW =>
          rename_i c d x1 y1 ws1 L3
          simp only [List.length_cons] at hxl hwl hLl
          have h1 : (i : Int) < (ws.length : Int) := by omega
          have h2 : ws[i]? = some [c, 48] := by have := congrArg List.head? hw'; rw [List.head?_drop] at this; exact this
          obtain ⟨h2b, h2a⟩ := List.getElem?_eq_some_iff.mp h2
          have hd : ¬ d = 48 := by rw [loF_iff] at q2; omega
          have h3 : x[a + 1]? = some d := by have := congrArg (fun l => l[1]?) hx; simp only [List.getElem?_drop] at this; exact this
          obtain ⟨h3b, h3a⟩ := List.getElem?_eq_some_iff.mp h3
          simp -dsimp -implicitDefEqProofs (disch := first | omega | simp) [h1, h2, h2a, h3, h3a, hd, S]
          refine ⟨szl _ (by omega), kk _ _ ?_ ⟨a + 2, i + 2, L1 ++ [(a, 2)], L3, x1, y1, ws1, some (.f (.int 2)), hW, by rw [← List.drop_drop, hx]; rfl, by rw [← List.drop_drop, hw']; rfl, by rw [← hLL]; simp, rfl, by omega, by omega, ?_⟩⟩
          · simp only [List.length_cons]; omega
          · rw [List.map_append]; rfl
        | del q1 q2 hW =>
          rename_i c d x1 y1 ws1 L3
          simp only [List.length_cons] at hxl hwl hLl
          have h1 : (i : Int) < (ws.length : Int) := by omega
          have h2 : ws[i]? = some [c, 48] := by have := congrArg List.head? hw'; rw [List.head?_drop] at this; exact this
          obtain ⟨h2b, h2a⟩ := List.getElem?_eq_some_iff.mp h2
          have h3 : x[a + 1]? = some 48 := by have := congrArg (fun l => l[1]?) hx; simp only [List.getElem?_drop] at this; exact this
          obtain ⟨h3b, h3a⟩ := List.getElem?_eq_some_iff.mp h3
          simp -dsimp -implicitDefEqProofs (disch := first | omega | simp) [h1, h2, h2a, h3, h3a, S]
          refine ⟨szl _ (by omega), kk _ _ ?_ ⟨a + 3, i + 2, L1 ++ [(a, 3)], L3, x1, y1, ws1, some (.f (.int 3)), hW, by rw [← List.drop_drop, hx]; rfl, by rw [← List.drop_drop, hw']; rfl, by rw [← hLL]; simp, rfl, by omega, by omega, ?_⟩⟩
          · simp only [List.length_cons]; omega
          · rw [List.map_append]; rfl
      · have hcD := comD_not hf hA
        have hch : chD x y = .none := by unfold chD; rw [hcD]; rfl
        rw [hcD] at hc
        rw [hch]
        simp -dsimp -implicitDefEqProofs (disch := first | omega | simp) [T_changes, hc]
    · cases h
  · cases h
theorem m_changes_S {x y : List Nat} (h : x.length ≤ 1000) (h' : y.length ≤ 1000) (hf : ∀ c ∈ x, 48 ≤ c ∧ c ≤ 57) : m_changes [.str (mkS x), .str (mkS y)] = some (chD x y) := by
  have : (x.all fun c => decide (48 ≤ c ∧ c ≤ 57)) = true := by simpa using hf
  simp only [m_changes, mkS_length, mkS_toList, h, h', this, and_self, if_true]
/-- the size of the place at k -/
def szX (x : List Nat) (k : Nat) : Nat := if x[k + 1]? = some 48 then 3 else 2
/-- the words when some places are joints -/
def mkW (T : List Nat) : Nat → List Nat → List (List Nat)
  | _, [] => []
  | a, [c] => if a ∈ T then [] else [[c]]
  | a, [c, d] => if a ∈ T then [[c, 48], [d]] else [c] :: mkW T (a + 1) [d]
  | a, c :: d :: e :: r => if a ∈ T then (if d = 48 then [c, 48] :: [e] :: mkW T (a + 3) r else [c, 48] :: [d] :: mkW T (a + 2) (e :: r)) else [c] :: mkW T (a + 1) (d :: e :: r)
def stA (x : List Nat) (ys : List (List Nat)) : List Nat := ys.flatMap fun y => (chgs x.length 0 x y).map (·.1)
def wfaD : List (List Nat) → PyData
  | [] => .none
  | x :: t => if (x :: t).all (fun y => !isNone (comD x y)) = true then (if (x :: t).all (fun y => decide (y ∈ rd (mkW (stA x (x :: t)) 0 x))) = true then .tuple ((mkW (stA x (x :: t)) 0 x).map S) else .none) else .none
def okY (ys : List (List Nat)) : Bool := decide (1 ≤ ys.length ∧ ys.length ≤ 60) && ys.all fun y => decide (y.length ≤ 16) && figsB y
def m_words_for_all : List PyData → Option PyData
  | [d] => (deW d).bind fun ys => if okY ys = true then some (wfaD ys) else none
  | _ => none
def N_words_for_all : List Str := ["strings", "first", "taken", "other", "some", "start", "size", "words", "at", "made"]
def T_words_for_all : TD := (dSeq (dPar [1, 2] (fun ε => ((fun ε => ((dOp ixD (getB 0) (fun _ => some (PyData.int 0))) ε).map Slot.f) ε).bind fun d => ((fun ε => ((fun _ => some (Slot.od [])) ε).bind fun d => ((fun _ => some []) ε).map (d :: ·)) ε).map (d :: ·)))
    (dSeq (dFor (fun ε => ((getF 0) ε).bind seqD) (.nm 3) (dSeq (dAsg 4 (fun ε => ((fun ε => ((dCons (getF 1) (dCons (getF 3) (fun _ => some []))) ε).bind m_changes) ε).map Slot.f))
    (dSeq (dIf (fun ε => boolOf (dOp isnD (getB 4) (fun _ => some PyData.none) ε)) (dRet (fun ε => ((fun _ => some PyData.none) ε).map Slot.f)) dNext)
    (dFor (fun ε => ((getF 4) ε).bind seqD) (.tp [5, 6]) (dDPut 2 (getF 5) (getF 6))))))
    (dSeq (dPar [7, 8] (fun ε => ((fun ε => ((fun ε => limL ((fun _ => some []) ε)) ε).map Slot.o) ε).bind fun d => ((fun ε => ((fun ε => ((fun _ => some (PyData.int 0)) ε).map Slot.f) ε).bind fun d => ((fun _ => some []) ε).map (d :: ·)) ε).map (d :: ·)))
    (dSeq (dWhile (fun ε => boolOf (dOp ltD (getB 8) (fun ε => ((dCons (getB 1) (fun _ => some [])) ε).bind lenD) ε)) (dIf (fun ε => boolOf (dOp dinD (getF 8) (getB 2) ε)) (dSeq (dAsg 7 (fun ε => ((dOpL catL (getB 7) (fun ε => ((fun ε => limL ((dCons (dOp addA (dOp ixD (getB 1) (getB 8)) (fun _ => some (PyData.str (mkS [48])))) (dCons (dOp ixD (getB 1) (dOp subD (dOp addA (getB 8) (dOp dgetD (getB 2) (getF 8))) (fun _ => some (PyData.int 1)))) (fun _ => some []))) ε)) ε).map PyData.list)) ε).map Slot.o))
    (augI 8 (fun i j => i + j) (dOp dgetD (getB 2) (getF 8)))) (dSeq (dApp 7 (dOp ixD (getB 1) (getB 8)))
    (augI 8 (fun i j => i + j) (fun _ => some (PyData.int 1))))))
    (dSeq (dAsg 9 (fun ε => ((fun ε => ((dCons (getB 7) (fun _ => some [])) ε).bind tupleSD) ε).map Slot.f))
    (dRet (fun ε => ((dIfE (fun ε => ((fun ε => ((dCons (fun ε => ((dLc (fun ε => ((getF 0) ε).bind seqD) (.nm 3) [3] (fun _ => some true) (fun ε => ((dCons (getF 9) (dCons (getF 3) (fun _ => some []))) ε).bind m_fits)) ε).map PyData.list) (fun _ => some [])) ε).bind allD) ε).bind truD) (getF 9) (fun _ => some PyData.none)) ε).map Slot.f)))))))
theorem st_words_for_all (a0 : PyData) : startE N_words_for_all [a0] = [some (.f a0), none, none, none, none, none, none, none, none, none] := rfl
theorem okY_iff {ys : List (List Nat)} : okY ys = true ↔ (1 ≤ ys.length ∧ ys.length ≤ 60) ∧ ∀ y ∈ ys, y.length ≤ 16 ∧ ∀ c ∈ y, 48 ≤ c ∧ c ≤ 57 := by simp [okY, figsB]
theorem mkW_not {T : List Nat} {a c : Nat} {r : List Nat} (h : ¬ a ∈ T) : mkW T a (c :: r) = [c] :: mkW T (a + 1) r := by
  match r with
  | [] => simp [mkW, h]
  | [d] => simp [mkW, h]
  | d :: e :: r => rw [mkW, if_neg h]
theorem mkW_two {T : List Nat} {a c d : Nat} {r : List Nat} (h : a ∈ T) (hd : d ≠ 48) : mkW T a (c :: d :: r) = [c, 48] :: [d] :: mkW T (a + 2) r := by
  match r with
  | [] => simp [mkW, h]
  | e :: r => rw [mkW, if_pos h, if_neg hd]
theorem mkW_three {T : List Nat} {a c d : Nat} {r : List Nat} (h : a ∈ T) : mkW T a (c :: 48 :: d :: r) = [c, 48] :: [d] :: mkW T (a + 3) r := by
  rw [mkW, if_pos h, if_pos rfl]
theorem mkW_congr {T U : List Nat} (h : ∀ k, k ∈ T ↔ k ∈ U) : ∀ (a : Nat) (x : List Nat), mkW T a x = mkW U a x
  | _, [] => by rw [mkW, mkW]
  | a, [c] => by rw [mkW, mkW]; simp only [h]
  | a, [c, d] => by simp only [mkW, h]
  | a, c :: d :: e :: r => by
    have i1 := mkW_congr h (a + 3) r
    have i2 := mkW_congr h (a + 2) (e :: r)
    have i3 := mkW_congr h (a + 1) (d :: e :: r)
    simp only [mkW, h, i1, i2, i3]
theorem mkW_len (T : List Nat) : ∀ (a : Nat) (x : List Nat), (mkW T a x).length ≤ x.length
  | _, [] => by simp [mkW]
  | a, [c] => by rw [mkW]; split <;> simp
  | a, [c, d] => by
    have := mkW_len T (a + 1) [d]
    rw [mkW]; split
    · simp
    · simp only [List.length_cons, List.length_nil] at this ⊢; omega
  | a, c :: d :: e :: r => by
    have h1 := mkW_len T (a + 3) r
    have h2 := mkW_len T (a + 2) (e :: r)
    have h3 := mkW_len T (a + 1) (d :: e :: r)
    rw [mkW]
    split
    · split <;> simp only [List.length_cons] at * <;> omega
    · simp only [List.length_cons] at *; omega
/-- a place -/
def plc (x : List Nat) (k : Nat) : Prop := (∃ c d r, x.drop k = c :: d :: r ∧ hiF c = true ∧ loF d = true) ∨ ∃ c d r, x.drop k = c :: 48 :: d :: r ∧ hiF c = true ∧ loF d = true
theorem AlW.place {a : Nat} {x y : List Nat} {ws : List (List Nat)} {L : List (Nat × Nat)} (h : AlW a x y ws L) : ∀ p ∈ L, ∃ k, p.1 = a + k ∧ plc x k ∧ p.2 = szX x k := by
  have shift : ∀ (z x : List Nat) (k : Nat), plc x k → plc (z ++ x) (z.length + k) := fun z x k h => by
    unfold plc at h ⊢
    rw [List.drop_append, List.drop_eq_nil_of_le (by omega : z.length ≤ z.length + k), List.nil_append, Nat.add_sub_cancel_left]
    exact h
  have shz : ∀ (z x : List Nat) (k : Nat), szX (z ++ x) (z.length + k) = szX x k := fun z x k => by
    unfold szX
    rw [List.getElem?_append_right (by omega), show z.length + k + 1 - z.length = k + 1 by omega]
  induction h with
  | nil => intro p hp; cases hp
  | same h ih =>
    rename_i a c x y ws L
    intro p hp
    obtain ⟨k, h1, h2, h3⟩ := ih p hp
    have e1 := shift [c] x k h2
    have e2 := shz [c] x k
    exact ⟨1 + k, by omega, e1, by rw [h3]; exact e2.symm⟩
  | ins h1 h2 h ih =>
    rename_i a c d x y ws L
    intro p hp
    rcases List.mem_cons.mp hp with rfl | hp
    · have hd : d ≠ 48 := by rw [loF_iff] at h2; omega
      exact ⟨0, rfl, .inl ⟨c, d, x, rfl, h1, h2⟩, by simp [szX, hd]⟩
    · obtain ⟨k, g1, g2, g3⟩ := ih p hp
      have e1 := shift [c, d] x k g2
      have e2 := shz [c, d] x k
      exact ⟨2 + k, by omega, e1, by rw [g3]; exact e2.symm⟩
  | del h1 h2 h ih =>
    rename_i a c d x y ws L
    intro p hp
    rcases List.mem_cons.mp hp with rfl | hp
    · exact ⟨0, rfl, .inr ⟨c, d, x, rfl, h1, h2⟩, by simp [szX]⟩
    · obtain ⟨k, g1, g2, g3⟩ := ih p hp
      have e1 := shift [c, 48, d] x k g2
      have e2 := shz [c, 48, d] x k
      exact ⟨3 + k, by omega, e1, by rw [g3]; exact e2.symm⟩
theorem chgs_place {x y : List Nat} (h : Al x y) : ∀ p ∈ chgs x.length 0 x y, plc x p.1 ∧ p.2 = szX x p.1 := by
  obtain ⟨ws, _, hL⟩ := al_w x.length 0 x y (Nat.le_refl _) h
  intro p hp
  obtain ⟨k, h1, h2, h3⟩ := hL.place p hp
  rw [show p.1 = k by omega]
  exact ⟨h2, h3⟩
theorem plc_fit {x : List Nat} {k : Nat} (h : plc x k) : k + 2 ≤ x.length := by
  rcases h with ⟨c, d, r, e, _, _⟩ | ⟨c, d, r, e, _, _⟩ <;> have := congrArg List.length e <;> simp only [List.length_drop, List.length_cons] at this <;> omega
/-! the dict of the places -/
def tkD (x : List Nat) (ks : List Nat) : List (PyData × PyData) := ks.map fun (k : Nat) => (.int (k : Int), .int ((szX x k : Nat) : Int))
def insN (ks : List Nat) (k : Nat) : List Nat := if k ∈ ks then ks else ks ++ [k]
theorem putD_tk (x : List Nat) (ks : List Nat) (k : Nat) : putD (tkD x ks) (.int (k : Int)) (.int ((szX x k : Nat) : Int)) = tkD x (insN ks k) := by
  unfold putD insN
  have h1 : ((tkD x ks).any fun p => keyEq p.1 (.int (k : Int))) = decide (k ∈ ks) := by
    unfold tkD
    rw [List.any_map, Bool.eq_iff_iff, List.any_eq_true, decide_eq_true_eq]
    constructor
    · rintro ⟨j, hj, e⟩
      simp only [Function.comp_apply, keyEq, beq_iff_eq, Int.natCast_inj] at e
      rw [← e]; exact hj
    · intro h
      exact ⟨k, h, by simp [keyEq]⟩
  rw [h1]
  by_cases h : k ∈ ks
  · simp only [h, decide_true, if_true]
    unfold tkD
    rw [List.map_map]
    refine List.map_congr_left fun j _ => ?_
    simp only [Function.comp_apply, keyEq, beq_iff_eq, Int.natCast_inj]
    split
    · rename_i e; rw [e]
    · rfl
  · simp only [h, decide_false, if_false, Bool.false_eq_true]
    unfold tkD
    rw [List.map_append]; rfl
theorem lookD_tk (x : List Nat) : ∀ (ks : List Nat) (k : Nat), lookD (tkD x ks) (.int (k : Int)) = if k ∈ ks then some (.int ((szX x k : Nat) : Int)) else none
  | [], k => by simp [tkD, lookD]
  | j :: ks, k => by
    have ih := lookD_tk x ks k
    unfold lookD tkD at ih ⊢
    rw [List.map_cons, List.find?_cons]
    by_cases h : j = k
    · subst h
      simp [keyEq]
    · have h' : ¬ k = j := fun e => h e.symm
      have hk : keyEq (PyData.int (j : Int)) (.int (k : Int)) = false := by simp [keyEq]; omega
      simp only [hk, List.mem_cons, h', false_or]
      exact ih
theorem insN_nodup {ks : List Nat} {k : Nat} (h : ks.Nodup) : (insN ks k).Nodup := by
  unfold insN
  split
  · exact h
  · rename_i hn
    refine List.nodup_append.mpr ⟨h, by simp, fun a ha b hb e => hn ?_⟩
    rw [List.mem_singleton.mp hb] at e
    rw [← e]; exact ha
theorem insN_mem {ks : List Nat} {k z : Nat} : z ∈ insN ks k ↔ z ∈ ks ∨ z = k := by
  unfold insN
  split
  · rename_i h
    exact ⟨.inl, fun q => q.elim id fun e => by rw [e]; exact h⟩
  · simp
theorem below_len {ks : List Nat} {n : Nat} (h : ks.Nodup) (hb : ∀ k ∈ ks, k < n) : ks.length ≤ n := by
  have := h.length_le_of_subset (l₂ := List.range n) fun k hk => List.mem_range.mpr (hb k hk)
  rwa [List.length_range] at this
theorem wfaD_none {x y : List Nat} {t : List (List Nat)} (hf : ∀ c ∈ x, 48 ≤ c ∧ c ≤ 57) (hy : y ∈ x :: t) (h : ¬ Al x y) : wfaD (x :: t) = .none := by
  rw [wfaD, if_neg]
  intro hall
  have := List.all_eq_true.mp hall y hy
  rw [comD_not hf h] at this
  cases this
theorem wfaD_some {x : List Nat} {t : List (List Nat)} (h : ∀ y ∈ x :: t, Al x y) : wfaD (x :: t) = if (x :: t).all (fun y => decide (y ∈ rd (mkW (stA x (x :: t)) 0 x))) = true then .tuple ((mkW (stA x (x :: t)) 0 x).map S) else .none := by
  rw [wfaD, if_pos]
  exact List.all_eq_true.mpr fun y hy => by rw [comD_is (h y hy)]; rfl
theorem mkW_words {x : List Nat} (T : List Nat) (hf : ∀ c ∈ x, 48 ≤ c ∧ c ≤ 57) (hT : ∀ k ∈ T, plc x k) : ∀ (n a : Nat), x.length - a ≤ n → ∀ w ∈ mkW T a (x.drop a), w ∈ lawWords := by
  intro n
  induction n using Nat.strongRecOn with
  | ind n ih =>
    intro a ha w hw
    by_cases hl : a < x.length
    · have hm : ∀ c ∈ x.drop a, 48 ≤ c ∧ c ≤ 57 := fun c hc => hf c (List.mem_of_mem_drop hc)
      by_cases hk : a ∈ T
      · have go : ∀ (c d s : Nat) (r : List Nat), hiF c = true → loF d = true → x.drop (a + s) = r → 0 < s → w ∈ [c, 48] :: [d] :: mkW T (a + s) r → w ∈ lawWords := by
          intro c d s r h1 h2 hr hs hw
          rw [hiF_iff] at h1
          rw [loF_iff] at h2
          rcases List.mem_cons.mp hw with rfl | hw
          · exact (words_one c (by omega) (by omega)).2 (by omega)
          · rcases List.mem_cons.mp hw with rfl | hw
            · exact (words_one d (by omega) (by omega)).1
            · rw [← hr] at hw
              exact ih (x.length - (a + s)) (by omega) (a + s) (Nat.le_refl _) w hw
        rcases hT a hk with ⟨c, d, r, e, h1, h2⟩ | ⟨c, d, r, e, h1, h2⟩
        · have hd : d ≠ 48 := by rw [loF_iff] at h2; omega
          rw [e, mkW_two hk hd] at hw
          exact go c d 2 r h1 h2 (by rw [← List.drop_drop, e]; rfl) (by omega) hw
        · rw [e, mkW_three hk] at hw
          exact go c d 3 r h1 h2 (by rw [← List.drop_drop, e]; rfl) (by omega) hw
      · have hd : x.drop a = x[a] :: x.drop (a + 1) := List.drop_eq_getElem_cons hl
        rw [hd, mkW_not hk] at hw
        have hc := hf x[a] (List.getElem_mem hl)
        rcases List.mem_cons.mp hw with rfl | hw
        · exact (words_one _ (by omega) hc.1).1
        · exact ih (x.length - (a + 1)) (by omega) (a + 1) (Nat.le_refl _) w hw
    · rw [List.drop_eq_nil_of_le (by omega), mkW] at hw
      cases hw
theorem boolsD_dec {α : Type} (f : α → Bool) : ∀ xs : List α, boolsD (xs.map fun x => .bool (f x)) = some (xs.map f)
  | [] => rfl
  | x :: xs => by simp [boolsD, boolsD_dec f xs]
def wfInv (x : List Nat) (t : List (List Nat)) (i : Nat) (ε : En) : Prop := ∃ (ks : List Nat) (b c d e f g h : Option Slot), ε = [some (.f (.tuple ((x :: t).map S))), some (.f (S x)), some (.od (tkD x ks)), b, c, d, e, f, g, h] ∧ ks.Nodup ∧ (∀ k ∈ ks, plc x k) ∧ (∀ y ∈ (x :: t).take i, Al x y) ∧ ∀ k, k ∈ ks ↔ k ∈ stA x ((x :: t).take i)
def wwInv (x : List Nat) (t : List (List Nat)) (ks : List Nat) (W : List (List Nat)) (n : Nat) (ε : En) : Prop := ∃ (a : Nat) (W1 : List (List Nat)) (b c d e h : Option Slot), ε = [some (.f (.tuple ((x :: t).map S))), some (.f (S x)), some (.od (tkD x ks)), b, c, d, e, some (.o (W1.map S)), some (.f (.int (a : Int))), h] ∧ a ≤ x.length ∧ n = x.length - a ∧ W1 ++ mkW ks a (x.drop a) = W
theorem pure_words_for_all : ∀ ds d, m_words_for_all ds = some d → ds.length = ["strings"].length ∧ T_words_for_all { nx := fun _ => d = .none, rt := fun s => s.val = some d } (startE N_words_for_all ds) := by
  intro ds d h
  unfold m_words_for_all at h
  split at h
  · rename_i d0
    obtain ⟨ys, e1, e2⟩ := Option.bind_eq_some_iff.mp h
    rw [deW_eq e1]
    split at e2
    · rename_i hok
      cases e2
      clear h e1
      refine ⟨rfl, ?_⟩
      rw [st_words_for_all]
      obtain ⟨⟨hl1, hl2⟩, hy⟩ := okY_iff.mp hok
      obtain ⟨x, t, rfl⟩ : ∃ x t, ys = x :: t := by cases ys with | nil => simp at hl1 | cons x t => exact ⟨x, t, rfl⟩
      obtain ⟨hxl, hxf⟩ := hy x (by simp)
      simp -dsimp -implicitDefEqProofs (disch := first | omega | simp) [T_words_for_all]
      refine forB_ix S (x :: t) (wfInv x t) ?_ ?_ ?_
      · exact ⟨[], _, _, _, _, _, _, _, rfl, by simp, by simp, by simp, by simp [stA]⟩
      · rintro i y ε nx hi ⟨ks, b, c, d, e, f, g, h, rfl, hk1, hk2, hk3, hk4⟩ kk
        have hym := List.mem_of_getElem? hi
        obtain ⟨hyl, hyf⟩ := hy y hym
        have hch := m_changes_S (x := x) (y := y) (by omega) (by omega) hxf
        refine ⟨_, rfl, ?_⟩
        by_cases hA : Al x y
        · have hc : chD x y = .list ((chgs x.length 0 x y).map encPl) := by unfold chD; rw [comD_is hA]; rfl
          have hpl := chgs_place hA
          rw [hc] at hch
          have hst : ∀ k, k ∈ stA x ((x :: t).take (i + 1)) ↔ k ∈ stA x ((x :: t).take i) ∨ k ∈ (chgs x.length 0 x y).map (·.1) := by
            intro k
            rw [List.take_add_one, hi, Option.toList_some]
            unfold stA
            rw [List.flatMap_append, List.mem_append, List.flatMap_singleton]
          generalize chgs x.length 0 x y = L at hch hpl hst
          simp -dsimp -implicitDefEqProofs (disch := first | omega | simp) [hch, S]
          refine forB_ix encPl L (fun j ε => ∃ (ks : List Nat) (d e : Option Slot), ε = [some (.f (.tuple ((x :: t).map S))), some (.f (S x)), some (.od (tkD x ks)), some (.f (S y)), some (.f (.list (L.map encPl))), d, e, f, g, h] ∧ ks.Nodup ∧ (∀ k ∈ ks, plc x k) ∧ ∀ k, k ∈ ks ↔ k ∈ stA x ((x :: t).take i) ∨ k ∈ (L.take j).map (·.1)) ?_ ?_ ?_
          · exact ⟨ks, _, _, rfl, hk1, hk2, fun k => by rw [hk4]; simp⟩
          · rintro j p ε nx' hj ⟨ks, d, e, rfl, q1, q2, q3⟩ kk'
            obtain ⟨p1, p2⟩ := hpl p (List.mem_of_getElem? hj)
            have hkl : ks.length ≤ x.length := below_len q1 fun k hk => by have := plc_fit (q2 k hk); omega
            have hz : (tkD x ks).length < sizeLine := szl _ (by unfold tkD; rw [List.length_map]; omega)
            have hk := kk' [some (.f (.tuple ((x :: t).map S))), some (.f (S x)), some (.od (tkD x (insN ks p.1))), some (.f (S y)), some (.f (.list (L.map encPl))), some (.f (.int (p.1 : Int))), some (.f (.int (p.2 : Int))), f, g, h] ⟨_, _, _, rfl, insN_nodup q1, fun k hk => (insN_mem.mp hk).elim (q2 k) fun e => by rw [e]; exact p1, fun k => by
              rw [insN_mem, q3, List.take_add_one, hj, Option.toList_some, List.map_append, List.mem_append, or_assoc]
              simp⟩
            rw [← putD_tk, ← p2] at hk
            refine ⟨_, rfl, ?_⟩
            simp -dsimp -implicitDefEqProofs (disch := first | omega | simp) [hz, isKeyD]
            exact hk
          · rintro ε ⟨ks, d, e, rfl, q1, q2, q3⟩
            rw [List.take_length] at q3
            refine kk _ ⟨ks, _, _, _, _, _, _, _, rfl, q1, q2, fun z hz => ?_, fun k => by rw [hst, q3]⟩
            rw [List.take_add_one, hi, Option.toList_some] at hz
            rcases List.mem_append.mp hz with hz | hz
            · exact hk3 z hz
            · rw [List.mem_singleton.mp hz]; exact hA
        · have hc : chD x y = .none := by unfold chD; rw [comD_not hxf hA]; rfl
          rw [hc] at hch
          have hw := wfaD_none hxf hym hA
          simp -dsimp -implicitDefEqProofs (disch := first | omega | simp) [hch, S, hw]
      · rintro ε ⟨ks, b, c, d, e, f, g, h, rfl, hk1, hk2, hk3, hk4⟩
        rw [List.take_length] at hk3 hk4
        rw [wfaD_some hk3]
        rw [mkW_congr (fun k => (hk4 k).symm)]
        have hWl := mkW_len ks 0 x
        have hWm : ∀ w ∈ mkW ks 0 x, w ∈ lawWords := mkW_words ks hxf hk2 x.length 0 (by omega)
        have hW0 : mkW ks 0 (x.drop 0) = mkW ks 0 x := rfl
        generalize mkW ks 0 x = W at hWl hWm hW0
        simp -dsimp -implicitDefEqProofs (disch := first | omega | simp)
        refine whB_by (wwInv x t ks W) x.length ⟨0, [], _, _, _, _, _, rfl, by omega, rfl, hW0⟩ ?_
        rintro n ε nx ⟨a, W1, o3, o4, o5, o6, o9, rfl, ha, rfl, hput⟩ kk
        have hpl := congrArg List.length hput
        rw [List.length_append] at hpl
        by_cases hl : a < x.length
        · have hlI : (a : Int) < (x.length : Int) := by omega
          have hlook := lookD_tk x ks a
          refine ⟨true, by simp -dsimp -implicitDefEqProofs (disch := first | omega | simp) [hlI, S], ?_⟩
          rw [if_pos rfl]
          by_cases hk : a ∈ ks
          · rw [if_pos hk] at hlook
            rcases hk2 a hk with ⟨c, d, r, er, h1, h2⟩ | ⟨c, d, r, er, h1, h2⟩
            · have hd : d ≠ 48 := by rw [loF_iff] at h2; omega
              have g0 : x[a]? = some c := by have := congrArg (fun l => l[0]?) er; simp only [List.getElem?_drop] at this; exact this
              have g1 : x[a + 1]? = some d := by have := congrArg (fun l => l[1]?) er; simp only [List.getElem?_drop] at this; exact this
              obtain ⟨g0b, g0a⟩ := List.getElem?_eq_some_iff.mp g0
              obtain ⟨g1b, g1a⟩ := List.getElem?_eq_some_iff.mp g1
              have hs : szX x a = 2 := by unfold szX; rw [g1, if_neg (by simpa using hd)]
              rw [hs] at hlook
              rw [er, mkW_two hk hd] at hput
              have i1 : (a : Int) + 2 - 1 = ((a + 1 : Nat) : Int) := by omega
              have i2 : atI x ((a + 1 : Nat) : Int) = some d := by rw [atI_cast]; exact g1
              have hkk := kk (x.length - (a + 2)) [some (.f (.tuple ((x :: t).map S))), some (.f (S x)), some (.od (tkD x ks)), o3, o4, o5, o6, some (.o ((W1 ++ [[c, 48], [d]]).map S)), some (.f (.int ((a + 2 : Nat) : Int))), o9] (by omega) ⟨a + 2, _, _, _, _, _, _, rfl, by omega, rfl, by rw [← hput, ← List.drop_drop, er]; simp⟩
              rw [List.map_append] at hkk
              simp -dsimp -implicitDefEqProofs (disch := first | omega | simp) [dinD, dgetD, isKeyD, hlook, g0, g0a, i1, i2, S]
              rw [← g1a] at hkk
              exact hkk
            · have g0 : x[a]? = some c := by have := congrArg (fun l => l[0]?) er; simp only [List.getElem?_drop] at this; exact this
              have g1 : x[a + 1]? = some 48 := by have := congrArg (fun l => l[1]?) er; simp only [List.getElem?_drop] at this; exact this
              have g2 : x[a + 2]? = some d := by have := congrArg (fun l => l[2]?) er; simp only [List.getElem?_drop] at this; exact this
              obtain ⟨g0b, g0a⟩ := List.getElem?_eq_some_iff.mp g0
              obtain ⟨g2b, g2a⟩ := List.getElem?_eq_some_iff.mp g2
              have hs : szX x a = 3 := by unfold szX; rw [g1, if_pos rfl]
              rw [hs] at hlook
              rw [er, mkW_three hk] at hput
              have i1 : (a : Int) + 3 - 1 = ((a + 2 : Nat) : Int) := by omega
              have i2 : atI x ((a : Int) + 2) = some d := by rw [show (a : Int) + 2 = ((a + 2 : Nat) : Int) by omega, atI_cast]; exact g2
              have hkk := kk (x.length - (a + 3)) [some (.f (.tuple ((x :: t).map S))), some (.f (S x)), some (.od (tkD x ks)), o3, o4, o5, o6, some (.o ((W1 ++ [[c, 48], [d]]).map S)), some (.f (.int ((a + 3 : Nat) : Int))), o9] (by omega) ⟨a + 3, _, _, _, _, _, _, rfl, by omega, rfl, by rw [← hput, ← List.drop_drop, er]; simp⟩
              rw [List.map_append] at hkk
              simp -dsimp -implicitDefEqProofs (disch := first | omega | simp) [dinD, dgetD, isKeyD, hlook, g0, g0a, i1, i2, S]
              first | exact hkk | (rw [← g2a] at hkk; exact hkk)
          · rw [if_neg hk] at hlook
            have g0 : x[a]? = some x[a] := List.getElem?_eq_getElem hl
            have hdr : x.drop a = x[a] :: x.drop (a + 1) := List.drop_eq_getElem_cons hl
            rw [hdr, mkW_not hk] at hput
            have hkk := kk (x.length - (a + 1)) [some (.f (.tuple ((x :: t).map S))), some (.f (S x)), some (.od (tkD x ks)), o3, o4, o5, o6, some (.o ((W1 ++ [[x[a]]]).map S)), some (.f (.int ((a + 1 : Nat) : Int))), o9] (by omega) ⟨a + 1, _, _, _, _, _, _, rfl, by omega, rfl, by rw [← hput]; simp⟩
            rw [List.map_append] at hkk
            simp -dsimp -implicitDefEqProofs (disch := first | omega | simp) [dinD, dgetD, isKeyD, hlook, S]
            exact ⟨szl _ (by omega), hkk⟩
        · have hlI : ¬ (a : Int) < (x.length : Int) := by omega
          refine ⟨false, by simp -dsimp -implicitDefEqProofs (disch := first | omega | simp) [hlI, S], ?_⟩
          rw [if_neg (by decide)]
          rw [List.drop_eq_nil_of_le (by omega), mkW, List.append_nil] at hput
          subst hput
          have hfit : ∀ y ∈ x :: t, m_fits [.tuple (W1.map S), .str (mkS y)] = some (.bool (decide (y ∈ rd W1))) := fun y hm => by
            have := (hy y hm).1
            exact m_fits_S W1 y (okF_iff.mpr ⟨by omega, hWm⟩) (by omega)
          have hall : allD [.list ((x :: t).map fun y => .bool (decide (y ∈ rd W1)))] = some (.bool ((x :: t).all fun y => decide (y ∈ rd W1))) := by
            rw [allD, boolsD_dec, Option.map_some, List.all_map]; rfl
          generalize hys : x :: t = ys at *
          simp -dsimp -implicitDefEqProofs (disch := first | omega | simp)
          rw [dLc_all ys S (fun y => .bool (decide (y ∈ rd W1)))]
          · generalize (ys.all fun y => decide (y ∈ rd W1)) = g at hall ⊢
            cases g <;> simp -dsimp -implicitDefEqProofs (disch := first | omega | simp) [hall, -allD]
          · simp -dsimp -implicitDefEqProofs (disch := first | omega | simp)
          · intro y hm
            have := hfit y hm
            simp -dsimp -implicitDefEqProofs (disch := first | omega | simp) [S, this]
          · omega
    · cases e2
  · cases h
theorem m_words_for_all_S (ys : List (List Nat)) (h : okY ys = true) : m_words_for_all [.tuple (ys.map S)] = some (wfaD ys) := by simp [m_words_for_all, h]
def lawCell (ns : List Int) (i : Nat) : Int := match ns[i]? with
  | some n => n
  | none => if ns.length = 0 then 7919 * (i : Int) + 101 else ns.getD (i % ns.length) 0 % 1000003 + 7919 * (i : Int)
def m__law_cell : List PyData → Option PyData
  | [.list ds, .int i] => (intsD ds).bind fun ns => if 0 ≤ i ∧ ns.length ≤ 1000 then some (.int (lawCell ns i.toNat)) else none
  | _ => none
def N__law_cell : List Str := ["script", "index"]
def T__law_cell : TD := (dSeq (dIf (fun ε => boolOf (dOp ltD (getB 1) (fun ε => ((dCons (getB 0) (fun _ => some [])) ε).bind lenD) ε)) (dRet (fun ε => ((dOp ixD (getB 0) (getB 1)) ε).map Slot.f)) dNext)
    (dSeq (dIf (fun ε => boolOf (dOp eqD (fun ε => ((dCons (getB 0) (fun _ => some [])) ε).bind lenD) (fun _ => some (PyData.int 0)) ε)) (dRet (fun ε => ((dOp addA (dOp mulD (fun _ => some (PyData.int 7919)) (getB 1)) (fun _ => some (PyData.int 101))) ε).map Slot.f)) dNext)
    (dRet (fun ε => ((dOp addA (dOp modD (dOp ixD (getB 0) (dOp modD (getB 1) (fun ε => ((dCons (getB 0) (fun _ => some [])) ε).bind lenD))) (fun _ => some (PyData.int 1000003))) (dOp mulD (fun _ => some (PyData.int 7919)) (getB 1))) ε).map Slot.f))))
theorem st__law_cell (a0 a1 : PyData) : startE N__law_cell [a0, a1] = [some (.f a0), some (.f a1)] := rfl
theorem pure__law_cell : ∀ ds d, m__law_cell ds = some d → ds.length = ["script", "index"].length ∧ T__law_cell { nx := fun _ => d = .none, rt := fun s => s.val = some d } (startE N__law_cell ds) := by
  intro ds d h
  unfold m__law_cell at h
  split at h
  · rename_i ds i
    obtain ⟨ns, e1, e2⟩ := Option.bind_eq_some_iff.mp h
    split at e2
    · rename_i hc
      cases e2
      obtain ⟨h0, h1⟩ := hc
      obtain ⟨i, rfl⟩ := Int.eq_ofNat_of_zero_le h0
      refine ⟨rfl, ?_⟩
      rw [st__law_cell, intsD_eq e1]
      by_cases hi : i < ns.length
      · simp -dsimp -implicitDefEqProofs (disch := first | omega | simp) [T__law_cell, hi, lawCell]
      · have hi' : ns.length ≤ i := by omega
        by_cases hz : ns = []
        · subst hz
          have hn0 : ¬ (i : Int) < 0 := by omega
          simp -dsimp -implicitDefEqProofs (disch := first | omega | simp) [T__law_cell, lawCell, CMul, hn0]
        · have hp : 0 < ns.length := List.length_pos_iff.mpr hz
          have hne : ¬ ns.length = 0 := by omega
          have hne' : ¬ (ns.length : Int) = 0 := by omega
          have hm := Nat.mod_lt i hp
          have e : (i : Int) % (ns.length : Int) = ((i % ns.length : Nat) : Int) := rfl
          simp -dsimp -implicitDefEqProofs (disch := first | omega | simp) [T__law_cell, hi, lawCell, CMul, hz, hp, hm]
          rw [e, atI_cast]
          simp -dsimp -implicitDefEqProofs (disch := first | omega | simp) [hm, CMul, lawCell, hi', hz]
    · cases e2
  · cases h
def prs : List Int := [2147483647, 2147483629, 2147483587, 2147483579, 2147483563, 2147483549, 2147483543, 2147483497]
def prN (n : Nat) : Int := prs.getD (n % 8) 1
def lawMix (cell : Int) (i k : Nat) : Int :=
  let c := (cell % prN k * (48271 + 2 * (k : Int) * (k : Int)) + 7919 * ((k : Int) + 1) * ((k : Int) + 1) + 104729 * (i : Int)) % prN (3 * k + i)
  c * c * c % prN (k + 5)
def lawDigs (cell : Int) (i : Nat) (base : Int) : Nat → Int × List Int
  | 0 => (if 1000000000000000000 ≤ cell then cell else 0, [])
  | n + 1 => ((lawDigs cell i base n).1 / base, (lawDigs cell i base n).2 ++ [(if 0 < (lawDigs cell i base n).1 then (lawDigs cell i base n).1 else lawMix cell i n) % base])
def lawDigits (ns : List Int) (i n : Nat) (base : Int) : List Int := (lawDigs (lawCell ns i) i base n).2
def m__law_digits : List PyData → Option PyData
  | [.list ds, .int i, .int n, .int base] => (intsD ds).bind fun ns => if 0 ≤ i ∧ i ≤ 1000 ∧ ns.length ≤ 1000 ∧ 0 ≤ n ∧ n ≤ 1000 ∧ 0 < base ∧ base < 1073741824 then some (.list ((lawDigits ns i.toNat n.toNat base).map .int)) else none
  | _ => none
def N__law_digits : List Str := ["script", "index", "count", "base", "primes", "cell", "rest", "digits", "k", "mixed"]
def T__law_digits : TD := (dSeq (dAsg 4 (fun ε => ((fun ε => (limL ((dCons (fun _ => some (PyData.int 2147483647)) (dCons (fun _ => some (PyData.int 2147483629)) (dCons (fun _ => some (PyData.int 2147483587)) (dCons (fun _ => some (PyData.int 2147483579)) (dCons (fun _ => some (PyData.int 2147483563)) (dCons (fun _ => some (PyData.int 2147483549)) (dCons (fun _ => some (PyData.int 2147483543)) (dCons (fun _ => some (PyData.int 2147483497)) (fun _ => some []))))))))) ε)).map PyData.tuple) ε).map Slot.f))
    (dSeq (dAsg 5 (fun ε => ((fun ε => ((dCons (getF 0) (dCons (getF 1) (fun _ => some []))) ε).bind m__law_cell) ε).map Slot.f))
    (dSeq (dAsg 6 (fun ε => ((dIfE (fun ε => boolOf (dOp geD (getB 5) (dOp powD (fun _ => some (PyData.int 10)) (fun _ => some (PyData.int 18))) ε)) (getF 5) (fun _ => some (PyData.int 0))) ε).map Slot.f))
    (dSeq (dAsg 7 (fun ε => ((fun ε => limL ((fun _ => some []) ε)) ε).map Slot.o))
    (dSeq (dFor (fun ε => ((dCons (getF 2) (fun _ => some [])) ε).bind rng1D) (.nm 8) (dSeq (dAsg 9 (fun ε => ((dOp mulD (dOp modD (getB 5) (dOp ixD (getB 4) (dOp modD (getB 8) (fun _ => some (PyData.int 8))))) (dOp addA (fun _ => some (PyData.int 48271)) (dOp mulD (dOp mulD (fun _ => some (PyData.int 2)) (getB 8)) (getB 8)))) ε).map Slot.f))
    (dSeq (dAsg 9 (fun ε => ((dOp addA (dOp addA (getB 9) (dOp mulD (dOp mulD (fun _ => some (PyData.int 7919)) (dOp addA (getB 8) (fun _ => some (PyData.int 1)))) (dOp addA (getB 8) (fun _ => some (PyData.int 1))))) (dOp mulD (fun _ => some (PyData.int 104729)) (getB 1))) ε).map Slot.f))
    (dSeq (dAsg 9 (fun ε => ((dOp modD (getB 9) (dOp ixD (getB 4) (dOp modD (dOp addA (dOp mulD (fun _ => some (PyData.int 3)) (getB 8)) (getB 1)) (fun _ => some (PyData.int 8))))) ε).map Slot.f))
    (dSeq (dAsg 9 (fun ε => ((dOp modD (dOp mulD (dOp mulD (getB 9) (getB 9)) (getB 9)) (dOp ixD (getB 4) (dOp modD (dOp addA (getB 8) (fun _ => some (PyData.int 5))) (fun _ => some (PyData.int 8))))) ε).map Slot.f))
    (dSeq (dIf (fun ε => boolOf (dOp gtD (getB 6) (fun _ => some (PyData.int 0)) ε)) (dAsg 9 (fun ε => ((getF 6) ε).map Slot.f)) dNext)
    (dSeq (dApp 7 (dOp modD (getB 9) (getB 3)))
    (dAsg 6 (fun ε => ((dOp fdivD (getB 6) (getB 3)) ε).map Slot.f)))))))))
    (dRetV 7))))))
theorem st__law_digits (a0 a1 a2 a3 : PyData) : startE N__law_digits [a0, a1, a2, a3] = [some (.f a0), some (.f a1), some (.f a2), some (.f a3), none, none, none, none, none, none] := rfl
theorem prs_pos : ∀ j, j < 8 → 0 < prs.getD j 1 ∧ prs.getD j 1 < 2147483648 := by decide +kernel
theorem prN_pos (n : Nat) : 0 < prN n := (prs_pos _ (Nat.mod_lt n (by decide))).1
theorem prN_lt (n : Nat) : prN n < 2147483648 := (prs_pos _ (Nat.mod_lt n (by decide))).2
theorem pr_at (n : Nat) : atI (prs.map PyData.int) ((n : Int) % 8) = some (.int (prN n)) := by
  have e : (n : Int) % 8 = ((n % 8 : Nat) : Int) := by omega
  have hl : n % 8 < prs.length := Nat.mod_lt n (by decide)
  rw [e, atI_cast, List.getElem?_map, List.getElem?_eq_getElem hl, prN, List.getD_eq_getElem?_getD, List.getElem?_eq_getElem hl]
  rfl
theorem pr_at3 (k i : Nat) : atI (prs.map PyData.int) ((3 * (k : Int) + (i : Int)) % 8) = some (.int (prN (3 * k + i))) := by
  have := pr_at (3 * k + i)
  rw [← this]; congr 2
theorem pr_at5 (k : Nat) : atI (prs.map PyData.int) (((k : Int) + 5) % 8) = some (.int (prN (k + 5))) := by
  have := pr_at (k + 5)
  rw [← this]; congr 2
theorem mod_pr (x : Int) (n : Nat) : 0 ≤ x % prN n ∧ x % prN n < 2147483648 := by
  have h1 := prN_pos n
  have h2 := prN_lt n
  have h3 := Int.emod_nonneg x (show prN n ≠ 0 by omega)
  have h4 := Int.emod_lt_of_pos x h1
  omega
theorem CMul_l {i : Int} (j : Int) (h1 : -18446744073709551616 < i) (h2 : i < 18446744073709551616) : CMul i j := .inl ⟨h1, h2⟩
theorem CMul_r (i : Int) {j : Int} (h1 : -18446744073709551616 < j) (h2 : j < 18446744073709551616) : CMul i j := .inr ⟨h1, h2⟩
theorem lawDigs_len (cell : Int) (i : Nat) (base : Int) : ∀ n, (lawDigs cell i base n).2.length = n
  | 0 => rfl
  | n + 1 => by simp [lawDigs, lawDigs_len cell i base n]
theorem lawDigs_mem (cell : Int) (i : Nat) {base : Int} (hb : 0 < base) : ∀ n, ∀ x ∈ (lawDigs cell i base n).2, 0 ≤ x ∧ x < base
  | 0 => by simp [lawDigs]
  | n + 1 => by
    intro x hx
    simp only [lawDigs, List.mem_append, List.mem_singleton] at hx
    rcases hx with h | rfl
    · exact lawDigs_mem cell i hb n x h
    · exact ⟨Int.emod_nonneg _ (by omega), Int.emod_lt_of_pos _ hb⟩
@[simp] theorem lawDigits_length (ns : List Int) (i n : Nat) (base : Int) : (lawDigits ns i n base).length = n := lawDigs_len ..
theorem lawDigits_mem {ns : List Int} {i n : Nat} {base : Int} (hb : 0 < base) : ∀ x ∈ lawDigits ns i n base, 0 ≤ x ∧ x < base := lawDigs_mem _ _ hb n
def digInv (ns : List Int) (i : Nat) (n base : Int) (cell : Int) (k : Nat) (ε : En) : Prop := ∃ a b : Option Slot, ε = [some (.f (.list (ns.map .int))), some (.f (.int i)), some (.f (.int n)), some (.f (.int base)), some (.f (.tuple (prs.map .int))), some (.f (.int cell)), some (.f (.int (lawDigs cell i base k).1)), some (.o ((lawDigs cell i base k).2.map .int)), a, b]
theorem pure__law_digits : ∀ ds d, m__law_digits ds = some d → ds.length = ["script", "index", "count", "base"].length ∧ T__law_digits { nx := fun _ => d = .none, rt := fun s => s.val = some d } (startE N__law_digits ds) := by
  intro ds d h
  unfold m__law_digits at h
  split at h
  · rename_i ds i n base
    obtain ⟨ns, e1, e2⟩ := Option.bind_eq_some_iff.mp h
    split at e2
    · rename_i hc
      cases e2
      obtain ⟨h0, hi, h1, hn0, hn, hb, hb2⟩ := hc
      obtain ⟨i, rfl⟩ := Int.eq_ofNat_of_zero_le h0
      obtain ⟨n, rfl⟩ := Int.eq_ofNat_of_zero_le hn0
      refine ⟨rfl, ?_⟩
      have hcell : m__law_cell [PyData.list (ns.map .int), .int i] = some (.int (lawCell ns i)) := by
        simp [m__law_cell, h1]
        have := intsD_map (fun x : Int => x) ns
        simp at this
        rw [this]; simp [h1]
      rw [st__law_digits, intsD_eq e1]
      generalize hcl : lawCell ns i = cell at hcell
      have hpow : CPow 10 18 := by decide
      simp -dsimp -implicitDefEqProofs (disch := first | omega | simp) [T__law_digits, hcell, hpow]
      refine exO_of (a := .f (.int (lawDigs cell i base 0).1)) ?_ ?_
      · by_cases hg : 1000000000000000000 ≤ cell <;> simp -dsimp -implicitDefEqProofs [hg, lawDigs]
      simp -dsimp -implicitDefEqProofs (disch := first | omega | simp)
      refine forB_ix (fun (k : Nat) => .int (k : Int)) (List.range n) (digInv ns i n base cell) ?_ ?_ ?_
      · exact ⟨_, _, rfl⟩
      · rintro k x ε nx hx ⟨a, b, rfl⟩ kk
        have hxL := (List.getElem?_eq_some_iff.mp hx).1
        rw [List.length_range] at hxL
        have hxe : x = k := by rw [List.getElem?_eq_getElem (by rw [List.length_range]; exact hxL), List.getElem_range] at hx; cases hx; rfl
        subst hxe
        refine ⟨_, rfl, ?_⟩
        have b1 := mod_pr cell x
        have b2 := mod_pr (cell % prN x * (48271 + 2 * (x : Int) * (x : Int)) + 7919 * ((x : Int) + 1) * ((x : Int) + 1) + 104729 * (i : Int)) (3 * x + i)
        have hpp := prN_pos
        have hlen := lawDigs_len cell i base x
        have hdv : CDiv (lawDigs cell i base x).1 base := ⟨hb, hb2⟩
        have hpos : ∀ y : Int, (0 < (lawDigs cell i base x).1) → True := fun _ _ => trivial
        have hne : base ≠ 0 := by omega
        by_cases hr : 0 < (lawDigs cell i base x).1
        · simp -dsimp -implicitDefEqProofs (disch := first | omega | simp) [pr_at, pr_at3, pr_at5, hpp, CMul_l, CMul_r, hdv, hr, hb]
          refine ⟨szl _ (by omega), kk _ ?_⟩
          unfold digInv
          simp only [lawDigs, if_pos hr, List.map_append, List.map_cons, List.map_nil]
          exact ⟨_, _, rfl⟩
        · simp -dsimp -implicitDefEqProofs (disch := first | omega | simp) [pr_at, pr_at3, pr_at5, hpp, CMul_l, CMul_r, hdv, hr, hb]
          refine ⟨szl _ (by omega), kk _ ?_⟩
          unfold digInv
          simp only [lawDigs, if_neg hr, List.map_append, List.map_cons, List.map_nil]
          exact ⟨_, _, rfl⟩
      · rintro ε ⟨a, b, rfl⟩
        rw [List.length_range]
        simp -dsimp -implicitDefEqProofs [lawDigits, hcl]
    · cases e2
  · cases h
def lawDigitsOf (l : List Nat) : List Nat := if l.take 6 = [100, 111, 117, 98, 108, 101] then List.replicate 2 (l.getLast?.getD 0) else if l.take 6 = [116, 114, 105, 112, 108, 101] then List.replicate 3 (l.getLast?.getD 0) else l
def m__law_digits_of : List PyData → Option PyData
  | [.str s] => if s.length ≤ 1000 then some (S (lawDigitsOf s.cps.toList)) else none
  | _ => none
def N__law_digits_of : List Str := ["word"]
def T__law_digits_of : TD := (dSeq (dIf (fun ε => boolOf (dOp inD (dSl (getB 0) (fun _ => some none) (fun ε => intOf ((fun _ => some (PyData.int 6)) ε))) (fun ε => (limL ((dCons (fun _ => some (PyData.str (mkS [100, 111, 117, 98, 108, 101]))) (dCons (fun _ => some (PyData.str (mkS [116, 114, 105, 112, 108, 101]))) (fun _ => some []))) ε)).map PyData.tuple) ε)) (dRet (fun ε => ((dOp mulD (dOp ixD (getB 0) (fun ε => ((fun _ => some (PyData.int 1)) ε).bind negD)) (dIfE (fun ε => boolOf (dOp eqD (dOp ixD (getB 0) (fun _ => some (PyData.int 0))) (fun _ => some (PyData.str (mkS [100]))) ε)) (fun _ => some (PyData.int 2)) (fun _ => some (PyData.int 3)))) ε).map Slot.f)) dNext)
    (dRet (fun ε => ((getF 0) ε).map Slot.f)))
theorem st__law_digits_of (a0 : PyData) : startE N__law_digits_of [a0] = [some (.f a0)] := rfl
theorem pure__law_digits_of : ∀ ds d, m__law_digits_of ds = some d → ds.length = ["word"].length ∧ T__law_digits_of { nx := fun _ => d = .none, rt := fun s => s.val = some d } (startE N__law_digits_of ds) := by
  intro ds d h
  unfold m__law_digits_of at h
  split at h
  · rename_i s
    split at h
    · rename_i hl
      cases h
      refine ⟨rfl, ?_⟩
      rw [st__law_digits_of]
      rw [mkS_eta s] at hl ⊢
      generalize s.cps.toList = l at hl ⊢
      rw [mkS_length] at hl
      by_cases h1 : l.take 6 = [100, 111, 117, 98, 108, 101]
      · obtain ⟨c, r, rfl⟩ : ∃ c r, l = c :: r := by cases l with | nil => simp at h1 | cons c r => exact ⟨c, r, rfl⟩
        have hc : c = 100 := by simp at h1; exact h1.1
        subst hc
        simp only [List.length_cons] at hl
        simp -dsimp -implicitDefEqProofs (disch := first | omega | simp) [T__law_digits_of, lawDigitsOf, inB, h1, List.getLast?_cons]
      · by_cases h2 : l.take 6 = [116, 114, 105, 112, 108, 101]
        · obtain ⟨c, r, rfl⟩ : ∃ c r, l = c :: r := by cases l with | nil => simp at h2 | cons c r => exact ⟨c, r, rfl⟩
          have hc : c = 116 := by simp at h2; exact h2.1
          subst hc
          simp only [List.length_cons] at hl
          simp -dsimp -implicitDefEqProofs (disch := first | omega | simp) [T__law_digits_of, lawDigitsOf, inB, h1, h2, List.getLast?_cons]
        · have h1' : ([100, 111, 117, 98, 108, 101] == l.take 6) = false := by rw [beq_eq_false_iff_ne]; exact fun h => h1 h.symm
          have h2' : ([116, 114, 105, 112, 108, 101] == l.take 6) = false := by rw [beq_eq_false_iff_ne]; exact fun h => h2 h.symm
          have hin : inB (.str (mkS (l.take 6))) [.str (mkS [100, 111, 117, 98, 108, 101]), .str (mkS [116, 114, 105, 112, 108, 101])] = false := by simp [inB, h1', h2', -beq_eq_false_iff_ne]
          simp -dsimp -implicitDefEqProofs (disch := first | omega | simp) [T__law_digits_of, lawDigitsOf, hin, h1, h2]
    · cases h
  · cases h
@[simp] theorem m__law_digits_of_S (l : List Nat) (h : l.length ≤ 1000) : m__law_digits_of [.str (mkS l)] = some (.str (mkS (lawDigitsOf l))) := by simp [m__law_digits_of, h, S]
theorem lawDigitsOf_eq : ∀ w ∈ lawWords, lawDigitsOf w = digitsOf w := by decide +kernel
def tens8 : List (List Nat) := [[50, 48], [51, 48], [52, 48], [53, 48], [54, 48], [55, 48], [56, 48], [57, 48]]
def lawIsJoint (a b : List Nat) : Bool := decide (a ∈ tens8) && (decide (b.length = 1) && !(b == [48]))
def m__law_is_joint : List PyData → Option PyData
  | [.str s, .str t] => if s.length ≤ 1000 ∧ t.length ≤ 1000 then some (.bool (lawIsJoint s.cps.toList t.cps.toList)) else none
  | _ => none
def N__law_is_joint : List Str := ["one", "other"]
def T__law_is_joint : TD := (dRet (fun ε => ((dAndV (dOp inD (getB 0) (fun ε => (limL ((dCons (fun _ => some (PyData.str (mkS [50, 48]))) (dCons (fun _ => some (PyData.str (mkS [51, 48]))) (dCons (fun _ => some (PyData.str (mkS [52, 48]))) (dCons (fun _ => some (PyData.str (mkS [53, 48]))) (dCons (fun _ => some (PyData.str (mkS [54, 48]))) (dCons (fun _ => some (PyData.str (mkS [55, 48]))) (dCons (fun _ => some (PyData.str (mkS [56, 48]))) (dCons (fun _ => some (PyData.str (mkS [57, 48]))) (fun _ => some []))))))))) ε)).map PyData.tuple)) (dAndV (dOp eqD (fun ε => ((dCons (getB 1) (fun _ => some [])) ε).bind lenD) (fun _ => some (PyData.int 1))) (dOp neD (getB 1) (fun _ => some (PyData.str (mkS [48])))))) ε).map Slot.f))
theorem st__law_is_joint (a0 a1 : PyData) : startE N__law_is_joint [a0, a1] = [some (.f a0), some (.f a1)] := rfl
theorem pure__law_is_joint : ∀ ds d, m__law_is_joint ds = some d → ds.length = ["one", "other"].length ∧ T__law_is_joint { nx := fun _ => d = .none, rt := fun s => s.val = some d } (startE N__law_is_joint ds) := by
  intro ds d h
  unfold m__law_is_joint at h
  split at h
  · rename_i s t
    split at h
    · rename_i hl
      cases h
      refine ⟨rfl, ?_⟩
      rw [st__law_is_joint]
      rw [mkS_eta s, mkS_eta t] at hl ⊢
      generalize s.cps.toList = l at hl ⊢
      generalize t.cps.toList = k at hl ⊢
      rw [mkS_length, mkS_length] at hl
      by_cases h1 : l ∈ tens8
      · have hin : inB (S l) (tens8.map S) = true := by rw [inB_S]; exact decide_eq_true h1
        simp only [tens8, List.map_cons, List.map_nil, S] at hin
        have hlen : ((k.length : Int) = 1) = (k.length = 1) := by rw [eq_iff_iff]; omega
        by_cases h2 : k.length = 1
        · simp -dsimp -implicitDefEqProofs (disch := first | omega | simp) [T__law_is_joint, hin, lawIsJoint, h1, hlen, h2]
        · simp -dsimp -implicitDefEqProofs (disch := first | omega | simp) [T__law_is_joint, hin, lawIsJoint, h1, hlen, h2]
      · have hin : inB (S l) (tens8.map S) = false := by rw [inB_S]; exact decide_eq_false h1
        simp only [tens8, List.map_cons, List.map_nil, S] at hin
        simp -dsimp -implicitDefEqProofs (disch := first | omega | simp) [T__law_is_joint, hin, lawIsJoint, h1]
    · cases h
  · cases h
@[simp] theorem m__law_is_joint_S (l k : List Nat) (h : l.length ≤ 1000) (h' : k.length ≤ 1000) : m__law_is_joint [.str (mkS l), .str (mkS k)] = some (.bool (lawIsJoint l k)) := by simp [m__law_is_joint, h, h']
theorem lawIsJoint_eq : ∀ a ∈ lawWords, ∀ b ∈ lawWords, lawIsJoint a b = isJoint a b := by decide +kernel
def alph (c : Int) : List Nat := if c = 0 then [48, 50, 50, 48, 51, 49, 53] else if c = 1 then [48, 49, 50, 51, 52, 53, 54, 55, 56, 57] else [48, 50]
def lawStr (ds : List Int) (most : Nat) : List Nat := ((ds.drop 1).take (ds.headD 0 % ((most : Int) + 1)).toNat).map fun d => (alph (ds.headD 0 / 100 % 3)).getD (d % ((alph (ds.headD 0 / 100 % 3)).length : Int)).toNat 0
def m__law_string : List PyData → Option PyData
  | [.list ds, .int most] => (intsD ds).bind fun ns => if ns ≠ [] ∧ ns.length ≤ 1000 ∧ 0 ≤ most ∧ most ≤ 1000 then some (S (lawStr ns most.toNat)) else none
  | _ => none
def N__law_string : List Str := ["digits", "most", "found", "digit"]
def T__law_string : TD := (dSeq (dAsg 2 (fun ε => ((fun _ => some (PyData.str (mkS []))) ε).map Slot.f))
    (dSeq (dFor (fun ε => ((dSl (getB 0) (fun ε => intOf ((fun _ => some (PyData.int 1)) ε)) (fun ε => intOf ((dOp addA (fun _ => some (PyData.int 1)) (dOp modD (dOp ixD (getB 0) (fun _ => some (PyData.int 0))) (dOp addA (getB 1) (fun _ => some (PyData.int 1))))) ε))) ε).bind seqD) (.nm 3) (dAsg 2 (fun ε => ((dOp addA (getB 2) (dOp ixD (dOp ixD (fun ε => ((fun ε => limL ((dCons (fun _ => some (PyData.str (mkS [48, 50, 50, 48, 51, 49, 53]))) (dCons (fun _ => some (PyData.str (mkS [48, 49, 50, 51, 52, 53, 54, 55, 56, 57]))) (dCons (fun _ => some (PyData.str (mkS [48, 50]))) (fun _ => some [])))) ε)) ε).map PyData.list) (dOp modD (dOp fdivD (dOp ixD (getB 0) (fun _ => some (PyData.int 0))) (fun _ => some (PyData.int 100))) (fun _ => some (PyData.int 3)))) (dOp modD (getB 3) (dOp ixD (fun ε => ((fun ε => limL ((dCons (fun _ => some (PyData.int 7)) (dCons (fun _ => some (PyData.int 10)) (dCons (fun _ => some (PyData.int 2)) (fun _ => some [])))) ε)) ε).map PyData.list) (dOp modD (dOp fdivD (dOp ixD (getB 0) (fun _ => some (PyData.int 0))) (fun _ => some (PyData.int 100))) (fun _ => some (PyData.int 3))))))) ε).map Slot.f)))
    (dRet (fun ε => ((getF 2) ε).map Slot.f))))
theorem st__law_string (a0 a1 : PyData) : startE N__law_string [a0, a1] = [some (.f a0), some (.f a1), none, none] := rfl
theorem lawStr_len {ds : List Int} {m : Nat} : (lawStr ds m).length ≤ m := by
  unfold lawStr
  rw [List.length_map, List.length_take]
  have : ds.headD 0 % ((m : Int) + 1) < (m : Int) + 1 := Int.emod_lt_of_pos _ (by omega)
  omega
theorem at_alph {xs : List Nat} {i : Int} (h0 : 0 ≤ i) (h : i < xs.length) : atI xs i = some (xs.getD i.toNat 0) := by
  rw [atI_nat' _ h0, List.getD_eq_getElem?_getD, List.getElem?_eq_getElem (by omega)]; rfl
def strInv (ns : List Int) (most : Int) (A : List Nat) (xs : List Int) (i : Nat) (ε : En) : Prop := ∃ a : Option Slot, ε = [some (.f (.list (ns.map .int))), some (.f (.int most)), some (.f (S ((xs.take i).map fun d => A.getD (d % (A.length : Int)).toNat 0))), a]
theorem pure__law_string : ∀ ds d, m__law_string ds = some d → ds.length = ["digits", "most"].length ∧ T__law_string { nx := fun _ => d = .none, rt := fun s => s.val = some d } (startE N__law_string ds) := by
  intro ds d h
  unfold m__law_string at h
  split at h
  · rename_i ds most
    obtain ⟨ns, e1, e2⟩ := Option.bind_eq_some_iff.mp h
    split at e2
    · rename_i hc
      cases e2
      clear h
      obtain ⟨hne, hl, h0, hm⟩ := hc
      obtain ⟨m, rfl⟩ := Int.eq_ofNat_of_zero_le h0
      obtain ⟨n0, ns, rfl⟩ : ∃ c r, ns = c :: r := by cases ns with | nil => exact absurd rfl hne | cons c r => exact ⟨c, r, rfl⟩
      simp only [List.length_cons] at hl
      refine ⟨rfl, ?_⟩
      rw [st__law_string, intsD_eq e1]
      have hq : 0 ≤ n0 % ((m : Int) + 1) ∧ n0 % ((m : Int) + 1) < (m : Int) + 1 := ⟨Int.emod_nonneg _ (by omega), Int.emod_lt_of_pos _ (by omega)⟩
      have hq1 : 0 < (m : Int) + 1 := by omega
      simp -dsimp -implicitDefEqProofs (disch := first | omega | simp) [T__law_string, hq1]
      rw [show (1 + n0 % ((m : Int) + 1)).toNat - 1 = (n0 % ((m : Int) + 1)).toNat by omega, ← List.map_take]
      have hls : lawStr (n0 :: ns) m = (ns.take (n0 % ((m : Int) + 1)).toNat).map fun d => (alph (n0 / 100 % 3)).getD (d % ((alph (n0 / 100 % 3)).length : Int)).toNat 0 := rfl
      generalize hxs : ns.take (n0 % ((m : Int) + 1)).toNat = xs at hls
      have hxl : xs.length ≤ 1000 := by rw [← hxs, List.length_take]; omega
      have hcd : CDiv n0 100 := by unfold CDiv; omega
      refine forB_ix PyData.int xs (strInv (n0 :: ns) m (alph (n0 / 100 % 3)) xs) ?_ ?_ ?_
      · exact ⟨_, rfl⟩
      · rintro i x ε nx hx ⟨a, rfl⟩ kk
        have htk : (xs.take (i + 1)).map (fun d => (alph (n0 / 100 % 3)).getD (d % ((alph (n0 / 100 % 3)).length : Int)).toNat 0) = (xs.take i).map (fun d => (alph (n0 / 100 % 3)).getD (d % ((alph (n0 / 100 % 3)).length : Int)).toNat 0) ++ [(alph (n0 / 100 % 3)).getD (x % ((alph (n0 / 100 % 3)).length : Int)).toNat 0] := by rw [List.take_add_one, hx]; simp
        have hTl : ((xs.take i).map (fun d => (alph (n0 / 100 % 3)).getD (d % ((alph (n0 / 100 % 3)).length : Int)).toNat 0)).length ≤ 1000 := by rw [List.length_map, List.length_take]; omega
        have key : ∀ c : Int, n0 / 100 % 3 = c → (c = 0 ∨ c = 1 ∨ c = 2) := fun c h => by omega
        generalize (xs.take i).map (fun d => (alph (n0 / 100 % 3)).getD (d % ((alph (n0 / 100 % 3)).length : Int)).toNat 0) = T at htk hTl
        have hat : atI (alph (n0 / 100 % 3)) (x % ((alph (n0 / 100 % 3)).length : Int)) = some ((alph (n0 / 100 % 3)).getD (x % ((alph (n0 / 100 % 3)).length : Int)).toNat 0) := by
          have hp : 0 < (alph (n0 / 100 % 3)).length := by
            unfold alph
            split
            · decide
            · split <;> decide
          exact at_alph (Int.emod_nonneg _ (by omega)) (Int.emod_lt_of_pos _ (by omega))
        have fin : nx [some (.f (.list ((n0 :: ns).map .int))), some (.f (.int m)), some (.f (S (T ++ [(alph (n0 / 100 % 3)).getD (x % ((alph (n0 / 100 % 3)).length : Int)).toNat 0]))), some (.f (.int x))] := by
          refine kk _ ?_
          unfold strInv
          rw [htk]
          exact ⟨_, rfl⟩
        generalize (alph (n0 / 100 % 3)).getD (x % ((alph (n0 / 100 % 3)).length : Int)).toNat 0 = g at hat fin
        refine ⟨_, rfl, ?_⟩
        rcases key _ rfl with hc | hc | hc
        · rw [hc] at hat
          simp only [alph, if_true, List.length_cons, List.length_nil] at hat
          have hat' : atI [48, 50, 50, 48, 51, 49, 53] (x % 7) = some g := hat
          simp -dsimp -implicitDefEqProofs (disch := first | omega | simp) [hcd, hc, hat']
          exact fin
        · rw [hc] at hat
          have hat' : atI [48, 49, 50, 51, 52, 53, 54, 55, 56, 57] (x % 10) = some g := hat
          simp -dsimp -implicitDefEqProofs (disch := first | omega | simp) [hcd, hc, hat']
          exact fin
        · rw [hc] at hat
          have hat' : atI [48, 50] (x % 2) = some g := hat
          have h2 : ∀ a b c : PyData, atI [a, b, c] 2 = some c := fun _ _ _ => rfl
          simp -dsimp -implicitDefEqProofs (disch := first | omega | simp) [hcd, hc, hat', h2]
          exact fin
      · rintro ε ⟨a, rfl⟩
        rw [List.take_length]
        simp -dsimp -implicitDefEqProofs (disch := first | omega | simp) [hls]
    · cases e2
  · cases h
theorem m__law_string_S {ds : List Int} {most : Nat} (h : ds ≠ [] ∧ ds.length ≤ 1000 ∧ most ≤ 1000) : m__law_string [.list (ds.map .int), .int (most : Int)] = some (S (lawStr ds most)) := by
  have := intsD_map (fun x : Int => x) ds
  rw [m__law_string, show intsD (ds.map PyData.int) = some ds by simpa using this, Option.bind_some, if_pos ⟨h.1, h.2.1, by omega, by omega⟩]
  rfl
theorem lawStr_fig {ds : List Int} {m : Nat} : ∀ c ∈ lawStr ds m, 48 ≤ c ∧ c ≤ 57 := by
  intro c hc
  obtain ⟨d, _, rfl⟩ := List.mem_map.mp hc
  have key : ∀ k : Int, (alph k).length ≠ 0 ∧ ∀ c ∈ alph k, 48 ≤ c ∧ c ≤ 57 := by
    intro k
    unfold alph
    split
    · decide
    · split <;> decide
  obtain ⟨h1, h2⟩ := key (ds.headD 0 / 100 % 3)
  have hlt : (d % ((alph (ds.headD 0 / 100 % 3)).length : Int)).toNat < (alph (ds.headD 0 / 100 % 3)).length := by
    have a1 := Int.emod_nonneg d (show ((alph (ds.headD 0 / 100 % 3)).length : Int) ≠ 0 by omega)
    have a2 := Int.emod_lt_of_pos d (show (0 : Int) < ((alph (ds.headD 0 / 100 % 3)).length : Int) by omega)
    omega
  rw [List.getD_eq_getElem?_getD, List.getElem?_eq_getElem hlt]
  exact h2 _ (List.getElem_mem hlt)
def m__law_readings : List PyData → Option PyData
  | [d] => (deW d).bind fun ws => if okW ws = true ∧ (∀ w ∈ ws, w ∈ lawWords) then some (.list ((sortT (rd ws)).map S)) else none
  | _ => none
def N__law_readings : List Str := ["words", "found", "done", "longer", "text", "at"]
def T__law_readings : TD := (dSeq (dAsg 1 (fun ε => ((fun ε => ((fun ε => limL ((dCons (fun ε => (limL ((dCons (fun _ => some (PyData.str (mkS []))) (dCons (fun _ => some (PyData.int 0)) (fun _ => some []))) ε)).map PyData.tuple) (fun _ => some [])) ε)) ε).map PyData.list) ε).map Slot.f))
    (dSeq (dAsg 2 (fun ε => ((fun ε => limL ((fun _ => some []) ε)) ε).map Slot.o))
    (dSeq (dWhile (fun ε => boolOf (dOp neD (getB 1) (fun ε => ((fun ε => limL ((fun _ => some []) ε)) ε).map PyData.list) ε)) (dSeq (dAsg 3 (fun ε => ((fun ε => limL ((fun _ => some []) ε)) ε).map Slot.o))
    (dSeq (dFor (fun ε => ((getF 1) ε).bind seqD) (.tp [4, 5]) (dIf (fun ε => boolOf (dOp eqD (getB 5) (fun ε => ((dCons (getB 0) (fun _ => some [])) ε).bind lenD) ε)) (dApp 2 (getF 4)) (dSeq (dApp 3 (fun ε => (limL ((dCons (dOp addA (getB 4) (fun ε => ((dCons (dOp ixD (getB 0) (getB 5)) (fun _ => some [])) ε).bind m__law_digits_of)) (dCons (dOp addA (getB 5) (fun _ => some (PyData.int 1))) (fun _ => some []))) ε)).map PyData.tuple))
    (dIf (dAnd (fun ε => boolOf (dOp ltD (dOp addA (getB 5) (fun _ => some (PyData.int 1))) (fun ε => ((dCons (getB 0) (fun _ => some [])) ε).bind lenD) ε)) (fun ε => ((fun ε => ((dCons (dOp ixD (getB 0) (getB 5)) (dCons (dOp ixD (getB 0) (dOp addA (getB 5) (fun _ => some (PyData.int 1)))) (fun _ => some []))) ε).bind m__law_is_joint) ε).bind truD)) (dApp 3 (fun ε => (limL ((dCons (dOp addA (dOp addA (getB 4) (dOp ixD (dOp ixD (getB 0) (getB 5)) (fun _ => some (PyData.int 0)))) (dOp ixD (getB 0) (dOp addA (getB 5) (fun _ => some (PyData.int 1))))) (dCons (dOp addA (getB 5) (fun _ => some (PyData.int 2))) (fun _ => some []))) ε)).map PyData.tuple)) dNext))))
    (dFrz 3 (dAsg 1 (fun ε => ((getF 3) ε).map Slot.f))))))
    (dRet (fun ε => ((fun ε => ((fun ε => ((dCons (getB 2) (fun _ => some [])) ε).bind sortedSL) ε).map PyData.list) ε).map Slot.f)))))
theorem st__law_readings (a0 : PyData) : startE N__law_readings [a0] = [some (.f a0), none, none, none, none, none] := rfl
abbrev Pt := List Nat × Nat
def encP (p : Pt) : PyData := .tuple [S p.1, .int (p.2 : Int)]
/-- what a part found leads to -/
def putAt (ws : List (List Nat)) (p : Pt) : List (List Nat) := (rd (ws.drop p.2)).map (p.1 ++ ·)
def nextP (ws : List (List Nat)) (p : Pt) : List Pt := match ws[p.2]? with
  | none => []
  | some a => (p.1 ++ digitsOf a, p.2 + 1) :: (match ws[p.2 + 1]? with | some b => if isJoint a b = true then [(p.1 ++ a.take 1 ++ b, p.2 + 2)] else [] | none => [])
theorem putAt_next {ws : List (List Nat)} (hm : ∀ w ∈ ws, w ∈ lawWords) {p : Pt} (hp : p.2 < ws.length) : ((nextP ws p).flatMap (putAt ws)).Perm (putAt ws p) := by
  obtain ⟨t, i⟩ := p
  have h1 : ws[i]? = some ws[i] := List.getElem?_eq_getElem hp
  generalize hga : ws[i] = a at h1
  have ha : a ∈ lawWords := hm a (List.mem_of_getElem? h1)
  unfold nextP putAt
  simp only [h1]
  rw [drop_at h1]
  cases h2 : ws[i + 1]? with
  | none =>
    have hd : ws.drop (i + 1) = [] := List.drop_eq_nil_of_le (by have := List.getElem?_eq_none_iff.mp h2; omega)
    simp [hd, rd]
  | some b =>
    have hb : b ∈ lawWords := hm b (List.mem_of_getElem? h2)
    rw [drop_at h2]
    by_cases hj : isJoint a b = true
    · obtain ⟨d1, d2⟩ := single_ok a ha b hb hj
      have hl1 := (isJoint_one hj).1
      rw [rd_joint hj]
      have e2 : rd (b :: ws.drop (i + 2)) = (rd (ws.drop (i + 2))).map (digitsOf b ++ ·) := rd_not fun c r' _ => isJoint_two hl1 c
      simp [hj, e2, d1, d2, List.map_map, Function.comp_def, drop_at h2]
    · have hj' : isJoint a b = false := by simpa using hj
      rw [rd_not (a := a) (r := b :: ws.drop (i + 1 + 1)) (fun c r' e => by cases e; exact hj')]
      simp [hj', List.map_map, Function.comp_def, drop_at h2]
def stepP (ws : List (List Nat)) (F : List Pt) : List Pt := F.flatMap (nextP ws)
def doneP (ws : List (List Nat)) (F : List Pt) : List (List Nat) := (F.filter fun p => p.2 == ws.length).map (·.1)
theorem round_perm {ws : List (List Nat)} (hm : ∀ w ∈ ws, w ∈ lawWords) : ∀ (F : List Pt), (∀ p ∈ F, p.2 ≤ ws.length) → (doneP ws F ++ (stepP ws F).flatMap (putAt ws)).Perm (F.flatMap (putAt ws))
  | [], _ => by simp [doneP, stepP]
  | p :: F, h => by
    have ih := round_perm hm F fun q hq => h q (List.mem_cons_of_mem _ hq)
    have hp := h p List.mem_cons_self
    by_cases he : p.2 = ws.length
    · have h1 : nextP ws p = [] := by unfold nextP; rw [List.getElem?_eq_none (by omega)]
      have h2 : putAt ws p = [p.1] := by unfold putAt; rw [he, List.drop_length]; simp [rd]
      simp only [doneP, stepP, List.flatMap_cons, h1, h2, List.nil_append, List.filter_cons, he, beq_self_eq_true, if_true, List.map_cons, List.cons_append] at ih ⊢
      exact List.Perm.cons _ ih
    · have h3 := putAt_next hm (p := p) (by omega)
      have hb : (p.2 == ws.length) = false := by simpa using he
      simp only [doneP, stepP, List.flatMap_cons, List.flatMap_append, List.filter_cons, hb, Bool.false_eq_true, if_false] at ih ⊢
      refine (List.perm_append_comm_assoc _ _ _).trans ?_
      exact List.Perm.append h3 ih
/-- the parts found lie far enough on -/
theorem stepP_far {ws : List (List Nat)} {F : List Pt} {k : Nat} (h : ∀ p ∈ F, k ≤ p.2 ∧ p.2 ≤ ws.length) : ∀ p ∈ stepP ws F, k + 1 ≤ p.2 ∧ p.2 ≤ ws.length := by
  intro p hp
  obtain ⟨q, hq, hp⟩ := List.mem_flatMap.mp hp
  obtain ⟨h1, h2⟩ := h q hq
  unfold nextP at hp
  cases e1 : ws[q.2]? with
  | none => rw [e1] at hp; cases hp
  | some a =>
    have l1 := (List.getElem?_eq_some_iff.mp e1).1
    rw [e1] at hp
    simp only [List.mem_cons] at hp
    rcases hp with rfl | hp
    · exact ⟨by simp; omega, by simp; omega⟩
    · cases e2 : ws[q.2 + 1]? with
      | none => rw [e2] at hp; cases hp
      | some b =>
        have l2 := (List.getElem?_eq_some_iff.mp e2).1
        rw [e2] at hp
        simp only at hp
        split at hp
        · simp only [List.mem_singleton] at hp
          subst hp
          exact ⟨by simp; omega, by simp; omega⟩
        · cases hp
/-- no more parts than ends -/
theorem parts_le (ws : List (List Nat)) : ∀ F : List Pt, F.length ≤ (F.flatMap (putAt ws)).length
  | [] => Nat.le_refl _
  | p :: F => by
    have ih := parts_le ws F
    have : 1 ≤ (putAt ws p).length := by
      unfold putAt
      rw [List.length_map]
      exact List.length_pos_iff.mpr (rd_ne _)
    simp only [List.flatMap_cons, List.length_append, List.length_cons]
    omega
theorem nextP_len (ws : List (List Nat)) (p : Pt) : (nextP ws p).length ≤ 2 := by
  unfold nextP
  split
  · simp
  · split
    · split <;> simp
    · simp
theorem stepP_len (ws : List (List Nat)) : ∀ F : List Pt, (stepP ws F).length ≤ 2 * F.length
  | [] => by simp [stepP]
  | p :: F => by
    have ih := stepP_len ws F
    have := nextP_len ws p
    simp only [stepP, List.flatMap_cons, List.length_append, List.length_cons] at ih ⊢
    omega
theorem encP_ok (n : Nat) : ∀ F : List Pt, (F.map encP).all (okD (n + 1)) = true
  | [] => rfl
  | p :: F => by
    have := encP_ok n F
    simp only [List.map_cons, List.all_cons, this, Bool.and_true]
    simp [encP, S]
def rndInv (ws : List (List Nat)) (F : List Pt) (D : List (List Nat)) (i : Nat) (ε : En) : Prop := ∃ a b : Option Slot, ε = [some (.f (.tuple (ws.map S))), some (.f (.list (F.map encP))), some (.o ((D ++ doneP ws (F.take i)).map S)), some (.o ((stepP ws (F.take i)).map encP)), a, b]
def rdsInv (ws : List (List Nat)) (n : Nat) (ε : En) : Prop := ∃ (F : List Pt) (D : List (List Nat)) (k : Nat) (l a b : Option Slot), n + k = ws.length + 1 ∧ ε = [some (.f (.tuple (ws.map S))), some (.f (.list (F.map encP))), some (.o (D.map S)), l, a, b] ∧ (D ++ F.flatMap (putAt ws)).Perm (rd ws) ∧ ∀ p ∈ F, k ≤ p.2 ∧ p.2 ≤ ws.length
theorem pure__law_readings : ∀ ds d, m__law_readings ds = some d → ds.length = ["words"].length ∧ T__law_readings { nx := fun _ => d = .none, rt := fun s => s.val = some d } (startE N__law_readings ds) := by
  intro ds d h
  unfold m__law_readings at h
  split at h
  · obtain ⟨ws, e1, e2⟩ := Option.bind_eq_some_iff.mp h
    rw [deW_eq e1]
    split at e2
    · rename_i hc
      cases e2
      obtain ⟨hw, hm⟩ := hc
      refine ⟨rfl, ?_⟩
      obtain ⟨h1, h2⟩ := okW_iff.mp hw
      have hsz := rd_size' h1
      have htx := rd_len ws fun w hw => (h2 w hw).2
      rw [st__law_readings]
      simp -dsimp -implicitDefEqProofs (disch := first | omega | simp) [T__law_readings]
      refine whB_by (rdsInv ws) (ws.length + 1) ?_ ?_
      · exact ⟨[([], 0)], [], 0, _, _, _, rfl, rfl, by simp [putAt], by simp⟩
      · rintro n ε nx ⟨F, D, k, l, a, b, hn, rfl, hperm, hfar⟩ kk
        have hok := encP_ok 58 F
        by_cases hF : F = []
        · subst hF
          refine ⟨false, by simp -dsimp -implicitDefEqProofs, ?_⟩
          simp -dsimp -implicitDefEqProofs [srtOk_S, sortD_S]
          simp at hperm
          exact congrArg _ (sortT_eq hperm)
        · have hne : PyData.eqvAll (F.map encP) [] = false := by cases F with | nil => exact absurd rfl hF | cons p F => rfl
          refine ⟨true, by simp -dsimp -implicitDefEqProofs only [dOp_e, getB_succ, getB_zero, bnd_some, Option.map_some, limL, Option.bind_some, List.length_nil, Nat.zero_le, if_true, neD, okD_list, hok, List.all_nil, Bool.and_self, eqv_list, hne, Bool.not_false, boolOf], ?_⟩
          rw [if_pos rfl]
          obtain ⟨p0, hp0⟩ := List.exists_mem_of_ne_nil _ hF
          have hk : k ≤ ws.length := by have := hfar p0 hp0; omega
          have hpl := hperm.length_eq
          have hFl := parts_le ws F
          rw [List.length_append] at hpl
          have hFt : ∀ p ∈ F, p.1.length ≤ 8 * ws.length := by
            intro p hp
            obtain ⟨t, ht⟩ := List.exists_mem_of_ne_nil _ (rd_ne (ws.drop p.2))
            have : p.1 ++ t ∈ rd ws := hperm.mem_iff.mp (List.mem_append.mpr (.inr (List.mem_flatMap.mpr ⟨p, hp, List.mem_map.mpr ⟨t, ht, rfl⟩⟩)))
            have := htx _ this
            rw [List.length_append] at this
            omega
          simp -dsimp -implicitDefEqProofs (disch := first | omega | simp)
          refine forB_ix encP F (rndInv ws F D) ?_ ?_ ?_
          · unfold rndInv
            rw [List.take_zero, show doneP ws [] = [] from rfl, show stepP ws [] = [] from rfl, List.append_nil]
            exact ⟨_, _, rfl⟩
          · rintro i ⟨t, at'⟩ ε nx' hi ⟨a, b, rfl⟩ kk'
            have hiL := (List.getElem?_eq_some_iff.mp hi).1
            have hmem : (t, at') ∈ F := List.mem_of_getElem? hi
            obtain ⟨hk1, hk2⟩ := hfar _ hmem
            have htl := hFt _ hmem
            simp only at hk1 hk2 htl
            have hD2 : D ++ doneP ws (F.take (i + 1)) = (D ++ doneP ws (F.take i)) ++ (if at' = ws.length then [t] else []) := by
              rw [List.take_add_one, hi]
              by_cases he : at' = ws.length <;> simp [doneP, List.filter_append, he]
            have hL2 : stepP ws (F.take (i + 1)) = stepP ws (F.take i) ++ nextP ws (t, at') := by
              rw [List.take_add_one, hi]
              simp [stepP]
            have hDl : (D ++ doneP ws (F.take i)).length ≤ 3000000 := by
              have a1 := List.length_filter_le (fun p : Pt => p.2 == ws.length) (F.take i)
              rw [List.length_append, doneP, List.length_map]
              rw [List.length_take] at a1
              omega
            have hLl : (stepP ws (F.take i)).length ≤ 3000000 := by
              have a1 := stepP_len ws (F.take i)
              rw [List.length_take] at a1
              omega
            generalize D ++ doneP ws (F.take i) = D' at hD2 hDl
            generalize stepP ws (F.take i) = L at hL2 hLl
            refine ⟨_, rfl, ?_⟩
            by_cases he : at' = ws.length
            · have hnx : nextP ws (t, at') = [] := by unfold nextP; rw [List.getElem?_eq_none (by simp; omega)]
              rw [if_pos he] at hD2
              rw [hnx, List.append_nil] at hL2
              simp -dsimp -implicitDefEqProofs (disch := first | omega | simp) [he, S]
              refine ⟨szl _ (by omega), kk' _ ?_⟩
              unfold rndInv
              rw [hD2, hL2, List.map_append]
              exact ⟨_, _, rfl⟩
            · rw [if_neg he, List.append_nil] at hD2
              have hlt : at' < ws.length := by omega
              have g1 : ws[at']? = some ws[at'] := List.getElem?_eq_getElem hlt
              generalize hga : ws[at'] = a0 at g1
              have ha := hm a0 (List.mem_of_getElem? g1)
              obtain ⟨ha1, ha2⟩ := lawWords_ok a0 ha
              have hda := digitsOf_len a0 ha2
              have heI : ¬ (at' : Int) = (ws.length : Int) := by omega
              by_cases hlt2 : at' + 1 < ws.length
              · have g2 : ws[at' + 1]? = some ws[at' + 1] := List.getElem?_eq_getElem hlt2
                generalize hgb : ws[at' + 1] = b0 at g2
                have hb := hm b0 (List.mem_of_getElem? g2)
                obtain ⟨hb1, hb2⟩ := lawWords_ok b0 hb
                have hltI : (at' : Int) + 1 < (ws.length : Int) := by omega
                obtain ⟨c0, a1, rfl⟩ : ∃ c r, a0 = c :: r := by cases a0 with | nil => exact absurd rfl ha1 | cons c r => exact ⟨c, r, rfl⟩
                have hc1 : m__law_digits_of [.str (mkS (c0 :: a1))] = some (.str (mkS (digitsOf (c0 :: a1)))) := by rw [m__law_digits_of_S _ (by omega), lawDigitsOf_eq _ ha]
                have hc2 : m__law_is_joint [.str (mkS (c0 :: a1)), .str (mkS b0)] = some (.bool (isJoint (c0 :: a1) b0)) := by rw [m__law_is_joint_S _ _ (by omega) (by omega), lawIsJoint_eq _ ha _ hb]
                generalize hdg : digitsOf (c0 :: a1) = dg at hc1 hda
                have hL1 : L.length < sizeLine := szl _ (by omega)
                have hL3 : L.length + 1 < sizeLine := szl _ (by omega)
                simp only [List.length_cons] at ha2
                by_cases hj : isJoint (c0 :: a1) b0 = true
                · have hnx : nextP ws (t, at') = [(t ++ dg, at' + 1), (t ++ c0 :: b0, at' + 2)] := by simp [nextP, g1, g2, hj, hdg]
                  simp -dsimp -implicitDefEqProofs (disch := first | omega | simp) [he, heI, S, g1, hga, g2, hgb, hc1, hc2, hj, hltI, hL1, hL3]
                  refine kk' _ ?_
                  unfold rndInv
                  rw [hD2, hL2, hnx, List.map_append]
                  exact ⟨_, _, rfl⟩
                · have hnx : nextP ws (t, at') = [(t ++ dg, at' + 1)] := by simp [nextP, g1, g2, hj, hdg]
                  simp -dsimp -implicitDefEqProofs (disch := first | omega | simp) [he, heI, S, g1, hga, g2, hgb, hc1, hc2, hj, hltI, hL1, hL3]
                  refine kk' _ ?_
                  unfold rndInv
                  rw [hD2, hL2, hnx, List.map_append]
                  exact ⟨_, _, rfl⟩
              · have hltI : ¬ (at' : Int) + 1 < (ws.length : Int) := by omega
                have hnx : nextP ws (t, at') = [(t ++ digitsOf a0, at' + 1)] := by simp [nextP, g1, List.getElem?_eq_none (show ws.length ≤ at' + 1 by omega)]
                simp -dsimp -implicitDefEqProofs (disch := first | omega | simp) [he, heI, S, g1, hga, lawDigitsOf_eq _ ha, hltI]
                refine ⟨szl _ (by omega), kk' _ ?_⟩
                unfold rndInv
                rw [hD2, hL2, hnx, List.map_append]
                exact ⟨_, _, rfl⟩
          · rintro ε ⟨a, b, rfl⟩
            rw [List.take_length]
            generalize hD : D ++ doneP ws F = D'
            simp -dsimp -implicitDefEqProofs
            refine kk (n - 1) _ (by omega) ⟨stepP ws F, D', k + 1, _, _, _, by omega, rfl, ?_, stepP_far hfar⟩
            rw [← hD, List.append_assoc]
            exact (List.Perm.append_left D (round_perm hm F fun p hp => (hfar p hp).2)).trans hperm
    · cases e2
  · cases h
@[simp] theorem m__law_readings_S (ws : List (List Nat)) (h : okW ws = true) (hm : ∀ w ∈ ws, w ∈ lawWords) : m__law_readings [.tuple (ws.map S)] = some (.list ((sortT (rd ws)).map S)) := by simp [m__law_readings, h]; exact hm
def prsB (ys : List (List Nat)) : Bool := ys.all fun x => ys.all fun y => !isNone (comD x y)
def m__law_pairs_good : List PyData → Option PyData
  | [d] => (deW d).bind fun ys => if ys.length ≤ 60 ∧ (∀ y ∈ ys, y.length ≤ 1000) then some (.bool (prsB ys)) else none
  | _ => none
def N__law_pairs_good : List Str := ["strings", "one", "other"]
def T__law_pairs_good : TD := (dSeq (dFor (fun ε => ((getF 0) ε).bind seqD) (.nm 1) (dFor (fun ε => ((getF 0) ε).bind seqD) (.nm 2) (dIf (fun ε => boolOf (dOp isnD (fun ε => ((dCons (getF 1) (dCons (getF 2) (fun _ => some []))) ε).bind m_common_words) (fun _ => some PyData.none) ε)) (dRet (fun ε => ((fun _ => some (PyData.bool false)) ε).map Slot.f)) dNext)))
    (dRet (fun ε => ((fun _ => some (PyData.bool true)) ε).map Slot.f)))
theorem st__law_pairs_good (a0 : PyData) : startE N__law_pairs_good [a0] = [some (.f a0), none, none] := rfl
theorem comD_two (x y : List Nat) : comD x y = .none ∨ ∃ ws, comD x y = .tuple ws := by
  unfold comD
  cases com x.length x y with
  | none => exact .inl rfl
  | some ws => exact .inr ⟨_, rfl⟩
theorem pure__law_pairs_good : ∀ ds d, m__law_pairs_good ds = some d → ds.length = ["strings"].length ∧ T__law_pairs_good { nx := fun _ => d = .none, rt := fun s => s.val = some d } (startE N__law_pairs_good ds) := by
  intro ds d h
  unfold m__law_pairs_good at h
  split at h
  · rename_i d0
    obtain ⟨ys, e1, e2⟩ := Option.bind_eq_some_iff.mp h
    rw [deW_eq e1]
    split at e2
    · rename_i hok
      cases e2
      clear h e1
      refine ⟨rfl, ?_⟩
      rw [st__law_pairs_good]
      obtain ⟨hl, hy⟩ := hok
      simp -dsimp -implicitDefEqProofs (disch := first | omega | simp) [T__law_pairs_good]
      refine forB_ix S ys (fun i ε => ∃ a b : Option Slot, ε = [some (.f (.tuple (ys.map S))), a, b] ∧ ∀ x ∈ ys.take i, ∀ y ∈ ys, isNone (comD x y) = false) ?_ ?_ ?_
      · exact ⟨_, _, rfl, by simp⟩
      · rintro i x ε nx hi ⟨a, b, rfl, hq⟩ kk
        have hxm := List.mem_of_getElem? hi
        refine ⟨_, rfl, ?_⟩
        simp -dsimp -implicitDefEqProofs (disch := first | omega | simp)
        refine forB_ix S ys (fun j ε => ∃ b : Option Slot, ε = [some (.f (.tuple (ys.map S))), some (.f (S x)), b] ∧ ∀ y ∈ ys.take j, isNone (comD x y) = false) ?_ ?_ ?_
        · exact ⟨_, rfl, by simp⟩
        · rintro j y ε nx' hj ⟨b, rfl, hq2⟩ kk'
          have hym := List.mem_of_getElem? hj
          have hc := m_common_words_S x y (hy x hxm) (hy y hym)
          refine ⟨_, rfl, ?_⟩
          rcases comD_two x y with hn | ⟨ws, hn⟩
          · have hp : prsB ys = false := by
              cases hp : prsB ys with
              | false => rfl
              | true =>
                have := List.all_eq_true.mp (List.all_eq_true.mp hp x hxm) y hym
                rw [hn] at this
                cases this
            rw [hn] at hc
            simp -dsimp -implicitDefEqProofs (disch := first | omega | simp) [S, hc, hp]
          · rw [hn] at hc
            simp -dsimp -implicitDefEqProofs (disch := first | omega | simp) [S, hc]
            refine kk' _ ⟨_, rfl, fun z hz => ?_⟩
            rw [List.take_add_one, hj, Option.toList_some] at hz
            rcases List.mem_append.mp hz with hz | hz
            · exact hq2 z hz
            · rw [List.mem_singleton.mp hz, hn]; rfl
        · rintro ε ⟨b, rfl, hq2⟩
          rw [List.take_length] at hq2
          refine kk _ ⟨_, _, rfl, fun z hz => ?_⟩
          rw [List.take_add_one, hi, Option.toList_some] at hz
          rcases List.mem_append.mp hz with hz | hz
          · exact hq z hz
          · rw [List.mem_singleton.mp hz]; exact hq2
      · rintro ε ⟨a, b, rfl, hq⟩
        rw [List.take_length] at hq
        have hp : prsB ys = true := List.all_eq_true.mpr fun x hx => List.all_eq_true.mpr fun y hy => by rw [hq x hx y hy]; rfl
        simp -dsimp -implicitDefEqProofs (disch := first | omega | simp) [hp]
    · cases e2
  · cases h
theorem m__law_pairs_good_S (ys : List (List Nat)) (h : ys.length ≤ 60) (hy : ∀ y ∈ ys, y.length ≤ 1000) : m__law_pairs_good [.tuple (ys.map S)] = some (.bool (prsB ys)) := by simp [m__law_pairs_good, h]; exact hy
def m_law : List PyData → Option PyData
  | [.list ds] => (intsD ds).bind fun ns => if ns.length ≤ 63 then some (.bool true) else none
  | _ => none
def N_law : List Str := ["script", "index", "digits", "alike", "k", "parts", "strings", "found", "good", "readings", "digit", "text"]
def T_law : TD := (dSeq (dFor (fun ε => ((dCons (fun _ => some (PyData.int 8)) (fun _ => some [])) ε).bind rng1D) (.nm 1) (dSeq (dAsg 2 (fun ε => ((fun ε => ((dCons (getF 0) (dCons (getF 1) (dCons (fun _ => some (PyData.int 40)) (dCons (fun _ => some (PyData.int 27720)) (fun _ => some []))))) ε).bind m__law_digits) ε).map Slot.f))
    (dSeq (dAsg 3 (fun ε => ((fun ε => ((fun ε => ((dCons (fun ε => ((dCons (getF 2) (dCons (fun _ => some (PyData.int 9)) (fun _ => some []))) ε).bind m__law_string) (fun _ => some [])) ε).bind m_all_alike) ε).map PyData.list) ε).map Slot.f))
    (dFor (fun ε => ((dCons (fun _ => some (PyData.int 6)) (fun _ => some [])) ε).bind rng1D) (.nm 4) (dSeq (dAsg 5 (fun ε => ((dSl (getB 2) (fun ε => intOf ((dOp addA (fun _ => some (PyData.int 12)) (dOp mulD (fun _ => some (PyData.int 3)) (getB 4))) ε)) (fun ε => intOf ((dOp addA (dOp addA (fun _ => some (PyData.int 14)) (dOp mulD (fun _ => some (PyData.int 3)) (getB 4))) (dOp modD (dOp ixD (getB 2) (dOp addA (fun _ => some (PyData.int 30)) (getB 4))) (fun _ => some (PyData.int 4)))) ε))) ε).map Slot.f))
    (dSeq (dAsg 6 (fun ε => ((fun ε => ((dCons (fun ε => ((dLc (fun ε => ((getF 5) ε).bind seqD) (.nm 10) [10] (fun _ => some true) (dOp ixD (getB 3) (dOp modD (getB 10) (fun ε => ((dCons (getB 3) (fun _ => some [])) ε).bind lenD)))) ε).map PyData.list) (fun _ => some [])) ε).bind tupleSD) ε).map Slot.f))
    (dSeq (dIf (fun ε => boolOf (dOp eqD (dOp modD (dOp ixD (getB 2) (fun _ => some (PyData.int 36))) (fun _ => some (PyData.int 4))) (getB 4) ε)) (dAsg 6 (fun ε => ((dOp addA (getB 6) (fun ε => (limL ((dCons (fun ε => ((dCons (dSl (getB 2) (fun ε => intOf ((fun _ => some (PyData.int 20)) ε)) (fun _ => some none)) (dCons (fun _ => some (PyData.int 9)) (fun _ => some []))) ε).bind m__law_string) (fun _ => some [])) ε)).map PyData.tuple)) ε).map Slot.f)) dNext)
    (dSeq (dPar [7, 8] (fun ε => ((fun ε => ((fun ε => ((dCons (getF 6) (fun _ => some [])) ε).bind m_words_for_all) ε).map Slot.f) ε).bind fun d => ((fun ε => ((fun ε => ((fun ε => ((dCons (getF 6) (fun _ => some [])) ε).bind m__law_pairs_good) ε).map Slot.f) ε).bind fun d => ((fun _ => some []) ε).map (d :: ·)) ε).map (d :: ·)))
    (dSeq (dIf (fun ε => boolOf (dOp neD (dOp isntD (getB 7) (fun _ => some PyData.none)) (getB 8) ε)) (dRet (fun ε => ((fun _ => some (PyData.bool false)) ε).map Slot.f)) dNext)
    (dIf (fun ε => boolOf (dOp isntD (getB 7) (fun _ => some PyData.none) ε)) (dSeq (dAsg 9 (fun ε => ((fun ε => ((dCons (getF 7) (fun _ => some [])) ε).bind m__law_readings) ε).map Slot.f))
    (dIf (dOr (fun ε => ((fun ε => ((fun ε => ((getB 7) ε).bind (isiD "tuple")) ε).bind truD) ε).map not) (fun ε => boolOf (dOp neD (fun ε => ((dLc (fun ε => ((getF 6) ε).bind seqD) (.nm 11) [11] (fun ε => boolOf (dOp notInD (getB 11) (getB 9) ε)) (getF 11)) ε).map PyData.list) (fun ε => ((fun ε => limL ((fun _ => some []) ε)) ε).map PyData.list) ε))) (dRet (fun ε => ((fun _ => some (PyData.bool false)) ε).map Slot.f)) dNext)) dNext))))))))))
    (dSeq (dIf (dOr (fun ε => boolOf (dOp isntD (fun ε => ((dCons (fun ε => (limL ((dCons (fun _ => some (PyData.str (mkS [50, 50, 50]))) (dCons (fun _ => some (PyData.str (mkS [50, 48, 50, 50]))) (dCons (fun _ => some (PyData.str (mkS [50, 50, 48, 50]))) (fun _ => some [])))) ε)).map PyData.tuple) (fun _ => some [])) ε).bind m_words_for_all) (fun _ => some PyData.none) ε)) (fun ε => boolOf (dOp isntD (fun ε => ((dCons (fun ε => (limL ((dCons (fun _ => some (PyData.str (mkS [50, 50, 48, 50]))) (dCons (fun _ => some (PyData.str (mkS [50, 48, 50, 50]))) (fun _ => some []))) ε)).map PyData.tuple) (fun _ => some [])) ε).bind m_words_for_all) (fun _ => some PyData.none) ε))) (dRet (fun ε => ((fun _ => some (PyData.bool false)) ε).map Slot.f)) dNext)
    (dRet (fun ε => ((dAndV (dOp eqD (fun ε => ((dCons (fun ε => ((dCons (fun ε => (limL ((dCons (fun _ => some (PyData.str (mkS [50, 50, 50]))) (dCons (fun _ => some (PyData.str (mkS [50, 48, 50, 50]))) (fun _ => some []))) ε)).map PyData.tuple) (fun _ => some [])) ε).bind m_words_for_all) (fun _ => some [])) ε).bind lenD) (fun _ => some (PyData.int 3))) (dAndV (dOp eqD (fun ε => ((dCons (fun ε => (limL ((dCons (fun _ => some (PyData.str (mkS []))) (fun _ => some [])) ε)).map PyData.tuple) (fun _ => some [])) ε).bind m_words_for_all) (fun ε => (limL ((fun _ => some []) ε)).map PyData.tuple)) (dOp eqD (fun ε => ((dCons (fun ε => (limL ((dCons (fun _ => some (PyData.str (mkS [55]))) (fun _ => some [])) ε)).map PyData.tuple) (fun _ => some [])) ε).bind m_words_for_all) (fun ε => (limL ((dCons (fun _ => some (PyData.str (mkS [55]))) (fun _ => some [])) ε)).map PyData.tuple)))) ε).map Slot.f))))
theorem st_law (a0 : PyData) : startE N_law [a0] = [some (.f a0), none, none, none, none, none, none, none, none, none, none, none] := rfl
theorem m__law_digits_S {ns : List Int} {i n : Nat} {base : Int} (h : i ≤ 1000 ∧ ns.length ≤ 1000 ∧ n ≤ 1000 ∧ 0 < base ∧ base < 1073741824) : m__law_digits [.list (ns.map .int), .int (i : Int), .int (n : Int), .int base] = some (.list ((lawDigits ns i n base).map .int)) := by
  have := intsD_map (fun x : Int => x) ns
  rw [m__law_digits, show intsD (ns.map PyData.int) = some ns by simpa using this, Option.bind_some, if_pos (by omega)]
  rfl
theorem drop_ne {dg : List Int} {n k : Nat} (h : dg.length = n) (hk : k < n) : dg.drop k ≠ [] := fun e => by
  have := congrArg List.length e
  rw [List.length_drop, h] at this
  simp at this
  omega
theorem joint_hilo : ∀ a ∈ lawWords, ∀ b ∈ lawWords, isJoint a b = true → ∃ c d, hiF c = true ∧ loF d = true ∧ a = [c, 48] ∧ b = [d] := by
  have key : ∀ a ∈ lawWords, ∀ b ∈ lawWords, isJoint a b = true → hiF (a.headD 0) = true ∧ loF (b.headD 0) = true ∧ a = [a.headD 0, 48] ∧ b = [b.headD 0] := by decide +kernel
  intro a ha b hb h
  obtain ⟨h1, h2, h3, h4⟩ := key a ha b hb h
  exact ⟨_, _, h1, h2, h3, h4⟩
theorem Al.app : ∀ (z : List Nat) {x y : List Nat}, Al x y → Al (z ++ x) (z ++ y)
  | [], _, _, h => h
  | _ :: z, _, _, h => .same (Al.app z h)
theorem rd_al : ∀ ws : List (List Nat), (∀ w ∈ ws, w ∈ lawWords) → ∀ x ∈ rd ws, ∀ y ∈ rd ws, Al x y
  | [], _, x, hx, y, hy => by
    simp only [rd, List.mem_singleton] at hx hy
    subst hx hy; exact .nil
  | [a], _, x, hx, y, hy => by
    simp only [rd, List.mem_singleton] at hx hy
    subst hx hy; exact Al.refl _
  | a :: b :: r, hw, x, hx, y, hy => by
    rw [rd] at hx hy
    split at hx
    · rename_i hj
      obtain ⟨c, d, h1, h2, rfl, rfl⟩ := joint_hilo a (hw a (by simp)) b (hw b (by simp)) hj
      rw [if_pos hj] at hy
      have ih := rd_al r fun w hh => hw w (by simp [hh])
      rcases List.mem_append.mp hx with hx | hx <;> rcases List.mem_append.mp hy with hy | hy <;> obtain ⟨u, hu, rfl⟩ := List.mem_map.mp hx <;> obtain ⟨v, hv, rfl⟩ := List.mem_map.mp hy <;> have h := ih u hu v hv
      · exact h.app _
      · exact .del h1 h2 h
      · exact .ins h1 h2 h
      · exact h.app _
    · rename_i hj
      rw [if_neg hj] at hy
      have ih := rd_al (b :: r) fun w hh => hw w (by simp at hh; simp [hh])
      obtain ⟨u, hu, rfl⟩ := List.mem_map.mp hx
      obtain ⟨v, hv, rfl⟩ := List.mem_map.mp hy
      exact (ih u hu v hv).app _
/-! ### strings heard alike in pairs have one utterance -/
theorem Al.tail_same {c : Nat} {u v : List Nat} (h : Al (c :: u) (c :: v)) (e : u.head? = v.head?) : Al u v := by
  cases h with
  | same h => exact h
  | ins _ h2 _ => simp at e; subst e; cases h2
  | del _ h2 _ => simp at e; subst e; cases h2
theorem Al.two_ins {c d : Nat} {u v : List Nat} (h2 : loF d = true) (h : Al (c :: d :: u) (c :: 48 :: d :: v)) : Al u v := by
  have hd : d ≠ 48 := by rw [loF_iff] at h2; omega
  cases h with
  | same h => have := h.head; simp at this; exact absurd this hd
  | ins _ _ h => exact h
  | del _ h2' _ => exact absurd rfl hd
theorem AlW.tail_same {a c : Nat} {u v : List Nat} {ws : List (List Nat)} {L : List (Nat × Nat)} (h : AlW a (c :: u) (c :: v) ws L) (e : u.head? = v.head?) : ∃ ws', AlW (a + 1) u v ws' L := by
  cases h with
  | same h => exact ⟨_, h⟩
  | ins _ h2 _ => simp at e; subst e; cases h2
  | del _ h2 _ => simp at e; subst e; cases h2
/-- z begins with c, maybe 48, and d -/
def frm (c d : Nat) (z z' : List Nat) : Prop := z = c :: d :: z' ∨ z = c :: 48 :: d :: z'
theorem frm_al {c d : Nat} {x r z : List Nat} (h2 : loF d = true) (hx : frm c d x r) (h : Al x z) : ∃ z', frm c d z z' := by
  have hd : d ≠ 48 := by rw [loF_iff] at h2; omega
  rcases hx with rfl | rfl
  · cases h with
    | same h =>
      rename_i v
      have e := h.head
      cases v with
      | nil => simp at e
      | cons q v => simp at e; subst e; exact ⟨v, .inl rfl⟩
    | ins _ _ h => exact ⟨_, .inr rfl⟩
    | del _ _ _ => exact absurd rfl hd
  · cases h with
    | same h =>
      rename_i v
      cases h with
      | same h =>
        rename_i v
        have e := h.head
        cases v with
        | nil => simp at e
        | cons q v => simp at e; subst e; exact ⟨v, .inr rfl⟩
      | ins h1 _ _ => cases h1
      | del h1 _ _ => cases h1
    | ins _ h2 _ => cases h2
    | del _ _ h => exact ⟨_, .inl rfl⟩
theorem frm_pair {c d : Nat} {z z' w w' : List Nat} (h2 : loF d = true) (hz : frm c d z z') (hw : frm c d w w') (e : z'.head? = w'.head?) (h : Al z w) : Al z' w' := by
  rcases hz with rfl | rfl <;> rcases hw with rfl | rfl
  · exact (h.tail_same rfl).tail_same e
  · exact h.two_ins h2
  · exact (h.symm.two_ins h2).symm
  · exact ((h.tail_same rfl).tail_same rfl).tail_same e
theorem frm_len {c d : Nat} {z z' : List Nat} (h : frm c d z z') : z'.length + 2 ≤ z.length := by
  rcases h with rfl | rfl <;> simp only [List.length_cons] <;> omega
/-- the first place is the same, or none is -/
theorem frm_w {a c d s : Nat} {x r z z' : List Nat} {ws : List (List Nat)} {L : List (Nat × Nat)} (h1 : hiF c = true) (h2 : loF d = true) (hx : frm c d x r) (hs : x.length = s + r.length) (hz : frm c d z z') (e : r.head? = z'.head?) (h : AlW a x z ws L) : ∃ ws' L', AlW (a + s) r z' ws' L' ∧ ∀ k, a + s ≤ k → ((∃ p ∈ L, p.1 = k) ↔ ∃ p ∈ L', p.1 = k) := by
  have hd : d ≠ 48 := by rw [loF_iff] at h2; omega
  rcases hx with rfl | rfl <;> simp only [List.length_cons] at hs <;> rcases hz with rfl | rfl
  · obtain ⟨_, h⟩ := h.tail_same rfl
    obtain ⟨w, h⟩ := h.tail_same e
    obtain rfl : s = 2 := by omega
    exact ⟨w, L, h, fun k _ => Iff.rfl⟩
  · obtain rfl : s = 2 := by omega
    cases h with
    | same h => have := h.al.head; simp at this; exact absurd this hd
    | ins _ _ h =>
      refine ⟨_, _, h, fun k hk => ⟨?_, fun ⟨p, hp, q⟩ => ⟨p, List.mem_cons_of_mem _ hp, q⟩⟩⟩
      rintro ⟨p, hp, q⟩
      rcases List.mem_cons.mp hp with rfl | hp
      · simp only at q; omega
      · exact ⟨p, hp, q⟩
    | del _ _ _ => exact absurd rfl hd
  · obtain rfl : s = 3 := by omega
    cases h with
    | same h => have := h.al.head; simp at this; exact absurd this.symm hd
    | ins _ h2 _ => cases h2
    | del _ _ h =>
      refine ⟨_, _, h, fun k hk => ⟨?_, fun ⟨p, hp, q⟩ => ⟨p, List.mem_cons_of_mem _ hp, q⟩⟩⟩
      rintro ⟨p, hp, q⟩
      rcases List.mem_cons.mp hp with rfl | hp
      · simp only at q; omega
      · exact ⟨p, hp, q⟩
  · obtain ⟨_, h⟩ := h.tail_same rfl
    obtain ⟨_, h⟩ := h.tail_same rfl
    obtain ⟨w, h⟩ := h.tail_same e
    obtain rfl : s = 3 := by omega
    exact ⟨w, L, h, fun k _ => Iff.rfl⟩
theorem AlW.ge {a : Nat} {x y : List Nat} {ws : List (List Nat)} {L : List (Nat × Nat)} (h : AlW a x y ws L) : ∀ p ∈ L, a ≤ p.1 := fun p hp => by
  obtain ⟨k, h1, _⟩ := h.place p hp
  omega
/-- a place at the front -/
theorem AlW.front {a : Nat} {x y : List Nat} {ws : List (List Nat)} {L : List (Nat × Nat)} (h : AlW a x y ws L) (hp : ∃ p ∈ L, p.1 = a) : ∃ c d r y', hiF c = true ∧ loF d = true ∧ frm c d x r ∧ frm c d y y' ∧ Al r y' ∧ ((x = c :: d :: r ∧ y = c :: 48 :: d :: y') ∨ (x = c :: 48 :: d :: r ∧ y = c :: d :: y')) := by
  cases h with
  | nil => obtain ⟨p, hp, _⟩ := hp; cases hp
  | same h =>
    obtain ⟨p, hp, q⟩ := hp
    have := h.ge p hp
    omega
  | ins h1 h2 h => exact ⟨_, _, _, _, h1, h2, .inl rfl, .inr rfl, h.al, .inl ⟨rfl, rfl⟩⟩
  | del h1 h2 h => exact ⟨_, _, _, _, h1, h2, .inr rfl, .inl rfl, h.al, .inr ⟨rfl, rfl⟩⟩
def cutF (z : List Nat) : List Nat := if (z.drop 1).head? = some 48 then z.drop 3 else z.drop 2
theorem frm_cut {c d : Nat} {z z' : List Nat} (h2 : loF d = true) (h : frm c d z z') : z' = cutF z := by
  have hd : d ≠ 48 := by rw [loF_iff] at h2; omega
  rcases h with rfl | rfl <;> simp [cutF, hd]
theorem mk_all : ∀ (n : Nat) (x : List Nat) (ys : List (List Nat)) (a : Nat) (T : List Nat), x.length ≤ n → (∀ c ∈ x, 48 ≤ c ∧ c ≤ 57) → (∀ y ∈ ys, Al x y) → (∀ y ∈ ys, ∀ z ∈ ys, Al y z) →
    (∀ k, a ≤ k → (k ∈ T ↔ ∃ y ∈ ys, ∃ ws L, AlW a x y ws L ∧ ∃ p ∈ L, p.1 = k)) → ∀ y ∈ ys, y ∈ rd (mkW T a x) := by
  intro n
  induction n with
  | zero =>
    intro x ys a T hn hf h1 h2 hT y hy
    match x, hn with
    | [], _ =>
      have := h1 y hy
      cases this
      simp [mkW, rd]
  | succ n ih =>
    intro x ys a T hn hf h1 h2 hT y hy
    have getW : ∀ z ∈ ys, ∃ ws L, AlW a x z ws L := fun z hz => by
      obtain ⟨ws, _, h⟩ := al_w x.length a x z (Nat.le_refl _) (h1 z hz)
      exact ⟨_, _, h⟩
    match x with
    | [] =>
      have := h1 y hy
      cases this
      simp [mkW, rd]
    | c :: r =>
      by_cases hk : a ∈ T
      · obtain ⟨y0, hy0, ws0, L0, hW0, hp0⟩ := (hT a (Nat.le_refl _)).mp hk
        obtain ⟨c', d, r', y0', hc, hd, fx, fy, hry, hdiff⟩ := hW0.front hp0
        have hdn : d ≠ 48 := by rw [loF_iff] at hd; omega
        have hx : ∃ s, (c :: r).length = s + r'.length ∧ mkW T a (c :: r) = [c', 48] :: [d] :: mkW T (a + s) r' := by
          rcases fx with e | e
          · rw [e]; exact ⟨2, by simp only [List.length_cons]; omega, mkW_two hk hdn⟩
          · rw [e]; exact ⟨3, by simp only [List.length_cons]; omega, mkW_three hk⟩
        obtain ⟨s, hs, hm⟩ := hx
        rw [hm]
        -- every string is of the form, and goes on like r'
        have hz : ∀ z ∈ ys, frm c' d z (cutF z) ∧ r'.head? = (cutF z).head? := by
          intro z hz
          obtain ⟨z', fz⟩ := frm_al hd fx (h1 z hz)
          have ez := frm_cut hd fz
          rw [← ez]
          refine ⟨fz, ?_⟩
          rcases fz with fz | fz <;> rcases hdiff with ⟨e1, e2⟩ | ⟨e1, e2⟩
          · have := h2 y0 hy0 z hz
            rw [e2, fz] at this
            rw [hry.head]
            exact (this.symm.two_ins hd).head.symm
          · have := h1 z hz
            rw [e1, fz] at this
            exact (this.symm.two_ins hd).head.symm
          · have := h1 z hz
            rw [e1, fz] at this
            exact (this.two_ins hd).head
          · have := h2 y0 hy0 z hz
            rw [e2, fz] at this
            rw [hry.head]
            exact (this.two_ins hd).head
        have hr : r'.length ≤ n := by
          have := frm_len fx
          omega
        have hrf : ∀ q ∈ r', 48 ≤ q ∧ q ≤ 57 := by
          intro q hq
          refine hf q ?_
          rcases fx with e | e <;> rw [e] <;> simp [hq]
        have key := ih r' (ys.map cutF) (a + s) T hr hrf (by
          intro z hz'
          obtain ⟨z, hzm, rfl⟩ := List.mem_map.mp hz'
          exact frm_pair hd fx (hz z hzm).1 (hz z hzm).2 (h1 z hzm)) (by
          intro z hz' w hw'
          obtain ⟨z, hzm, rfl⟩ := List.mem_map.mp hz'
          obtain ⟨w, hwm, rfl⟩ := List.mem_map.mp hw'
          exact frm_pair hd (hz z hzm).1 (hz w hwm).1 ((hz z hzm).2.symm.trans (hz w hwm).2) (h2 z hzm w hwm)) (by
          intro k hk'
          rw [hT k (by omega)]
          constructor
          · rintro ⟨z, hzm, ws, L, hW, hp⟩
            obtain ⟨ws', L', hW', hiff⟩ := frm_w hc hd fx hs (hz z hzm).1 (hz z hzm).2 hW
            exact ⟨_, List.mem_map.mpr ⟨z, hzm, rfl⟩, ws', L', hW', (hiff k hk').mp hp⟩
          · rintro ⟨z', hz', ws', L', hW', hp⟩
            obtain ⟨z, hzm, rfl⟩ := List.mem_map.mp hz'
            obtain ⟨ws, L, hW⟩ := getW z hzm
            obtain ⟨ws2, L2, hW2, hiff⟩ := frm_w hc hd fx hs (hz z hzm).1 (hz z hzm).2 hW
            have e1 := hW2.fun (Nat.le_refl _)
            have e2 := hW'.fun (Nat.le_refl _)
            rw [e2, ← e1] at hp
            exact ⟨z, hzm, ws, L, hW, (hiff k hk').mpr hp⟩) (cutF y) (List.mem_map.mpr ⟨y, hy, rfl⟩)
        rw [rd_two hc hd]
        obtain ⟨fy', _⟩ := hz y hy
        rcases fy' with e | e
        · rw [e]
          have e3 : cutF (c' :: d :: cutF y) = cutF y := (frm_cut hd (.inl rfl)).symm
          exact List.mem_append.mpr (.inr (List.mem_map.mpr ⟨cutF y, key, rfl⟩))
        · rw [e]
          exact List.mem_append.mpr (.inl (List.mem_map.mpr ⟨cutF y, key, rfl⟩))
      · have hz : ∀ z ∈ ys, ∃ z', z = c :: z' ∧ Al r z' ∧ ∀ ws L, AlW a (c :: r) z ws L → ∃ ws', AlW (a + 1) r z' ws' L := by
          intro z hzm
          obtain ⟨ws, L, hW⟩ := getW z hzm
          cases hW with
          | same hW =>
            refine ⟨_, rfl, hW.al, fun ws2 L2 hW2 => ?_⟩
            exact hW2.tail_same hW.al.head
          | ins q1 q2 hW => exact absurd ((hT a (Nat.le_refl _)).mpr ⟨_, hzm, _, _, .ins q1 q2 hW, _, List.mem_cons_self, rfl⟩) hk
          | del q1 q2 hW => exact absurd ((hT a (Nat.le_refl _)).mpr ⟨_, hzm, _, _, .del q1 q2 hW, _, List.mem_cons_self, rfl⟩) hk
        rw [mkW_not hk]
        have hcf := hf c (by simp)
        simp only [List.length_cons] at hn
        have key := ih r (ys.map (·.drop 1)) (a + 1) T (by omega) (fun q hq => hf q (by simp [hq])) (by
          intro z hz'
          obtain ⟨z, hzm, rfl⟩ := List.mem_map.mp hz'
          obtain ⟨z', rfl, h, _⟩ := hz z hzm
          exact h) (by
          intro z hz' w hw'
          obtain ⟨z, hzm, rfl⟩ := List.mem_map.mp hz'
          obtain ⟨w, hwm, rfl⟩ := List.mem_map.mp hw'
          obtain ⟨z', rfl, g1, _⟩ := hz z hzm
          obtain ⟨w', rfl, g2, _⟩ := hz w hwm
          exact (h2 _ hzm _ hwm).tail_same (g1.head.symm.trans g2.head)) (by
          intro k hk'
          rw [hT k (by omega)]
          constructor
          · rintro ⟨z, hzm, ws, L, hW, hp⟩
            obtain ⟨z', rfl, _, g⟩ := hz z hzm
            obtain ⟨ws', hW'⟩ := g ws L hW
            exact ⟨z', List.mem_map.mpr ⟨_, hzm, rfl⟩, ws', L, hW', hp⟩
          · rintro ⟨z', hz', ws', L', hW', hp⟩
            obtain ⟨z, hzm, rfl⟩ := List.mem_map.mp hz'
            obtain ⟨z', rfl, _, g⟩ := hz z hzm
            exact ⟨_, hzm, _, L', .same hW', hp⟩) (y.drop 1) (List.mem_map.mpr ⟨y, hy, rfl⟩)
        obtain ⟨y', rfl, _, _⟩ := hz y hy
        rw [rd_one (by omega) (by omega)]
        exact List.mem_map.mpr ⟨y', key, rfl⟩
theorem prsB_iff {ys : List (List Nat)} (hf : ∀ y ∈ ys, ∀ c ∈ y, 48 ≤ c ∧ c ≤ 57) : prsB ys = true ↔ ∀ y ∈ ys, ∀ z ∈ ys, Al y z := by
  unfold prsB
  rw [List.all_eq_true]
  constructor
  · intro h y hy z hz
    have := List.all_eq_true.mp (h y hy) z hz
    apply Classical.byContradiction
    intro hn
    rw [comD_not (hf y hy) hn] at this
    cases this
  · intro h y hy
    exact List.all_eq_true.mpr fun z hz => by rw [comD_is (h y hy z hz)]; rfl
theorem wfa_yes {ys : List (List Nat)} (hok : okY ys = true) (hp : prsB ys = true) : ∃ W, wfaD ys = .tuple (W.map S) ∧ W.length ≤ 16 ∧ (∀ w ∈ W, w ∈ lawWords) ∧ ∀ y ∈ ys, y ∈ rd W := by
  obtain ⟨⟨h1, _⟩, h2⟩ := okY_iff.mp hok
  have hA := (prsB_iff fun y hy => (h2 y hy).2).mp hp
  obtain ⟨x, t, rfl⟩ : ∃ x t, ys = x :: t := by cases ys with | nil => simp at h1 | cons x t => exact ⟨x, t, rfl⟩
  have hx := h2 x (by simp)
  have hall := mk_all x.length x (x :: t) 0 (stA x (x :: t)) (Nat.le_refl _) hx.2 (fun y hy => hA x (by simp) y hy) hA (by
    intro k _
    unfold stA
    rw [List.mem_flatMap]
    constructor
    · rintro ⟨y, hy, hk⟩
      obtain ⟨ws, _, hW⟩ := al_w x.length 0 x y (Nat.le_refl _) (hA x (by simp) y hy)
      obtain ⟨p, hp, e⟩ := List.mem_map.mp hk
      exact ⟨y, hy, ws, _, hW, p, hp, e⟩
    · rintro ⟨y, hy, ws, L, hW, p, hp, e⟩
      refine ⟨y, hy, List.mem_map.mpr ⟨p, ?_, e⟩⟩
      rw [← hW.fun (Nat.le_refl _)]; exact hp)
  have hpl : ∀ k ∈ stA x (x :: t), plc x k := by
    intro k hk
    obtain ⟨y, hy, hk⟩ := List.mem_flatMap.mp hk
    obtain ⟨p, hp, rfl⟩ := List.mem_map.mp hk
    exact (chgs_place (hA x (by simp) y hy) p hp).1
  refine ⟨mkW (stA x (x :: t)) 0 x, ?_, Nat.le_trans (mkW_len _ _ _) hx.1, mkW_words _ hx.2 hpl x.length 0 (by omega), hall⟩
  rw [wfaD_some (fun y hy => hA x (by simp) y hy), if_pos]
  exact List.all_eq_true.mpr fun y hy => decide_eq_true (hall y hy)
theorem wfa_no {ys : List (List Nat)} (hok : okY ys = true) (hp : prsB ys = false) : wfaD ys = .none := by
  obtain ⟨⟨h1, _⟩, h2⟩ := okY_iff.mp hok
  obtain ⟨x, t, rfl⟩ : ∃ x t, ys = x :: t := by cases ys with | nil => simp at h1 | cons x t => exact ⟨x, t, rfl⟩
  have hx := h2 x (by simp)
  by_cases hA : ∀ y ∈ x :: t, Al x y
  · rw [wfaD_some hA]
    split
    · rename_i hall
      have hall := List.all_eq_true.mp hall
      have hpl : ∀ k ∈ stA x (x :: t), plc x k := by
        intro k hk
        obtain ⟨y, hy, hk⟩ := List.mem_flatMap.mp hk
        obtain ⟨p, hp, rfl⟩ := List.mem_map.mp hk
        exact (chgs_place (hA y hy) p hp).1
      have hw := mkW_words (stA x (x :: t)) hx.2 hpl x.length 0 (by omega)
      have := (prsB_iff fun y hy => (h2 y hy).2).mpr fun y hy z hz => rd_al _ hw y (of_decide_eq_true (hall y hy)) z (of_decide_eq_true (hall z hz))
      rw [hp] at this
      cases this
    · rfl
  · have : ∃ y ∈ x :: t, ¬ Al x y := by
      apply Classical.byContradiction
      intro h
      exact hA fun y hy => Classical.byContradiction fun hn => h ⟨y, hy, hn⟩
    obtain ⟨y, hy, hn⟩ := this
    exact wfaD_none hx.2 hy hn
theorem Al.len3 {x y : List Nat} (h : Al x y) : 2 * y.length ≤ 3 * x.length := by
  induction h with
  | nil => simp
  | same _ ih => simp only [List.length_cons]; omega
  | ins _ _ _ ih => simp only [List.length_cons]; omega
  | del _ _ _ ih => simp only [List.length_cons]; omega
theorem pure_law : ∀ ds d, m_law ds = some d → ds.length = ["script"].length ∧ T_law { nx := fun _ => d = .none, rt := fun s => s.val = some d } (startE N_law ds) := by
  intro ds d h
  unfold m_law at h
  split at h
  · rename_i ds
    obtain ⟨ns, e1, e2⟩ := Option.bind_eq_some_iff.mp h
    split at e2
    · rename_i hl
      cases e2
      clear h
      refine ⟨rfl, ?_⟩
      rw [st_law, intsD_eq e1]
      simp -dsimp -implicitDefEqProofs (disch := first | omega | simp) [T_law]
      refine forB_ix (fun (k : Nat) => .int (k : Int)) (List.range 8) (fun _ ε => ∃ a1 a2 a3 a4 a5 a6 a7 a8 a9 b1 b2 : Option Slot, ε = [some (.f (.list (ns.map .int))), a1, a2, a3, a4, a5, a6, a7, a8, a9, b1, b2]) ?_ ?_ ?_
      · exact ⟨_, _, _, _, _, _, _, _, _, _, _, rfl⟩
      · rintro i x ε nx hx ⟨a1, a2, a3, a4, a5, a6, a7, a8, a9, b1, b2, rfl⟩ kk
        obtain ⟨rfl, hx8⟩ := range_ix hx
        refine ⟨_, rfl, ?_⟩
        have hd1 : m__law_digits [.list (ns.map .int), .int (x : Int), .int 40, .int 27720] = some (.list ((lawDigits ns x 40 27720).map .int)) := m__law_digits_S (n := 40) (by omega)
        have hdl := lawDigits_length ns x 40 27720
        generalize lawDigits ns x 40 27720 = dg at hd1 hdl
        have hs1 : m__law_string [.list (dg.map .int), .int 9] = some (S (lawStr dg 9)) := m__law_string_S (most := 9) ⟨drop_ne (k := 0) hdl (by omega), by omega, by omega⟩
        have hf1 : ∀ c ∈ lawStr dg 9, 48 ≤ c ∧ c ≤ 57 := lawStr_fig
        have hl1 : (lawStr dg 9).length ≤ 9 := lawStr_len
        generalize lawStr dg 9 = tx at hs1 hf1 hl1
        have hs2 : m__law_string [.list ((dg.drop 20).map .int), .int 9] = some (S (lawStr (dg.drop 20) 9)) := m__law_string_S (most := 9) ⟨drop_ne hdl (by omega), by rw [List.length_drop]; omega, by omega⟩
        have hf2 : ∀ c ∈ lawStr (dg.drop 20) 9, 48 ≤ c ∧ c ≤ 57 := lawStr_fig
        have hl2 : (lawStr (dg.drop 20) 9).length ≤ 9 := lawStr_len
        generalize lawStr (dg.drop 20) 9 = s2 at hs2 hf2 hl2
        rw [List.map_drop] at hs2
        have c4 := m_all_alike_S tx (by omega)
        have hAL : ∀ y ∈ sortT (al tx), y.length ≤ 16 ∧ ∀ c ∈ y, 48 ≤ c ∧ c ≤ 57 := fun y hy => by
          have hA := mem_alI.mp ((sortT_perm _).mem_iff.mp hy)
          exact ⟨by have := hA.len3; omega, hA.figs (p := fun c => 48 ≤ c ∧ c ≤ 57) (by omega) hf1⟩
        have hAz : 1 ≤ (sortT (al tx)).length := by rw [sortT_length]; exact List.length_pos_iff.mpr (al_ne tx)
        have hAm : (sortT (al tx)).length ≤ 512 := by rw [sortT_length]; exact al_size 9 tx hl1
        generalize sortT (al tx) = AL at c4 hAL hAz hAm
        simp -dsimp -implicitDefEqProofs (disch := first | omega | simp) [hd1, hs1, c4]
        refine forB_ix (fun (k : Nat) => .int (k : Int)) (List.range 6) (fun _ ε => ∃ a4 a5 a6 a7 a8 a9 b1 b2 : Option Slot, ε = [some (.f (.list (ns.map .int))), some (.f (.int (x : Int))), some (.f (.list (dg.map .int))), some (.f (.list (AL.map S))), a4, a5, a6, a7, a8, a9, b1, b2]) ?_ ?_ ?_
        · exact ⟨_, _, _, _, _, _, _, _, rfl⟩
        · rintro j k ε nx' hj ⟨a4, a5, a6, a7, a8, a9, b1, b2, rfl⟩ kk'
          obtain ⟨rfl, hk6⟩ := range_ix hj
          refine ⟨_, rfl, ?_⟩
          have h30 : atI (dg.map PyData.int) (30 + (k : Int)) = some (.int dg[30 + k]) := by rw [show (30 : Int) + (k : Int) = ((30 + k : Nat) : Int) by omega, atI_cast, List.getElem?_map, List.getElem?_eq_getElem (by omega)]; rfl
          have h36 : atI (dg.map PyData.int) 36 = some (.int dg[36]) := by rw [show (36 : Int) = ((36 : Nat) : Int) from rfl, atI_cast, List.getElem?_map, List.getElem?_eq_getElem (by omega)]; rfl
          generalize dg[30 + k] = v30 at h30
          generalize dg[36] = v36 at h36
          have hcm : CMul 3 (k : Int) := by
            have key : ∀ k : Nat, k < 6 → CMul 3 (k : Int) := by decide
            exact key k hk6
          simp -dsimp -implicitDefEqProofs (disch := first | omega | simp) [h30, h36, hcm]
          have hps : ∃ ps : List Int, List.take ((14 + 3 * (k : Int) + v30 % 4).toNat - (12 + 3 * (k : Int)).toNat) (List.drop (12 + 3 * (k : Int)).toNat (List.map PyData.int dg)) = ps.map .int ∧ 2 ≤ ps.length ∧ ps.length ≤ 40 := by
            refine ⟨(dg.drop (12 + 3 * (k : Int)).toNat).take ((14 + 3 * (k : Int) + v30 % 4).toNat - (12 + 3 * (k : Int)).toNat), by rw [List.map_take, List.map_drop], ?_, ?_⟩
            · rw [List.length_take, List.length_drop, hdl]; omega
            · rw [List.length_take, List.length_drop, hdl]; omega
          obtain ⟨ps, hps, hps2, hps40⟩ := hps
          rw [hps]
          have hix : ∀ v : Int, (v % (AL.length : Int)).toNat < AL.length := fun v => by
            have h1 := Int.emod_nonneg v (show (AL.length : Int) ≠ 0 by omega)
            have h2 := Int.emod_lt_of_pos v (show (0 : Int) < AL.length by omega)
            omega
          have hixv : ∀ v : Int, atI (AL.map S) (v % (AL.length : Int)) = some (S (AL.getD (v % (AL.length : Int)).toNat [])) := fun v => by
            have h1 := Int.emod_nonneg v (show (AL.length : Int) ≠ 0 by omega)
            rw [atI_nat' _ h1, List.getElem?_map, List.getD_eq_getElem?_getD, List.getElem?_eq_getElem (hix v)]
            rfl
          have hAp : (0 : Int) < AL.length := by omega
          rw [dLc_all ps (fun v => .int v) (fun v => S (AL.getD (v % (AL.length : Int)).toNat []))]
          · have hY : okY (ps.map fun v => AL.getD (v % (AL.length : Int)).toNat []) = true ∧ (ps.map fun v => AL.getD (v % (AL.length : Int)).toNat []).length ≤ 40 := by
              refine ⟨okY_iff.mpr ⟨by rw [List.length_map]; omega, fun y hy => ?_⟩, by rw [List.length_map]; omega⟩
              obtain ⟨v, _, rfl⟩ := List.mem_map.mp hy
              refine hAL _ ?_
              rw [List.getD_eq_getElem?_getD, List.getElem?_eq_getElem (hix v)]
              exact List.getElem_mem _
            have hYm : (ps.map fun v => S (AL.getD (v % (AL.length : Int)).toNat [])) = (ps.map fun v => AL.getD (v % (AL.length : Int)).toNat []).map S := by rw [List.map_map]; rfl
            rw [hYm]
            generalize (ps.map fun v => AL.getD (v % (AL.length : Int)).toNat []) = Y at hY
            have hY2 : okY (Y ++ [s2]) = true ∧ (Y ++ [s2]).length ≤ 41 := by
              obtain ⟨⟨g1, g2⟩, g3⟩ := okY_iff.mp hY.1
              refine ⟨okY_iff.mpr ⟨by rw [List.length_append, List.length_singleton]; omega, fun y hy => ?_⟩, by rw [List.length_append, List.length_singleton]; omega⟩
              rcases List.mem_append.mp hy with hy | hy
              · exact g3 y hy
              · rw [List.mem_singleton.mp hy]; exact ⟨by omega, hf2⟩
            have hY1 : okY Y = true ∧ Y.length ≤ 41 := ⟨hY.1, by omega⟩
            have hYa : Y.map S ++ [S s2] = (Y ++ [s2]).map S := by rw [List.map_append]; rfl
            by_cases hv : v36 % 4 = (k : Int)
            · simp -dsimp -implicitDefEqProofs (disch := first | omega | simp) [h36, hv, hs2]
              rw [hYa]
              generalize Y ++ [s2] = Z at hY2
              have hZ := hY2
              have t1 := m_words_for_all_S Z hZ.1
              have t2 := m__law_pairs_good_S Z (by omega) (fun y hy => by have := ((okY_iff.mp hZ.1).2 y hy).1; omega)
              cases hp : prsB Z with
              | false =>
                rw [wfa_no hZ.1 hp] at t1
                rw [hp] at t2
                simp -dsimp -implicitDefEqProofs (disch := first | omega | simp) [t1, t2, setE]
                exact kk' _ ⟨_, _, _, _, _, _, _, _, rfl⟩
              | true =>
                obtain ⟨W, e, w1, w2, w3⟩ := wfa_yes hZ.1 hp
                rw [e] at t1
                rw [hp] at t2
                have r1 := m__law_readings_S W (okW_mem (by omega) w2) w2
                have hin : ∀ y ∈ Z, inB (S y) ((sortT (rd W)).map S) = true := fun y hy => by
                  rw [inB_S]
                  exact decide_eq_true ((sortT_perm _).mem_iff.mpr (w3 y hy))
                simp -dsimp -implicitDefEqProofs (disch := first | omega | simp) [t1, t2, r1, setE, show kitB "tuple" "tuple" = some true from rfl]
                rw [dLc_map Z S (fun _ => false) S]
                · have hf0 : Z.filter (fun _ => false) = [] := by rw [List.filter_eq_nil_iff]; intro _ _ h; cases h
                  rw [hf0]
                  simp -dsimp -implicitDefEqProofs (disch := first | omega | simp)
                  exact kk' _ ⟨_, _, _, _, _, _, _, _, rfl⟩
                · simp -dsimp -implicitDefEqProofs (disch := first | omega | simp)
                · intro y hy
                  have := hin y hy
                  simp -dsimp -implicitDefEqProofs (disch := first | omega | simp) [this]
                · intro y _ h
                  cases h
                · have hf0 : Z.filter (fun _ => false) = [] := by rw [List.filter_eq_nil_iff]; intro _ _ h; cases h
                  rw [hf0]; simp
            · simp -dsimp -implicitDefEqProofs (disch := first | omega | simp) [h36, hv]
              generalize Y = Z at hY1
              have hZ := hY1
              have t1 := m_words_for_all_S Z hZ.1
              have t2 := m__law_pairs_good_S Z (by omega) (fun y hy => by have := ((okY_iff.mp hZ.1).2 y hy).1; omega)
              cases hp : prsB Z with
              | false =>
                rw [wfa_no hZ.1 hp] at t1
                rw [hp] at t2
                simp -dsimp -implicitDefEqProofs (disch := first | omega | simp) [t1, t2, setE]
                exact kk' _ ⟨_, _, _, _, _, _, _, _, rfl⟩
              | true =>
                obtain ⟨W, e, w1, w2, w3⟩ := wfa_yes hZ.1 hp
                rw [e] at t1
                rw [hp] at t2
                have r1 := m__law_readings_S W (okW_mem (by omega) w2) w2
                have hin : ∀ y ∈ Z, inB (S y) ((sortT (rd W)).map S) = true := fun y hy => by
                  rw [inB_S]
                  exact decide_eq_true ((sortT_perm _).mem_iff.mpr (w3 y hy))
                simp -dsimp -implicitDefEqProofs (disch := first | omega | simp) [t1, t2, r1, setE, show kitB "tuple" "tuple" = some true from rfl]
                rw [dLc_map Z S (fun _ => false) S]
                · have hf0 : Z.filter (fun _ => false) = [] := by rw [List.filter_eq_nil_iff]; intro _ _ h; cases h
                  rw [hf0]
                  simp -dsimp -implicitDefEqProofs (disch := first | omega | simp)
                  exact kk' _ ⟨_, _, _, _, _, _, _, _, rfl⟩
                · simp -dsimp -implicitDefEqProofs (disch := first | omega | simp)
                · intro y hy
                  have := hin y hy
                  simp -dsimp -implicitDefEqProofs (disch := first | omega | simp) [this]
                · intro y _ h
                  cases h
                · have hf0 : Z.filter (fun _ => false) = [] := by rw [List.filter_eq_nil_iff]; intro _ _ h; cases h
                  rw [hf0]; simp
          · simp -dsimp -implicitDefEqProofs (disch := first | omega | simp)
          · intro v _
            simp -dsimp -implicitDefEqProofs (disch := first | omega | simp) [hixv, show 0 < AL.length by omega]
          · omega
        · rintro ε ⟨a4, a5, a6, a7, a8, a9, b1, b2, rfl⟩
          exact kk _ ⟨_, _, _, _, _, _, _, _, _, _, _, rfl⟩
      · rintro ε ⟨a1, a2, a3, a4, a5, a6, a7, a8, a9, b1, b2, rfl⟩
        have w1 : m_words_for_all [PyData.tuple [PyData.str (mkS [50, 50, 50]), PyData.str (mkS [50, 48, 50, 50]), PyData.str (mkS [50, 50, 48, 50])]] = some .none := by
          rw [show m_words_for_all [PyData.tuple [PyData.str (mkS [50, 50, 50]), PyData.str (mkS [50, 48, 50, 50]), PyData.str (mkS [50, 50, 48, 50])]] = _ from m_words_for_all_S [[50, 50, 50], [50, 48, 50, 50], [50, 50, 48, 50]] (by decide), wfa_no (by decide) (by decide)]
        have w2 : m_words_for_all [PyData.tuple [PyData.str (mkS [50, 50, 48, 50]), PyData.str (mkS [50, 48, 50, 50])]] = some .none := by
          rw [show m_words_for_all [PyData.tuple [PyData.str (mkS [50, 50, 48, 50]), PyData.str (mkS [50, 48, 50, 50])]] = _ from m_words_for_all_S [[50, 50, 48, 50], [50, 48, 50, 50]] (by decide), wfa_no (by decide) (by decide)]
        have w3 : m_words_for_all [PyData.tuple [PyData.str (mkS [50, 50, 50]), PyData.str (mkS [50, 48, 50, 50])]] = some (.tuple [S [50, 48], S [50], S [50]]) := by
          rw [show m_words_for_all [PyData.tuple [PyData.str (mkS [50, 50, 50]), PyData.str (mkS [50, 48, 50, 50])]] = _ from m_words_for_all_S [[50, 50, 50], [50, 48, 50, 50]] (by decide)]
          rfl
        have w4 : m_words_for_all [PyData.tuple [PyData.str (mkS [])]] = some (.tuple []) := by
          rw [show m_words_for_all [PyData.tuple [PyData.str (mkS [])]] = _ from m_words_for_all_S [[]] (by decide)]
          rfl
        have w5 : m_words_for_all [PyData.tuple [PyData.str (mkS [55])]] = some (.tuple [S [55]]) := by
          rw [show m_words_for_all [PyData.tuple [PyData.str (mkS [55])]] = _ from m_words_for_all_S [[55]] (by decide)]
          rfl
        simp -dsimp -implicitDefEqProofs (disch := first | omega | simp) [w1, w2, w3, w4, w5, S]
    · cases e2
  · cases h
theorem m_law_ints {ns : List Int} (h : ns.length ≤ 63) : m_law [.list (ns.map .int)] = some (.bool true) := by
  have := intsD_map (fun x : Int => x) ns
  rw [m_law, show intsD (ns.map PyData.int) = some ns by simpa using this]
  simp [h]
end M

namespace M
open PySem PySem.Spec PyProof.Rows L2

def topS (i : Nat) : Stmt := PySem.Challenge.pw_saydigits_k06_whole_one_utterance_for_al.main.body.getD i (.Pass ⟨0, 0, 0, 0⟩)
abbrev s_is_ten : Stmt := topS 2
abbrev s_is_joint : Stmt := topS 3
abbrev s_digits_of : Stmt := topS 4
abbrev s_steps : Stmt := topS 5
abbrev s_fits : Stmt := topS 6
abbrev s_places : Stmt := topS 8
abbrev s_changed : Stmt := topS 9
abbrev s_all_alike : Stmt := topS 10
abbrev s_common_words : Stmt := topS 11
abbrev s_changes : Stmt := topS 12
abbrev s_words_for_all : Stmt := topS 13
abbrev s__law_cell : Stmt := topS 15
abbrev s__law_digits : Stmt := topS 16
abbrev s__law_digits_of : Stmt := topS 17
abbrev s__law_is_joint : Stmt := topS 18
abbrev s__law_string : Stmt := topS 19
abbrev s__law_readings : Stmt := topS 20
abbrev s__law_pairs_good : Stmt := topS 21
abbrev s_law : Stmt := topS 22
section
variable {P : Program} {w : World} {K : PySem.W.Frag} {mg : Str → Option Value} {base : Heap}
theorem sc_is_ten : FnScope N_is_ten ["word"] (defScope s_is_ten) := ⟨rfl, rfl, rfl, by decide +kernel, rfl, by decide +kernel, by decide +kernel⟩
theorem ok_is_ten {f : Addr} {fd : FuncData} (F : Fun K "is_ten" "is_ten" s_is_ten f fd) (B : Blt mg) {tk_DIGITS : Tok} (g_DIGITS : mg "DIGITS" = some (.str "0123456789" tk_DIGITS)) : FnOk P w K mg base CX0 1 f fd ["word"] (PSp K m_is_ten) := by
  have nd : N_is_ten.Nodup := sc_is_ten.nd
  refine defP (k := 0) (T := T_is_ten) F sc_is_ten (fun cdv A outer s H E hr => ?_) pure_is_ten
  have hc : (cxOf CX0 P w K mg base N_is_ten "is_ten" (defScope s_is_ten) f cdv A outer s H E).nox.calm = true := rfl
  have hu := hr.units
  have hv := hv_of hr
  have hu1 := hu1_of hr
  exact ⟨_, (ds_one (ds_ret (DE.x (de_and (de_cmp (opr_eq hu) (DE.toB (de_callB cr_len (by rfl) B.len (by decide +kernel) (dab_cons (db_var 0) dab_nil))) (DE.toB de_int) (nomark _)) (de_one (de_cmp (opr_in hv) (DE.toB (de_ix (db_var 0) (DE.toB de_int))) (DE.toB (de_sl (DE.toB (de_gstrE [48, 49, 50, 51, 52, 53, 54, 55, 56, 57] (by rfl) g_DIGITS)) (do_some (DE.toB de_int)) do_none)) (by rfl)))))))⟩
theorem sc_is_joint : FnScope N_is_joint ["one", "other"] (defScope s_is_joint) := ⟨rfl, rfl, rfl, by decide +kernel, rfl, by decide +kernel, by decide +kernel⟩
theorem ok_is_joint {f : Addr} {fd : FuncData} (F : Fun K "is_joint" "is_joint" s_is_joint f fd) (B : Blt mg) (c_is_ten : Cal P w K mg base "is_ten" 1 (PSp K m_is_ten)) : FnOk P w K mg base CX0 2 f fd ["one", "other"] (PSp K m_is_joint) := by
  have nd : N_is_joint.Nodup := sc_is_joint.nd
  refine defP (k := 1) (T := T_is_joint) F sc_is_joint (fun cdv A outer s H E hr => ?_) pure_is_joint
  have hc : (cxOf CX0 P w K mg base N_is_joint "is_joint" (defScope s_is_joint) f cdv A outer s H E).nox.calm = true := rfl
  have hu := hr.units
  have hv := hv_of hr
  have hu1 := hu1_of hr
  exact ⟨_, (ds_one (ds_ret (DE.x (de_and (de_cal c_is_ten hr (da_cons (de_var 0) da_nil)) (de_and (de_cmp (opr_eq hu) (DE.toB (de_callB cr_len (by rfl) B.len (by decide +kernel) (dab_cons (db_var 1) dab_nil))) (DE.toB de_int) (nomark _)) (de_one (de_cmp (opr_ne hu) (db_var 1) (DE.toB (de_strE [48])) (nomark _))))))))⟩
theorem sc_digits_of : FnScope N_digits_of ["word"] (defScope s_digits_of) := ⟨rfl, rfl, rfl, by decide +kernel, rfl, by decide +kernel, by decide +kernel⟩
theorem ok_digits_of {f : Addr} {fd : FuncData} (F : Fun K "digits_of" "digits_of" s_digits_of f fd) : FnOk P w K mg base CX0 1 f fd ["word"] (PSp K m_digits_of) := by
  have nd : N_digits_of.Nodup := sc_digits_of.nd
  refine defP (k := 0) (T := T_digits_of) F sc_digits_of (fun cdv A outer s H E hr => ?_) pure_digits_of
  have hc : (cxOf CX0 P w K mg base N_digits_of "digits_of" (defScope s_digits_of) f cdv A outer s H E).nox.calm = true := rfl
  have hu := hr.units
  have hv := hv_of hr
  have hu1 := hu1_of hr
  exact ⟨_, (ds_cons (ds_if (dt_cmp (opr_eq hu) (DE.toB (de_ix (db_var 0) (DE.toB de_int))) (DE.toB (de_strE [100])) (nomark _)) (ds_one (ds_ret (DE.x (de_op opr_mul (DE.toB (de_ix (db_var 0) (DE.toB (de_neg de_int)))) (DE.toB de_int))))) ds_nil)
    (ds_one (ds_ret (DE.x (de_ifE (dt_cmp (opr_eq hu) (DE.toB (de_ix (db_var 0) (DE.toB de_int))) (DE.toB (de_strE [116])) (nomark _)) (de_op opr_mul (DE.toB (de_ix (db_var 0) (DE.toB (de_neg de_int)))) (DE.toB de_int)) (de_var 0))))))⟩
theorem sc_steps : FnScope N_steps ["places", "part", "digits"] (defScope s_steps) := ⟨rfl, rfl, rfl, by decide +kernel, rfl, by decide +kernel, by decide +kernel⟩
theorem ok_steps {f : Addr} {fd : FuncData} (F : Fun K "steps" "steps" s_steps f fd) (B : Blt mg) : FnOk P w K mg base CX0 1 f fd ["places", "part", "digits"] (PSp K m_steps) := by
  have nd : N_steps.Nodup := sc_steps.nd
  refine defP (k := 0) (T := T_steps) F sc_steps (fun cdv A outer s H E hr => ?_) pure_steps
  have hc : (cxOf CX0 P w K mg base N_steps "steps" (defScope s_steps) f cdv A outer s H E).nox.calm = true := rfl
  have hu := hr.units
  have hv := hv_of hr
  have hu1 := hu1_of hr
  exact ⟨_, (ds_one (ds_ret (DE.x (DL.toE (dl_lcV [("place", 3)] hc nd (blkOk_by (own := [("place", 3)]) (N := N_steps) (sc := defScope s_steps) (by decide +kernel)) (di_seq (de_var 0)) (by exact fun _ _ _ _ _ => DG.kk (dg_name 3 nd)) (by exact fun _ _ _ _ _ => DTs.kk (dts_one (dt_cmp (opr_eq hu) (DE.toB (de_sl (db_var 2) (do_some (db_var 3)) (do_some (DE.toB (de_op opr_addA (db_var 3) (DE.toB (de_callB cr_len (by rfl) B.len (by decide +kernel) (dab_cons (db_var 1) dab_nil)))))))) (db_var 1) (nomark _)))) (by exact fun _ _ _ _ _ => DE.kk (de_op opr_addA (db_var 3) (DE.toB (de_callB cr_len (by rfl) B.len (by decide +kernel) (dab_cons (db_var 1) dab_nil))))))))))⟩
theorem sc_fits : FnScope N_fits ["words", "digits"] (defScope s_fits) := ⟨rfl, rfl, rfl, by decide +kernel, rfl, by decide +kernel, by decide +kernel⟩
theorem ok_fits {f : Addr} {fd : FuncData} (F : Fun K "fits" "fits" s_fits f fd) (B : Blt mg) (c_digits_of : Cal P w K mg base "digits_of" 1 (PSp K m_digits_of)) (c_steps : Cal P w K mg base "steps" 1 (PSp K m_steps)) (c_is_joint : Cal P w K mg base "is_joint" 2 (PSp K m_is_joint)) : FnOk P w K mg base CX0 3 f fd ["words", "digits"] (PSp K m_fits) := by
  have nd : N_fits.Nodup := sc_fits.nd
  refine defP (k := 2) (T := T_fits) F sc_fits (fun cdv A outer s H E hr => ?_) pure_fits
  have hc : (cxOf CX0 P w K mg base N_fits "fits" (defScope s_fits) f cdv A outer s H E).nox.calm = true := rfl
  have hu := hr.units
  have hv := hv_of hr
  have hu1 := hu1_of hr
  exact ⟨_, (ds_cons (ds_set 2 nd (DL.x (dl_lst (da_cons (DL.toE (dl_lst (da_cons de_int da_nil))) da_nil))))
    (ds_cons (ds_for hc (di_enum (by rfl) B.enumerate (da_cons (de_var 0) da_nil)) (dg_tup hc (dgs_cons 3 nd (dgs_cons 4 nd dgs_nil))) (ds_cons (ds_set 5 nd (DE.x (de_cal c_steps hr (da_cons (de_ix (db_var 2) (db_var 3)) (da_cons (de_cal c_digits_of hr (da_cons (de_var 4) da_nil)) (da_cons (de_var 1) da_nil))))))
    (ds_cons (ds_if (DW.t (dw_and (dt_cmp opr_gt (db_var 3) (DE.toB de_int) (nomark _)) (dw_and1 (dt_tru (DE.toB (de_cal c_is_joint hr (da_cons (de_ix (db_var 0) (DE.toB (de_op opr_sub (db_var 3) (DE.toB de_int)))) (da_cons (de_var 4) da_nil)))))))) (ds_one (ds_set 5 nd (DE.x (de_op opr_addA (db_var 5) (DE.toB (de_cal c_steps hr (da_cons (de_ix (db_var 2) (DE.toB (de_op opr_sub (db_var 3) (DE.toB de_int)))) (da_cons (de_op opr_addA (DE.toB (de_ix (DE.toB (de_ix (db_var 0) (DE.toB (de_op opr_sub (db_var 3) (DE.toB de_int))))) (DE.toB de_int))) (db_var 4)) (da_cons (de_var 1) da_nil))))))))) ds_nil)
    (ds_one (ds_app 2 (de_var 5))))))
    (ds_one (ds_ret (DE.x (de_cmp (opr_in hv) (DE.toB (de_callB cr_len (by rfl) B.len (by decide +kernel) (dab_cons (db_var 1) dab_nil))) (DE.toB (de_ix (db_var 2) (DE.toB (de_neg de_int)))) (by rfl)))))))⟩
theorem sc_places : FnScope N_places ["digits"] (defScope s_places) := ⟨rfl, rfl, rfl, by decide +kernel, rfl, by decide +kernel, by decide +kernel⟩
theorem ok_places {f : Addr} {fd : FuncData} (F : Fun K "places" "places" s_places f fd) (B : Blt mg) {tk_DIGITS : Tok} (g_DIGITS : mg "DIGITS" = some (.str "0123456789" tk_DIGITS)) : FnOk P w K mg base CX0 1 f fd ["digits"] (PSp K m_places) := by
  have nd : N_places.Nodup := sc_places.nd
  refine defP (k := 0) (T := T_places) F sc_places (fun cdv A outer s H E hr => ?_) pure_places
  have hc : (cxOf CX0 P w K mg base N_places "places" (defScope s_places) f cdv A outer s H E).nox.calm = true := rfl
  have hu := hr.units
  have hv := hv_of hr
  have hu1 := hu1_of hr
  exact ⟨_, (ds_cons (ds_set 1 nd (DL.x (dl_lst da_nil)))
    (ds_cons (ds_for hc (di_rng1 (by rfl) B.range (da_cons (de_op opr_sub (DE.toB (de_callB cr_len (by rfl) B.len (by decide +kernel) (dab_cons (db_var 0) dab_nil))) (DE.toB de_int)) da_nil)) (dg_name 2 nd) (ds_cons (ds_if (DW.t (dw_and (dt_cmp (opr_in hv) (DE.toB (de_ix (db_var 0) (db_var 2))) (DE.toB (de_sl (DE.toB (de_gstrE [48, 49, 50, 51, 52, 53, 54, 55, 56, 57] (by rfl) g_DIGITS)) (do_some (DE.toB de_int)) do_none)) (by rfl)) (dw_and1 (dt_cmp (opr_in hv) (DE.toB (de_ix (db_var 0) (DE.toB (de_op opr_addA (db_var 2) (DE.toB de_int))))) (DE.toB (de_sl (DE.toB (de_gstrE [48, 49, 50, 51, 52, 53, 54, 55, 56, 57] (by rfl) g_DIGITS)) (do_some (DE.toB de_int)) do_none)) (by rfl))))) (ds_one (ds_app 1 (de_tup (da_cons (de_var 2) (da_cons de_int da_nil))))) ds_nil)
    (ds_one (ds_if (DW.t (dw_and (dt_cmp (opr_in hv) (DE.toB (de_ix (db_var 0) (db_var 2))) (DE.toB (de_sl (DE.toB (de_gstrE [48, 49, 50, 51, 52, 53, 54, 55, 56, 57] (by rfl) g_DIGITS)) (do_some (DE.toB de_int)) do_none)) (by rfl)) (dw_and (dt_cmp (opr_eq hu) (DE.toB (de_ix (db_var 0) (DE.toB (de_op opr_addA (db_var 2) (DE.toB de_int))))) (DE.toB (de_strE [48])) (nomark _)) (dw_and1 (dt_cmp (opr_in hv) (DE.toB (de_sl (db_var 0) (do_some (DE.toB (de_op opr_addA (db_var 2) (DE.toB de_int)))) (do_some (DE.toB (de_op opr_addA (db_var 2) (DE.toB de_int)))))) (DE.toB (DL.toE (dl_callTy (cr_listS hc) (by rfl) B.list (by decide +kernel) (dab_cons (DE.toB (de_sl (DE.toB (de_gstrE [48, 49, 50, 51, 52, 53, 54, 55, 56, 57] (by rfl) g_DIGITS)) (do_some (DE.toB de_int)) do_none)) dab_nil)))) (by rfl)))))) (ds_one (ds_app 1 (de_tup (da_cons (de_var 2) (da_cons de_int da_nil))))) ds_nil))))
    (ds_one (ds_retV 1))))⟩
theorem sc_changed : FnScope N_changed ["digits", "place"] (defScope s_changed) := ⟨rfl, rfl, rfl, by decide +kernel, rfl, by decide +kernel, by decide +kernel⟩
theorem ok_changed {f : Addr} {fd : FuncData} (F : Fun K "changed" "changed" s_changed f fd) : FnOk P w K mg base CX0 1 f fd ["digits", "place"] (PSp K m_changed) := by
  have nd : N_changed.Nodup := sc_changed.nd
  refine defP (k := 0) (T := T_changed) F sc_changed (fun cdv A outer s H E hr => ?_) pure_changed
  have hc : (cxOf CX0 P w K mg base N_changed "changed" (defScope s_changed) f cdv A outer s H E).nox.calm = true := rfl
  have hu := hr.units
  have hv := hv_of hr
  have hu1 := hu1_of hr
  exact ⟨_, (ds_cons (ds_tg (de_var 1) (dg_tup hc (dgs_cons 2 nd (dgs_cons 3 nd dgs_nil))))
    (ds_cons (ds_set 4 nd (DE.x (de_sl (db_var 0) (do_some (db_var 2)) (do_some (DE.toB (de_op opr_addA (db_var 2) (db_var 3)))))))
    (ds_one (ds_ret (DE.x (de_ifE (dt_cmp (opr_eq hu) (db_var 3) (DE.toB de_int) (nomark _)) (de_op opr_addA (DE.toB (de_op opr_addA (DE.toB (de_ix (db_var 4) (DE.toB de_int))) (DE.toB (de_strE [48])))) (DE.toB (de_ix (db_var 4) (DE.toB de_int)))) (de_op opr_addA (DE.toB (de_ix (db_var 4) (DE.toB de_int))) (DE.toB (de_ix (db_var 4) (DE.toB de_int))))))))))⟩
theorem sc_all_alike : GScope N_all_alike ["digits"] (defScope s_all_alike) := ⟨rfl, rfl, rfl, by decide +kernel, rfl, by decide +kernel, by decide +kernel⟩
theorem ok_all_alike {f : Addr} {fd : FuncData} (F : Fun K "all_alike" "all_alike" s_all_alike f fd) (B : Blt mg) (c_places : Cal P w K mg base "places" 1 (PSp K m_places)) (c_changed : Cal P w K mg base "changed" 1 (PSp K m_changed)) : GFn P w K mg base 2 f fd ["digits"] (GSp K m_all_alike) := by
  have nd : N_all_alike.Nodup := sc_all_alike.nd
  refine defG (k := 1) (T := T_all_alike) F sc_all_alike (fun cdv A outer s H E pn hr => ?_) pure_all_alike
  have hc : (gcxOf P w K mg base N_all_alike "all_alike" (defScope s_all_alike) f cdv A outer s H E pn).calm = true := rfl
  have hu := hr.units
  have hv := hv_of hr
  have hu1 := hu1_of hr
  have key : ∃ t, GD (gcxOf P w K mg base N_all_alike "all_alike" (defScope s_all_alike) f cdv A outer s H E pn) (defBody s_all_alike) t T_all_alike := ⟨_, (gd_cons (ds_set 1 nd (DL.x (dl_op opl_cat (DE.toB (DL.toE (dl_lst (da_cons (DL.toE (dl_lst (da_cons (de_strE []) da_nil))) da_nil)))) (DE.toB (DL.toE (dl_lcV [("sign", 3)] hc nd (blkOk_by (own := [("sign", 3)]) (N := N_all_alike) (sc := defScope s_all_alike) (by decide +kernel)) (di_seq (de_var 0)) (by exact fun _ _ _ _ _ => DG.kk (dg_name 3 nd)) (by exact fun _ _ _ _ _ => DTs.kk dts_nil) (by exact fun _ _ _ _ _ => DE.kk (DL.toE (dl_lst da_nil)))))))))
    (gd_cons (ds_for hc (di_enum (by rfl) B.enumerate (da_cons (de_var 0) da_nil)) (dg_tup hc (dgs_cons 2 nd (dgs_cons 3 nd dgs_nil))) (ds_cons (ds_put 1 (de_op opr_addA (DE.toB (de_ix (db_var 1) (DE.toB (de_op opr_addA (db_var 2) (DE.toB de_int))))) (DE.toB (DL.toE (dl_lcV [("text", 6)] hc nd (blkOk_by (own := [("text", 6)]) (N := N_all_alike) (sc := defScope s_all_alike) (by decide +kernel)) (di_seq (de_ix (db_var 1) (db_var 2))) (by exact fun _ _ _ _ _ => DG.kk (dg_name 6 nd)) (by exact fun _ _ _ _ _ => DTs.kk dts_nil) (by exact fun _ _ _ _ _ => DE.kk (de_op opr_addA (db_var 6) (db_var 3))))))) (de_op opr_addA (db_var 2) (DE.toB de_int)))
    (ds_one (ds_for hc (di_seq (de_cal c_places hr (da_cons (de_var 0) da_nil))) (dg_name 4 nd) (ds_one (ds_if (dt_cmp (opr_eq hu) (DE.toB (de_ix (db_var 4) (DE.toB de_int))) (db_var 2) (nomark _)) (ds_cons (ds_frzB 5 (ds_setLcV [("text", 6)] hc nd (blkOk_by (own := [("text", 6)]) (N := N_all_alike) (sc := defScope s_all_alike) (by decide +kernel)) (di_seq (de_ix (db_var 1) (db_var 2))) (by exact fun _ _ _ _ _ => DG.kk (dg_name 6 nd)) (by exact fun _ _ _ _ _ => DTs.kk dts_nil) (by exact fun _ _ _ _ _ => DE.kk (de_op opr_addA (db_var 6) (DE.toB (de_cal c_changed hr (da_cons (de_var 0) (da_cons (de_var 4) da_nil)))))) (sw_true rfl rfl rfl (by decide +kernel))))
    (ds_one (ds_put 1 (de_op opr_addA (DE.toB (de_ix (db_var 1) (DE.toB (de_op opr_addA (db_var 2) (DE.toB (de_ix (db_var 4) (DE.toB de_int))))))) (db_var 5)) (de_op opr_addA (db_var 2) (DE.toB (de_ix (db_var 4) (DE.toB de_int))))))) ds_nil))))))
    (gd_yld owns_gcx hc (di_seq (DL.toE (dl_callB (cr_sortedSA hc ⟨_, hr⟩) (by rfl) B.sorted (by decide +kernel) (dab_cons (DE.toB (de_ix (db_var 1) (DE.toB (de_callB cr_len (by rfl) B.len (by decide +kernel) (dab_cons (db_var 0) dab_nil))))) dab_nil)))) (dg_name 6 nd) (pv 6))))⟩
  obtain ⟨t, h⟩ := key
  exact ⟨t, h.p, h.r⟩
theorem sc_common_words : FnScope N_common_words ["one", "other"] (defScope s_common_words) := ⟨rfl, rfl, rfl, by decide +kernel, rfl, by decide +kernel, by decide +kernel⟩
theorem ok_common_words {f : Addr} {fd : FuncData} (F : Fun K "common_words" "common_words" s_common_words f fd) (B : Blt mg) {tk_DIGITS : Tok} (g_DIGITS : mg "DIGITS" = some (.str "0123456789" tk_DIGITS)) : FnOk P w K mg base CX0 1 f fd ["one", "other"] (PSp K m_common_words) := by
  have nd : N_common_words.Nodup := sc_common_words.nd
  refine defP (k := 0) (T := T_common_words) F sc_common_words (fun cdv A outer s H E hr => ?_) pure_common_words
  have hc : (cxOf CX0 P w K mg base N_common_words "common_words" (defScope s_common_words) f cdv A outer s H E).nox.calm = true := rfl
  have hu := hr.units
  have hv := hv_of hr
  have hu1 := hu1_of hr
  exact ⟨_, (ds_cons (ds_par3 2 3 4 hc nd (dax_cons (DE.x (DL.toE (dl_lst da_nil))) (dax_cons (DE.x de_int) (dax_cons (DE.x de_int) dax_nil))))
    (ds_cons (ds_while (DW.t (dw_or (dt_cmp opr_lt (db_var 3) (DE.toB (de_callB cr_len (by rfl) B.len (by decide +kernel) (dab_cons (db_var 0) dab_nil))) (nomark _)) (dw_or1 (dt_cmp opr_lt (db_var 4) (DE.toB (de_callB cr_len (by rfl) B.len (by decide +kernel) (dab_cons (db_var 1) dab_nil))) (nomark _))))) (ds_cons (ds_par3 5 6 7 hc nd (dax_cons (DE.x (de_sl (db_var 0) (do_some (db_var 3)) (do_some (DE.toB (de_op opr_addA (db_var 3) (DE.toB de_int)))))) (dax_cons (DE.x (de_sl (db_var 0) (do_some (DE.toB (de_op opr_addA (db_var 3) (DE.toB de_int)))) (do_some (DE.toB (de_op opr_addA (db_var 3) (DE.toB de_int)))))) (dax_cons (DE.x (de_sl (db_var 1) (do_some (DE.toB (de_op opr_addA (db_var 4) (DE.toB de_int)))) (do_some (DE.toB (de_op opr_addA (db_var 4) (DE.toB de_int)))))) dax_nil))))
    (ds_cons (ds_if (DW.t (dw_or (dt_cmp (opr_eq hu) (db_var 5) (DE.toB (de_strE [])) (nomark _)) (dw_or1 (dt_cmp (opr_ne hu) (db_var 5) (DE.toB (de_sl (db_var 1) (do_some (db_var 4)) (do_some (DE.toB (de_op opr_addA (db_var 4) (DE.toB de_int)))))) (nomark _))))) (ds_one (ds_ret (DE.x de_non))) ds_nil)
    (ds_one (ds_if (DW.t (dw_and (dt_cmp (opr_ne hu) (db_var 6) (db_var 7) (nomark _)) (dw_and1 (dt_cmp (opr_in hv) (DE.toB (de_strE [48])) (DE.toB (de_tup (da_cons (de_var 6) (da_cons (de_var 7) da_nil)))) (by rfl))))) (ds_cons (ds_set 8 nd (DE.x (de_ifE (dt_cmp (opr_eq hu) (db_var 6) (DE.toB (de_strE [48])) (nomark _)) (de_var 7) (de_var 6))))
    (ds_cons (ds_set 9 nd (DE.x (de_ifE (dt_cmp (opr_eq hu) (db_var 6) (DE.toB (de_strE [48])) (nomark _)) (de_sl (db_var 0) (do_some (DE.toB (de_op opr_addA (db_var 3) (DE.toB de_int)))) (do_some (DE.toB (de_op opr_addA (db_var 3) (DE.toB de_int))))) (de_sl (db_var 1) (do_some (DE.toB (de_op opr_addA (db_var 4) (DE.toB de_int)))) (do_some (DE.toB (de_op opr_addA (db_var 4) (DE.toB de_int))))))))
    (ds_cons (ds_if (DW.t (dw_or (dt_cmp (opr_notin hv) (db_var 5) (DE.toB (DL.toE (dl_callTy (cr_listS hc) (by rfl) B.list (by decide +kernel) (dab_cons (DE.toB (de_sl (DE.toB (de_gstrE [48, 49, 50, 51, 52, 53, 54, 55, 56, 57] (by rfl) g_DIGITS)) (do_some (DE.toB de_int)) do_none)) dab_nil)))) (by rfl)) (dw_or (dt_cmp (opr_notin hv) (db_var 8) (DE.toB (DL.toE (dl_callTy (cr_listS hc) (by rfl) B.list (by decide +kernel) (dab_cons (DE.toB (de_sl (DE.toB (de_gstrE [48, 49, 50, 51, 52, 53, 54, 55, 56, 57] (by rfl) g_DIGITS)) (do_some (DE.toB de_int)) do_none)) dab_nil)))) (by rfl)) (dw_or1 (dt_cmp (opr_ne hu) (db_var 9) (db_var 8) (nomark _)))))) (ds_one (ds_ret (DE.x de_non))) ds_nil)
    (ds_cons (ds_set 2 nd (DE.x (de_op opr_addA (db_var 2) (DE.toB (DL.toE (dl_lst (da_cons (de_op opr_addA (db_var 5) (DE.toB (de_strE [48]))) (da_cons (de_var 8) da_nil))))))))
    (ds_one (ds_par 3 4 hc nd (dax_cons (DE.x (de_op opr_addA (DE.toB (de_op opr_addA (db_var 3) (DE.toB de_int))) (DE.toB (de_callTy cr_int (by rfl) B.int (by decide +kernel) (dab_cons (DE.toB (de_cmp (opr_eq hu) (db_var 6) (DE.toB (de_strE [48])) (nomark _))) dab_nil))))) (dax_cons (DE.x (de_op opr_addA (DE.toB (de_op opr_addA (db_var 4) (DE.toB de_int))) (DE.toB (de_callTy cr_int (by rfl) B.int (by decide +kernel) (dab_cons (DE.toB (de_cmp (opr_eq hu) (db_var 7) (DE.toB (de_strE [48])) (nomark _))) dab_nil))))) dax_nil)))))))) (ds_one (ds_par3 2 3 4 hc nd (dax_cons (DE.x (de_op opr_addA (db_var 2) (DE.toB (DL.toE (dl_lst (da_cons (de_var 5) da_nil)))))) (dax_cons (DE.x (de_op opr_addA (db_var 3) (DE.toB de_int))) (dax_cons (DE.x (de_op opr_addA (db_var 4) (DE.toB de_int))) dax_nil))))))))))
    (ds_one (ds_ret (DE.x (de_callTy (cr_tupleS hc) (by rfl) B.tuple (by decide +kernel) (dab_cons (db_var 2) dab_nil)))))))⟩
theorem sc_changes : FnScope N_changes ["one", "other"] (defScope s_changes) := ⟨rfl, rfl, rfl, by decide +kernel, rfl, by decide +kernel, by decide +kernel⟩
theorem ok_changes {f : Addr} {fd : FuncData} (F : Fun K "changes" "changes" s_changes f fd) (B : Blt mg) (c_common_words : Cal P w K mg base "common_words" 1 (PSp K m_common_words)) : FnOk P w K mg base CX0 2 f fd ["one", "other"] (PSp K m_changes) := by
  have nd : N_changes.Nodup := sc_changes.nd
  refine defP (k := 1) (T := T_changes) F sc_changes (fun cdv A outer s H E hr => ?_) pure_changes
  have hc : (cxOf CX0 P w K mg base N_changes "changes" (defScope s_changes) f cdv A outer s H E).nox.calm = true := rfl
  have hu := hr.units
  have hv := hv_of hr
  have hu1 := hu1_of hr
  exact ⟨_, (ds_cons (ds_set 2 nd (DE.x (de_cal c_common_words hr (da_cons (de_var 0) (da_cons (de_var 1) da_nil)))))
    (ds_cons (ds_if (dt_cmp opr_is (db_var 2) (DE.toB de_non) (nomark _)) (ds_one (ds_ret (DE.x de_non))) ds_nil)
    (ds_cons (ds_par3 3 4 5 hc nd (dax_cons (DL.x (dl_lst da_nil)) (dax_cons (DE.x de_int) (dax_cons (DE.x de_int) dax_nil))))
    (ds_cons (ds_while (dt_cmp opr_lt (db_var 5) (DE.toB (de_callB cr_len (by rfl) B.len (by decide +kernel) (dab_cons (db_var 2) dab_nil))) (nomark _)) (ds_one (ds_if (dt_cmp (opr_eq hu) (DE.toB (de_callB cr_len (by rfl) B.len (by decide +kernel) (dab_cons (DE.toB (de_ix (db_var 2) (db_var 5))) dab_nil))) (DE.toB de_int) (nomark _)) (ds_cons (ds_set 6 nd (DE.x (de_ifE (dt_cmp (opr_eq hu) (DE.toB (de_ix (db_var 0) (DE.toB (de_op opr_addA (db_var 4) (DE.toB de_int))))) (DE.toB (de_strE [48])) (nomark _)) de_int de_int)))
    (ds_cons (ds_app 3 (de_tup (da_cons (de_var 4) (da_cons (de_var 6) da_nil))))
    (ds_one (ds_par 4 5 hc nd (dax_cons (DE.x (de_op opr_addA (db_var 4) (db_var 6))) (dax_cons (DE.x (de_op opr_addA (db_var 5) (DE.toB de_int))) dax_nil)))))) (ds_one (ds_par 4 5 hc nd (dax_cons (DE.x (de_op opr_addA (db_var 4) (DE.toB de_int))) (dax_cons (DE.x (de_op opr_addA (db_var 5) (DE.toB de_int))) dax_nil)))))))
    (ds_one (ds_retV 3))))))⟩
theorem sc_words_for_all : FnScope N_words_for_all ["strings"] (defScope s_words_for_all) := ⟨rfl, rfl, rfl, by decide +kernel, rfl, by decide +kernel, by decide +kernel⟩
theorem ok_words_for_all {f : Addr} {fd : FuncData} (F : Fun K "words_for_all" "words_for_all" s_words_for_all f fd) (B : Blt mg) (c_changes : Cal P w K mg base "changes" 2 (PSp K m_changes)) (c_fits : Cal P w K mg base "fits" 3 (PSp K m_fits)) : FnOk P w K mg base CX0 4 f fd ["strings"] (PSp K m_words_for_all) := by
  have nd : N_words_for_all.Nodup := sc_words_for_all.nd
  refine defP (k := 3) (T := T_words_for_all) F sc_words_for_all (fun cdv A outer s H E hr => ?_) pure_words_for_all
  have hc : (cxOf CX0 P w K mg base N_words_for_all "words_for_all" (defScope s_words_for_all) f cdv A outer s H E).nox.calm = true := rfl
  have hu := hr.units
  have hv := hv_of hr
  have hu1 := hu1_of hr
  exact ⟨_, (ds_cons (ds_par 1 2 hc nd (dax_cons (DE.x (de_ix (db_var 0) (DE.toB de_int))) (dax_cons dx_dnew dax_nil)))
    (ds_cons (ds_for hc (di_seq (de_var 0)) (dg_name 3 nd) (ds_cons (ds_set 4 nd (DE.x (de_cal c_changes hr (da_cons (de_var 1) (da_cons (de_var 3) da_nil)))))
    (ds_cons (ds_if (dt_cmp opr_is (db_var 4) (DE.toB de_non) (nomark _)) (ds_one (ds_ret (DE.x de_non))) ds_nil)
    (ds_one (ds_for hc (di_seq (de_var 4)) (dg_tup hc (dgs_cons 5 nd (dgs_cons 6 nd dgs_nil))) (ds_one (ds_dput 2 hu1 (de_var 6) (de_var 5))))))))
    (ds_cons (ds_par 7 8 hc nd (dax_cons (DL.x (dl_lst da_nil)) (dax_cons (DE.x de_int) dax_nil)))
    (ds_cons (ds_while (dt_cmp opr_lt (db_var 8) (DE.toB (de_callB cr_len (by rfl) B.len (by decide +kernel) (dab_cons (db_var 1) dab_nil))) (nomark _)) (ds_one (ds_if (dt_din hu1 (de_var 8) (db_var 2) (by rfl)) (ds_cons (ds_set 7 nd (DL.x (dl_op opl_cat (db_var 7) (DE.toB (DL.toE (dl_lst (da_cons (de_op opr_addA (DE.toB (de_ix (db_var 1) (db_var 8))) (DE.toB (de_strE [48]))) (da_cons (de_ix (db_var 1) (DE.toB (de_op opr_sub (DE.toB (de_op opr_addA (db_var 8) (DE.toB (de_dget hu1 (db_var 2) (de_var 8))))) (DE.toB de_int)))) da_nil))))))))
    (ds_one (ds_augI 8 ip_add nd (de_dget hu1 (db_var 2) (de_var 8))))) (ds_cons (ds_app 7 (de_ix (db_var 1) (db_var 8)))
    (ds_one (ds_augI 8 ip_add nd de_int))))))
    (ds_cons (ds_set 9 nd (DE.x (de_callTy (cr_tupleS hc) (by rfl) B.tuple (by decide +kernel) (dab_cons (db_var 7) dab_nil))))
    (ds_one (ds_ret (DE.x (de_ifE (dt_tru (DE.toB (de_callB (cr_allD hc) (by rfl) B.all (by decide +kernel) (dab_cons (DE.toB (DL.toE (dl_lcV [("other", 3)] hc nd (blkOk_by (own := [("other", 3)]) (N := N_words_for_all) (sc := defScope s_words_for_all) (by decide +kernel)) (di_seq (de_var 0)) (by exact fun _ _ _ _ _ => DG.kk (dg_name 3 nd)) (by exact fun _ _ _ _ _ => DTs.kk dts_nil) (by exact fun _ _ _ _ _ => DE.kk (de_cal c_fits hr (da_cons (de_var 9) (da_cons (de_var 3) da_nil))))))) dab_nil)))) (de_var 9) de_non)))))))))⟩
theorem sc__law_cell : FnScope N__law_cell ["script", "index"] (defScope s__law_cell) := ⟨rfl, rfl, rfl, by decide +kernel, rfl, by decide +kernel, by decide +kernel⟩
theorem ok__law_cell {f : Addr} {fd : FuncData} (F : Fun K "_law_cell" "_law_cell" s__law_cell f fd) (B : Blt mg) : FnOk P w K mg base CX0 1 f fd ["script", "index"] (PSp K m__law_cell) := by
  have nd : N__law_cell.Nodup := sc__law_cell.nd
  refine defP (k := 0) (T := T__law_cell) F sc__law_cell (fun cdv A outer s H E hr => ?_) pure__law_cell
  have hc : (cxOf CX0 P w K mg base N__law_cell "_law_cell" (defScope s__law_cell) f cdv A outer s H E).nox.calm = true := rfl
  have hu := hr.units
  have hv := hv_of hr
  have hu1 := hu1_of hr
  exact ⟨_, (ds_cons (ds_if (dt_cmp opr_lt (db_var 1) (DE.toB (de_callB cr_len (by rfl) B.len (by decide +kernel) (dab_cons (db_var 0) dab_nil))) (nomark _)) (ds_one (ds_ret (DE.x (de_ix (db_var 0) (db_var 1))))) ds_nil)
    (ds_cons (ds_if (dt_cmp (opr_eq hu) (DE.toB (de_callB cr_len (by rfl) B.len (by decide +kernel) (dab_cons (db_var 0) dab_nil))) (DE.toB de_int) (nomark _)) (ds_one (ds_ret (DE.x (de_op opr_addA (DE.toB (de_op opr_mul (DE.toB de_int) (db_var 1))) (DE.toB de_int))))) ds_nil)
    (ds_one (ds_ret (DE.x (de_op opr_addA (DE.toB (de_op opr_mod (DE.toB (de_ix (db_var 0) (DE.toB (de_op opr_mod (db_var 1) (DE.toB (de_callB cr_len (by rfl) B.len (by decide +kernel) (dab_cons (db_var 0) dab_nil))))))) (DE.toB de_int))) (DE.toB (de_op opr_mul (DE.toB de_int) (db_var 1)))))))))⟩
theorem sc__law_digits : FnScope N__law_digits ["script", "index", "count", "base"] (defScope s__law_digits) := ⟨rfl, rfl, rfl, by decide +kernel, rfl, by decide +kernel, by decide +kernel⟩
theorem ok__law_digits {f : Addr} {fd : FuncData} (F : Fun K "_law_digits" "_law_digits" s__law_digits f fd) (B : Blt mg) (c__law_cell : Cal P w K mg base "_law_cell" 1 (PSp K m__law_cell)) : FnOk P w K mg base CX0 2 f fd ["script", "index", "count", "base"] (PSp K m__law_digits) := by
  have nd : N__law_digits.Nodup := sc__law_digits.nd
  refine defP (k := 1) (T := T__law_digits) F sc__law_digits (fun cdv A outer s H E hr => ?_) pure__law_digits
  have hc : (cxOf CX0 P w K mg base N__law_digits "_law_digits" (defScope s__law_digits) f cdv A outer s H E).nox.calm = true := rfl
  have hu := hr.units
  have hv := hv_of hr
  have hu1 := hu1_of hr
  exact ⟨_, (ds_cons (ds_set 4 nd (DE.x (de_tup (da_cons de_int (da_cons de_int (da_cons de_int (da_cons de_int (da_cons de_int (da_cons de_int (da_cons de_int (da_cons de_int da_nil)))))))))))
    (ds_cons (ds_set 5 nd (DE.x (de_cal c__law_cell hr (da_cons (de_var 0) (da_cons (de_var 1) da_nil)))))
    (ds_cons (ds_set 6 nd (DE.x (de_ifE (dt_cmp opr_ge (db_var 5) (DE.toB (de_op opr_pow (DE.toB de_int) (DE.toB de_int))) (nomark _)) (de_var 5) de_int)))
    (ds_cons (ds_set 7 nd (DL.x (dl_lst da_nil)))
    (ds_cons (ds_for hc (di_rng1 (by rfl) B.range (da_cons (de_var 2) da_nil)) (dg_name 8 nd) (ds_cons (ds_set 9 nd (DE.x (de_op opr_mul (DE.toB (de_op opr_mod (db_var 5) (DE.toB (de_ix (db_var 4) (DE.toB (de_op opr_mod (db_var 8) (DE.toB de_int))))))) (DE.toB (de_op opr_addA (DE.toB de_int) (DE.toB (de_op opr_mul (DE.toB (de_op opr_mul (DE.toB de_int) (db_var 8))) (db_var 8))))))))
    (ds_cons (ds_set 9 nd (DE.x (de_op opr_addA (DE.toB (de_op opr_addA (db_var 9) (DE.toB (de_op opr_mul (DE.toB (de_op opr_mul (DE.toB de_int) (DE.toB (de_op opr_addA (db_var 8) (DE.toB de_int))))) (DE.toB (de_op opr_addA (db_var 8) (DE.toB de_int))))))) (DE.toB (de_op opr_mul (DE.toB de_int) (db_var 1))))))
    (ds_cons (ds_set 9 nd (DE.x (de_op opr_mod (db_var 9) (DE.toB (de_ix (db_var 4) (DE.toB (de_op opr_mod (DE.toB (de_op opr_addA (DE.toB (de_op opr_mul (DE.toB de_int) (db_var 8))) (db_var 1))) (DE.toB de_int))))))))
    (ds_cons (ds_set 9 nd (DE.x (de_op opr_mod (DE.toB (de_op opr_mul (DE.toB (de_op opr_mul (db_var 9) (db_var 9))) (db_var 9))) (DE.toB (de_ix (db_var 4) (DE.toB (de_op opr_mod (DE.toB (de_op opr_addA (db_var 8) (DE.toB de_int))) (DE.toB de_int))))))))
    (ds_cons (ds_if (dt_cmp opr_gt (db_var 6) (DE.toB de_int) (nomark _)) (ds_one (ds_set 9 nd (DE.x (de_var 6)))) ds_nil)
    (ds_cons (ds_app 7 (de_op opr_mod (db_var 9) (db_var 3)))
    (ds_one (ds_set 6 nd (DE.x (de_op opr_fdiv (db_var 6) (db_var 3))))))))))))
    (ds_one (ds_retV 7)))))))⟩
theorem sc__law_digits_of : FnScope N__law_digits_of ["word"] (defScope s__law_digits_of) := ⟨rfl, rfl, rfl, by decide +kernel, rfl, by decide +kernel, by decide +kernel⟩
theorem ok__law_digits_of {f : Addr} {fd : FuncData} (F : Fun K "_law_digits_of" "_law_digits_of" s__law_digits_of f fd) : FnOk P w K mg base CX0 1 f fd ["word"] (PSp K m__law_digits_of) := by
  have nd : N__law_digits_of.Nodup := sc__law_digits_of.nd
  refine defP (k := 0) (T := T__law_digits_of) F sc__law_digits_of (fun cdv A outer s H E hr => ?_) pure__law_digits_of
  have hc : (cxOf CX0 P w K mg base N__law_digits_of "_law_digits_of" (defScope s__law_digits_of) f cdv A outer s H E).nox.calm = true := rfl
  have hu := hr.units
  have hv := hv_of hr
  have hu1 := hu1_of hr
  exact ⟨_, (ds_cons (ds_if (dt_cmp (opr_in hv) (DE.toB (de_sl (db_var 0) do_none (do_some (DE.toB de_int)))) (DE.toB (de_tup (da_cons (de_strE [100, 111, 117, 98, 108, 101]) (da_cons (de_strE [116, 114, 105, 112, 108, 101]) da_nil)))) (by rfl)) (ds_one (ds_ret (DE.x (de_op opr_mul (DE.toB (de_ix (db_var 0) (DE.toB (de_neg de_int)))) (DE.toB (de_ifE (dt_cmp (opr_eq hu) (DE.toB (de_ix (db_var 0) (DE.toB de_int))) (DE.toB (de_strE [100])) (nomark _)) de_int de_int)))))) ds_nil)
    (ds_one (ds_ret (DE.x (de_var 0)))))⟩
theorem sc__law_is_joint : FnScope N__law_is_joint ["one", "other"] (defScope s__law_is_joint) := ⟨rfl, rfl, rfl, by decide +kernel, rfl, by decide +kernel, by decide +kernel⟩
theorem ok__law_is_joint {f : Addr} {fd : FuncData} (F : Fun K "_law_is_joint" "_law_is_joint" s__law_is_joint f fd) (B : Blt mg) : FnOk P w K mg base CX0 1 f fd ["one", "other"] (PSp K m__law_is_joint) := by
  have nd : N__law_is_joint.Nodup := sc__law_is_joint.nd
  refine defP (k := 0) (T := T__law_is_joint) F sc__law_is_joint (fun cdv A outer s H E hr => ?_) pure__law_is_joint
  have hc : (cxOf CX0 P w K mg base N__law_is_joint "_law_is_joint" (defScope s__law_is_joint) f cdv A outer s H E).nox.calm = true := rfl
  have hu := hr.units
  have hv := hv_of hr
  have hu1 := hu1_of hr
  exact ⟨_, (ds_one (ds_ret (DE.x (de_and (de_cmp (opr_in hv) (db_var 0) (DE.toB (de_tup (da_cons (de_strE [50, 48]) (da_cons (de_strE [51, 48]) (da_cons (de_strE [52, 48]) (da_cons (de_strE [53, 48]) (da_cons (de_strE [54, 48]) (da_cons (de_strE [55, 48]) (da_cons (de_strE [56, 48]) (da_cons (de_strE [57, 48]) da_nil)))))))))) (by rfl)) (de_and (de_cmp (opr_eq hu) (DE.toB (de_callB cr_len (by rfl) B.len (by decide +kernel) (dab_cons (db_var 1) dab_nil))) (DE.toB de_int) (nomark _)) (de_one (de_cmp (opr_ne hu) (db_var 1) (DE.toB (de_strE [48])) (nomark _))))))))⟩
theorem sc__law_string : FnScope N__law_string ["digits", "most"] (defScope s__law_string) := ⟨rfl, rfl, rfl, by decide +kernel, rfl, by decide +kernel, by decide +kernel⟩
theorem ok__law_string {f : Addr} {fd : FuncData} (F : Fun K "_law_string" "_law_string" s__law_string f fd) : FnOk P w K mg base CX0 1 f fd ["digits", "most"] (PSp K m__law_string) := by
  have nd : N__law_string.Nodup := sc__law_string.nd
  refine defP (k := 0) (T := T__law_string) F sc__law_string (fun cdv A outer s H E hr => ?_) pure__law_string
  have hc : (cxOf CX0 P w K mg base N__law_string "_law_string" (defScope s__law_string) f cdv A outer s H E).nox.calm = true := rfl
  have hu := hr.units
  have hv := hv_of hr
  have hu1 := hu1_of hr
  exact ⟨_, (ds_cons (ds_set 2 nd (DE.x (de_strE [])))
    (ds_cons (ds_for hc (di_seq (de_sl (db_var 0) (do_some (DE.toB de_int)) (do_some (DE.toB (de_op opr_addA (DE.toB de_int) (DE.toB (de_op opr_mod (DE.toB (de_ix (db_var 0) (DE.toB de_int))) (DE.toB (de_op opr_addA (db_var 1) (DE.toB de_int)))))))))) (dg_name 3 nd) (ds_one (ds_set 2 nd (DE.x (de_op opr_addA (db_var 2) (DE.toB (de_ix (DE.toB (de_ix (DE.toB (DL.toE (dl_lst (da_cons (de_strE [48, 50, 50, 48, 51, 49, 53]) (da_cons (de_strE [48, 49, 50, 51, 52, 53, 54, 55, 56, 57]) (da_cons (de_strE [48, 50]) da_nil)))))) (DE.toB (de_op opr_mod (DE.toB (de_op opr_fdiv (DE.toB (de_ix (db_var 0) (DE.toB de_int))) (DE.toB de_int))) (DE.toB de_int))))) (DE.toB (de_op opr_mod (db_var 3) (DE.toB (de_ix (DE.toB (DL.toE (dl_lst (da_cons de_int (da_cons de_int (da_cons de_int da_nil)))))) (DE.toB (de_op opr_mod (DE.toB (de_op opr_fdiv (DE.toB (de_ix (db_var 0) (DE.toB de_int))) (DE.toB de_int))) (DE.toB de_int))))))))))))))
    (ds_one (ds_ret (DE.x (de_var 2))))))⟩
theorem sc__law_readings : FnScope N__law_readings ["words"] (defScope s__law_readings) := ⟨rfl, rfl, rfl, by decide +kernel, rfl, by decide +kernel, by decide +kernel⟩
theorem ok__law_readings {f : Addr} {fd : FuncData} (F : Fun K "_law_readings" "_law_readings" s__law_readings f fd) (B : Blt mg) (c__law_digits_of : Cal P w K mg base "_law_digits_of" 1 (PSp K m__law_digits_of)) (c__law_is_joint : Cal P w K mg base "_law_is_joint" 1 (PSp K m__law_is_joint)) : FnOk P w K mg base CX0 2 f fd ["words"] (PSp K m__law_readings) := by
  have nd : N__law_readings.Nodup := sc__law_readings.nd
  refine defP (k := 1) (T := T__law_readings) F sc__law_readings (fun cdv A outer s H E hr => ?_) pure__law_readings
  have hc : (cxOf CX0 P w K mg base N__law_readings "_law_readings" (defScope s__law_readings) f cdv A outer s H E).nox.calm = true := rfl
  have hu := hr.units
  have hv := hv_of hr
  have hu1 := hu1_of hr
  exact ⟨_, (ds_cons (ds_set 1 nd (DE.x (DL.toE (dl_lst (da_cons (de_tup (da_cons (de_strE []) (da_cons de_int da_nil))) da_nil)))))
    (ds_cons (ds_set 2 nd (DL.x (dl_lst da_nil)))
    (ds_cons (ds_while (dt_cmp (opr_ne hu) (db_var 1) (DE.toB (DL.toE (dl_lst da_nil))) (nomark _)) (ds_cons (ds_set 3 nd (DL.x (dl_lst da_nil)))
    (ds_cons (ds_for hc (di_seq (de_var 1)) (dg_tup hc (dgs_cons 4 nd (dgs_cons 5 nd dgs_nil))) (ds_one (ds_if (dt_cmp (opr_eq hu) (db_var 5) (DE.toB (de_callB cr_len (by rfl) B.len (by decide +kernel) (dab_cons (db_var 0) dab_nil))) (nomark _)) (ds_one (ds_app 2 (de_var 4))) (ds_cons (ds_app 3 (de_tup (da_cons (de_op opr_addA (db_var 4) (DE.toB (de_cal c__law_digits_of hr (da_cons (de_ix (db_var 0) (db_var 5)) da_nil)))) (da_cons (de_op opr_addA (db_var 5) (DE.toB de_int)) da_nil))))
    (ds_one (ds_if (DW.t (dw_and (dt_cmp opr_lt (DE.toB (de_op opr_addA (db_var 5) (DE.toB de_int))) (DE.toB (de_callB cr_len (by rfl) B.len (by decide +kernel) (dab_cons (db_var 0) dab_nil))) (nomark _)) (dw_and1 (dt_tru (DE.toB (de_cal c__law_is_joint hr (da_cons (de_ix (db_var 0) (db_var 5)) (da_cons (de_ix (db_var 0) (DE.toB (de_op opr_addA (db_var 5) (DE.toB de_int)))) da_nil)))))))) (ds_one (ds_app 3 (de_tup (da_cons (de_op opr_addA (DE.toB (de_op opr_addA (db_var 4) (DE.toB (de_ix (DE.toB (de_ix (db_var 0) (db_var 5))) (DE.toB de_int))))) (DE.toB (de_ix (db_var 0) (DE.toB (de_op opr_addA (db_var 5) (DE.toB de_int)))))) (da_cons (de_op opr_addA (db_var 5) (DE.toB de_int)) da_nil))))) ds_nil))))))
    (ds_one (ds_frz 3 (ds_set 1 nd (DE.x (de_var 3))))))))
    (ds_one (ds_ret (DE.x (DL.toE (dl_callB (cr_sortedSA hc ⟨_, hr⟩) (by rfl) B.sorted (by decide +kernel) (dab_cons (db_var 2) dab_nil)))))))))⟩
theorem sc__law_pairs_good : FnScope N__law_pairs_good ["strings"] (defScope s__law_pairs_good) := ⟨rfl, rfl, rfl, by decide +kernel, rfl, by decide +kernel, by decide +kernel⟩
theorem ok__law_pairs_good {f : Addr} {fd : FuncData} (F : Fun K "_law_pairs_good" "_law_pairs_good" s__law_pairs_good f fd) (c_common_words : Cal P w K mg base "common_words" 1 (PSp K m_common_words)) : FnOk P w K mg base CX0 2 f fd ["strings"] (PSp K m__law_pairs_good) := by
  have nd : N__law_pairs_good.Nodup := sc__law_pairs_good.nd
  refine defP (k := 1) (T := T__law_pairs_good) F sc__law_pairs_good (fun cdv A outer s H E hr => ?_) pure__law_pairs_good
  have hc : (cxOf CX0 P w K mg base N__law_pairs_good "_law_pairs_good" (defScope s__law_pairs_good) f cdv A outer s H E).nox.calm = true := rfl
  have hu := hr.units
  have hv := hv_of hr
  have hu1 := hu1_of hr
  exact ⟨_, (ds_cons (ds_for hc (di_seq (de_var 0)) (dg_name 1 nd) (ds_one (ds_for hc (di_seq (de_var 0)) (dg_name 2 nd) (ds_one (ds_if (dt_cmp opr_is (DE.toB (de_cal c_common_words hr (da_cons (de_var 1) (da_cons (de_var 2) da_nil)))) (DE.toB de_non) (nomark _)) (ds_one (ds_ret (DE.x de_bl))) ds_nil)))))
    (ds_one (ds_ret (DE.x de_bl))))⟩
theorem sc_law : FnScope N_law ["script"] (defScope s_law) := ⟨rfl, rfl, rfl, by decide +kernel, rfl, by decide +kernel, by decide +kernel⟩
theorem ok_law {f : Addr} {fd : FuncData} (F : Fun K "law" "law" s_law f fd) (B : Blt mg) (c__law_digits : Cal P w K mg base "_law_digits" 2 (PSp K m__law_digits)) (c__law_string : Cal P w K mg base "_law_string" 1 (PSp K m__law_string)) (c_all_alike : CalG P w K mg base "all_alike" 2 (GSp K m_all_alike)) (c__law_pairs_good : Cal P w K mg base "_law_pairs_good" 2 (PSp K m__law_pairs_good)) (c_words_for_all : Cal P w K mg base "words_for_all" 4 (PSp K m_words_for_all)) (c__law_readings : Cal P w K mg base "_law_readings" 2 (PSp K m__law_readings)) : FnOk P w K mg base CX0 6 f fd ["script"] (PSp K m_law) := by
  have nd : N_law.Nodup := sc_law.nd
  refine defP (k := 5) (T := T_law) F sc_law (fun cdv A outer s H E hr => ?_) pure_law
  have hc : (cxOf CX0 P w K mg base N_law "law" (defScope s_law) f cdv A outer s H E).nox.calm = true := rfl
  have hu := hr.units
  have hv := hv_of hr
  have hu1 := hu1_of hr
  exact ⟨_, (ds_cons (ds_for hc (di_rng1 (by rfl) B.range (da_cons de_int da_nil)) (dg_name 1 nd) (ds_cons (ds_set 2 nd (DE.x (de_cal c__law_digits hr (da_cons (de_var 0) (da_cons (de_var 1) (da_cons de_int (da_cons de_int da_nil)))))))
    (ds_cons (ds_set 3 nd (DE.x (DL.toE (dl_listG c_all_alike hr B.list rfl (da_cons (de_cal c__law_string hr (da_cons (de_var 2) (da_cons de_int da_nil))) da_nil)))))
    (ds_one (ds_for hc (di_rng1 (by rfl) B.range (da_cons de_int da_nil)) (dg_name 4 nd) (ds_cons (ds_set 5 nd (DE.x (de_sl (db_var 2) (do_some (DE.toB (de_op opr_addA (DE.toB de_int) (DE.toB (de_op opr_mul (DE.toB de_int) (db_var 4)))))) (do_some (DE.toB (de_op opr_addA (DE.toB (de_op opr_addA (DE.toB de_int) (DE.toB (de_op opr_mul (DE.toB de_int) (db_var 4))))) (DE.toB (de_op opr_mod (DE.toB (de_ix (db_var 2) (DE.toB (de_op opr_addA (DE.toB de_int) (db_var 4))))) (DE.toB de_int)))))))))
    (ds_cons (ds_set 6 nd (DE.x (de_callTy (cr_tupleS hc) (by rfl) B.tuple (by decide +kernel) (dab_cons (DE.toB (DL.toE (dl_lcV [("digit", 10)] hc nd (blkOk_by (own := [("digit", 10)]) (N := N_law) (sc := defScope s_law) (by decide +kernel)) (di_seq (de_var 5)) (by exact fun _ _ _ _ _ => DG.kk (dg_name 10 nd)) (by exact fun _ _ _ _ _ => DTs.kk dts_nil) (by exact fun _ _ _ _ _ => DE.kk (de_ix (db_var 3) (DE.toB (de_op opr_mod (db_var 10) (DE.toB (de_callB cr_len (by rfl) B.len (by decide +kernel) (dab_cons (db_var 3) dab_nil)))))))))) dab_nil))))
    (ds_cons (ds_if (dt_cmp (opr_eq hu) (DE.toB (de_op opr_mod (DE.toB (de_ix (db_var 2) (DE.toB de_int))) (DE.toB de_int))) (db_var 4) (nomark _)) (ds_one (ds_set 6 nd (DE.x (de_op opr_addA (db_var 6) (DE.toB (de_tup (da_cons (de_cal c__law_string hr (da_cons (de_sl (db_var 2) (do_some (DE.toB de_int)) do_none) (da_cons de_int da_nil))) da_nil))))))) ds_nil)
    (ds_cons (ds_par 7 8 hc nd (dax_cons (DE.x (de_cal c_words_for_all hr (da_cons (de_var 6) da_nil))) (dax_cons (DE.x (de_cal c__law_pairs_good hr (da_cons (de_var 6) da_nil))) dax_nil)))
    (ds_cons (ds_if (dt_cmp (opr_ne hu) (DE.toB (de_cmp opr_isnt (db_var 7) (DE.toB de_non) (nomark _))) (db_var 8) (nomark _)) (ds_one (ds_ret (DE.x de_bl))) ds_nil)
    (ds_one (ds_if (dt_cmp opr_isnt (db_var 7) (DE.toB de_non) (nomark _)) (ds_cons (ds_set 9 nd (DE.x (de_cal c__law_readings hr (da_cons (de_var 7) da_nil))))
    (ds_one (ds_if (DW.t (dw_or (dt_not (dt_tru (DE.toB (db_isi (T := "tuple") (db_var 7) B.isinstance B.tuple)))) (dw_or1 (dt_cmp (opr_ne hu) (DE.toB (DL.toE (dl_lcV [("text", 11)] hc nd (blkOk_by (own := [("text", 11)]) (N := N_law) (sc := defScope s_law) (by decide +kernel)) (di_seq (de_var 6)) (by exact fun _ _ _ _ _ => DG.kk (dg_name 11 nd)) (by exact fun _ _ _ _ _ => DTs.kk (dts_one (dt_cmp (opr_notin hv) (db_var 11) (db_var 9) (by rfl)))) (by exact fun _ _ _ _ _ => DE.kk (de_var 11))))) (DE.toB (DL.toE (dl_lst da_nil))) (nomark _))))) (ds_one (ds_ret (DE.x de_bl))) ds_nil))) ds_nil))))))))))))
    (ds_cons (ds_if (DW.t (dw_or (dt_cmp opr_isnt (DE.toB (de_cal c_words_for_all hr (da_cons (de_tup (da_cons (de_strE [50, 50, 50]) (da_cons (de_strE [50, 48, 50, 50]) (da_cons (de_strE [50, 50, 48, 50]) da_nil)))) da_nil))) (DE.toB de_non) (nomark _)) (dw_or1 (dt_cmp opr_isnt (DE.toB (de_cal c_words_for_all hr (da_cons (de_tup (da_cons (de_strE [50, 50, 48, 50]) (da_cons (de_strE [50, 48, 50, 50]) da_nil))) da_nil))) (DE.toB de_non) (nomark _))))) (ds_one (ds_ret (DE.x de_bl))) ds_nil)
    (ds_one (ds_ret (DE.x (de_and (de_cmp (opr_eq hu) (DE.toB (de_callB cr_len (by rfl) B.len (by decide +kernel) (dab_cons (DE.toB (de_cal c_words_for_all hr (da_cons (de_tup (da_cons (de_strE [50, 50, 50]) (da_cons (de_strE [50, 48, 50, 50]) da_nil))) da_nil))) dab_nil))) (DE.toB de_int) (nomark _)) (de_and (de_cmp (opr_eq hu) (DE.toB (de_cal c_words_for_all hr (da_cons (de_tup (da_cons (de_strE []) da_nil)) da_nil))) (DE.toB (de_tup da_nil)) (nomark _)) (de_one (de_cmp (opr_eq hu) (DE.toB (de_cal c_words_for_all hr (da_cons (de_tup (da_cons (de_strE [55]) da_nil)) da_nil))) (DE.toB (de_tup (da_cons (de_strE [55]) da_nil))) (nomark _))))))))))⟩
end
theorem all_mk {l : PySem.W.OpenLaw} {w : World} {K : PySem.W.Frag} {h : Heap} {mg : Str → Option Value} {fa : Addr} (X : K.In h) (G : h.Ns mainGlobals mg) (hfa : mg "law" = some (.ref fa))
    {f0 : Addr} {od0 an0 : Option Addr} {sl0 : Array (Option Value)} {oc0 kV0 dc0 pm0 cd0 ct0 : Value}
    (a0 : PySem.W.nsIn K mainGlobals "is_ten" = some (some (.ref f0))) (l0 : K.lookup f0 = some ⟨oc0, od0, .func (PySem.W.fnOf "is_ten" "is_ten" (defArgs s_is_ten) (defBody s_is_ten) (defScope s_is_ten) .none kV0 dc0 pm0 an0 cd0 ct0), sl0⟩) (c0 : PySem.W.codeIn K cd0 "is_ten" = true) (k0 : PySem.W.keepIn K (.ref f0) = true)
    {f1 : Addr} {od1 an1 : Option Addr} {sl1 : Array (Option Value)} {oc1 kV1 dc1 pm1 cd1 ct1 : Value}
    (a1 : PySem.W.nsIn K mainGlobals "is_joint" = some (some (.ref f1))) (l1 : K.lookup f1 = some ⟨oc1, od1, .func (PySem.W.fnOf "is_joint" "is_joint" (defArgs s_is_joint) (defBody s_is_joint) (defScope s_is_joint) .none kV1 dc1 pm1 an1 cd1 ct1), sl1⟩) (c1 : PySem.W.codeIn K cd1 "is_joint" = true) (k1 : PySem.W.keepIn K (.ref f1) = true)
    {f2 : Addr} {od2 an2 : Option Addr} {sl2 : Array (Option Value)} {oc2 kV2 dc2 pm2 cd2 ct2 : Value}
    (a2 : PySem.W.nsIn K mainGlobals "digits_of" = some (some (.ref f2))) (l2 : K.lookup f2 = some ⟨oc2, od2, .func (PySem.W.fnOf "digits_of" "digits_of" (defArgs s_digits_of) (defBody s_digits_of) (defScope s_digits_of) .none kV2 dc2 pm2 an2 cd2 ct2), sl2⟩) (c2 : PySem.W.codeIn K cd2 "digits_of" = true) (k2 : PySem.W.keepIn K (.ref f2) = true)
    {f3 : Addr} {od3 an3 : Option Addr} {sl3 : Array (Option Value)} {oc3 kV3 dc3 pm3 cd3 ct3 : Value}
    (a3 : PySem.W.nsIn K mainGlobals "steps" = some (some (.ref f3))) (l3 : K.lookup f3 = some ⟨oc3, od3, .func (PySem.W.fnOf "steps" "steps" (defArgs s_steps) (defBody s_steps) (defScope s_steps) .none kV3 dc3 pm3 an3 cd3 ct3), sl3⟩) (c3 : PySem.W.codeIn K cd3 "steps" = true) (k3 : PySem.W.keepIn K (.ref f3) = true)
    {f4 : Addr} {od4 an4 : Option Addr} {sl4 : Array (Option Value)} {oc4 kV4 dc4 pm4 cd4 ct4 : Value}
    (a4 : PySem.W.nsIn K mainGlobals "fits" = some (some (.ref f4))) (l4 : K.lookup f4 = some ⟨oc4, od4, .func (PySem.W.fnOf "fits" "fits" (defArgs s_fits) (defBody s_fits) (defScope s_fits) .none kV4 dc4 pm4 an4 cd4 ct4), sl4⟩) (c4 : PySem.W.codeIn K cd4 "fits" = true) (k4 : PySem.W.keepIn K (.ref f4) = true)
    {f5 : Addr} {od5 an5 : Option Addr} {sl5 : Array (Option Value)} {oc5 kV5 dc5 pm5 cd5 ct5 : Value}
    (a5 : PySem.W.nsIn K mainGlobals "places" = some (some (.ref f5))) (l5 : K.lookup f5 = some ⟨oc5, od5, .func (PySem.W.fnOf "places" "places" (defArgs s_places) (defBody s_places) (defScope s_places) .none kV5 dc5 pm5 an5 cd5 ct5), sl5⟩) (c5 : PySem.W.codeIn K cd5 "places" = true) (k5 : PySem.W.keepIn K (.ref f5) = true)
    {f6 : Addr} {od6 an6 : Option Addr} {sl6 : Array (Option Value)} {oc6 kV6 dc6 pm6 cd6 ct6 : Value}
    (a6 : PySem.W.nsIn K mainGlobals "changed" = some (some (.ref f6))) (l6 : K.lookup f6 = some ⟨oc6, od6, .func (PySem.W.fnOf "changed" "changed" (defArgs s_changed) (defBody s_changed) (defScope s_changed) .none kV6 dc6 pm6 an6 cd6 ct6), sl6⟩) (c6 : PySem.W.codeIn K cd6 "changed" = true) (k6 : PySem.W.keepIn K (.ref f6) = true)
    {f7 : Addr} {od7 an7 : Option Addr} {sl7 : Array (Option Value)} {oc7 kV7 dc7 pm7 cd7 ct7 : Value}
    (a7 : PySem.W.nsIn K mainGlobals "all_alike" = some (some (.ref f7))) (l7 : K.lookup f7 = some ⟨oc7, od7, .func (PySem.W.fnOf "all_alike" "all_alike" (defArgs s_all_alike) (defBody s_all_alike) (defScope s_all_alike) .none kV7 dc7 pm7 an7 cd7 ct7), sl7⟩) (c7 : PySem.W.codeIn K cd7 "all_alike" = true) (k7 : PySem.W.keepIn K (.ref f7) = true)
    {f8 : Addr} {od8 an8 : Option Addr} {sl8 : Array (Option Value)} {oc8 kV8 dc8 pm8 cd8 ct8 : Value}
    (a8 : PySem.W.nsIn K mainGlobals "common_words" = some (some (.ref f8))) (l8 : K.lookup f8 = some ⟨oc8, od8, .func (PySem.W.fnOf "common_words" "common_words" (defArgs s_common_words) (defBody s_common_words) (defScope s_common_words) .none kV8 dc8 pm8 an8 cd8 ct8), sl8⟩) (c8 : PySem.W.codeIn K cd8 "common_words" = true) (k8 : PySem.W.keepIn K (.ref f8) = true)
    {f9 : Addr} {od9 an9 : Option Addr} {sl9 : Array (Option Value)} {oc9 kV9 dc9 pm9 cd9 ct9 : Value}
    (a9 : PySem.W.nsIn K mainGlobals "changes" = some (some (.ref f9))) (l9 : K.lookup f9 = some ⟨oc9, od9, .func (PySem.W.fnOf "changes" "changes" (defArgs s_changes) (defBody s_changes) (defScope s_changes) .none kV9 dc9 pm9 an9 cd9 ct9), sl9⟩) (c9 : PySem.W.codeIn K cd9 "changes" = true) (k9 : PySem.W.keepIn K (.ref f9) = true)
    {f10 : Addr} {od10 an10 : Option Addr} {sl10 : Array (Option Value)} {oc10 kV10 dc10 pm10 cd10 ct10 : Value}
    (a10 : PySem.W.nsIn K mainGlobals "words_for_all" = some (some (.ref f10))) (l10 : K.lookup f10 = some ⟨oc10, od10, .func (PySem.W.fnOf "words_for_all" "words_for_all" (defArgs s_words_for_all) (defBody s_words_for_all) (defScope s_words_for_all) .none kV10 dc10 pm10 an10 cd10 ct10), sl10⟩) (c10 : PySem.W.codeIn K cd10 "words_for_all" = true) (k10 : PySem.W.keepIn K (.ref f10) = true)
    {f11 : Addr} {od11 an11 : Option Addr} {sl11 : Array (Option Value)} {oc11 kV11 dc11 pm11 cd11 ct11 : Value}
    (a11 : PySem.W.nsIn K mainGlobals "_law_cell" = some (some (.ref f11))) (l11 : K.lookup f11 = some ⟨oc11, od11, .func (PySem.W.fnOf "_law_cell" "_law_cell" (defArgs s__law_cell) (defBody s__law_cell) (defScope s__law_cell) .none kV11 dc11 pm11 an11 cd11 ct11), sl11⟩) (c11 : PySem.W.codeIn K cd11 "_law_cell" = true) (k11 : PySem.W.keepIn K (.ref f11) = true)
    {f12 : Addr} {od12 an12 : Option Addr} {sl12 : Array (Option Value)} {oc12 kV12 dc12 pm12 cd12 ct12 : Value}
    (a12 : PySem.W.nsIn K mainGlobals "_law_digits" = some (some (.ref f12))) (l12 : K.lookup f12 = some ⟨oc12, od12, .func (PySem.W.fnOf "_law_digits" "_law_digits" (defArgs s__law_digits) (defBody s__law_digits) (defScope s__law_digits) .none kV12 dc12 pm12 an12 cd12 ct12), sl12⟩) (c12 : PySem.W.codeIn K cd12 "_law_digits" = true) (k12 : PySem.W.keepIn K (.ref f12) = true)
    {f13 : Addr} {od13 an13 : Option Addr} {sl13 : Array (Option Value)} {oc13 kV13 dc13 pm13 cd13 ct13 : Value}
    (a13 : PySem.W.nsIn K mainGlobals "_law_digits_of" = some (some (.ref f13))) (l13 : K.lookup f13 = some ⟨oc13, od13, .func (PySem.W.fnOf "_law_digits_of" "_law_digits_of" (defArgs s__law_digits_of) (defBody s__law_digits_of) (defScope s__law_digits_of) .none kV13 dc13 pm13 an13 cd13 ct13), sl13⟩) (c13 : PySem.W.codeIn K cd13 "_law_digits_of" = true) (k13 : PySem.W.keepIn K (.ref f13) = true)
    {f14 : Addr} {od14 an14 : Option Addr} {sl14 : Array (Option Value)} {oc14 kV14 dc14 pm14 cd14 ct14 : Value}
    (a14 : PySem.W.nsIn K mainGlobals "_law_is_joint" = some (some (.ref f14))) (l14 : K.lookup f14 = some ⟨oc14, od14, .func (PySem.W.fnOf "_law_is_joint" "_law_is_joint" (defArgs s__law_is_joint) (defBody s__law_is_joint) (defScope s__law_is_joint) .none kV14 dc14 pm14 an14 cd14 ct14), sl14⟩) (c14 : PySem.W.codeIn K cd14 "_law_is_joint" = true) (k14 : PySem.W.keepIn K (.ref f14) = true)
    {f15 : Addr} {od15 an15 : Option Addr} {sl15 : Array (Option Value)} {oc15 kV15 dc15 pm15 cd15 ct15 : Value}
    (a15 : PySem.W.nsIn K mainGlobals "_law_string" = some (some (.ref f15))) (l15 : K.lookup f15 = some ⟨oc15, od15, .func (PySem.W.fnOf "_law_string" "_law_string" (defArgs s__law_string) (defBody s__law_string) (defScope s__law_string) .none kV15 dc15 pm15 an15 cd15 ct15), sl15⟩) (c15 : PySem.W.codeIn K cd15 "_law_string" = true) (k15 : PySem.W.keepIn K (.ref f15) = true)
    {f16 : Addr} {od16 an16 : Option Addr} {sl16 : Array (Option Value)} {oc16 kV16 dc16 pm16 cd16 ct16 : Value}
    (a16 : PySem.W.nsIn K mainGlobals "_law_readings" = some (some (.ref f16))) (l16 : K.lookup f16 = some ⟨oc16, od16, .func (PySem.W.fnOf "_law_readings" "_law_readings" (defArgs s__law_readings) (defBody s__law_readings) (defScope s__law_readings) .none kV16 dc16 pm16 an16 cd16 ct16), sl16⟩) (c16 : PySem.W.codeIn K cd16 "_law_readings" = true) (k16 : PySem.W.keepIn K (.ref f16) = true)
    {f17 : Addr} {od17 an17 : Option Addr} {sl17 : Array (Option Value)} {oc17 kV17 dc17 pm17 cd17 ct17 : Value}
    (a17 : PySem.W.nsIn K mainGlobals "_law_pairs_good" = some (some (.ref f17))) (l17 : K.lookup f17 = some ⟨oc17, od17, .func (PySem.W.fnOf "_law_pairs_good" "_law_pairs_good" (defArgs s__law_pairs_good) (defBody s__law_pairs_good) (defScope s__law_pairs_good) .none kV17 dc17 pm17 an17 cd17 ct17), sl17⟩) (c17 : PySem.W.codeIn K cd17 "_law_pairs_good" = true) (k17 : PySem.W.keepIn K (.ref f17) = true)
    {f18 : Addr} {od18 an18 : Option Addr} {sl18 : Array (Option Value)} {oc18 kV18 dc18 pm18 cd18 ct18 : Value}
    (a18 : PySem.W.nsIn K mainGlobals "law" = some (some (.ref f18))) (l18 : K.lookup f18 = some ⟨oc18, od18, .func (PySem.W.fnOf "law" "law" (defArgs s_law) (defBody s_law) (defScope s_law) .none kV18 dc18 pm18 an18 cd18 ct18), sl18⟩) (c18 : PySem.W.codeIn K cd18 "law" = true) (k18 : PySem.W.keepIn K (.ref f18) = true)
    {tkDIGITS : Tok} (yDIGITS : PySem.W.nsIn K mainGlobals "DIGITS" = some (some (.str "0123456789" tkDIGITS)))
    (zlen : PySem.W.nsIn K mainGlobals "len" = some none)
    (zrange : PySem.W.nsIn K mainGlobals "range" = some none)
    (zenumerate : PySem.W.nsIn K mainGlobals "enumerate" = some none)
    (zzip : PySem.W.nsIn K mainGlobals "zip" = some none)
    (zsorted : PySem.W.nsIn K mainGlobals "sorted" = some none)
    (zset : PySem.W.nsIn K mainGlobals "set" = some none)
    (zlist : PySem.W.nsIn K mainGlobals "list" = some none)
    (ztuple : PySem.W.nsIn K mainGlobals "tuple" = some none)
    (zstr : PySem.W.nsIn K mainGlobals "str" = some none)
    (zint : PySem.W.nsIn K mainGlobals "int" = some none)
    (zbool : PySem.W.nsIn K mainGlobals "bool" = some none)
    (zisinstance : PySem.W.nsIn K mainGlobals "isinstance" = some none)
    (zsum : PySem.W.nsIn K mainGlobals "sum" = some none)
    (zmin : PySem.W.nsIn K mainGlobals "min" = some none)
    (zmax : PySem.W.nsIn K mainGlobals "max" = some none)
    (zall : PySem.W.nsIn K mainGlobals "all" = some none) :
    ∃ fd : FuncData, (∀ (s : Shared) (v : Value), BindsTo s fd ⟨[v], []⟩ [("script", v)]) ∧ ∀ base : Heap, K.In base → base.Ns mainGlobals mg → FnOk l.prog w K mg base CX0 6 fa fd ["script"] (PSp K m_law) := by
  have e := hfa.symm.trans (PySem.W.mg_of X G a18)
  cases e
  have B : Blt mg := ⟨PySem.W.mg_none_of X G zlen, PySem.W.mg_none_of X G zrange, PySem.W.mg_none_of X G zenumerate, PySem.W.mg_none_of X G zzip, PySem.W.mg_none_of X G zsorted, PySem.W.mg_none_of X G zset, PySem.W.mg_none_of X G zlist, PySem.W.mg_none_of X G ztuple, PySem.W.mg_none_of X G zstr, PySem.W.mg_none_of X G zint, PySem.W.mg_none_of X G zbool, PySem.W.mg_none_of X G zisinstance, PySem.W.mg_none_of X G zsum, PySem.W.mg_none_of X G zmin, PySem.W.mg_none_of X G zmax, PySem.W.mg_none_of X G zall⟩
  have g_DIGITS := PySem.W.mg_of X G yDIGITS
  have F0 := fun_mk (st := s_is_ten) l0 c0 k0
  have F1 := fun_mk (st := s_is_joint) l1 c1 k1
  have F2 := fun_mk (st := s_digits_of) l2 c2 k2
  have F3 := fun_mk (st := s_steps) l3 c3 k3
  have F4 := fun_mk (st := s_fits) l4 c4 k4
  have F5 := fun_mk (st := s_places) l5 c5 k5
  have F6 := fun_mk (st := s_changed) l6 c6 k6
  have F7 := fun_mk (st := s_all_alike) l7 c7 k7
  have F8 := fun_mk (st := s_common_words) l8 c8 k8
  have F9 := fun_mk (st := s_changes) l9 c9 k9
  have F10 := fun_mk (st := s_words_for_all) l10 c10 k10
  have F11 := fun_mk (st := s__law_cell) l11 c11 k11
  have F12 := fun_mk (st := s__law_digits) l12 c12 k12
  have F13 := fun_mk (st := s__law_digits_of) l13 c13 k13
  have F14 := fun_mk (st := s__law_is_joint) l14 c14 k14
  have F15 := fun_mk (st := s__law_string) l15 c15 k15
  have F16 := fun_mk (st := s__law_readings) l16 c16 k16
  have F17 := fun_mk (st := s__law_pairs_good) l17 c17 k17
  have F18 := fun_mk (st := s_law) l18 c18 k18
  refine ⟨PySem.W.fnOf "law" "law" (defArgs s_law) (defBody s_law) (defScope s_law) .none kV18 dc18 pm18 an18 cd18 ct18, fun s v => .of_eq rfl, fun base _ _ => ?_⟩
  have q_is_ten : Cal l.prog w K mg base "is_ten" 1 (PSp K m_is_ten) := ⟨_, _, _, ok_is_ten F0 (B := B) (g_DIGITS := g_DIGITS), PySem.W.mg_of X G a0, k0, F0.binds (ps := ["word"]) fun _ _ _ _ _ _ us hl => match us, hl with | [_], _ => rfl⟩
  have q_is_joint : Cal l.prog w K mg base "is_joint" 2 (PSp K m_is_joint) := ⟨_, _, _, ok_is_joint F1 (B := B) (c_is_ten := q_is_ten), PySem.W.mg_of X G a1, k1, F1.binds (ps := ["one", "other"]) fun _ _ _ _ _ _ us hl => match us, hl with | [_, _], _ => rfl⟩
  have q_digits_of : Cal l.prog w K mg base "digits_of" 1 (PSp K m_digits_of) := ⟨_, _, _, ok_digits_of F2, PySem.W.mg_of X G a2, k2, F2.binds (ps := ["word"]) fun _ _ _ _ _ _ us hl => match us, hl with | [_], _ => rfl⟩
  have q_steps : Cal l.prog w K mg base "steps" 1 (PSp K m_steps) := ⟨_, _, _, ok_steps F3 (B := B), PySem.W.mg_of X G a3, k3, F3.binds (ps := ["places", "part", "digits"]) fun _ _ _ _ _ _ us hl => match us, hl with | [_, _, _], _ => rfl⟩
  have q_fits : Cal l.prog w K mg base "fits" 3 (PSp K m_fits) := ⟨_, _, _, ok_fits F4 (B := B) (c_digits_of := q_digits_of) (c_steps := q_steps) (c_is_joint := q_is_joint), PySem.W.mg_of X G a4, k4, F4.binds (ps := ["words", "digits"]) fun _ _ _ _ _ _ us hl => match us, hl with | [_, _], _ => rfl⟩
  have q_places : Cal l.prog w K mg base "places" 1 (PSp K m_places) := ⟨_, _, _, ok_places F5 (B := B) (g_DIGITS := g_DIGITS), PySem.W.mg_of X G a5, k5, F5.binds (ps := ["digits"]) fun _ _ _ _ _ _ us hl => match us, hl with | [_], _ => rfl⟩
  have q_changed : Cal l.prog w K mg base "changed" 1 (PSp K m_changed) := ⟨_, _, _, ok_changed F6, PySem.W.mg_of X G a6, k6, F6.binds (ps := ["digits", "place"]) fun _ _ _ _ _ _ us hl => match us, hl with | [_, _], _ => rfl⟩
  have q_all_alike : CalG l.prog w K mg base "all_alike" 2 (GSp K m_all_alike) := ⟨_, _, _, ok_all_alike F7 (B := B) (c_places := q_places) (c_changed := q_changed), PySem.W.mg_of X G a7, k7, F7.binds (ps := ["digits"]) fun _ _ _ _ _ _ us hl => match us, hl with | [_], _ => rfl⟩
  have q_common_words : Cal l.prog w K mg base "common_words" 1 (PSp K m_common_words) := ⟨_, _, _, ok_common_words F8 (B := B) (g_DIGITS := g_DIGITS), PySem.W.mg_of X G a8, k8, F8.binds (ps := ["one", "other"]) fun _ _ _ _ _ _ us hl => match us, hl with | [_, _], _ => rfl⟩
  have q_changes : Cal l.prog w K mg base "changes" 2 (PSp K m_changes) := ⟨_, _, _, ok_changes F9 (B := B) (c_common_words := q_common_words), PySem.W.mg_of X G a9, k9, F9.binds (ps := ["one", "other"]) fun _ _ _ _ _ _ us hl => match us, hl with | [_, _], _ => rfl⟩
  have q_words_for_all : Cal l.prog w K mg base "words_for_all" 4 (PSp K m_words_for_all) := ⟨_, _, _, ok_words_for_all F10 (B := B) (c_changes := q_changes) (c_fits := q_fits), PySem.W.mg_of X G a10, k10, F10.binds (ps := ["strings"]) fun _ _ _ _ _ _ us hl => match us, hl with | [_], _ => rfl⟩
  have q__law_cell : Cal l.prog w K mg base "_law_cell" 1 (PSp K m__law_cell) := ⟨_, _, _, ok__law_cell F11 (B := B), PySem.W.mg_of X G a11, k11, F11.binds (ps := ["script", "index"]) fun _ _ _ _ _ _ us hl => match us, hl with | [_, _], _ => rfl⟩
  have q__law_digits : Cal l.prog w K mg base "_law_digits" 2 (PSp K m__law_digits) := ⟨_, _, _, ok__law_digits F12 (B := B) (c__law_cell := q__law_cell), PySem.W.mg_of X G a12, k12, F12.binds (ps := ["script", "index", "count", "base"]) fun _ _ _ _ _ _ us hl => match us, hl with | [_, _, _, _], _ => rfl⟩
  have q__law_digits_of : Cal l.prog w K mg base "_law_digits_of" 1 (PSp K m__law_digits_of) := ⟨_, _, _, ok__law_digits_of F13, PySem.W.mg_of X G a13, k13, F13.binds (ps := ["word"]) fun _ _ _ _ _ _ us hl => match us, hl with | [_], _ => rfl⟩
  have q__law_is_joint : Cal l.prog w K mg base "_law_is_joint" 1 (PSp K m__law_is_joint) := ⟨_, _, _, ok__law_is_joint F14 (B := B), PySem.W.mg_of X G a14, k14, F14.binds (ps := ["one", "other"]) fun _ _ _ _ _ _ us hl => match us, hl with | [_, _], _ => rfl⟩
  have q__law_string : Cal l.prog w K mg base "_law_string" 1 (PSp K m__law_string) := ⟨_, _, _, ok__law_string F15, PySem.W.mg_of X G a15, k15, F15.binds (ps := ["digits", "most"]) fun _ _ _ _ _ _ us hl => match us, hl with | [_, _], _ => rfl⟩
  have q__law_readings : Cal l.prog w K mg base "_law_readings" 2 (PSp K m__law_readings) := ⟨_, _, _, ok__law_readings F16 (B := B) (c__law_digits_of := q__law_digits_of) (c__law_is_joint := q__law_is_joint), PySem.W.mg_of X G a16, k16, F16.binds (ps := ["words"]) fun _ _ _ _ _ _ us hl => match us, hl with | [_], _ => rfl⟩
  have q__law_pairs_good : Cal l.prog w K mg base "_law_pairs_good" 2 (PSp K m__law_pairs_good) := ⟨_, _, _, ok__law_pairs_good F17 (c_common_words := q_common_words), PySem.W.mg_of X G a17, k17, F17.binds (ps := ["strings"]) fun _ _ _ _ _ _ us hl => match us, hl with | [_], _ => rfl⟩
  exact ok_law F18 (B := B) (c__law_digits := q__law_digits) (c__law_string := q__law_string) (c_all_alike := q_all_alike) (c__law_pairs_good := q__law_pairs_good) (c_words_for_all := q_words_for_all) (c__law_readings := q__law_readings)
theorem ints_dn {K : PySem.W.Frag} {F : Hp} : ∀ ns : List Int, DnAll K F (ns.map V.int) (ns.map PyData.int)
  | [] => .nil
  | n :: ns => .cons (.int n) (ints_dn ns)
theorem law_in {K : PySem.W.Frag} {H : Hp} {a : Addr} {ns : List Int} (hl : ns.length ≤ 63) (h : SqL K H a (ns.map V.int)) : PSp K m_law [.ref a] H (fun v _ => v = .bl true) fun _ _ _ => False :=
  ⟨H, [.list (ns.map .int)], .bool true, Same.refl H, .cons (.lst h (ints_dn ns)) .nil, m_law_ints hl, fun v F' H' _ d => dn_bool d⟩
end M
open PySem PySem.W PyProof.Rows
set_option maxHeartbeats 0 in
theorem PySem.Challenge.cw_saydigits_k06_whole_one_utterance_for_al_holds : PySem.Challenge.rw_saydigits_k06_whole_one_utterance_for_al.Holds := by
  w_on; o_law; k_head; (case hw => w_witness2)
  k_fill
  refine L2.walk_of (l := PySem.Challenge.rw_saydigits_k06_whole_one_utterance_for_al) (n := 63) (k := 6) (x := "script") (CX := fun _ => L2.CX0) (sp := fun w => M.PSp _ M.m_law) rfl (by decide) rfl ⟨rfl, by decide, by decide⟩ (fun w h Y => PySem.W.kIn_of Y) ?F (fun _ _ a ns hl _ hS => M.law_in hl hS) (fun _ _ _ _ _ h => h)
  case F =>
    intro w mg fa h KX G hmg
    refine' M.all_mk KX G hmg ?a0 ?l0 ?c0 ?k0 ?a1 ?l1 ?c1 ?k1 ?a2 ?l2 ?c2 ?k2 ?a3 ?l3 ?c3 ?k3 ?a4 ?l4 ?c4 ?k4 ?a5 ?l5 ?c5 ?k5 ?a6 ?l6 ?c6 ?k6 ?a7 ?l7 ?c7 ?k7 ?a8 ?l8 ?c8 ?k8 ?a9 ?l9 ?c9 ?k9 ?a10 ?l10 ?c10 ?k10 ?a11 ?l11 ?c11 ?k11 ?a12 ?l12 ?c12 ?k12 ?a13 ?l13 ?c13 ?k13 ?a14 ?l14 ?c14 ?k14 ?a15 ?l15 ?c15 ?k15 ?a16 ?l16 ?c16 ?k16 ?a17 ?l17 ?c17 ?k17 ?a18 ?l18 ?c18 ?k18 ?yDIGITS ?zlen ?zrange ?zenumerate ?zzip ?zsorted ?zset ?zlist ?ztuple ?zstr ?zint ?zbool ?zisinstance ?zsum ?zmin ?zmax ?zall
    (case a0 => k_is); (case l0 => k_is); (case c0 => k_is); (case k0 => k_is); (case a1 => k_is); (case l1 => k_is); (case c1 => k_is); (case k1 => k_is)
    (case a2 => k_is); (case l2 => k_is); (case c2 => k_is); (case k2 => k_is); (case a3 => k_is); (case l3 => k_is); (case c3 => k_is); (case k3 => k_is)
    (case a4 => k_is); (case l4 => k_is); (case c4 => k_is); (case k4 => k_is); (case a5 => k_is); (case l5 => k_is); (case c5 => k_is); (case k5 => k_is)
    (case a6 => k_is); (case l6 => k_is); (case c6 => k_is); (case k6 => k_is); (case a7 => k_is); (case l7 => k_is); (case c7 => k_is); (case k7 => k_is)
    (case a8 => k_is); (case l8 => k_is); (case c8 => k_is); (case k8 => k_is); (case a9 => k_is); (case l9 => k_is); (case c9 => k_is); (case k9 => k_is)
    (case a10 => k_is); (case l10 => k_is); (case c10 => k_is); (case k10 => k_is); (case a11 => k_is); (case l11 => k_is); (case c11 => k_is); (case k11 => k_is)
    (case a12 => k_is); (case l12 => k_is); (case c12 => k_is); (case k12 => k_is); (case a13 => k_is); (case l13 => k_is); (case c13 => k_is); (case k13 => k_is)
    (case a14 => k_is); (case l14 => k_is); (case c14 => k_is); (case k14 => k_is); (case a15 => k_is); (case l15 => k_is); (case c15 => k_is); (case k15 => k_is)
    (case a16 => k_is); (case l16 => k_is); (case c16 => k_is); (case k16 => k_is); (case a17 => k_is); (case l17 => k_is); (case c17 => k_is); (case k17 => k_is)
    (case a18 => k_is); (case l18 => k_is); (case c18 => k_is); (case k18 => k_is); (case yDIGITS => k_is); (case zlen => k_is); (case zrange => k_is); (case zenumerate => k_is)
    (case zzip => k_is); (case zsorted => k_is); (case zset => k_is); (case zlist => k_is); (case ztuple => k_is); (case zstr => k_is); (case zint => k_is); (case zbool => k_is)
    (case zisinstance => k_is); (case zsum => k_is); (case zmin => k_is); (case zmax => k_is); (case zall => k_is)
#print axioms PySem.Challenge.cw_saydigits_k06_whole_one_utterance_for_al_holds
