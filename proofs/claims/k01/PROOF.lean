import PyProof.Rows.All
import Wide.All
import OpenK.AllK
import Wide.FinOn
import HandS.Base
import HandS.Call
import HandS.List
import HandS.Comp
import HandS.Ends
import HandS.Dict
import HandS.Iter
import HandS.Exc
import HandS.Words
import HandS.WordsExc
import HandS.IsInst
import HandS.Conv
import HandS.Wide
import KE.DataEq
import HandS.Defaults
import HandS.TupAny
import HandS.TupMul
import HandS.Deep
import HandS.Style
import HandS.SortInts
import HandS.Walk
import HandS.Zip
import HandS.Flow
import KE.GoesEnum
import HandS.ExcOwn
import HandS.Small
import HandS.ExcInit
import HandS.HeadEnd
import PyProof.ReprRoads
import HandS.HotCalls
import HandS.ExcField
import HandS.ExcIs
import HandS.ExcCtx
import KE.KExcIs
import HandS.Codes
import HandS.HeadHook2
import PyProof.StrLawsRepr
import PyProof.Rows.StrJoinMade
import HandS.Head0
import HandS.Head1
import HandS.Head2
import KE.KStateDown
import PySem.Challenge.RW_flowshifts_k01_errors
set_option Elab.async false
set_option linter.all false
set_option maxRecDepth 100000
set_option maxHeartbeats 4000000
namespace FS
open PySem PySem.Spec PyProof.Rows L2

/-! ### plain values -/
inductive PV where
  | non
  | bl (b : Bool)
  | int (i : Int)
  | str (s : Str)
  | tup (xs : List PV)
  | lst (o : Bool) (xs : List PV)
  | dct (o : Bool) (T : Bool) (ks vs : List PV)
  | ins (c : Str) (ns : List Str) (vs : List PV)
  | gl (x : Str)
  | ty (n : String)
  | pen

/-- not owned at its top -/
def PV.st : PV → Bool
  | .lst o _ => !o
  | .dct o _ _ _ => !o
  | _ => true
mutual
/-- as it is read -/
def PV.fz : PV → PV
  | .lst _ xs => .lst false (PV.fzs xs)
  | .dct _ T ks vs => .dct false T ks (PV.fzs vs)
  | v => v
def PV.fzs : List PV → List PV
  | [] => []
  | x :: xs => PV.fz x :: PV.fzs xs
end

/-! ### runs with draws -/
inductive Out (α : Type) where
  | ok (a : α)
  | exn (c : Str) (ns : List Str) (vs : List PV)
  | bad
inductive Tr (α : Type) where
  | ret (o : Out α)
  | draw (n : Int) (k : Int → Tr α)
def Tr.bind {α β : Type} : Tr α → (α → Tr β) → Tr β
  | .ret (.ok a), f => f a
  | .ret (.exn c ns vs), _ => .ret (.exn c ns vs)
  | .ret .bad, _ => .ret .bad
  | .draw n k, f => .draw n fun i => (k i).bind f
instance : Monad Tr where
  pure a := .ret (.ok a)
  bind := Tr.bind
abbrev Tr.bad {α : Type} : Tr α := .ret .bad
abbrev Tr.ok {α : Type} (a : α) : Tr α := .ret (.ok a)
/-- whatever is drawn -/
def Tr.W {α : Type} (P : Out α → Prop) : Tr α → Prop
  | .ret o => P o
  | .draw n k => 0 < n ∧ ∀ i, 0 ≤ i → i < n → (k i).W P
def Out.K {α β : Type} (P : Out β → Prop) (f : α → Tr β) : Out α → Prop
  | .ok a => (f a).W P
  | .exn c ns vs => P (.exn c ns vs)
  | .bad => P .bad
theorem Tr.W_bind {α β : Type} {P : Out β → Prop} {f : α → Tr β} : ∀ {m : Tr α}, (m.bind f).W P ↔ m.W (Out.K P f)
  | .ret (.ok a) => Iff.rfl
  | .ret (.exn c ns vs) => Iff.rfl
  | .ret .bad => Iff.rfl
  | .draw n k => by
    show (0 < n ∧ ∀ i, 0 ≤ i → i < n → ((k i).bind f).W P) ↔ _
    exact ⟨fun ⟨h, g⟩ => ⟨h, fun i a b => (Tr.W_bind (m := k i)).mp (g i a b)⟩, fun ⟨h, g⟩ => ⟨h, fun i a b => (Tr.W_bind (m := k i)).mpr (g i a b)⟩⟩
theorem Tr.W_imp {α : Type} {P P' : Out α → Prop} (h : ∀ o, P o → P' o) : ∀ {m : Tr α}, m.W P → m.W P'
  | .ret o, x => h o x
  | .draw n k, ⟨a, g⟩ => ⟨a, fun i p q => Tr.W_imp h (g i p q)⟩

/-! ### values in the heap -/
structure Wd where
  P : Program
  w : World
  K : PySem.W.Frag
  mg : Str → Option Value
  base : Heap
  pen : Addr

def kP : Key → PV
  | .inl i => .int i
  | .inr x => .str x
def tP (k : List Key) : PV := .tup (k.map kP)

theorem Same.seqT {K : PySem.W.Frag} {H H' : Hp} {a : Addr} {xs : List V} (e : Same H H') (h : SqT K H a xs) : SqT K H' a xs := by
  rcases h with (h | ⟨o, h⟩) | h
  · exact .inl (.inl (e _ _ h))
  · exact .inl (.inr ⟨o, e _ _ h⟩)
  · exact .inr h
theorem Same.rd {H H' : Hp} {a : Addr} {u : HO} (e : Same H H') (h : Rd H a u) : Rd H' a u := by
  rcases h with h | ⟨o, h⟩
  · exact .inl (e _ _ h)
  · exact .inr ⟨o, e _ _ h⟩

mutual
inductive Rp (W : Wd) (F : Hp) : V → PV → Prop
  | non : Rp W F .non .non
  | bl {b : Bool} : Rp W F (.bl b) (.bl b)
  | int {i : Int} : Rp W F (.int i) (.int i)
  | str {s : Str} : Rp W F (.str s) (.str s)
  | tup {a : Addr} {vs : List V} {xs : List PV} : F a = some (.tup vs) → Rps W F vs xs → Rp W F (.ref a) (.tup xs)
  | lst {a : Addr} {vs : List V} {xs : List PV} : F a = some (.lst vs) → Rps W F vs xs → Rp W F (.ref a) (.lst false xs)
  | dK {a : Addr} {kvs : List (Key × V)} {xs : List PV} : F a = some (.dK kvs) → Rps W F (kvs.map (·.2)) xs → Rp W F (.ref a) (.dct false false (kvs.map fun p => kP p.1) xs)
  | dT {a : Addr} {kvs : List (List Key × V)} {xs : List PV} : F a = some (.dT kvs) → Rps W F (kvs.map (·.2)) xs → Rp W F (.ref a) (.dct false true (kvs.map fun p => tP p.1) xs)
  | ins {a C dx : Addr} {fs : List (Str × V)} {c : Str} {xs : List PV} : F a = some (.ins C dx fs) → W.mg c = some (.ref C) → Rps W F (fs.map (·.2)) xs → Rp W F (.ref a) (.ins c (fs.map (·.1)) xs)
  | gl {x : Str} {a : Addr} : W.mg x = some (.ref a) → Rp W F (.ref a) (.gl x)
  | ty {n : String} : Rp W F (.ty n) (.ty n)
  | pen : Rp W F (.ref W.pen) .pen
inductive Rps (W : Wd) (F : Hp) : List V → List PV → Prop
  | nil : Rps W F [] []
  | cons {v : V} {vs : List V} {x : PV} {xs : List PV} : Rp W F v x → Rps W F vs xs → Rps W F (v :: vs) (x :: xs)
end
mutual
theorem Rp.mono {W : Wd} {F F' : Hp} (e : Same F F') : ∀ {v : V} {x : PV}, Rp W F v x → Rp W F' v x
  | _, _, .non => .non
  | _, _, .bl => .bl
  | _, _, .int => .int
  | _, _, .str => .str
  | _, _, .tup h r => .tup (e _ _ h) (r.mono e)
  | _, _, .lst h r => .lst (e _ _ h) (r.mono e)
  | _, _, .dK h r => .dK (e _ _ h) (r.mono e)
  | _, _, .dT h r => .dT (e _ _ h) (r.mono e)
  | _, _, .ins h c r => .ins (e _ _ h) c (r.mono e)
  | _, _, .gl h => .gl h
  | _, _, .ty => .ty
  | _, _, .pen => .pen
theorem Rps.mono {W : Wd} {F F' : Hp} (e : Same F F') : ∀ {vs : List V} {xs : List PV}, Rps W F vs xs → Rps W F' vs xs
  | _, _, .nil => .nil
  | _, _, .cons h t => .cons (h.mono e) (t.mono e)
end
mutual
theorem Rp.fz {W : Wd} {F : Hp} : ∀ {v : V} {x : PV}, Rp W F v x → x.fz = x
  | _, _, .non => rfl
  | _, _, .bl => rfl
  | _, _, .int => rfl
  | _, _, .str => rfl
  | _, _, .tup _ _ => rfl
  | _, _, .lst _ r => by simp only [PV.fz, r.fzs]
  | _, _, .dK _ r => by simp only [PV.fz, r.fzs]
  | _, _, .dT _ r => by simp only [PV.fz, r.fzs]
  | _, _, .ins _ _ _ => rfl
  | _, _, .gl _ => rfl
  | _, _, .ty => rfl
  | _, _, .pen => rfl
theorem Rps.fzs {W : Wd} {F : Hp} : ∀ {vs : List V} {xs : List PV}, Rps W F vs xs → PV.fzs xs = xs
  | _, _, .nil => rfl
  | _, _, .cons h t => by simp only [PV.fzs, h.fz, t.fzs]
end
theorem Rp.st {W : Wd} {F : Hp} {v : V} {x : PV} (h : Rp W F v x) : x.st = true := by cases h <;> rfl
theorem Rps.length {W : Wd} {F : Hp} : ∀ {vs : List V} {xs : List PV}, Rps W F vs xs → vs.length = xs.length
  | _, _, .nil => rfl
  | _, _, .cons _ t => by simp [t.length]
theorem Rps.get {W : Wd} {F : Hp} : ∀ {vs : List V} {xs : List PV} {i : Nat} {x : PV}, Rps W F vs xs → xs[i]? = some x → ∃ v, vs[i]? = some v ∧ Rp W F v x
  | _, _, _, _, .nil, e => by simp at e
  | _, _, 0, _, .cons h _, e => by simp at e; subst e; exact ⟨_, rfl, h⟩
  | _, _, i + 1, x, .cons _ t, e => by
    obtain ⟨v, h1, h2⟩ := Rps.get (i := i) (x := x) t (by simpa using e)
    exact ⟨v, by simpa using h1, h2⟩
theorem Rps.getV {W : Wd} {F : Hp} : ∀ {vs : List V} {xs : List PV} {i : Nat} {v : V}, Rps W F vs xs → vs[i]? = some v → ∃ x, xs[i]? = some x ∧ Rp W F v x
  | _, _, _, _, .nil, e => by simp at e
  | _, _, 0, _, .cons h _, e => by simp at e; subst e; exact ⟨_, rfl, h⟩
  | _, _, i + 1, v, .cons _ t, e => by
    obtain ⟨x, h1, h2⟩ := Rps.getV (i := i) (v := v) t (by simpa using e)
    exact ⟨x, by simpa using h1, h2⟩
theorem Rps.append {W : Wd} {F : Hp} : ∀ {vs ws : List V} {xs ys : List PV}, Rps W F vs xs → Rps W F ws ys → Rps W F (vs ++ ws) (xs ++ ys)
  | _, _, _, _, .nil, s => s
  | _, _, _, _, .cons h t, s => .cons h (t.append s)
theorem Rps.take {W : Wd} {F : Hp} : ∀ {vs : List V} {xs : List PV} (n : Nat), Rps W F vs xs → Rps W F (vs.take n) (xs.take n)
  | _, _, 0, _ => by simp; exact .nil
  | _, _, _ + 1, .nil => .nil
  | _, _, n + 1, .cons h t => .cons h (t.take n)
theorem Rps.drop {W : Wd} {F : Hp} : ∀ {vs : List V} {xs : List PV} (n : Nat), Rps W F vs xs → Rps W F (vs.drop n) (xs.drop n)
  | _, _, 0, r => r
  | _, _, _ + 1, .nil => .nil
  | _, _, n + 1, .cons _ t => t.drop n

/-- the heap but the pen -/
def np (W : Wd) (H : Hp) : Hp := fun a => if a = W.pen then none else H a
theorem np_ne {W : Wd} {H : Hp} {a : Addr} (h : a ≠ W.pen) : np W H a = H a := if_neg h

mutual
/-- a value that may own lists and dicts: those at the addresses fp -/
inductive Ro (W : Wd) (F H : Hp) : V → PV → List Addr → Prop
  | st {v : V} {x : PV} : Rp W F v x → Ro W F H v x []
  | lst {a : Addr} {vs : List V} {xs : List PV} {fp : List Addr} : H a = some (.lst vs) → F a = none → a ≠ W.pen → Ros W F H vs xs fp → a ∉ fp → Ro W F H (.ref a) (.lst true xs) (a :: fp)
  | dK {a : Addr} {kvs : List (Key × V)} {xs : List PV} {fp : List Addr} : H a = some (.dK kvs) → F a = none → a ≠ W.pen → Ros W F H (kvs.map (·.2)) xs fp → a ∉ fp → Ro W F H (.ref a) (.dct true false (kvs.map fun p => kP p.1) xs) (a :: fp)
  | dT {a : Addr} {kvs : List (List Key × V)} {xs : List PV} {fp : List Addr} : H a = some (.dT kvs) → F a = none → a ≠ W.pen → Ros W F H (kvs.map (·.2)) xs fp → a ∉ fp → Ro W F H (.ref a) (.dct true true (kvs.map fun p => tP p.1) xs) (a :: fp)
inductive Ros (W : Wd) (F H : Hp) : List V → List PV → List Addr → Prop
  | nil : Ros W F H [] [] []
  | cons {v : V} {vs : List V} {x : PV} {xs : List PV} {f g : List Addr} : Ro W F H v x f → Ros W F H vs xs g → (∀ a ∈ f, a ∉ g) → Ros W F H (v :: vs) (x :: xs) (f ++ g)
end
theorem Rps.ros {W : Wd} {F H : Hp} : ∀ {vs : List V} {xs : List PV}, Rps W F vs xs → Ros W F H vs xs []
  | _, _, .nil => .nil
  | _, _, .cons h t => .cons (.st h) t.ros (fun _ z => by simp at z)
theorem Ro.stable {W : Wd} {F H : Hp} {v : V} {x : PV} {fp : List Addr} (r : Ro W F H v x fp) (h : x.st = true) : Rp W F v x := by
  cases r with
  | st r => exact r
  | lst => cases h
  | dK => cases h
  | dT => cases h
theorem Ros.length {W : Wd} {F H : Hp} : ∀ {vs : List V} {xs : List PV} {fp : List Addr}, Ros W F H vs xs fp → vs.length = xs.length
  | _, _, _, .nil => rfl
  | _, _, _, .cons _ t _ => by simp [t.length]
theorem Ros.stable {W : Wd} {F H : Hp} : ∀ {vs : List V} {xs : List PV} {fp : List Addr}, Ros W F H vs xs fp → xs.all PV.st = true → Rps W F vs xs
  | _, _, _, .nil, _ => .nil
  | _, _, _, .cons h t _, e => by
    simp only [List.all_cons, Bool.and_eq_true] at e
    exact .cons (h.stable e.1) (t.stable e.2)
mutual
/-- what it owns is in the heap, free in F, no pen -/
theorem Ro.own {W : Wd} {F H : Hp} : ∀ {v : V} {x : PV} {fp : List Addr}, Ro W F H v x fp → ∀ a ∈ fp, (∃ o, H a = some o) ∧ F a = none ∧ a ≠ W.pen
  | _, _, _, .st _, a, h => by simp at h
  | _, _, _, .lst e f n r _, b, h => by
    rcases List.mem_cons.mp h with rfl | h
    · exact ⟨⟨_, e⟩, f, n⟩
    · exact r.own b h
  | _, _, _, .dK e f n r _, b, h => by
    rcases List.mem_cons.mp h with rfl | h
    · exact ⟨⟨_, e⟩, f, n⟩
    · exact r.own b h
  | _, _, _, .dT e f n r _, b, h => by
    rcases List.mem_cons.mp h with rfl | h
    · exact ⟨⟨_, e⟩, f, n⟩
    · exact r.own b h
theorem Ros.own {W : Wd} {F H : Hp} : ∀ {vs : List V} {xs : List PV} {fp : List Addr}, Ros W F H vs xs fp → ∀ a ∈ fp, (∃ o, H a = some o) ∧ F a = none ∧ a ≠ W.pen
  | _, _, _, .nil, a, h => by simp at h
  | _, _, _, .cons r t _, a, h => by
    rcases List.mem_append.mp h with h | h
    · exact r.own a h
    · exact t.own a h
end
mutual
/-- carried to other heaps that agree on what is owned -/
theorem Ro.carry {W : Wd} {F H F' H' : Hp} (e : Same F F') : ∀ {v : V} {x : PV} {fp : List Addr}, Ro W F H v x fp → (∀ a ∈ fp, H' a = H a ∧ F' a = none) → Ro W F' H' v x fp
  | _, _, _, .st r, _ => .st (r.mono e)
  | _, _, _, .lst (a := a) h f n r na, k => .lst ((k a (by simp)).1.trans h) (k a (by simp)).2 n (r.carry e fun b hb => k b (by simp [hb])) na
  | _, _, _, .dK (a := a) h f n r na, k => .dK ((k a (by simp)).1.trans h) (k a (by simp)).2 n (r.carry e fun b hb => k b (by simp [hb])) na
  | _, _, _, .dT (a := a) h f n r na, k => .dT ((k a (by simp)).1.trans h) (k a (by simp)).2 n (r.carry e fun b hb => k b (by simp [hb])) na
theorem Ros.carry {W : Wd} {F H F' H' : Hp} (e : Same F F') : ∀ {vs : List V} {xs : List PV} {fp : List Addr}, Ros W F H vs xs fp → (∀ a ∈ fp, H' a = H a ∧ F' a = none) → Ros W F' H' vs xs fp
  | _, _, _, .nil, _ => .nil
  | _, _, _, .cons r t d, k => .cons (r.carry e fun b hb => k b (by simp [hb])) (t.carry e fun b hb => k b (by simp [hb])) d
end
/-- F with what H has at fp -/
def adj (F H : Hp) (fp : List Addr) : Hp := fun a => if a ∈ fp then H a else F a
theorem adj_in {F H : Hp} {fp : List Addr} {a : Addr} (h : a ∈ fp) : adj F H fp a = H a := if_pos h
theorem adj_out {F H : Hp} {fp : List Addr} {a : Addr} (h : a ∉ fp) : adj F H fp a = F a := if_neg h
theorem adj_same {F H : Hp} {fp : List Addr} (h : ∀ a ∈ fp, F a = none) : Same F (adj F H fp) := fun a o e => by
  rw [adj_out]
  · exact e
  · intro z
    rw [h a z] at e
    cases e
theorem adj_mono {F H : Hp} {fp fq : List Addr} (h : ∀ a ∈ fp, a ∈ fq) (k : ∀ a ∈ fq, F a = none) : Same (adj F H fp) (adj F H fq) := fun a o e => by
  by_cases z : a ∈ fp
  · rw [adj_in (h a z)]
    rwa [adj_in z] at e
  · rw [adj_out z] at e
    by_cases y : a ∈ fq
    · rw [k a y] at e
      cases e
    · rw [adj_out y]
      exact e
mutual
theorem Ro.frozen {W : Wd} {F H : Hp} : ∀ {v : V} {x : PV} {fp : List Addr}, Ro W F H v x fp → Rp W (adj F H fp) v x.fz
  | _, _, _, .st r => by
    rw [r.fz]
    exact r.mono (adj_same fun _ z => by simp at z)
  | _, _, _, .lst (a := a) (fp := fp) h f n r na => by
    have k : ∀ b ∈ a :: fp, F b = none := fun b hb => by
      rcases List.mem_cons.mp hb with rfl | hb
      · exact f
      · exact (r.own b hb).2.1
    simp only [PV.fz]
    exact .lst ((adj_in (by simp)).trans h) (r.frozen.mono (adj_mono (fun b hb => by simp [hb]) k))
  | _, _, _, .dK (a := a) (fp := fp) h f n r na => by
    have k : ∀ b ∈ a :: fp, F b = none := fun b hb => by
      rcases List.mem_cons.mp hb with rfl | hb
      · exact f
      · exact (r.own b hb).2.1
    simp only [PV.fz]
    exact .dK ((adj_in (by simp)).trans h) (r.frozen.mono (adj_mono (fun b hb => by simp [hb]) k))
  | _, _, _, .dT (a := a) (fp := fp) h f n r na => by
    have k : ∀ b ∈ a :: fp, F b = none := fun b hb => by
      rcases List.mem_cons.mp hb with rfl | hb
      · exact f
      · exact (r.own b hb).2.1
    simp only [PV.fz]
    exact .dT ((adj_in (by simp)).trans h) (r.frozen.mono (adj_mono (fun b hb => by simp [hb]) k))
theorem Ros.frozen {W : Wd} {F H : Hp} : ∀ {vs : List V} {xs : List PV} {fp : List Addr}, Ros W F H vs xs fp → Rps W (adj F H fp) vs (PV.fzs xs)
  | _, _, _, .nil => .nil
  | _, _, _, .cons (f := f) (g := g) r t d => by
    have k : ∀ b ∈ f ++ g, F b = none := fun b hb => by
      rcases List.mem_append.mp hb with hb | hb
      · exact (r.own b hb).2.1
      · exact (t.own b hb).2.1
    simp only [PV.fzs]
    exact .cons (r.frozen.mono (adj_mono (fun b hb => by simp [hb]) k)) (t.frozen.mono (adj_mono (fun b hb => by simp [hb]) k))
end
theorem adj_np {W : Wd} {F H : Hp} {fp : List Addr} (s : Same F H) (p : F W.pen = none) (h : ∀ a ∈ fp, a ≠ W.pen) : Same (adj F H fp) (np W H) := fun a o e => by
  by_cases z : a ∈ fp
  · rw [adj_in z] at e
    rw [np_ne (h a z)]
    exact e
  · rw [adj_out z] at e
    rw [np_ne, s a o e]
    rintro rfl
    rw [p] at e
    cases e
/-- read where it stands -/
theorem Ro.read {W : Wd} {F H : Hp} {v : V} {x : PV} {fp : List Addr} (r : Ro W F H v x fp) (s : Same F H) (p : F W.pen = none) : Rp W (np W H) v x.fz :=
  r.frozen.mono (adj_np s p fun a h => (r.own a h).2.2)

/-! ### the pen -/
def penKvs (l : Addr) (at_ digits count fold : Int) : List (Key × V) :=
  [(.inr "cells", .ref l), (.inr "at", .int at_), (.inr "digits", .int digits), (.inr "count", .int count), (.inr "fold", .int fold)]
/-- the pen stands, its cells frozen -/
structure PenOk (W : Wd) (F H : Hp) : Prop where
  ex : ∃ (l : Addr) (cells : List Int) (at_ digits count fold : Int), H W.pen = some (.dK (penKvs l at_ digits count fold)) ∧ SqL W.K F l (cells.map V.int) ∧ cells.length ≤ 63 ∧ 0 ≤ at_ ∧ 0 ≤ digits ∧ 0 ≤ fold ∧ fold < 2147483647 ∧ 0 ≤ count ∧ at_ ≤ 63
  out : F W.pen = none

/-- the base of all: F the frozen, H all that is tracked -/
structure Good (W : Wd) (F H : Hp) : Prop where
  sub : Same F H
  pen : PenOk W F H
structure Ext (W : Wd) (F H F' H' : Hp) : Prop where
  f : Same F F'
  h : ∀ a o, a ≠ W.pen → H a = some o → H' a = some o
  n : ∀ a, F' a ≠ none → F a ≠ none ∨ H a = none
  g : Good W F' H'
theorem PenOk.there {W : Wd} {F H : Hp} (p : PenOk W F H) : ∃ o, H W.pen = some o := let ⟨_, _, _, _, _, _, h, _⟩ := p.ex; ⟨_, h⟩
theorem Ext.refl {W : Wd} {F H : Hp} (g : Good W F H) : Ext W F H F H := ⟨fun _ _ e => e, fun _ _ _ e => e, fun _ h => .inl h, g⟩
/-- fresh behind is fresh ahead -/
theorem Ext.free {W : Wd} {F H F' H' : Hp} (e : Ext W F H F' H') {a : Addr} (h : H' a = none) : H a = none := by
  cases q : H a with
  | none => rfl
  | some o =>
    by_cases z : a = W.pen
    · obtain ⟨u, hu⟩ := e.g.pen.there
      rw [z, hu] at h
      cases h
    · rw [e.h a o z q] at h
      cases h
theorem Ext.trans {W : Wd} {F H F1 H1 F2 H2 : Hp} (a : Ext W F H F1 H1) (b : Ext W F1 H1 F2 H2) : Ext W F H F2 H2 where
  f := fun x o e => b.f x o (a.f x o e)
  h := fun x o n e => b.h x o n (a.h x o n e)
  n := fun x h => by
    rcases b.n x h with h | h
    · exact a.n x h
    · exact .inr (a.free h)
  g := b.g
theorem Ext.own {W : Wd} {F H F' H' : Hp} (e : Ext W F H F' H') {a : Addr} {o : HO} (h : H a = some o) (f : F a = none) (n : a ≠ W.pen) : H' a = H a ∧ F' a = none := by
  refine ⟨(e.h a o n h).trans h.symm, ?_⟩
  cases q : F' a with
  | none => rfl
  | some u =>
    rcases e.n a (by rw [q]; simp) with z | z
    · exact absurd f z
    · rw [h] at z
      cases z
theorem Ro.ext {W : Wd} {F H F' H' : Hp} (e : Ext W F H F' H') {v : V} {x : PV} {fp : List Addr} (r : Ro W F H v x fp) : Ro W F' H' v x fp :=
  r.carry e.f fun a h => let ⟨⟨o, q⟩, f, n⟩ := r.own a h; e.own q f n
theorem Ros.ext {W : Wd} {F H F' H' : Hp} (e : Ext W F H F' H') {v : List V} {x : List PV} {fp : List Addr} (r : Ros W F H v x fp) : Ros W F' H' v x fp :=
  r.carry e.f fun a h => let ⟨⟨o, q⟩, f, n⟩ := r.own a h; e.own q f n
theorem Ext.np {W : Wd} {F H F' H' : Hp} (e : Ext W F H F' H') : Same (np W H) (np W H') := fun a o q => by
  by_cases z : a = W.pen
  · rw [z] at q
    unfold FS.np at q
    rw [if_pos rfl] at q
    cases q
  · rw [np_ne z] at q ⊢
    exact e.h a o z q
theorem Good.np {W : Wd} {F H : Hp} (g : Good W F H) : Same F (np W H) := fun a o q => by
  rw [np_ne, g.sub a o q]
  rintro rfl
  rw [g.pen.out] at q
  cases q
/-- an object is laid: of a new address -/
theorem Good.laid {W : Wd} {F H : Hp} (g : Good W F H) {a : Addr} {o : HO} (h : H a = none) : Ext W F H F (upd H a o) where
  f := fun _ _ e => e
  h := fun b u _ e => by
    rw [upd_ne (ne_of_none e h)]
    exact e
  n := fun _ h => .inl h
  g := ⟨fun b u e => by
    rw [upd_ne (ne_of_none (g.sub b u e) h)]
    exact g.sub b u e, by
    obtain ⟨⟨l, cs, x1, x2, x3, x4, q, r⟩, out⟩ := g.pen
    refine ⟨⟨l, cs, x1, x2, x3, x4, ?_, r⟩, out⟩
    rw [upd_ne (ne_of_none q h)]
    exact q⟩
theorem PenOk.mono {W : Wd} {F F' H : Hp} (p : PenOk W F H) (e : Same F F') (h : F' W.pen = none) : PenOk W F' H := by
  obtain ⟨⟨l, cs, x1, x2, x3, x4, q, r, k⟩, out⟩ := p
  exact ⟨⟨l, cs, x1, x2, x3, x4, q, Same.seq e r, k⟩, h⟩
/-- .. and frozen -/
theorem Good.laidF {W : Wd} {F H : Hp} (g : Good W F H) {a : Addr} {o : HO} (h : H a = none) : Ext W F H (upd F a o) (upd H a o) := by
  have fa : F a = none := by
    cases q : F a with
    | none => rfl
    | some u =>
      rw [g.sub a u q] at h
      cases h
  have e := g.laid (o := o) h
  have s : Same F (upd F a o) := fun b u q => by
    rw [upd_ne (ne_of_none q fa)]
    exact q
  have np : W.pen ≠ a := by
    intro z
    obtain ⟨u, hu⟩ := g.pen.there
    rw [z, h] at hu
    cases hu
  refine ⟨s, e.h, fun b hb => ?_, ⟨fun b u q => ?_, e.g.pen.mono s ?_⟩⟩
  · by_cases z : b = a
    · exact .inr (z ▸ h)
    · rw [upd_ne z] at hb
      exact .inl hb
  · by_cases z : b = a
    · subst z
      rw [upd_same] at q ⊢
      exact q
    · rw [upd_ne z] at q ⊢
      exact g.sub b u q
  · rw [upd_ne np]
    exact g.pen.out
/-- what is owned is frozen -/
theorem Good.freeze {W : Wd} {F H : Hp} (g : Good W F H) {fp : List Addr} (h : ∀ a ∈ fp, F a = none ∧ a ≠ W.pen) : Good W (adj F H fp) H := by
  have s : Same F (adj F H fp) := adj_same fun a z => (h a z).1
  refine ⟨fun b u q => ?_, g.pen.mono s ?_⟩
  · by_cases z : b ∈ fp
    · rwa [adj_in z] at q
    · rw [adj_out z] at q
      exact g.sub b u q
  · rw [adj_out (fun z => (h _ z).2 rfl)]
    exact g.pen.out
/-- frozen: F0, H0 ahead of its making -/
theorem Ext.freeze {W : Wd} {F0 H0 F H : Hp} (e : Ext W F0 H0 F H) {fp : List Addr} (h : ∀ a ∈ fp, F a = none ∧ a ≠ W.pen) (n : ∀ a ∈ fp, H0 a = none) : Ext W F0 H0 (adj F H fp) H where
  f := fun a o q => adj_same (fun a z => (h a z).1) a o (e.f a o q)
  h := e.h
  n := fun a q => by
    by_cases z : a ∈ fp
    · exact .inr (n a z)
    · rw [adj_out z] at q
      exact e.n a q
  g := e.g.freeze h

/-! ### the slots -/
abbrev Loc := List (Option PV)
inductive EnvR (W : Wd) (F H : Hp) : L2.St → Loc → List Addr → Prop
  | nil : EnvR W F H [] [] []
  | none {o : Option V} {σ : L2.St} {ρ : Loc} {fp : List Addr} : EnvR W F H σ ρ fp → EnvR W F H (o :: σ) (.none :: ρ) fp
  | some {v : V} {x : PV} {σ : L2.St} {ρ : Loc} {f g : List Addr} : Ro W F H v x f → EnvR W F H σ ρ g → (∀ a ∈ f, a ∉ g) → EnvR W F H (.some v :: σ) (.some x :: ρ) (f ++ g)
theorem EnvR.length {W : Wd} {F H : Hp} : ∀ {σ : L2.St} {ρ : Loc} {fp : List Addr}, EnvR W F H σ ρ fp → σ.length = ρ.length
  | _, _, _, .nil => rfl
  | _, _, _, .none t => by simp [t.length]
  | _, _, _, .some _ t _ => by simp [t.length]
theorem EnvR.own {W : Wd} {F H : Hp} : ∀ {σ : L2.St} {ρ : Loc} {fp : List Addr}, EnvR W F H σ ρ fp → ∀ a ∈ fp, (∃ o, H a = .some o) ∧ F a = .none ∧ a ≠ W.pen
  | _, _, _, .nil, a, h => by simp at h
  | _, _, _, .none t, a, h => t.own a h
  | _, _, _, .some r t _, a, h => by
    rcases List.mem_append.mp h with h | h
    · exact r.own a h
    · exact t.own a h
theorem EnvR.carry {W : Wd} {F H F' H' : Hp} (e : Same F F') : ∀ {σ : L2.St} {ρ : Loc} {fp : List Addr}, EnvR W F H σ ρ fp → (∀ a ∈ fp, H' a = H a ∧ F' a = .none) → EnvR W F' H' σ ρ fp
  | _, _, _, .nil, _ => .nil
  | _, _, _, .none t, k => .none (t.carry e k)
  | _, _, _, .some r t d, k => .some (r.carry e fun b hb => k b (by simp [hb])) (t.carry e fun b hb => k b (by simp [hb])) d
theorem EnvR.ext {W : Wd} {F H F' H' : Hp} (e : Ext W F H F' H') {σ : L2.St} {ρ : Loc} {fp : List Addr} (r : EnvR W F H σ ρ fp) : EnvR W F' H' σ ρ fp :=
  r.carry e.f fun a h => let ⟨⟨o, q⟩, f, n⟩ := r.own a h; e.own q f n
theorem EnvR.get {W : Wd} {F H : Hp} : ∀ {σ : L2.St} {ρ : Loc} {fp : List Addr} {i : Nat} {x : PV}, EnvR W F H σ ρ fp → ρ[i]? = .some (.some x) → ∃ v f, σ[i]? = .some (.some v) ∧ Ro W F H v x f ∧ ∀ a ∈ f, a ∈ fp
  | _, _, _, _, _, .nil, e => by simp at e
  | _, _, _, 0, _, .none _, e => by simp at e
  | _, _, _, 0, _, .some r _ _, e => by
    simp at e
    subst e
    exact ⟨_, _, rfl, r, fun a h => by simp [h]⟩
  | _, _, _, i + 1, x, .none t, e => by
    obtain ⟨v, f, h1, h2, h3⟩ := EnvR.get (i := i) (x := x) t (by simpa using e)
    exact ⟨v, f, by simpa using h1, h2, h3⟩
  | _, _, _, i + 1, x, .some _ t _, e => by
    obtain ⟨v, f, h1, h2, h3⟩ := EnvR.get (i := i) (x := x) t (by simpa using e)
    exact ⟨v, f, by simpa using h1, h2, fun a h => by simp [h3 a h]⟩

theorem EnvR.nodes {W : Wd} {F H : Hp} {σ : L2.St} {ρ : Loc} {fp : List Addr} (r : EnvR W F H σ ρ fp) {i : Nat} (h : ρ[i]? = .some .none) : i < σ.length := by
  rw [r.length]
  exact (List.getElem?_eq_some_iff.mp h).1
/-- a slot forgotten -/
theorem EnvR.drop {W : Wd} {F H : Hp} : ∀ {σ : L2.St} {ρ : Loc} {fp : List Addr} (i : Nat) (o : Option V), EnvR W F H σ ρ fp → ∃ fq, EnvR W F H (σ.set i o) (ρ.set i .none) fq ∧ ∀ a ∈ fq, a ∈ fp
  | _, _, _, _, _, .nil => ⟨[], .nil, fun _ h => h⟩
  | _, _, _, 0, _, .none t => ⟨_, .none t, fun _ h => h⟩
  | _, _, _, 0, _, .some _ t _ => ⟨_, .none t, fun a h => by simp [h]⟩
  | _, _, _, i + 1, o, .none t => by
    obtain ⟨fq, h, k⟩ := t.drop i o
    exact ⟨fq, .none h, k⟩
  | _, _, _, i + 1, o, .some r t d => by
    obtain ⟨fq, h, k⟩ := t.drop i o
    exact ⟨_, .some r h (fun a z y => d a z (k a y)), fun a z => by
      rcases List.mem_append.mp z with z | z
      · simp [z]
      · simp [k a z]⟩
/-- a slot stored: a fresh value -/
theorem EnvR.put {W : Wd} {F H : Hp} {v : V} {x : PV} {f : List Addr} (r : Ro W F H v x f) : ∀ {σ : L2.St} {ρ : Loc} {fp : List Addr} (i : Nat), EnvR W F H σ ρ fp → (∀ a ∈ f, a ∉ fp) → ∃ fq, EnvR W F H (σ.set i (.some v)) (ρ.set i (.some x)) fq ∧ ∀ a ∈ fq, a ∈ f ∨ a ∈ fp
  | _, _, _, _, .nil, _ => ⟨[], .nil, fun _ h => by simp at h⟩
  | _, _, _, 0, .none t, d => ⟨_, .some r t d, fun a h => List.mem_append.mp h⟩
  | _, _, _, 0, .some _ t _, d => ⟨_, .some r t (fun a h z => d a h (by simp [z])), fun a h => by
      rcases List.mem_append.mp h with h | h
      · exact .inl h
      · exact .inr (by simp [h])⟩
  | _, _, _, i + 1, .none t, d => by
    obtain ⟨fq, h, k⟩ := EnvR.put r i t d
    exact ⟨fq, .none h, k⟩
  | _, _, _, i + 1, .some q t e, d => by
    obtain ⟨fq, h, k⟩ := EnvR.put r i t (fun a z y => d a z (by simp [y]))
    refine ⟨_, .some q h (fun a z y => ?_), fun a z => ?_⟩
    · rcases k a y with y | y
      · exact d a y (by simp [z])
      · exact e a z y
    · rcases List.mem_append.mp z with z | z
      · exact .inr (by simp [z])
      · rcases k a z with z | z
        · exact .inl z
        · exact .inr (by simp [z])
/-- a slot taken out: its value's own, the others' -/
theorem EnvR.split {W : Wd} {F H : Hp} : ∀ {σ : L2.St} {ρ : Loc} {fp : List Addr} {i : Nat} {x : PV}, EnvR W F H σ ρ fp → ρ[i]? = .some (.some x) →
    ∃ v f g, σ[i]? = .some (.some v) ∧ Ro W F H v x f ∧ (∀ o, EnvR W F H (σ.set i o) (ρ.set i .none) g) ∧ (∀ a ∈ f, a ∉ g) ∧ ∀ a, a ∈ fp ↔ a ∈ f ∨ a ∈ g
  | _, _, _, _, _, .nil, e => by simp at e
  | _, _, _, 0, _, .none _, e => by simp at e
  | _, _, _, 0, _, .some r t d, e => by
    simp at e
    subst e
    exact ⟨_, _, _, rfl, r, fun _ => .none t, d, fun a => List.mem_append⟩
  | _, _, _, i + 1, x, .none t, e => by
    obtain ⟨v, f, g, h1, h2, h3, h4, h5⟩ := EnvR.split (i := i) (x := x) t (by simpa using e)
    exact ⟨v, f, g, by simpa using h1, h2, fun o => .none (h3 o), h4, h5⟩
  | _, _, _, i + 1, x, .some (f := q) r t d, e => by
    obtain ⟨v, f, g, h1, h2, h3, h4, h5⟩ := EnvR.split (i := i) (x := x) t (by simpa using e)
    refine ⟨v, f, q ++ g, by simpa using h1, h2, fun o => .some r (h3 o) (fun a z y => d a z ((h5 a).mpr (.inr y))), fun a z y => ?_, fun a => ?_⟩
    · rcases List.mem_append.mp y with y | y
      · exact d a y ((h5 a).mpr (.inl z))
      · exact h4 a z y
    · rw [List.mem_append, List.mem_append, h5 a]
      constructor
      · rintro (h | h | h)
        · exact .inr (.inl h)
        · exact .inl h
        · exact .inr (.inr h)
      · rintro (h | h | h)
        · exact .inr (.inl h)
        · exact .inl h
        · exact .inr (.inr h)
end FS

set_option Elab.async false
set_option linter.all false
set_option maxRecDepth 100000
set_option maxHeartbeats 8000000
namespace FS
open PySem PySem.Spec PyProof.Rows L2

/-! ### defs that are entered with no guard above them -/
def Gd (A : Around) : Prop := A.guards = some []
structure FnG (P : Program) (w : World) (K : PySem.W.Frag) (mg : Str → Option Value) (base : Heap) (C : CXT) (k : Nat) (f : Addr) (fd : FuncData) (ps : List Str) (sp : Sp) : Prop where
  len : ∀ vs H Q E, sp vs H Q E → vs.length = ps.length
  run : ∀ (A : Around) (outer : List Env) (s : Shared) (H : Hp) (args : Args) (us : List Value) (vs : List V) (Q : VK) (E : XK), Gd A → Room k A → Env0 P w K mg base A outer s H → BindsTo s fd args (ps.zip us) → Vals vs us → sp vs H Q E →
    codeAny (model P w) A (.call (.ref f) args) (CR C outer P w H s Q E) s
section
variable {P : Program} {w : World} {K : PySem.W.Frag} {mg : Str → Option Value} {base : Heap} {C : CXT} {j k : Nat} {f : Addr} {fd : FuncData} {ps : List Str} {sp sp' : Sp}
theorem FnG.ofOk (F : FnOk P w K mg base C k f fd ps sp) : FnG P w K mg base C k f fd ps sp := ⟨F.len, fun A outer s H args us vs Q E _ hr => F.run A outer s H args us vs Q E hr⟩
theorem FnG.mono (F : FnG P w K mg base C j f fd ps sp) (h : j ≤ k) : FnG P w K mg base C k f fd ps sp := ⟨F.len, fun A outer s H args us vs Q E hg hr => F.run A outer s H args us vs Q E hg (hr.mono h)⟩
theorem FnG.imp (F : FnG P w K mg base C k f fd ps sp) (h : ∀ vs H Q E, sp' vs H Q E → sp vs H Q E) : FnG P w K mg base C k f fd ps sp' :=
  ⟨fun vs H Q E q => F.len vs H Q E (h _ _ _ _ q), fun A outer s H args us vs Q E hg hr he hb hv hs => F.run A outer s H args us vs Q E hg hr he hb hv (h _ _ _ _ hs)⟩
end
section
variable {X : Cx} {C : CXT} {k : Nat} {f : Addr} {fd : FuncData} {ps : List Str} {sp : Sp} {E : XK} {x : Str} {p pos : Pos} {e : Expr} {es : List Expr} {t : TA}
theorem run_fnG {pins : List (Addr × Obj)} {σ : L2.St} {H : Hp} {s : Shared} {Q : VK} {us : List Value} {vs : List V} (F : FnG X.prog X.w X.K X.mg X.base (L2.CX X.prog X.w) k f fd ps sp) (gd : Gd X.A) (hr : Room k X.A) (hb : Binds X.K fd ps []) (hx : Passes (L2.CX X.prog X.w) X E)
    (I : Inv X pins σ H s) (r : Vals vs us) (h : sp vs H Q E) : wpAny (model X.prog X.w) X.A (call (.ref f) us) (EP X pins σ Q) X.xe s := by
  have hl : (us ++ []).length = ps.length := by
    rw [List.append_nil, ← r.length]
    exact F.len _ _ _ _ h
  have bb := hb s us I.kIn hl
  rw [List.append_nil] at bb
  refine wpAny_call (codeAny_mono (F.run X.A X.stack s H ⟨us, []⟩ us vs Q E gd hr I.env0 bb r h) fun r s' hq => ?_)
  cases r with
  | error er => exact hx pins σ H s er s' I hq
  | ok fl => cases fl with
    | ret u => exact I.after hq
    | _ => exact False.elim hq
theorem pe_callG (F : FnG X.prog X.w X.K X.mg X.base (L2.CX X.prog X.w) k f fd ps sp) (gd : Gd X.A) (hr : Room k X.A) (hg : Gl X x) (hm : X.mg x = some (.ref f)) (hk : PySem.W.keepIn X.K (.ref f) = true) (hb : Binds X.K fd ps []) (hx : Passes (L2.CX X.prog X.w) X E)
    (ha : PA X (e :: es) t) (hdb : (x == ("__debug__" : Str)) = false) (he : starEach (e :: es) X.env = (false, eval e X.env) :: starEach es X.env) (hpl : (backTo pos (starEach es X.env)).any (·.1) = false) :
    PE X (.Call (.Name x p) (e :: es) [] pos) (fun σ H Q => t σ H fun vs H1 => sp vs H1 Q E) :=
  ⟨fun pins s σ H Q I h => wpAny_Call_Name_kw (ld_glob I hg hm (PySem.W.callWith_K (h₀ := X.base) I.ok.mod.kin hk (thn (ha.run pos pins s σ H _ I h) fun us s1 ⟨vs, H1, I1, r, q⟩ => ⟨I1.kIn, run_fnG F gd hr hb hx I1 r q⟩) he hpl) hdb)⟩
theorem pe_call0G (F : FnG X.prog X.w X.K X.mg X.base (L2.CX X.prog X.w) k f fd ps sp) (gd : Gd X.A) (hr : Room k X.A) (hg : Gl X x) (hm : X.mg x = some (.ref f)) (hk : PySem.W.keepIn X.K (.ref f) = true) (hb : Binds X.K fd ps []) (hx : Passes (L2.CX X.prog X.w) X E)
    (hdb : (x == ("__debug__" : Str)) = false) : PE X (.Call (.Name x p) [] [] pos) (fun σ H Q => sp [] H Q E) :=
  ⟨fun pins s σ H Q I h => wpAny_Call_Name_kw (ld_glob I hg hm (PySem.W.callWith_K0 I.kIn hk (run_fnG (us := []) F gd hr hb hx I .nil h)) hdb)⟩
end
/-- a def by its body -/
theorem fn_ofG {C : CXT} {P : Program} {w : World} {K : PySem.W.Frag} {mg : Str → Option Value} {base : Heap} {k : Nat} {f : Addr} {x qual : Str} {params : Arguments} {body : List Stmt} {scope : Scope} {fd : FuncData} {N ps : List Str} {sp : Sp} (F : FunD K x qual params body scope [] [] f fd) (S : FnScope N ps scope)
    (len : ∀ vs H Q E, sp vs H Q E → vs.length = ps.length)
    (hbody : ∀ (cdv : Value) (A : Around) (outer : List Env) (s : Shared) (H : Hp) (vs : List V) (Q : VK) (E : XK), Gd (A.deeper (envOfC qual scope s.heap.objs.size f cdv)) → Room k (A.deeper (envOfC qual scope s.heap.objs.size f cdv)) → sp vs H Q E →
      ∃ t, PSs (cxOf C P w K mg base N qual scope f cdv A outer s H E) body t ∧ t { nx := fun _ H' => Q .non H', rt := Q } (L2.start N vs) H) : FnG P w K mg base C (k + 1) f fd ps sp := by
  obtain ⟨oc, od, dV, kV, doc, pm, an, cdv, ct, osl, rfl, lk, hcd, _, _⟩ := F.ex
  refine ⟨len, fun A outer s H args us vs Q E hg hr e0 hb r hsp => ?_⟩
  have hl := len _ _ _ _ hsp
  have old : ∀ b o, base.get? b = some o → s.heap.get? b = some o := fun b o e => (e0.bs b o e).1
  have kin : K.In s.heap := e0.mod.kin.keeps old
  have hkind : ∀ y ∈ ps.zip us, scope.names.lookup y.1 = some .local ∨ (scope.names.lookup y.1 = some .cell ∧ ((cellsFrom (s.heap.objs.size + 1) scope.names []).lookup y.1).isSome = true) := by
    rintro ⟨n, v⟩ hy
    exact (S.par n (List.of_mem_zip hy).1).imp id fun q => ⟨q, PySem.W.cellsFrom_some _ _ _ (.inl q)⟩
  refine codeAny_call_function hr.depth (kin _ _ lk) rfl S.co S.gen rfl (PySem.W.codeRec_of kin hcd) (hb _ _ _ _ (wpAny_newFunctionEnv_cells S.kind hkind fun env he s1 z => ?_))
  subst he
  obtain ⟨t, ht, hq⟩ := hbody cdv A outer s H vs Q E hg (hr.deeper _) hsp
  refine ⟨(e0.mod.nolimit.keeps old).keeps z.toInCall.keep, codeAny_func (wpAny_mono (ht.run [] s1 (L2.start N vs) H _ (inv_start S hr.hd e0 hl r z) hq) (fun fl s' hs => ?_) fun e s' hs => hs)⟩
  cases fl with
  | ret u => exact let ⟨v, σ', H', J, rv, q⟩ := hs; ⟨v, H', J.os, J.bare, J.base, J.hok, rv, q⟩
  | next => exact let ⟨σ', H', J, q⟩ := hs; ⟨V.non, H', J.os, J.bare, J.base, J.hok, rfl, q⟩
  | brk => exact let ⟨_, _, _, q⟩ := hs; False.elim q
  | cont => exact let ⟨_, _, _, q⟩ := hs; False.elim q
end FS

set_option Elab.async false
set_option linter.all false
set_option maxRecDepth 100000
set_option maxHeartbeats 4000000
namespace FS
open PySem PySem.Spec PyProof.Rows L2

/-! ### results of expressions: borrowed (a slot's own is in it) or not -/
abbrev Rv := Bool × PV
/-- for storing: stable or one's own -/
def mov (r : Rv) : Option PV := if r.1 && !r.2.st then none else some r.2
/-- frozen for keeping -/
def take (r : Rv) : Option PV := if r.1 && !r.2.st then none else some r.2.fz
/-- read, its items to be kept -/
def shal (r : Rv) : Option PV := match r with
  | (false, x) => some x.fz
  | (true, .lst true xs) => if xs.all PV.st then some (.lst false xs) else none
  | (true, .dct true T ks vs) => if vs.all PV.st then some (.dct false T ks vs) else none
  | (true, x) => some x
def Tr.ofO {α : Type} : Option α → Tr α
  | some a => .ok a
  | none => .bad

mutual
def PV.data : PV → Option PyData
  | .non => some .none
  | .bl b => some (.bool b)
  | .int i => some (.int i)
  | .str s => some (.str s)
  | .tup xs => (PV.datas xs).map .tuple
  | .lst _ xs => (PV.datas xs).map .list
  | _ => none
def PV.datas : List PV → Option (List PyData)
  | [] => some []
  | x :: xs => match PV.data x, PV.datas xs with
    | some d, some ds => some (d :: ds)
    | _, _ => none
end
def PV.sdata (x : PV) : Option PyData := match x.data with
  | some d => if d.depth ≤ 64 then some d else none
  | none => none
def intsP : List PV → Option (List Int)
  | [] => some []
  | .int i :: xs => (intsP xs).map (i :: ·)
  | _ => none
def boolsP : List PV → Option (List Bool)
  | [] => some []
  | .bl b :: xs => (boolsP xs).map (b :: ·)
  | _ => none
def keyOf : PV → Option Key
  | .int i => some (.inl i)
  | .str s => some (.inr s)
  | _ => none
def keysOf : List PV → Option (List Key)
  | [] => some []
  | x :: xs => match keyOf x, keysOf xs with
    | some k, some ks => some (k :: ks)
    | _, _ => none
/-- equal as keys (kinds apart) -/
def PV.keq : PV → PV → Bool
  | .int i, .int j => decide (i = j)
  | .str s, .str t => decide (s = t)
  | .tup xs, .tup ys => (match keysOf xs, keysOf ys with
    | some a, some b => decide (a = b)
    | _, _ => false)
  | _, _ => false
def isKey (T : Bool) (x : PV) : Bool := match T, x with
  | false, .int _ => true
  | false, .str _ => true
  | true, .tup xs => (keysOf xs).isSome
  | _, _ => false
/-- the value at a key -/
def getP : List PV → List PV → PV → Option PV
  | k :: ks, v :: vs, x => if PV.keq k x then some v else getP ks vs x
  | _, _, _ => none
def putV : List PV → List PV → PV → PV → List PV
  | k :: ks, v :: vs, x, y => (if PV.keq k x then y else v) :: putV ks vs x y
  | _, _, _, _ => []
def putP (ks vs : List PV) (x y : PV) : List PV × List PV :=
  if ks.any (PV.keq · x) then (ks, putV ks vs x y) else (ks ++ [x], vs ++ [y])

/-! ### operations -/
inductive BOp where
  | add | sub | mul | fdiv | mod | pow
inductive COp where
  | lt | le | gt | ge | eq | ne | in_ | notin
def mulOk (i j : Int) : Bool := decide (i.natAbs.log2 + j.natAbs.log2 < 1000000)
def binS (op : BOp) (x y : PV) : Option PV := match op, x, y with
  | .add, .int i, .int j => some (.int (i + j))
  | .sub, .int i, .int j => some (.int (i - j))
  | .mul, .int i, .int j => if mulOk i j then some (.int (i * j)) else none
  | .fdiv, .int i, .int j => if 0 < j ∧ j.natAbs.log2 < 9000 then some (.int (i / j)) else none
  | .mod, .int i, .int j => if 0 < j then some (.int (i % j)) else none
  | .pow, .int i, .int j => if 0 ≤ j ∧ j ≤ 1000000 ∧ i.natAbs < 2 ^ 64 then some (.int (i ^ j.toNat)) else none
  | .add, .str s, .str t => if s.length + t.length ≤ sizeLine then some (.str (s ++ t)) else none
  | .add, .tup xs, .tup ys => if xs.length + ys.length ≤ sizeLine then some (.tup (xs ++ ys)) else none
  | .add, .lst _ xs, .lst _ ys => if xs.length + ys.length ≤ sizeLine then some (.lst true (xs ++ ys)) else none
  | .mul, .lst _ xs, .int k => if -(2 ^ 63) ≤ k ∧ k < 2 ^ 63 ∧ xs.length * k.toNat ≤ sizeLine then some (.lst true (List.replicate k.toNat xs).flatten) else none
  | .mul, .tup xs, .int k => if xs ≠ [] ∧ 2 ≤ k ∧ k ≤ 1000 ∧ xs.length ≤ 1000 then some (.tup (List.replicate k.toNat xs).flatten) else none
  | _, _, _ => none
def cmpS (op : COp) (x y : PV) : Option Bool := match op, x, y with
  | .lt, .int i, .int j => some (decide (i < j))
  | .le, .int i, .int j => some (decide (i ≤ j))
  | .gt, .int i, .int j => some (decide (j < i))
  | .ge, .int i, .int j => some (decide (j ≤ i))
  | .in_, x, .dct _ T ks vs => if isKey T x then some (getP ks vs x).isSome else none
  | .notin, x, .dct _ T ks vs => if isKey T x then some (!(getP ks vs x).isSome) else none
  | .eq, x, y => (match x.sdata, y.sdata with
    | some d, some e => some (PyData.eqv d e)
    | _, _ => none)
  | .ne, x, y => (match x.sdata, y.sdata with
    | some d, some e => some (!PyData.eqv d e)
    | _, _ => none)
  | .in_, x, .lst _ ys => (match x.sdata, (PV.lst false ys).sdata with
    | some d, some (.list es) => some (es.any fun z => PyData.eqv z d)
    | _, _ => none)
  | .notin, x, .lst _ ys => (match x.sdata, (PV.lst false ys).sdata with
    | some d, some (.list es) => some (!es.any fun z => PyData.eqv z d)
    | _, _ => none)
  | .in_, x, .tup ys => (match x.sdata, (PV.tup ys).sdata with
    | some d, some (.tuple es) => some (es.any fun z => PyData.eqv z d)
    | _, _ => none)
  | .notin, x, .tup ys => (match x.sdata, (PV.tup ys).sdata with
    | some d, some (.tuple es) => some (!es.any fun z => PyData.eqv z d)
    | _, _ => none)
  | _, _, _ => none
/-- a value's truth -/
def truS : PV → Option Bool
  | .non => some false
  | .bl b => some b
  | .int i => some (i != 0)
  | .lst _ xs => some (!xs.isEmpty)
  | .tup xs => some (!xs.isEmpty)
  | _ => none
def cut {α : Type} (xs : List α) (lo hi : Option Int) : List α := (xs.drop (HT.sIx xs.length 0 lo)).take (HT.sIx xs.length xs.length hi - HT.sIx xs.length 0 lo)
def sliS (x : PV) (lo hi : Option Int) : Option PV := match x with
  | .lst _ xs => some (.lst true (cut xs lo hi))
  | .tup xs => some (.tup (cut xs lo hi))
  | _ => none
/-- an item, as it stands in its container -/
def subS (x i : PV) : Option PV := match x, i with
  | .lst _ xs, .int k => atI xs k
  | .tup xs, .int k => atI xs k
  | .dct _ T ks vs, k => if isKey T k then getP ks vs k else none
  | _, _ => none
inductive Blt where
  | len | int | list | tuple | sum | max | min | abs | sorted | any | all
def bltS (b : Blt) (rs : List Rv) : Option PV := match b, rs with
  | .len, [r] => (match r.2 with
    | .lst _ xs => some (.int xs.length)
    | .tup xs => some (.int xs.length)
    | _ => none)
  | .int, [r] => (match r.2 with
    | .int i => some (.int i)
    | .bl b => some (.int (if b then 1 else 0))
    | _ => none)
  | .list, [r] => (match shal r with
    | some (.lst _ xs) => some (.lst true xs)
    | some (.tup xs) => some (.lst true xs)
    | _ => none)
  | .tuple, [r] => (match shal r with
    | some (.lst _ xs) => some (.tup xs)
    | some (.tup xs) => some (.tup xs)
    | _ => none)
  | .sum, [r] => (match r.2 with
    | .lst _ xs => (intsP xs).map fun ns => .int ns.sum
    | _ => none)
  | .max, [r, q] => (match r.2, q.2 with
    | .int i, .int j => some (.int (if j > i then j else i))
    | _, _ => none)
  | .min, [r, q] => (match r.2, q.2 with
    | .int i, .int j => some (.int (if j < i then j else i))
    | _, _ => none)
  | .abs, [r] => (match r.2 with
    | .int i => some (.int (if i < 0 then -i else i))
    | _ => none)
  | .any, [r] => (match r.2 with
    | .lst _ xs => (boolsP xs).map fun bs => .bl (bs.any id)
    | _ => none)
  | .all, [r] => (match r.2 with
    | .lst _ xs => (boolsP xs).map fun bs => .bl (bs.all id)
    | _ => none)
  | _, _ => none

/-! ### the syntax -/
inductive Tg where
  | v (i : Nat)
  | t (is : List Nat)
def bindTs : List Nat → List PV → Loc → Option Loc
  | [], [], ρ => some ρ
  | i :: is, x :: xs, ρ => bindTs is xs (ρ.set i (some x))
  | _, _, _ => none
def bindTg (t : Tg) (x : PV) (ρ : Loc) : Option Loc := match t with
  | .v i => some (ρ.set i (some x))
  | .t is => (match x with
    | .tup xs => bindTs is xs ρ
    | _ => none)
def wipeL (ρ : Loc) : List Nat → Loc
  | [] => ρ
  | v :: vs => (wipeL ρ vs).set v none
abbrev Fn := List PV → Tr PV
/-- a form of one's own: where its parts stand (each in its scope), what it does with them -/
structure Prim where
  chk : Scope → Expr → Option (List (Scope × Expr))
  m : List (Loc → Tr Rv) → Loc → Tr Rv
structure PrimI where
  chk : Scope → Expr → Expr → Option (List (Scope × Expr))
  m : List (Loc → Tr Rv) → Loc → Tr (Bool × List PV)
mutual
inductive Ex where
  | var (i : Nat)
  | gl (x : Str)
  | gi (x : Str) (i : Int)
  | ty (n : String)
  | non
  | bl (b : Bool)
  | int (i : Int)
  | str (s : Str)
  | bin (op : BOp) (a b : Ex)
  | neg (a : Ex)
  | cmp (op : COp) (a b : Ex)
  | chn (o o' : COp) (a b c : Ex)
  | isN (ng : Bool) (a : Ex)
  | isB (ng : Bool) (a b : Ex)
  | nt (a : Ex)
  | an (a r : Ex)
  | orr (a r : Ex)
  | one (a : Ex)
  | ife (c : Te) (a b : Ex)
  | call (f : Str) (n : Nat) (m : Fn) (es : Exs)
  | blt (b : Blt) (es : Exs)
  | listR (a : Ex)
  | isi (a : Ex) (ts : List String)
  | sub (a i : Ex)
  | sli (a : Ex) (lo hi : OEx)
  | tup (es : Exs)
  | lst (es : Exs)
  | dnew (T : Bool)
  | comp (elt : Ex) (tg : Tg) (it : ItX) (cond : Te) (own : List (Str × Nat))
  | prim (q : Prim) (es : Exs)
inductive Exs where
  | nil
  | cons (e : Ex) (es : Exs)
inductive Te where
  | yes
  | tru (e : Ex)
  | cmp (op : COp) (a b : Ex)
  | chn (o o' : COp) (a b c : Ex)
  | isN (ng : Bool) (a : Ex)
  | isB (ng : Bool) (a b : Ex)
  | nt (t : Te)
  | an (t r : Te)
  | orr (t r : Te)
  | one (t : Te)
inductive OEx where
  | none
  | some (e : Ex)
inductive ItX where
  | seq (e : Ex)
  | rng (a : Ex)
  | rng2 (a b : Ex)
  | enum (e : Ex)
  | zip (a b : Ex)
  | prim (q : PrimI) (es : Exs)
end

/-! ### what it does -/
def rangeL (a b : Int) : List PV := (List.range (b - a).toNat).map fun i => .int (a + (i : Nat))
/-- what is walked: its items, and whether it stands however slots change -/
def seqS (r : Rv) : Option (Bool × List PV) := match shal r with
  | some (.lst _ xs) => some (!r.1 || r.2.st, xs)
  | some (.tup xs) => some (true, xs)
  | _ => none
def zipS (r q : Rv) (z : List PV → List PV → List PV) : Option (Bool × List PV) := match shal r, shal q with
  | some (.lst _ xs), some (.lst _ ys) => some ((!r.1 || r.2.st) && (!q.1 || q.2.st), z xs ys)
  | some (.tup xs), some (.tup ys) => some (true, z xs ys)
  | _, _ => none
def zipP : List PV → List PV → List PV
  | x :: xs, y :: ys => .tup [x, y] :: zipP xs ys
  | _, _ => []
def enumP : Nat → List PV → List PV
  | _, [] => []
  | i, x :: xs => .tup [.int i, x] :: enumP (i + 1) xs
/-- the loop of a comprehension -/
def Tr.nx {α : Type} : Tr α → Tr α
  | .ret (.exn _ _ _) => .ret .bad
  | .ret o => .ret o
  | .draw n k => .draw n fun i => (k i).nx
def compL (tg : Tg) (ρ : Loc) (f : Loc → Tr (Option PV)) : List PV → List PV → Tr (List PV)
  | [], acc => .ok acc
  | x :: xs, acc => match bindTg tg x ρ with
    | none => .bad
    | some ρ' => (f ρ').nx.bind fun o => match o with
      | none => compL tg ρ f xs acc
      | some y => compL tg ρ f xs (acc ++ [y])
def rngOk (a b : Int) : Bool := decide (-(2 ^ 62) ≤ a) && decide (a < 2 ^ 62) && (decide (-(2 ^ 62) ≤ b) && decide (b < 2 ^ 62))
def vB (x : PV) : Tr Rv := .ok (false, x)
def ofV (o : Option PV) : Tr Rv := match o with
  | some x => .ok (false, x)
  | none => .bad
def ofB (o : Option Bool) : Tr Rv := match o with
  | some b => .ok (false, .bl b)
  | none => .bad
def takes : List Rv → Option (List PV)
  | [] => some []
  | r :: rs => match take r, takes rs with
    | some x, some xs => some (x :: xs)
    | _, _ => none
def movs : List Rv → Option (List PV)
  | [] => some []
  | r :: rs => match mov r, movs rs with
    | some x, some xs => some (x :: xs)
    | _, _ => none
def tyName : PV → Option String
  | .non => some "NoneType"
  | .bl _ => some "bool"
  | .int _ => some "int"
  | .str _ => some "str"
  | .tup _ => some "tuple"
  | .lst _ _ => some "list"
  | .dct _ _ _ _ => some "dict"
  | _ => none
def isT (n t : String) : Bool := n == t || (n == "bool" && t == "int")
mutual
def evE : Ex → Loc → Tr Rv
  | .var i, ρ => (match ρ[i]? with
    | some (some x) => .ok (true, x)
    | _ => .bad)
  | .gl x, _ => vB (.gl x)
  | .gi _ i, _ => vB (.int i)
  | .ty n, _ => vB (.ty n)
  | .non, _ => vB .non
  | .bl b, _ => vB (.bl b)
  | .int i, _ => vB (.int i)
  | .str s, _ => vB (.str s)
  | .bin op a b, ρ => (evE a ρ).bind fun ra => (evE b ρ).bind fun rb => match shal ra, shal rb with
    | some x, some y => ofV (binS op x y)
    | _, _ => .bad
  | .neg a, ρ => (evE a ρ).bind fun ra => match ra.2 with
    | .int i => vB (.int (-i))
    | _ => .bad
  | .cmp op a b, ρ => (evE a ρ).bind fun ra => (evE b ρ).bind fun rb => ofB (cmpS op ra.2.fz rb.2.fz)
  | .chn o o' a b c, ρ => (evE a ρ).bind fun ra => (evE b ρ).bind fun rb => match cmpS o ra.2.fz rb.2.fz with
    | some true => (evE c ρ).bind fun rc => ofB (cmpS o' rb.2.fz rc.2.fz)
    | some false => vB (.bl false)
    | none => .bad
  | .isN ng a, ρ => (evE a ρ).bind fun ra => match ra.2 with
    | .non => vB (.bl (!ng))
    | _ => vB (.bl ng)
  | .isB ng a b, ρ => (evE a ρ).bind fun ra => (evE b ρ).bind fun rb => match ra.2, rb.2 with
    | .bl p, .bl q => vB (.bl (if ng then !decide (p = q) else decide (p = q)))
    | _, _ => .bad
  | .nt a, ρ => (evE a ρ).bind fun ra => match truS ra.2 with
    | some b => vB (.bl (!b))
    | none => .bad
  | .an a r, ρ => (evE a ρ).bind fun ra => match ra.2 with
    | .bl true => evE r ρ
    | .bl false => vB (.bl false)
    | _ => .bad
  | .orr a r, ρ => (evE a ρ).bind fun ra => match ra.2 with
    | .bl false => evE r ρ
    | .bl true => vB (.bl true)
    | _ => .bad
  | .one a, ρ => evE a ρ
  | .ife c a b, ρ => (evT c ρ).bind fun k => if k then evE a ρ else evE b ρ
  | .call _ n m es, ρ => (evs es ρ).bind fun rs => match takes rs with
    | some xs => if xs.length = n then (m xs).bind fun x => vB x else .bad
    | none => .bad
  | .blt b es, ρ => (evs es ρ).bind fun rs => ofV (bltS b rs)
  | .listR a, ρ => (evE a ρ).bind fun ra => match ra.2 with
    | .int j => if 0 ≤ j ∧ j ≤ 16777216 then vB (.lst true (rangeL 0 j)) else .bad
    | _ => .bad
  | .isi a ts, ρ => (evE a ρ).bind fun ra => match tyName ra.2 with
    | some n => vB (.bl (ts.any (isT n)))
    | none => .bad
  | .sub a i, ρ => (evE a ρ).bind fun ra => (evE i ρ).bind fun ri => match subS ra.2 ri.2.fz with
    | some x => .ok (ra.1, if ra.1 then x else x.fz)
    | none => .bad
  | .sli a lo hi, ρ => (evE a ρ).bind fun ra => (evO lo ρ).bind fun l => (evO hi ρ).bind fun h => match shal ra with
    | some x => ofV (sliS x l h)
    | none => .bad
  | .tup es, ρ => (evs es ρ).bind fun rs => match takes rs with
    | some xs => if xs.length ≤ 100000 then vB (.tup xs) else .bad
    | none => .bad
  | .lst es, ρ => (evs es ρ).bind fun rs => match movs rs with
    | some xs => if xs.length ≤ 100000 then vB (.lst true xs) else .bad
    | none => .bad
  | .dnew T, _ => vB (.dct true T [] [])
  | .comp elt tg it cond own, ρ => (evI it ρ).bind fun p =>
      if p.2.length < sizeLine then
        (compL tg (wipeL ρ (own.map (·.2))) (fun ρ' => (evT cond ρ').bind fun k => if k then (evE elt ρ').bind fun r => (match mov r with | some y => .ok (some y) | none => .bad) else .ok none) p.2 []).bind fun ys => vB (.lst true ys)
      else .bad
  | .prim q es, ρ => q.m (evl es) ρ
def evs : Exs → Loc → Tr (List Rv)
  | .nil, _ => .ok []
  | .cons e es, ρ => (evE e ρ).bind fun r => (evs es ρ).bind fun rs => .ok (r :: rs)
def evl : Exs → List (Loc → Tr Rv)
  | .nil => []
  | .cons e es => (fun ρ => evE e ρ) :: evl es
def evO : OEx → Loc → Tr (Option Int)
  | .none, _ => .ok none
  | .some e, ρ => (evE e ρ).bind fun r => match r.2 with
    | .int i => .ok (some i)
    | _ => .bad
def evI : ItX → Loc → Tr (Bool × List PV)
  | .seq e, ρ => (evE e ρ).bind fun r => Tr.ofO (seqS r)
  | .rng a, ρ => (evE a ρ).bind fun r => match r.2 with
    | .int j => if rngOk 0 j then .ok (true, rangeL 0 j) else .bad
    | _ => .bad
  | .rng2 a b, ρ => (evE a ρ).bind fun r => (evE b ρ).bind fun q => match r.2, q.2 with
    | .int i, .int j => if rngOk i j then .ok (true, rangeL i j) else .bad
    | _, _ => .bad
  | .enum e, ρ => (evE e ρ).bind fun r => match seqS r with
    | some (b, xs) => .ok (b, enumP 0 xs)
    | none => .bad
  | .zip a b, ρ => (evE a ρ).bind fun r => (evE b ρ).bind fun q => Tr.ofO (zipS r q zipP)
  | .prim q es, ρ => q.m (evl es) ρ
/-- a test -/
def evT : Te → Loc → Tr Bool
  | .yes, _ => .ok true
  | .tru e, ρ => (evE e ρ).bind fun r => Tr.ofO (truS r.2)
  | .cmp op a b, ρ => (evE a ρ).bind fun ra => (evE b ρ).bind fun rb => Tr.ofO (cmpS op ra.2.fz rb.2.fz)
  | .chn o o' a b c, ρ => (evE a ρ).bind fun ra => (evE b ρ).bind fun rb => match cmpS o ra.2.fz rb.2.fz with
    | some true => (evE c ρ).bind fun rc => Tr.ofO (cmpS o' rb.2.fz rc.2.fz)
    | some false => .ok false
    | none => .bad
  | .isN ng a, ρ => (evE a ρ).bind fun ra => match ra.2 with
    | .non => .ok (!ng)
    | _ => .ok ng
  | .isB ng a b, ρ => (evE a ρ).bind fun ra => (evE b ρ).bind fun rb => match ra.2, rb.2 with
    | .bl p, .bl q => .ok (if ng then !decide (p = q) else decide (p = q))
    | _, _ => .bad
  | .nt a, ρ => (evT a ρ).bind fun k => .ok (!k)
  | .an a r, ρ => (evT a ρ).bind fun k => if k then evT r ρ else .ok false
  | .orr a r, ρ => (evT a ρ).bind fun k => if k then .ok true else evT r ρ
  | .one a, ρ => evT a ρ
end
end FS

set_option Elab.async false
set_option linter.all false
set_option maxRecDepth 100000
set_option maxHeartbeats 4000000
namespace FS
open PySem PySem.Spec PyProof.Rows L2

structure CxOk (W : Wd) (k : Nat) (N : List Str) (sc : Scope) (E : XK) (X : Cx) : Prop where
  prog : X.prog = W.P
  w : X.w = W.w
  K : X.K = W.K
  mg : X.mg = W.mg
  base : X.base = W.base
  nd : N.Nodup
  N : X.N = N
  sc : X.env.scope = sc
  calm : X.calm = true
  room : Room k X.A
  pass : Passes (L2.CX X.prog X.w) X E
  gd : Gd X.A
theorem CxOk.ndX {W : Wd} {k : Nat} {N : List Str} {sc : Scope} {E : XK} {X : Cx} (c : CxOk W k N sc E X) : X.N.Nodup := by rw [c.N]; exact c.nd
theorem CxOk.hu {W : Wd} {k : Nat} {N : List Str} {sc : Scope} {E : XK} {X : Cx} (c : CxOk W k N sc E X) : X.A.units + 100 < cLine := by have := c.room.un; omega

/-- how an exception lies: its dict d, new behind H -/
def ExR (W : Wd) (F' H' H : Hp) : Option Addr → List Str → List PV → Prop
  | none, ns, xs => ns = [] ∧ xs = []
  | some d, ns, xs => H d = none ∧ ∃ fs, H' d = some (.xd fs) ∧ fs.map (·.1) = ns ∧ Rps W F' (fs.map (·.2)) xs
def ExP (W : Wd) (E : XK) (F H : Hp) (c : Str) (ns : List Str) (xs : List PV) : Prop :=
  ∀ (F' H' : Hp) (C : Addr) (d : Option Addr), Ext W F H F' H' → W.mg c = some (.ref C) → ExR W F' H' H d ns xs → E (.ref C) d H'
/-- a result as it stands -/
def RR (W : Wd) (fe : List Addr) (F H H0 : Hp) (r : Rv) (v : V) : Prop := ∃ fp, Ro W F H v r.2 fp ∧ (r.1 = false → ∀ a ∈ fp, H0 a = none) ∧ (r.1 = true → ∀ a ∈ fp, a ∈ fe)
def PostE (W : Wd) (E : XK) (fe : List Addr) (F H : Hp) (Q : VK) : Out Rv → Prop
  | .ok r => ∀ (F' H' : Hp) (v : V), Ext W F H F' H' → RR W fe F' H' H r v → Q v H'
  | .exn c ns xs => ExP W E F H c ns xs
  | .bad => False
/-- the reading of an expression that does m -/
def tE (W : Wd) (E : XK) (m : Loc → Tr Rv) : TE := fun σ H Q => ∃ F ρ fp, Good W F H ∧ EnvR W F H σ ρ fp ∧ (m ρ).W (PostE W E fp F H Q)
def PX (W : Wd) (k : Nat) (N : List Str) (sc : Scope) (x : Expr) (m : Loc → Tr Rv) : Prop := ∀ (X : Cx) (E : XK), CxOk W k N sc E X → PE X x (tE W E m)
theorem PE.imp {X : Cx} {e : Expr} {t t' : TE} (h : PE X e t) (i : ∀ σ H Q, t' σ H Q → t σ H Q) : PE X e t' := ⟨fun pins s σ H Q I q => h.run pins s σ H Q I (i _ _ _ q)⟩
theorem PT.imp {X : Cx} {e : Expr} {t t' : TT} (h : PT X e t) (i : ∀ σ H Q, t' σ H Q → t σ H Q) : PT X e t' := ⟨fun pins s σ H Q I q => h.run pins s σ H Q I (i _ _ _ q)⟩
theorem PA.imp {X : Cx} {e : List Expr} {t t' : TA} (h : PA X e t) (i : ∀ σ H Q, t' σ H Q → t σ H Q) : PA X e t' := ⟨fun pos pins s σ H Q I q => h.run pos pins s σ H Q I (i _ _ _ q)⟩

theorem RR.back {W : Wd} {fe : List Addr} {F H H0 H1 F0 F1 : Hp} {r : Rv} {v : V} (e : Ext W F0 H0 F1 H1) (x : RR W fe F H H1 r v) : RR W fe F H H0 r v :=
  let ⟨fp, q, n, m⟩ := x; ⟨fp, q, fun h a ha => e.free (n h a ha), m⟩
theorem ExP.ext {W : Wd} {E : XK} {F H F1 H1 : Hp} {c : Str} {ns : List Str} {xs : List PV} (e : Ext W F H F1 H1) (x : ExP W E F H c ns xs) : ExP W E F1 H1 c ns xs := fun F' H' C d e' hc r => by
  refine x F' H' C d (e.trans e') hc ?_
  cases d with
  | none => exact r
  | some d => exact ⟨e.free r.1, r.2⟩
theorem PostE.ext {W : Wd} {E : XK} {fe : List Addr} {F H F1 H1 : Hp} {Q : VK} (e : Ext W F H F1 H1) {o : Out Rv} (x : PostE W E fe F H Q o) : PostE W E fe F1 H1 Q o := by
  cases o with
  | ok r => exact fun F' H' v e' q => x F' H' v (e.trans e') (q.back e)
  | exn c ns xs => exact ExP.ext e x
  | bad => exact x

/-- behind an operand: frozen where it was one's own -/
def RF (W : Wd) (fe : List Addr) (F H : Hp) (r : Rv) (v : V) : Prop := (r.1 = false ∧ Rp W F v r.2.fz) ∨ (r.1 = true ∧ ∃ fp, Ro W F H v r.2 fp ∧ ∀ a ∈ fp, a ∈ fe)
theorem RF.ext {W : Wd} {fe : List Addr} {F H F' H' : Hp} (e : Ext W F H F' H') {r : Rv} {v : V} (x : RF W fe F H r v) : RF W fe F' H' r v := by
  rcases x with ⟨h, q⟩ | ⟨h, fp, q, m⟩
  · exact .inl ⟨h, q.mono e.f⟩
  · exact .inr ⟨h, fp, q.ext e, m⟩
theorem RF.read {W : Wd} {fe : List Addr} {F H : Hp} (g : Good W F H) {r : Rv} {v : V} (x : RF W fe F H r v) : Rp W (np W H) v r.2.fz := by
  rcases x with ⟨h, q⟩ | ⟨h, fp, q, m⟩
  · exact q.mono g.np
  · exact q.read g.sub g.pen.out
/-- ONE OPERAND, not frozen -/
theorem step {W : Wd} {E : XK} {F0 H0 F1 H1 : Hp} {σ : L2.St} {ρ : Loc} {fp : List Addr} {m : Loc → Tr Rv} {K : Rv → Tr Rv} {Q : VK} (e : Ext W F0 H0 F1 H1) (env : EnvR W F1 H1 σ ρ fp)
    (h : ((m ρ).bind K).W (PostE W E fp F0 H0 Q)) : tE W E m σ H1 fun x H2 => ∃ r F2, Ext W F1 H1 F2 H2 ∧ RR W fp F2 H2 H1 r x ∧ (K r).W (PostE W E fp F0 H0 Q) := by
  refine ⟨F1, ρ, fp, e.g, env, Tr.W_imp (fun o ho => ?_) (Tr.W_bind.mp h)⟩
  cases o with
  | ok r => exact fun F' H' v e' q => ⟨r, F', e', q, ho⟩
  | exn c ns xs => exact ExP.ext e ho
  | bad => exact ho
theorem tE.imp {W : Wd} {E : XK} {m : Loc → Tr Rv} {σ : L2.St} {H : Hp} {Q Q' : VK} (h : tE W E m σ H Q) (i : ∀ v H', Q v H' → Q' v H') : tE W E m σ H Q' := by
  obtain ⟨F, ρ, fp, g, env, h⟩ := h
  refine ⟨F, ρ, fp, g, env, Tr.W_imp (fun o ho => ?_) h⟩
  cases o with
  | ok r => exact fun F' H' v e' q => i _ _ (ho F' H' v e' q)
  | exn c ns xs => exact ho
  | bad => exact ho
theorem RR.froze {W : Wd} {fe : List Addr} {F H F1 H1 : Hp} {r : Rv} {v : V} (e : Ext W F1 H1 F H) (x : RR W fe F H H1 r v) : ∃ F', Ext W F1 H1 F' H ∧ RF W fe F' H r v := by
  obtain ⟨fp, q, n, m⟩ := x
  obtain ⟨b, y⟩ := r
  cases b with
  | false => exact ⟨adj F H fp, e.freeze (fun a h => ⟨(q.own a h).2.1, (q.own a h).2.2⟩) (n rfl), .inl ⟨rfl, q.frozen⟩⟩
  | true => exact ⟨F, e, .inr ⟨rfl, fp, q, m rfl⟩⟩
/-- ONE OPERAND, frozen -/
theorem stepF {W : Wd} {E : XK} {F0 H0 F1 H1 : Hp} {σ : L2.St} {ρ : Loc} {fp : List Addr} {m : Loc → Tr Rv} {K : Rv → Tr Rv} {Q : VK} (e : Ext W F0 H0 F1 H1) (env : EnvR W F1 H1 σ ρ fp)
    (h : ((m ρ).bind K).W (PostE W E fp F0 H0 Q)) : tE W E m σ H1 fun x H2 => ∃ r F2, Ext W F1 H1 F2 H2 ∧ RF W fp F2 H2 r x ∧ (K r).W (PostE W E fp F0 H0 Q) := by
  refine (step e env h).imp fun v H' ⟨r, F2, e2, q, z⟩ => ?_
  obtain ⟨F3, e3, q3⟩ := q.froze e2
  exact ⟨r, F3, e3, q3, z⟩
theorem op1 {W : Wd} {E : XK} {m : Loc → Tr Rv} {K : Rv → Tr Rv} {σ : L2.St} {H : Hp} {Q : VK} (h : tE W E (fun ρ => (m ρ).bind K) σ H Q) :
    tE W E m σ H fun x H1 => ∃ fe F0 H0 F' r, Ext W F0 H0 F' H1 ∧ RF W fe F' H1 r x ∧ (K r).W (PostE W E fe F0 H0 Q) := by
  obtain ⟨F, ρ, fp, g, env, h⟩ := h
  exact (stepF (Ext.refl g) env h).imp fun v H' ⟨r, F2, e2, q, z⟩ => ⟨fp, F, H, F2, r, e2, q, z⟩
theorem op2 {W : Wd} {E : XK} {ma mb : Loc → Tr Rv} {K : Rv → Rv → Tr Rv} {σ : L2.St} {H : Hp} {Q : VK} (h : tE W E (fun ρ => (ma ρ).bind fun ra => (mb ρ).bind fun rb => K ra rb) σ H Q) :
    tE W E ma σ H fun x H1 => tE W E mb σ H1 fun y H2 => ∃ fe F0 H0 F' ra rb, Ext W F0 H0 F' H2 ∧ RF W fe F' H2 ra x ∧ RF W fe F' H2 rb y ∧ (K ra rb).W (PostE W E fe F0 H0 Q) := by
  obtain ⟨F, ρ, fp, g, env, h⟩ := h
  refine (stepF (Ext.refl g) env h).imp fun v H' ⟨r, F2, e2, q, z⟩ => ?_
  refine (stepF e2 (env.ext e2) z).imp fun v3 H3 ⟨r3, F3, e3, q3, z3⟩ => ?_
  exact ⟨fp, F, H, F3, r, r3, e2.trans e3, q.ext e3, q3, z3⟩

/-! ### giving a value -/
section
variable {W : Wd} {E : XK} {fe : List Addr} {F0 H0 F H : Hp} {Q : VK} {x : PV} {v : V}
theorem give {fp : List Addr} (h : (vB x).W (PostE W E fe F0 H0 Q)) (e : Ext W F0 H0 F H) (r : Ro W F H v x fp) (n : ∀ a ∈ fp, H0 a = none) : Q v H := h F H v e ⟨fp, r, fun _ => n, fun z => Bool.noConfusion z⟩
theorem giveS (h : (vB x).W (PostE W E fe F0 H0 Q)) (e : Ext W F0 H0 F H) (r : Rp W F v x) : Q v H := give h e (.st r) (fun _ z => by simp at z)
theorem giveL {xs : List PV} {vs : List V} {p : Addr} (h : (vB (.lst true xs)).W (PostE W E fe F0 H0 Q)) (e : Ext W F0 H0 F H) (hp : H p = none) (r : Rps W F vs xs) : Q (.ref p) (upd H p (.lst vs)) := by
  have e2 := e.g.laid (o := .lst vs) hp
  have fp : F p = none := by
    cases q : F p with
    | none => rfl
    | some u =>
      rw [e.g.sub p u q] at hp
      cases hp
  have pp : p ≠ W.pen := by
    rintro rfl
    obtain ⟨o, ho⟩ := e.g.pen.there
    rw [hp] at ho
    cases ho
  exact give h (e.trans e2) (.lst upd_same fp pp r.ros (by simp)) fun a ha => by
    have : a = p := by simpa using ha
    rw [this]
    exact e.free hp
theorem giveT {xs : List PV} {vs : List V} {p : Addr} (h : (vB (.tup xs)).W (PostE W E fe F0 H0 Q)) (e : Ext W F0 H0 F H) (hp : H p = none) (r : Rps W F vs xs) : Q (.ref p) (upd H p (.tup vs)) := by
  have e2 := e.g.laidF (o := .tup vs) hp
  exact giveS h (e.trans e2) (.tup upd_same (r.mono e2.f))
end

/-! ### reading what shal gives -/
def Sh (W : Wd) (F H : Hp) (v : V) : PV → Prop
  | .lst _ xs => ∃ a vs, v = .ref a ∧ H a = some (.lst vs) ∧ a ≠ W.pen ∧ Rps W F vs xs
  | .dct _ false ks xs => ∃ a kvs, v = .ref a ∧ H a = some (.dK kvs) ∧ a ≠ W.pen ∧ ks = kvs.map (fun p => kP p.1) ∧ Rps W F (kvs.map (·.2)) xs
  | .dct _ true ks xs => ∃ a kvs, v = .ref a ∧ H a = some (.dT kvs) ∧ a ≠ W.pen ∧ ks = kvs.map (fun p => tP p.1) ∧ Rps W F (kvs.map (·.2)) xs
  | x => Rp W F v x
theorem Good.ne {W : Wd} {F H : Hp} (g : Good W F H) {a : Addr} {o : HO} (h : F a = some o) : a ≠ W.pen := by
  rintro rfl
  rw [g.pen.out] at h
  cases h
theorem Rp.sh {W : Wd} {F H : Hp} (g : Good W F H) {v : V} {x : PV} (r : Rp W F v x) : Sh W F H v x := by
  cases r with
  | lst h r => exact ⟨_, _, rfl, g.sub _ _ h, g.ne h, r⟩
  | dK h r => exact ⟨_, _, rfl, g.sub _ _ h, g.ne h, rfl, r⟩
  | dT h r => exact ⟨_, _, rfl, g.sub _ _ h, g.ne h, rfl, r⟩
  | non => exact .non
  | bl => exact .bl
  | int => exact .int
  | str => exact .str
  | tup h r => exact .tup h r
  | ins h c r => exact .ins h c r
  | gl h => exact .gl h
  | ty => exact .ty
  | pen => exact .pen
theorem RF.sh {W : Wd} {fe : List Addr} {F H : Hp} (g : Good W F H) {r : Rv} {v : V} {y : PV} (x : RF W fe F H r v) (h : shal r = some y) : Sh W F H v y := by
  obtain ⟨b, z⟩ := r
  rcases x with ⟨hb, q⟩ | ⟨hb, fp, q, m⟩
  · cases hb
    have e : z.fz = y := by simpa [shal] using h
    rw [← e]
    exact q.sh g
  · cases hb
    cases q with
    | st q =>
      have e : z = y := by
        cases z with
        | lst o xs => cases q; simpa [shal] using h
        | dct o T ks vs => cases q <;> simpa [shal] using h
        | _ => simpa [shal] using h
      rw [← e]
      exact q.sh g
    | lst ha hf hn r hh =>
      rename_i a vs xs fp
      by_cases z : xs.all PV.st = true
      · have e : PV.lst false xs = y := by simpa [shal, z] using h
        rw [← e]
        exact ⟨_, _, rfl, ha, hn, r.stable z⟩
      · simp [shal, z] at h
    | dK ha hf hn r hh =>
      rename_i a kvs xs fp
      by_cases z : xs.all PV.st = true
      · have e : PV.dct false false (kvs.map fun p => kP p.1) xs = y := by simpa [shal, z] using h
        rw [← e]
        exact ⟨_, _, rfl, ha, hn, rfl, r.stable z⟩
      · simp [shal, z] at h
    | dT ha hf hn r hh =>
      rename_i a kvs xs fp
      by_cases z : xs.all PV.st = true
      · have e : PV.dct false true (kvs.map fun p => tP p.1) xs = y := by simpa [shal, z] using h
        rw [← e]
        exact ⟨_, _, rfl, ha, hn, rfl, r.stable z⟩
      · simp [shal, z] at h
theorem RF.take {W : Wd} {fe : List Addr} {F H : Hp} {r : Rv} {v : V} {y : PV} (x : RF W fe F H r v) (h : FS.take r = some y) : Rp W F v y := by
  obtain ⟨b, z⟩ := r
  rcases x with ⟨hb, q⟩ | ⟨hb, fp, q, m⟩
  · cases hb
    have e : z.fz = y := by simpa [FS.take] using h
    rw [← e]
    exact q
  · cases hb
    by_cases s : z.st = true
    · have e : z.fz = y := by simpa [FS.take, s] using h
      have := q.stable s
      rw [← e, this.fz]
      exact this
    · simp [FS.take, s] at h

/-! ### data -/
mutual
theorem Rp.dp {W : Wd} {S H : Hp} (e : Same S H) : ∀ {v : V} {x : PV} {d : PyData}, Rp W S v x → x.data = some d → Dp W.K H v d
  | _, _, d, .non, h => by cases h; exact .non
  | _, _, d, .bl, h => by cases h; exact .bl _
  | _, _, d, .int, h => by cases h; exact .int _
  | _, _, d, .str, h => by cases h; exact .str _
  | _, _, d, .tup (xs := xs) a r, h => by
    simp only [PV.data, Option.map_eq_some_iff] at h
    obtain ⟨ds, h, rfl⟩ := h
    exact .tup (.inl (.inl (e _ _ a))) (r.dp e h)
  | _, _, d, .lst (xs := xs) a r, h => by
    simp only [PV.data, Option.map_eq_some_iff] at h
    obtain ⟨ds, h, rfl⟩ := h
    exact .lst (.inl (.inl (e _ _ a))) (r.dp e h)
  | _, _, d, .dK _ _, h => by cases h
  | _, _, d, .dT _ _, h => by cases h
  | _, _, d, .ins _ _ _, h => by cases h
  | _, _, d, .gl _, h => by cases h
  | _, _, d, .ty, h => by cases h
  | _, _, d, .pen, h => by cases h
theorem Rps.dp {W : Wd} {S H : Hp} (e : Same S H) : ∀ {vs : List V} {xs : List PV} {ds : List PyData}, Rps W S vs xs → PV.datas xs = some ds → DpAll W.K H vs ds
  | _, _, ds, .nil, h => by cases h; exact .nil
  | _, _, ds, .cons (x := x) (xs := xs) a t, h => by
    simp only [PV.datas] at h
    cases hx : x.data with
    | none => rw [hx] at h; simp at h
    | some d =>
      cases hs : PV.datas xs with
      | none => rw [hx, hs] at h; simp at h
      | some ds' =>
        rw [hx, hs] at h
        cases h
        exact .cons (a.dp e hx) (t.dp e hs)
end
theorem np_sub {W : Wd} {H : Hp} : Same (np W H) H := fun a o h => by
  by_cases z : a = W.pen
  · unfold np at h
    rw [if_pos z] at h
    cases h
  · rwa [np_ne z] at h
mutual
theorem PV.data_plain : ∀ {x : PV} {d : PyData}, x.data = some d → d.plain = true
  | .non, _, h => by cases h; rfl
  | .bl _, _, h => by cases h; rfl
  | .int _, _, h => by cases h; rfl
  | .str _, _, h => by cases h; rfl
  | .tup xs, d, h => by
    simp only [PV.data, Option.map_eq_some_iff] at h
    obtain ⟨ds, h, rfl⟩ := h
    simp only [PyData.plain]
    exact PV.datas_plain h
  | .lst _ xs, d, h => by
    simp only [PV.data, Option.map_eq_some_iff] at h
    obtain ⟨ds, h, rfl⟩ := h
    simp only [PyData.plain]
    exact PV.datas_plain h
  | .dct .., _, h => by simp [PV.data] at h
  | .ins .., _, h => by simp [PV.data] at h
  | .gl .., _, h => by simp [PV.data] at h
  | .ty .., _, h => by simp [PV.data] at h
  | .pen, _, h => by simp [PV.data] at h
theorem PV.datas_plain : ∀ {xs : List PV} {ds : List PyData}, PV.datas xs = some ds → PyData.plainAll ds = true
  | [], _, h => by cases h; rfl
  | x :: xs, ds, h => by
    simp only [PV.datas] at h
    cases hx : x.data with
    | none => rw [hx] at h; simp at h
    | some d =>
      cases hs : PV.datas xs with
      | none => rw [hx, hs] at h; simp at h
      | some ds' =>
        rw [hx, hs] at h
        cases h
        simp only [PyData.plainAll, PV.data_plain hx, PV.datas_plain hs, Bool.and_self]
end
/-- read, without dicts, not too deep -/
def shp (d : PyData) : Prop := d.plain = true ∧ d.depth ≤ 64
theorem sdata_dp {W : Wd} {H : Hp} {v : V} {x : PV} {d : PyData} (r : Rp W (np W H) v x) (h : x.sdata = some d) : Dp W.K H v d ∧ shp d := by
  unfold PV.sdata at h
  cases e : x.data with
  | none => rw [e] at h; cases h
  | some d' =>
    rw [e] at h
    dsimp only at h
    by_cases z : d'.depth ≤ 64
    · rw [if_pos z] at h
      cases h
      exact ⟨r.dp np_sub e, PV.data_plain e, z⟩
    · rw [if_neg z] at h
      cases h
theorem Rps.intsP {W : Wd} {F : Hp} : ∀ {vs : List V} {xs : List PV} {ns : List Int}, Rps W F vs xs → intsP xs = some ns → vs = ns.map V.int
  | _, _, ns, .nil, h => by cases h; rfl
  | _, _, ns, .cons (x := x) (xs := xs) a t, h => by
    cases a with
    | int =>
      simp only [FS.intsP, Option.map_eq_some_iff] at h
      obtain ⟨ms, h, rfl⟩ := h
      rw [t.intsP h]
      rfl
    | _ => simp [FS.intsP] at h
theorem Rps.boolsP {W : Wd} {F : Hp} : ∀ {vs : List V} {xs : List PV} {ns : List Bool}, Rps W F vs xs → boolsP xs = some ns → vs = ns.map V.bl
  | _, _, ns, .nil, h => by cases h; rfl
  | _, _, ns, .cons (x := x) (xs := xs) a t, h => by
    cases a with
    | bl =>
      simp only [FS.boolsP, Option.map_eq_some_iff] at h
      obtain ⟨ms, h, rfl⟩ := h
      rw [t.boolsP h]
      rfl
    | _ => simp [FS.boolsP] at h
end FS

set_option Elab.async false
set_option linter.all false
set_option maxRecDepth 100000
set_option maxHeartbeats 4000000
namespace FS
open PySem PySem.Spec PyProof.Rows L2

def pyB : BOp → Operator
  | .add => .Add | .sub => .Sub | .mul => .Mult | .fdiv => .FloorDiv | .mod => .Mod | .pow => .Pow
def pyC : COp → CmpOp
  | .lt => .Lt | .le => .LtE | .gt => .Gt | .ge => .GtE | .eq => .Eq | .ne => .NotEq | .in_ => .In | .notin => .NotIn
def rBin (K : PySem.W.Frag) : BOp → R2
  | .add => fun x y H Q => (((rI0 (fun i j => .int (i + j)) x y H Q ∨ (∃ i j, x = .str i ∧ y = .str j ∧ i.length + j.length ≤ sizeLine ∧ Q (.str (i ++ j)) H)) ∨ rCatA K x y H Q) ∨ rCat x y H Q)
  | .sub => rI0 fun i j => .int (i - j)
  | .mul => fun x y H Q => ((rI CMulW (fun i j => .int (i * j)) x y H Q ∨ rRep x y H Q) ∨ rRepT K x y H Q)
  | .fdiv => rI CDivW fun i j => .int (i / j)
  | .mod => rI (fun _ j => 0 < j) fun i j => .int (i % j)
  | .pow => rI CPow fun i j => .int (i ^ j.toNat)
theorem op_bin {X : Cx} : ∀ op : BOp, OpR X (binaryOp (pyB op)) (rBin X.K op)
  | .add => (((op_add.or op_add_str).or op_catA).or op_cat)
  | .sub => op_sub
  | .mul => ((op_mulW.or op_rep).or op_repT)
  | .fdiv => op_fdivW
  | .mod => op_mod
  | .pow => op_pow
theorem bad_W {α : Type} {P : Out α → Prop} (h : Tr.W P (Tr.bad)) (hb : ¬ P .bad) : False := hb h
section
variable {W : Wd} {E : XK} {fe : List Addr} {F0 H0 F H : Hp} {Q : VK} {x y : PV} {vx vy : V} {rx ry : Rv}
theorem Rps.rep : ∀ {F : Hp} {vs : List V} {xs : List PV} (k : Nat), Rps W F vs xs → Rps W F (List.replicate k vs).flatten (List.replicate k xs).flatten
  | _, _, _, 0, _ => by simp; exact .nil
  | _, _, _, k + 1, r => by
    simp only [List.replicate_succ, List.flatten_cons]
    exact r.append (r.rep k)
theorem bin_ok (op : BOp) (e : Ext W F0 H0 F H) (sx : Sh W F H vx x) (sy : Sh W F H vy y) (h : (ofV (binS op x y)).W (PostE W E fe F0 H0 Q)) : rBin W.K op vx vy H Q := by
  unfold binS at h
  split at h
  · cases sx; cases sy
    exact .inl (.inl (.inl ⟨_, _, rfl, rfl, giveS h e .int⟩))
  · cases sx; cases sy
    exact ⟨_, _, rfl, rfl, giveS h e .int⟩
  · split at h
    · rename_i z
      cases sx; cases sy
      exact .inl (.inl ⟨_, _, rfl, rfl, (by simpa [mulOk] using z : _ < 1000000), giveS h e .int⟩)
    · exact h.elim
  · split at h
    · rename_i z
      cases sx; cases sy
      exact ⟨_, _, rfl, rfl, z, giveS h e .int⟩
    · exact h.elim
  · split at h
    · rename_i z
      cases sx; cases sy
      exact ⟨_, _, rfl, rfl, z, giveS h e .int⟩
    · exact h.elim
  · split at h
    · rename_i z
      cases sx; cases sy
      exact ⟨_, _, rfl, rfl, z, giveS h e .int⟩
    · exact h.elim
  · split at h
    · rename_i z
      cases sx; cases sy
      exact .inl (.inl (.inr ⟨_, _, rfl, rfl, z, giveS h e .str⟩))
    · exact h.elim
  · split at h
    · rename_i xs ys z
      cases sx with
      | tup a r =>
        rename_i p vs
        cases sy with
        | tup b q =>
          rename_i p2 ws
          refine .inl (.inr ⟨p, p2, vs, ws, rfl, rfl, .inl (.inl (e.g.sub _ _ a)), .inl (.inl (e.g.sub _ _ b)), by rw [r.length, q.length]; exact z, fun k => ?_, fun _ k => ?_, fun _ _ l hl => ?_⟩)
          · subst k
            have : xs = [] := by cases r; rfl
            subst this
            exact giveS h e (.tup b q)
          · subst k
            have : ys = [] := by cases q; rfl
            subst this
            rw [List.append_nil] at h
            exact giveS h e (.tup a r)
          · exact giveT h e hl (r.append q)
    · exact h.elim
  · split at h
    · rename_i o xs o' ys z
      obtain ⟨a, vs, rfl, ha, na, r⟩ := sx
      obtain ⟨b, ws, rfl, hb, nb, q⟩ := sy
      exact .inr ⟨a, b, vs, ws, rfl, rfl, ha, hb, by rw [r.length, q.length]; exact z, fun l hl => giveL h e hl (r.append q)⟩
    · exact h.elim
  · split at h
    · rename_i o xs k z
      obtain ⟨a, vs, rfl, ha, na, r⟩ := sx
      cases sy
      exact .inl (.inr ⟨a, k, vs, rfl, rfl, ha, z.1, z.2.1, by rw [r.length]; exact z.2.2, fun l hl => giveL h e hl (r.rep _)⟩)
    · exact h.elim
  · split at h
    · rename_i xs k z2
      cases sy
      cases sx with
      | tup a r =>
        rename_i p vs
        refine .inr ⟨p, k, vs, rfl, rfl, .inl (.inl (e.g.sub _ _ a)), fun n => ?_, z2.2.1, z2.2.2.1, by rw [r.length]; exact z2.2.2.2, fun l hl => giveT h e hl (r.rep _)⟩
        subst n
        exact z2.1 (by cases r; rfl)
    · exact h.elim
  · exact h.elim

/-! ### comparisons -/
def rInDict (nb : Bool → Bool) : R2 := fun x y H Q => ∃ a o, y = .ref a ∧ DGet H a x o ∧ Q (.bl (nb o.isSome)) H
theorem op_inDict {X : Cx} (hu : X.A.units + 1 < cLine) : OpR X (compareOp .In) (rInDict id) := by
  intro pins s σ H x y v u Q I rx ry h
  obtain ⟨a, o, rfl, g, q⟩ := h
  cases ry
  exact d_in hu I g rx fun s' I' => ⟨.bl _, _, I', rfl, q⟩
theorem op_notInDict {X : Cx} (hu : X.A.units + 1 < cLine) : OpR X (compareOp .NotIn) (rInDict not) := by
  intro pins s σ H x y v u Q I rx ry h
  obtain ⟨a, o, rfl, g, q⟩ := h
  cases ry
  exact d_notIn hu I g rx fun s' I' => ⟨.bl _, _, I', rfl, q⟩
def rEqP (nb : Bool → Bool) (K : PySem.W.Frag) : R2 := fun x y H Q => ∃ d e, Dp K H x d ∧ Dp K H y e ∧ shp d ∧ shp e ∧ Q (.bl (nb (PyData.eqv d e))) H
theorem op_eqP {X : Cx} (hu : X.A.units + 64 < cLine) : OpR X (compareOp .Eq) (rEqP id X.K) := by
  intro pins s σ H x y v u Q I rx ry h
  obtain ⟨d, e, hd, he, sd, se, q⟩ := h
  obtain ⟨as, r1⟩ := Dp.reads I d x v hd rx
  obtain ⟨bs, r2⟩ := Dp.reads I e y u he ry
  refine SeqAt.eq_plain r1 r2 sd.1 se.1 ?_ ⟨.bl _, H, I, rfl, q⟩
  have := sd.2
  have := Nat.min_le_left d.depth e.depth
  omega
theorem op_neP {X : Cx} (hu : X.A.units + 64 < cLine) : OpR X (compareOp .NotEq) (rEqP not X.K) := by
  intro pins s σ H x y v u Q I rx ry h
  obtain ⟨d, e, hd, he, sd, se, q⟩ := h
  obtain ⟨as, r1⟩ := Dp.reads I d x v hd rx
  obtain ⟨bs, r2⟩ := Dp.reads I e y u he ry
  refine SeqAt.ne_plain r1 r2 sd.1 se.1 ?_ ⟨.bl _, H, I, rfl, q⟩
  have := sd.2
  have := Nat.min_le_left d.depth e.depth
  omega
def rInP (nb : Bool → Bool) (K : PySem.W.Frag) : R2 := fun x y H Q => ∃ d ds, Dp K H x d ∧ (Dp K H y (.list ds) ∨ Dp K H y (.tuple ds)) ∧ shp d ∧ PyData.plainAll ds = true ∧ Q (.bl (nb (ds.any fun z => PyData.eqv z d))) H
theorem op_inP {X : Cx} (hu : X.A.units + 65 < cLine) : OpR X (compareOp .In) (rInP id X.K) := by
  intro pins s σ H x y v u Q I rx ry h
  obtain ⟨d, ds, hd, he, sd, se, q⟩ := h
  obtain ⟨as, r1⟩ := Dp.reads I d x v hd rx
  have hm : X.A.units + 1 + min (PyData.depthAll ds) d.depth < cLine := by
    have := sd.2
    have := Nat.min_le_right (PyData.depthAll ds) d.depth
    omega
  rcases he with he | he
  · obtain ⟨bs, r2⟩ := Dp.reads I (.list ds) y u he ry
    exact SeqAt.in_list_data r2 r1 se sd.1 hm ⟨.bl _, H, I, rfl, q⟩
  · obtain ⟨bs, r2⟩ := Dp.reads I (.tuple ds) y u he ry
    exact SeqAt.in_tuple_data r2 r1 se sd.1 hm ⟨.bl _, H, I, rfl, q⟩
theorem op_notInP {X : Cx} (hu : X.A.units + 65 < cLine) : OpR X (compareOp .NotIn) (rInP not X.K) := by
  intro pins s σ H x y v u Q I rx ry h
  obtain ⟨d, ds, hd, he, sd, se, q⟩ := h
  obtain ⟨as, r1⟩ := Dp.reads I d x v hd rx
  have hm : X.A.units + 1 + min (PyData.depthAll ds) d.depth < cLine := by
    have := sd.2
    have := Nat.min_le_right (PyData.depthAll ds) d.depth
    omega
  rcases he with he | he
  · obtain ⟨bs, r2⟩ := Dp.reads I (.list ds) y u he ry
    exact SeqAt.notIn_list_data r2 r1 se sd.1 hm ⟨.bl _, H, I, rfl, q⟩
  · obtain ⟨bs, r2⟩ := Dp.reads I (.tuple ds) y u he ry
    exact SeqAt.notIn_tuple_data r2 r1 se sd.1 hm ⟨.bl _, H, I, rfl, q⟩
def rCmp (K : PySem.W.Frag) : COp → R2
  | .lt => rI0 fun i j => .bl (decide (i < j))
  | .le => rI0 fun i j => .bl (decide (i ≤ j))
  | .gt => rI0 fun i j => .bl (decide (j < i))
  | .ge => rI0 fun i j => .bl (decide (j ≤ i))
  | .eq => rEqP id K
  | .ne => rEqP not K
  | .in_ => fun x y H Q => rInP id K x y H Q ∨ rInDict id x y H Q
  | .notin => fun x y H Q => rInP not K x y H Q ∨ rInDict not x y H Q
theorem op_cmp {X : Cx} (hu : X.A.units + 100 < cLine) : ∀ op : COp, OpR X (compareOp (pyC op)) (rCmp X.K op)
  | .lt => op_lt
  | .le => op_le
  | .gt => op_gt
  | .ge => op_ge
  | .eq => op_eqP (by omega)
  | .ne => op_neP (by omega)
  | .in_ => (op_inP (by omega)).or (op_inDict (by omega))
  | .notin => (op_notInP (by omega)).or (op_notInDict (by omega))

theorem keyOf_kP {x : PV} {k : Key} (h : keyOf x = some k) : x = kP k := by
  cases x <;> simp [keyOf] at h <;> subst h <;> rfl
theorem keysOf_kP : ∀ {xs : List PV} {ks : List Key}, keysOf xs = some ks → xs = ks.map kP
  | [], ks, h => by cases h; rfl
  | x :: xs, ks, h => by
    simp only [keysOf] at h
    cases hx : keyOf x with
    | none => rw [hx] at h; simp at h
    | some k =>
      cases hs : keysOf xs with
      | none => rw [hx, hs] at h; simp at h
      | some ks' =>
        rw [hx, hs] at h
        cases h
        rw [keyOf_kP hx, keysOf_kP hs]
        rfl
theorem keyOf_of (k : Key) : keyOf (kP k) = some k := by cases k <;> rfl
theorem keysOf_of : ∀ ks : List Key, keysOf (ks.map kP) = some ks
  | [] => rfl
  | k :: ks => by simp only [List.map_cons, keysOf, keyOf_of, keysOf_of ks]
theorem keq_kP (a b : Key) : PV.keq (kP a) (kP b) = decide (a = b) := by
  cases a <;> cases b <;> simp [kP, PV.keq]
theorem keq_tP (a b : List Key) : PV.keq (tP a) (tP b) = decide (a = b) := by
  simp [tP, PV.keq, keysOf_of]
theorem getP_kP {F : Hp} (k : Key) : ∀ {kvs : List (Key × V)} {xs : List PV}, Rps W F (kvs.map (·.2)) xs →
    (match valV kvs k, getP (kvs.map fun p => kP p.1) xs (kP k) with | some v, some x => Rp W F v x | none, none => True | _, _ => False)
  | [], _, r => by cases r; simp [valV, getP]
  | (j, v) :: kvs, _, r => by
    cases r with
    | cons a t =>
      simp only [List.map_cons, getP, keq_kP]
      by_cases e : j = k
      · rw [valV_pos (by exact e), if_pos (by simpa using e)]
        exact a
      · rw [valV_neg (by exact e), if_neg (by simpa using e)]
        exact getP_kP k t
theorem getP_tP {F : Hp} (k : List Key) : ∀ {kvs : List (List Key × V)} {xs : List PV}, Rps W F (kvs.map (·.2)) xs →
    (match valV kvs k, getP (kvs.map fun p => tP p.1) xs (tP k) with | some v, some x => Rp W F v x | none, none => True | _, _ => False)
  | [], _, r => by cases r; simp [valV, getP]
  | (j, v) :: kvs, _, r => by
    cases r with
    | cons a t =>
      simp only [List.map_cons, getP, keq_tP]
      by_cases e : j = k
      · rw [valV_pos (by exact e), if_pos (by simpa using e)]
        exact a
      · rw [valV_neg (by exact e), if_neg (by simpa using e)]
        exact getP_tP k t
theorem Rp.key {S : Hp} {v : V} {x : PV} {k : Key} (r : Rp W S v x) (h : keyOf x = some k) : v = kV k := by
  cases r <;> simp [keyOf] at h <;> subst h <;> rfl
theorem Rps.keys {S : Hp} : ∀ {vs : List V} {xs : List PV} {ks : List Key}, Rps W S vs xs → keysOf xs = some ks → vs = ks.map kV
  | _, _, ks, .nil, h => by cases h; rfl
  | _, _, ks, .cons (x := x) (xs := xs) a t, h => by
    simp only [keysOf] at h
    cases hx : keyOf x with
    | none => rw [hx] at h; simp at h
    | some k =>
      cases hs : keysOf xs with
      | none => rw [hx, hs] at h; simp at h
      | some ks' =>
        rw [hx, hs] at h
        cases h
        rw [a.key hx, t.keys hs]
        rfl
/-- a dict asked -/
theorem dget_ok {S : Hp} {T o : Bool} {ks vs : List PV} (sy : Rp W S vy (.dct o T ks vs)) (sx : Rp W S vx x) (sub : Same S H) (hk : isKey T x = true) :
    ∃ a r, vy = .ref a ∧ DGet H a vx r ∧ (match r, getP ks vs x with | some v, some z => Rp W S v z | none, none => True | _, _ => False) := by
  cases sy with
  | dK ha r =>
    rename_i a kvs
    obtain ⟨k, hx⟩ : ∃ k, keyOf x = some k := by cases x <;> simp [isKey] at hk <;> exact ⟨_, rfl⟩
    have e1 := sx.key hx
    have e2 := keyOf_kP hx
    subst e1 e2
    exact ⟨a, _, rfl, DGet.k (sub _ _ ha), getP_kP k r⟩
  | dT ha r =>
    rename_i a kvs
    cases sx with
    | tup hb q =>
      rename_i b ws xs
      obtain ⟨k, hx⟩ : ∃ k, keysOf xs = some k := Option.isSome_iff_exists.mp hk
      have e1 := q.keys hx
      have e2 := keysOf_kP hx
      subst e1 e2
      exact ⟨a, _, rfl, DGet.t (sub _ _ ha) (sub _ _ hb), getP_tP k r⟩
    | _ => simp [isKey] at hk
theorem cmp_ok (op : COp) {b : Bool} (sx : Rp W (np W H) vx x) (sy : Rp W (np W H) vy y) (hb : cmpS op x y = some b) (q : Q (.bl b) H) : rCmp W.K op vx vy H Q := by
  unfold cmpS at hb
  split at hb
  · cases sx; cases sy; cases hb
    exact ⟨_, _, rfl, rfl, q⟩
  · cases sx; cases sy; cases hb
    exact ⟨_, _, rfl, rfl, q⟩
  · cases sx; cases sy; cases hb
    exact ⟨_, _, rfl, rfl, q⟩
  · cases sx; cases sy; cases hb
    exact ⟨_, _, rfl, rfl, q⟩
  · rename_i o T ks vs
    by_cases hk : isKey T x = true
    · rw [if_pos hk] at hb
      cases hb
      obtain ⟨a, r, rfl, g, m⟩ := dget_ok sy sx np_sub hk
      refine .inr ⟨a, r, rfl, g, ?_⟩
      cases r <;> cases hg : getP ks vs x <;> rw [hg] at m q <;> first | exact q | exact m.elim
    · rw [if_neg hk] at hb
      cases hb
  · rename_i o T ks vs
    by_cases hk : isKey T x = true
    · rw [if_pos hk] at hb
      cases hb
      obtain ⟨a, r, rfl, g, m⟩ := dget_ok sy sx np_sub hk
      refine .inr ⟨a, r, rfl, g, ?_⟩
      cases r <;> cases hg : getP ks vs x <;> rw [hg] at m q <;> first | exact q | exact m.elim
    · rw [if_neg hk] at hb
      cases hb
  · split at hb
    · rename_i d d' hd he
      cases hb
      obtain ⟨a1, a2⟩ := sdata_dp sx hd
      obtain ⟨b1, b2⟩ := sdata_dp sy he
      exact ⟨d, d', a1, b1, a2, b2, q⟩
    · cases hb
  · split at hb
    · rename_i d d' hd he
      cases hb
      obtain ⟨a1, a2⟩ := sdata_dp sx hd
      obtain ⟨b1, b2⟩ := sdata_dp sy he
      exact ⟨d, d', a1, b1, a2, b2, q⟩
    · cases hb
  · rename_i o ys
    have eo : PV.lst o ys = PV.lst false ys := by cases sy; rfl
    rw [eo] at sy
    split at hb
    · rename_i d es hd he
      cases hb
      obtain ⟨a1, a2⟩ := sdata_dp sx hd
      obtain ⟨b1, b2⟩ := sdata_dp sy he
      exact .inl ⟨d, es, a1, .inl b1, a2, by simpa only [PyData.plain] using b2.1, q⟩
    · cases hb
  · rename_i o ys
    have eo : PV.lst o ys = PV.lst false ys := by cases sy; rfl
    rw [eo] at sy
    split at hb
    · rename_i d es hd he
      cases hb
      obtain ⟨a1, a2⟩ := sdata_dp sx hd
      obtain ⟨b1, b2⟩ := sdata_dp sy he
      exact .inl ⟨d, es, a1, .inl b1, a2, by simpa only [PyData.plain] using b2.1, q⟩
    · cases hb
  · rename_i ys
    split at hb
    · rename_i d es hd he
      cases hb
      obtain ⟨a1, a2⟩ := sdata_dp sx hd
      obtain ⟨b1, b2⟩ := sdata_dp sy he
      exact .inl ⟨d, es, a1, .inr b1, a2, by simpa only [PyData.plain] using b2.1, q⟩
    · cases hb
  · rename_i ys
    split at hb
    · rename_i d es hd he
      cases hb
      obtain ⟨a1, a2⟩ := sdata_dp sx hd
      obtain ⟨b1, b2⟩ := sdata_dp sy he
      exact .inl ⟨d, es, a1, .inr b1, a2, by simpa only [PyData.plain] using b2.1, q⟩
    · cases hb
  · cases hb
end
end FS

set_option Elab.async false
set_option linter.all false
set_option maxRecDepth 100000
set_option maxHeartbeats 4000000
namespace FS
open PySem PySem.Spec PyProof.Rows L2

theorem intsP_fzs : ∀ {xs : List PV} {ns : List Int}, intsP xs = some ns → PV.fzs xs = xs
  | [], _, _ => rfl
  | x :: xs, ns, h => by
    cases x with
    | int i =>
      simp only [intsP, Option.map_eq_some_iff] at h
      obtain ⟨ms, h, rfl⟩ := h
      simp only [PV.fzs, PV.fz, intsP_fzs h]
    | _ => simp [intsP] at h
theorem boolsP_fzs : ∀ {xs : List PV} {ns : List Bool}, boolsP xs = some ns → PV.fzs xs = xs
  | [], _, _ => rfl
  | x :: xs, ns, h => by
    cases x with
    | bl i =>
      simp only [boolsP, Option.map_eq_some_iff] at h
      obtain ⟨ms, h, rfl⟩ := h
      simp only [PV.fzs, PV.fz, boolsP_fzs h]
    | _ => simp [boolsP] at h
theorem fzs_length : ∀ xs : List PV, (PV.fzs xs).length = xs.length
  | [] => rfl
  | x :: xs => by simp [PV.fzs, fzs_length xs]
theorem fzs_get : ∀ {xs : List PV} {i : Nat} {x : PV}, xs[i]? = some x → (PV.fzs xs)[i]? = some x.fz
  | [], _, _, h => by simp at h
  | y :: xs, 0, x, h => by simp at h; subst h; simp [PV.fzs]
  | y :: xs, i + 1, x, h => by simpa [PV.fzs] using fzs_get (xs := xs) (i := i) (x := x) (by simpa using h)
section
variable {W : Wd} {fe : List Addr} {F H : Hp}
theorem Ros.intsP : ∀ {vs : List V} {xs : List PV} {fp : List Addr} {ns : List Int}, Ros W F H vs xs fp → intsP xs = some ns → vs = ns.map V.int
  | _, _, _, ns, .nil, h => by cases h; rfl
  | _, _, _, ns, .cons (x := x) (xs := xs) a t _, h => by
    cases x with
    | int i =>
      simp only [FS.intsP, Option.map_eq_some_iff] at h
      obtain ⟨ms, h, rfl⟩ := h
      rw [t.intsP h]
      cases a with
      | st r => cases r; rfl
    | _ => simp [FS.intsP] at h
theorem Ros.boolsP : ∀ {vs : List V} {xs : List PV} {fp : List Addr} {ns : List Bool}, Ros W F H vs xs fp → boolsP xs = some ns → vs = ns.map V.bl
  | _, _, _, ns, .nil, h => by cases h; rfl
  | _, _, _, ns, .cons (x := x) (xs := xs) a t _, h => by
    cases x with
    | bl i =>
      simp only [FS.boolsP, Option.map_eq_some_iff] at h
      obtain ⟨ms, h, rfl⟩ := h
      rw [t.boolsP h]
      cases a with
      | st r => cases r; rfl
    | _ => simp [FS.boolsP] at h
theorem Ros.get : ∀ {vs : List V} {xs : List PV} {fp : List Addr} {i : Nat} {x : PV}, Ros W F H vs xs fp → xs[i]? = some x → ∃ v f, vs[i]? = some v ∧ Ro W F H v x f ∧ ∀ a ∈ f, a ∈ fp
  | _, _, _, _, _, .nil, e => by simp at e
  | _, _, _, 0, _, .cons r _ _, e => by
    simp at e
    subst e
    exact ⟨_, _, rfl, r, fun a h => by simp [h]⟩
  | _, _, _, i + 1, x, .cons _ t _, e => by
    obtain ⟨v, f, h1, h2, h3⟩ := Ros.get (i := i) (x := x) t (by simpa using e)
    exact ⟨v, f, by simpa using h1, h2, fun a h => by simp [h3 a h]⟩
/-- a list as it stands -/
theorem RF.lst (g : Good W F H) {r : Rv} {v : V} {o : Bool} {xs : List PV} (x : RF W fe F H r v) (h : r.2 = .lst o xs) :
    ∃ a vs, v = .ref a ∧ H a = some (.lst vs) ∧ vs.length = xs.length ∧ (∀ ns, intsP xs = some ns → vs = ns.map V.int) ∧ (∀ bs, boolsP xs = some bs → vs = bs.map V.bl) ∧
      ∀ (i : Nat) (z : PV), xs[i]? = some z → ∃ w : V, vs[i]? = some w ∧ RF W fe F H (r.1, z) w := by
  obtain ⟨b, y⟩ := r
  dsimp only at h
  subst h
  rcases x with ⟨hb, q⟩ | ⟨hb, fp, q, m⟩
  · cases hb
    cases q with
    | lst ha t =>
      refine ⟨_, _, rfl, g.sub _ _ ha, by rw [t.length, fzs_length], fun ns e => t.intsP (by rw [intsP_fzs e]; exact e), fun ns e => t.boolsP (by rw [boolsP_fzs e]; exact e), fun i z hz => ?_⟩
      obtain ⟨w, h1, h2⟩ := t.get (fzs_get hz)
      exact ⟨w, h1, .inl ⟨rfl, h2⟩⟩
  · cases hb
    cases q with
    | st q =>
      cases q with
      | lst ha t =>
        refine ⟨_, _, rfl, g.sub _ _ ha, t.length, fun ns e => t.intsP e, fun ns e => t.boolsP e, fun i z hz => ?_⟩
        obtain ⟨w, h1, h2⟩ := t.get hz
        exact ⟨w, h1, .inr ⟨rfl, [], .st h2, fun _ z => by simp at z⟩⟩
    | lst ha hf hn t hh =>
      refine ⟨_, _, rfl, ha, t.length, fun ns e => t.intsP e, fun ns e => t.boolsP e, fun i z hz => ?_⟩
      obtain ⟨w, f, h1, h2, h3⟩ := t.get hz
      exact ⟨w, h1, .inr ⟨rfl, f, h2, fun a ha => m a (by simp [h3 a ha])⟩⟩
theorem RF.plain {r : Rv} {v : V} (x : RF W fe F H r v) (h : r.2.st = true) (hz : r.2.fz = r.2) : Rp W F v r.2 := by
  rcases x with ⟨hb, q⟩ | ⟨hb, fp, q, m⟩
  · rw [hz] at q
    exact q
  · exact q.stable h
/-- a dict as it stands, at a key -/
theorem Ro.dget {v : V} {o T : Bool} {ks xs : List PV} {fp : List Addr} (q : Ro W F H v (.dct o T ks xs) fp) (sub : Same F H) {S : Hp} {vy : V} {y : PV} (sy : Rp W S vy y) (ss : Same S H) (hk : isKey T y = true) :
    ∃ a r, v = .ref a ∧ DGet H a vy r ∧ (match r, getP ks xs y with | some w, some z => ∃ f, Ro W F H w z f ∧ ∀ a ∈ f, a ∈ fp | none, none => True | _, _ => False) := by
  have kk : ∀ {kvs : List (Key × V)} {xs : List PV} {fp : List Addr} (k : Key), Ros W F H (kvs.map (·.2)) xs fp →
      (match valV kvs k, getP (kvs.map fun p => kP p.1) xs (kP k) with | some w, some z => ∃ f, Ro W F H w z f ∧ ∀ a ∈ f, a ∈ fp | none, none => True | _, _ => False) := by
    intro kvs
    induction kvs with
    | nil => intro xs fp k r; cases r; simp [valV, getP]
    | cons p kvs ih =>
      intro xs fp k r
      obtain ⟨j, v⟩ := p
      cases r with
      | cons a t d =>
        simp only [List.map_cons, getP, keq_kP]
        by_cases e : j = k
        · rw [valV_pos (by exact e), if_pos (by simpa using e)]
          exact ⟨_, a, fun b hb => by simp [hb]⟩
        · rw [valV_neg (by exact e), if_neg (by simpa using e)]
          have m := ih k t
          cases h1 : valV kvs k <;> cases h2 : getP (kvs.map fun p => kP p.1) _ (kP k) <;> rw [h1, h2] at m
          · trivial
          · exact m.elim
          · exact m.elim
          · obtain ⟨f, q1, q2⟩ := m
            exact ⟨f, q1, fun b hb => by simp [q2 b hb]⟩
  have tt : ∀ {kvs : List (List Key × V)} {xs : List PV} {fp : List Addr} (k : List Key), Ros W F H (kvs.map (·.2)) xs fp →
      (match valV kvs k, getP (kvs.map fun p => tP p.1) xs (tP k) with | some w, some z => ∃ f, Ro W F H w z f ∧ ∀ a ∈ f, a ∈ fp | none, none => True | _, _ => False) := by
    intro kvs
    induction kvs with
    | nil => intro xs fp k r; cases r; simp [valV, getP]
    | cons p kvs ih =>
      intro xs fp k r
      obtain ⟨j, v⟩ := p
      cases r with
      | cons a t d =>
        simp only [List.map_cons, getP, keq_tP]
        by_cases e : j = k
        · rw [valV_pos (by exact e), if_pos (by simpa using e)]
          exact ⟨_, a, fun b hb => by simp [hb]⟩
        · rw [valV_neg (by exact e), if_neg (by simpa using e)]
          have m := ih k t
          cases h1 : valV kvs k <;> cases h2 : getP (kvs.map fun p => tP p.1) _ (tP k) <;> rw [h1, h2] at m
          · trivial
          · exact m.elim
          · exact m.elim
          · obtain ⟨f, q1, q2⟩ := m
            exact ⟨f, q1, fun b hb => by simp [q2 b hb]⟩
  cases q with
  | st q =>
    obtain ⟨a, r, e, g, m⟩ : ∃ a r, v = .ref a ∧ DGet H a vy r ∧ (match r, getP ks xs y with | some w, some z => Rp W F w z | none, none => True | _, _ => False) := by
      cases q with
      | dK ha r =>
        rename_i a kvs
        obtain ⟨k, hx⟩ : ∃ k, keyOf y = some k := by cases y <;> simp [isKey] at hk <;> exact ⟨_, rfl⟩
        have e1 := sy.key hx
        have e2 := keyOf_kP hx
        subst e1 e2
        exact ⟨a, _, rfl, DGet.k (sub _ _ ha), getP_kP k r⟩
      | dT ha r =>
        rename_i a kvs
        cases sy with
        | tup hb q =>
          rename_i b ws zs
          obtain ⟨k, hx⟩ : ∃ k, keysOf zs = some k := Option.isSome_iff_exists.mp hk
          have e1 := q.keys hx
          have e2 := keysOf_kP hx
          subst e1 e2
          exact ⟨a, _, rfl, DGet.t (sub _ _ ha) (ss _ _ hb), getP_tP k r⟩
        | _ => simp [isKey] at hk
    refine ⟨a, r, e, g, ?_⟩
    cases r <;> cases hg : getP ks xs y <;> rw [hg] at m <;> first | exact m | exact ⟨_, .st m, fun _ z => by simp at z⟩
  | dK ha hf hn t hh =>
    rename_i a kvs fp
    obtain ⟨k, hx⟩ : ∃ k, keyOf y = some k := by cases y <;> simp [isKey] at hk <;> exact ⟨_, rfl⟩
    have e1 := sy.key hx
    have e2 := keyOf_kP hx
    subst e1 e2
    refine ⟨a, _, rfl, DGet.k ha, ?_⟩
    have m := kk k t
    cases h1 : valV kvs k <;> cases h2 : getP (kvs.map fun p => kP p.1) xs (kP k) <;> rw [h1, h2] at m
    · trivial
    · exact m.elim
    · exact m.elim
    · obtain ⟨f, q1, q2⟩ := m
      exact ⟨f, q1, fun b hb => by simp [q2 b hb]⟩
  | dT ha hf hn t hh =>
    rename_i a kvs fp
    cases sy with
    | tup hb q =>
      rename_i b ws zs
      obtain ⟨k, hx⟩ : ∃ k, keysOf zs = some k := Option.isSome_iff_exists.mp hk
      have e1 := q.keys hx
      have e2 := keysOf_kP hx
      subst e1 e2
      refine ⟨a, _, rfl, DGet.t ha (ss _ _ hb), ?_⟩
      rw [show PV.tup (List.map kP k) = tP k from rfl]
      have m := tt k t
      cases h1 : valV kvs k <;> cases h2 : getP (kvs.map fun p => tP p.1) xs (tP k) <;> rw [h1, h2] at m
      · trivial
      · exact m.elim
      · exact m.elim
      · obtain ⟨f, q1, q2⟩ := m
        exact ⟨f, q1, fun b hb => by simp [q2 b hb]⟩
    | _ => simp [isKey] at hk
end

theorem fz_st (x : PV) : x.fz.st = true := by cases x <;> simp [PV.fz, PV.st]
theorem getP_fzs : ∀ {ks xs : List PV} {y : PV}, getP ks (PV.fzs xs) y = (getP ks xs y).map PV.fz
  | [], xs, _ => by cases xs <;> rfl
  | _ :: _, [], _ => rfl
  | k :: ks, x :: xs, y => by
    simp only [PV.fzs, getP]
    split
    · rfl
    · exact getP_fzs
theorem RF.dget {W : Wd} {fe : List Addr} {F H : Hp} (g : Good W F H) {r : Rv} {v : V} (x : RF W fe F H r v) {o T : Bool} {ks xs : List PV} (h : r.2 = .dct o T ks xs) {S : Hp} {vy : V} {y : PV} (sy : Rp W S vy y) (ss : Same S H) (hk : isKey T y = true) {z : PV} (hz : getP ks xs y = some z) :
    ∃ a w, v = .ref a ∧ DGet H a vy (some w) ∧ RF W fe F H (r.1, z) w := by
  obtain ⟨b, u⟩ := r
  dsimp only at h
  subst h
  rcases x with ⟨hb, q⟩ | ⟨hb, fp, q, m⟩
  · cases hb
    obtain ⟨a, rr, e, gg, mm⟩ := Ro.dget (.st q : Ro W F H v _ []) g.sub sy ss hk
    rw [getP_fzs, hz] at mm
    cases rr with
    | none => exact mm.elim
    | some w =>
      obtain ⟨f, hf, hs⟩ := mm
      have : f = [] := by
        cases f with
        | nil => rfl
        | cons a f => exact absurd (hs a (by simp)) (by simp)
      subst this
      refine ⟨a, w, e, gg, .inl ⟨rfl, ?_⟩⟩
      exact hf.stable (fz_st z)
  · cases hb
    obtain ⟨a, rr, e, gg, mm⟩ := q.dget g.sub sy ss hk
    rw [hz] at mm
    cases rr with
    | none => exact mm.elim
    | some w =>
      obtain ⟨f, hf, hs⟩ := mm
      exact ⟨a, w, e, gg, .inr ⟨rfl, f, hf, fun a ha => m a (hs a ha)⟩⟩

/-! ### built-ins -/
def bltId : Blt → Value
  | .len => .builtin "len" | .int => .type "int" | .list => .type "list" | .tuple => .type "tuple" | .sum => .builtin "sum" | .max => .builtin "max" | .min => .builtin "min"
  | .abs => .builtin "abs" | .sorted => .builtin "sorted" | .any => .builtin "any" | .all => .builtin "all"
def rBlt (K : PySem.W.Frag) : Blt → List V → Hp → VK → Prop
  | .len => fun xs H Q => ∃ x n, xs = [x] ∧ LenV K x H n ∧ Q (.int n) H
  | .int => fun xs H Q => (∃ i, xs = [.int i] ∧ Q (.int i) H) ∨ ∃ k, xs = [.bl k] ∧ Q (.int (if k then 1 else 0)) H
  | .list => fun xs H Q => ∃ p ys, xs = [.ref p] ∧ (SqL K H p ys ∨ SqT K H p ys) ∧ ∀ l, H l = none → Q (.ref l) (upd H l (.lst ys))
  | .tuple => fun xs H Q => ∃ p ys, xs = [.ref p] ∧ ((SqL K H p ys ∧ ∀ l, H l = none → Q (.ref l) (upd H l (.tup ys))) ∨ (SqT K H p ys ∧ Q (.ref p) H))
  | .sum => rSum K
  | .max => fun xs H Q => ∃ i j, xs = [.int i, .int j] ∧ Q (.int (if j > i then j else i)) H
  | .min => fun xs H Q => ∃ i j, xs = [.int i, .int j] ∧ Q (.int (if j < i then j else i)) H
  | .abs => fun xs H Q => ∃ i, xs = [.int i] ∧ Q (.int (if i < 0 then -i else i)) H
  | .sorted => rSortedI K
  | .any => rAny K
  | .all => rAll K
theorem cr_blt {X : Cx} (hc : X.calm = true) : ∀ b : Blt, CallR X (bltId b) (rBlt X.K b)
  | .len => call_len
  | .int => call_int1
  | .list => call_list_of
  | .tuple => call_tuple_of
  | .sum => cr_sum hc
  | .max => call_max2 hc
  | .min => call_min2 hc
  | .abs => call_abs
  | .sorted => cr_sortedI
  | .any => cr_any hc
  | .all => cr_all hc

inductive RFs (W : Wd) (fe : List Addr) (F H : Hp) : List Rv → List V → Prop
  | nil : RFs W fe F H [] []
  | cons {r : Rv} {v : V} {rs : List Rv} {vs : List V} : RF W fe F H r v → RFs W fe F H rs vs → RFs W fe F H (r :: rs) (v :: vs)
theorem RFs.ext {W : Wd} {fe : List Addr} {F H F' H' : Hp} (e : Ext W F H F' H') : ∀ {rs : List Rv} {vs : List V}, RFs W fe F H rs vs → RFs W fe F' H' rs vs
  | _, _, .nil => .nil
  | _, _, .cons a t => .cons (a.ext e) (t.ext e)
section
variable {W : Wd} {E : XK} {fe : List Addr} {F0 H0 F H : Hp} {Q : VK}
theorem blt_ok (b : Blt) (e : Ext W F0 H0 F H) {rs : List Rv} {vs : List V} (q : RFs W fe F H rs vs) (h : (ofV (bltS b rs)).W (PostE W E fe F0 H0 Q)) : rBlt W.K b vs H Q := by
  cases hz : bltS b rs with
  | none => rw [hz] at h; exact h.elim
  | some z =>
    rw [hz] at h
    have h : (vB z).W (PostE W E fe F0 H0 Q) := h
    unfold bltS at hz
    split at hz
    · -- len
      rename_i r
      cases q with
      | cons q t =>
        cases t
        split at hz
        · rename_i o xs hr
          cases hz
          obtain ⟨a, vs, rfl, ha, hl, _⟩ := q.lst e.g hr
          exact ⟨_, _, rfl, .inl ⟨vs, .inl (.inl ha), hl.symm⟩, giveS h e .int⟩
        · rename_i xs hr
          cases hz
          have := q.plain (by rw [hr]; rfl) (by rw [hr]; rfl)
          rw [hr] at this
          cases this with
          | tup ha t => exact ⟨_, _, rfl, .inr ⟨_, .inl (.inl (e.g.sub _ _ ha)), t.length.symm⟩, giveS h e .int⟩
        · cases hz
    · -- int
      cases q with
      | cons q t =>
        cases t
        split at hz
        · rename_i i hr
          cases hz
          have := q.plain (by rw [hr]; rfl) (by rw [hr]; rfl)
          rw [hr] at this
          cases this
          exact .inl ⟨_, rfl, giveS h e .int⟩
        · rename_i i hr
          cases hz
          have := q.plain (by rw [hr]; rfl) (by rw [hr]; rfl)
          rw [hr] at this
          cases this
          exact .inr ⟨_, rfl, giveS h e .int⟩
        · cases hz
    · -- list
      cases q with
      | cons q t =>
        cases t
        split at hz
        · rename_i o xs hr
          cases hz
          obtain ⟨a, vs, rfl, ha, hn, t⟩ := q.sh e.g hr
          exact ⟨a, vs, rfl, .inl (.inl (.inl ha)), fun l hl => giveL h e hl t⟩
        · rename_i xs hr
          cases hz
          have := q.sh e.g hr
          cases this with
          | tup ha t => exact ⟨_, _, rfl, .inr (.inl (.inl (e.g.sub _ _ ha))), fun l hl => giveL h e hl t⟩
        · cases hz
    · -- tuple
      cases q with
      | cons q t =>
        cases t
        split at hz
        · rename_i o xs hr
          cases hz
          obtain ⟨a, vs, rfl, ha, hn, t⟩ := q.sh e.g hr
          exact ⟨a, vs, rfl, .inl ⟨.inl (.inl ha), fun l hl => giveT h e hl t⟩⟩
        · rename_i xs hr
          cases hz
          have := q.sh e.g hr
          cases this with
          | tup ha t => exact ⟨_, _, rfl, .inr ⟨.inl (.inl (e.g.sub _ _ ha)), giveS h e (.tup ha t)⟩⟩
        · cases hz
    · -- sum
      cases q with
      | cons q t =>
        cases t
        split at hz
        · rename_i o xs hr
          obtain ⟨ns, hn, rfl⟩ := Option.map_eq_some_iff.mp hz
          obtain ⟨a, vs, rfl, ha, _, hi, _⟩ := q.lst e.g hr
          have := hi ns hn
          subst this
          exact ⟨a, ns, rfl, .inl (.inl ha), giveS h e .int⟩
        · cases hz
    · -- max
      cases q with
      | cons q t =>
        cases t with
        | cons q2 t =>
          cases t
          split at hz
          · rename_i i j hr hr2
            cases hz
            have a1 := q.plain (by rw [hr]; rfl) (by rw [hr]; rfl)
            have a2 := q2.plain (by rw [hr2]; rfl) (by rw [hr2]; rfl)
            rw [hr] at a1
            rw [hr2] at a2
            cases a1; cases a2
            exact ⟨_, _, rfl, giveS h e .int⟩
          · cases hz
    · -- min
      cases q with
      | cons q t =>
        cases t with
        | cons q2 t =>
          cases t
          split at hz
          · rename_i i j hr hr2
            cases hz
            have a1 := q.plain (by rw [hr]; rfl) (by rw [hr]; rfl)
            have a2 := q2.plain (by rw [hr2]; rfl) (by rw [hr2]; rfl)
            rw [hr] at a1
            rw [hr2] at a2
            cases a1; cases a2
            exact ⟨_, _, rfl, giveS h e .int⟩
          · cases hz
    · -- abs
      cases q with
      | cons q t =>
        cases t
        split at hz
        · rename_i i hr
          cases hz
          have := q.plain (by rw [hr]; rfl) (by rw [hr]; rfl)
          rw [hr] at this
          cases this
          exact ⟨_, rfl, giveS h e .int⟩
        · cases hz
    · -- any
      cases q with
      | cons q t =>
        cases t
        split at hz
        · rename_i o xs hr
          obtain ⟨ns, hn, rfl⟩ := Option.map_eq_some_iff.mp hz
          obtain ⟨a, vs, rfl, ha, _, _, hi, _⟩ := q.lst e.g hr
          have := hi ns hn
          subst this
          exact ⟨a, ns, rfl, .inl (.inl ha), giveS h e .bl⟩
        · cases hz
    · -- all
      cases q with
      | cons q t =>
        cases t
        split at hz
        · rename_i o xs hr
          obtain ⟨ns, hn, rfl⟩ := Option.map_eq_some_iff.mp hz
          obtain ⟨a, vs, rfl, ha, _, _, hi, _⟩ := q.lst e.g hr
          have := hi ns hn
          subst this
          exact ⟨a, ns, rfl, .inl (.inl ha), giveS h e .bl⟩
        · cases hz
    · cases hz

/-! ### subscripts, slices, truth -/
def rSub (K : PySem.W.Frag) : R2 := fun x y H Q => (rIxL K x y H Q ∨ rIxT K x y H Q) ∨ ∃ a v, x = .ref a ∧ DGet H a y (some v) ∧ Q v H
end
theorem ix_dict {X : Cx} (hu : X.A.units + 1 < cLine) : IxR X (fun x y H Q => ∃ a v, x = .ref a ∧ DGet H a y (some v) ∧ Q v H) := by
  intro value slice pins s σ H x y v u Q I rx ry h hs
  obtain ⟨a, w, rfl, g, q⟩ := h
  cases rx
  have hT := dict_typeIs I g
  unfold subscriptTail
  refine wpAny_bind ?_
  rw [getitemInPython_of_ne hT.not_modules]
  refine wpAny_bind (wpAny_specialOf hT PySem.F.slot_dict_getitem.lookup ?_)
  have fin : wpAny (model X.prog X.w) X.A (subscripted slice false (.ref a) u) (fun r s₃ => wpAny (model X.prog X.w) X.A (letTemporaryGo value (.ref a) r >>= fun _ => pure r) (EP X pins σ Q) X.xe s₃) X.xe s := by
    rw [hs]
    exact wpAny_operating (d_getItem hu I g ry fun w' s' I' rw' => wpAny_bind (wpAny_letTemporaryGo (wpAny_pure ⟨w, H, I', rw', q⟩)))
  first
    | exact wpAny_pure (wpAny_bind fin)
    | exact wpAny_bind (wpAny_pure (wpAny_bind fin))
    | exact wpAny_bind fin
theorem ix_sub {X : Cx} (hu : X.A.units + 100 < cLine) : IxR X (rSub X.K) := ((ix_list.or ix_tup).or (ix_dict (by omega)))
end FS

set_option Elab.async false
set_option linter.all false
set_option maxRecDepth 100000
set_option maxHeartbeats 4000000
/-! enumerate(t), t a tuple -/
namespace FS
open PySem PySem.Spec PyProof.Rows L2
open Sem (wp)
theorem meets_enumT (t : Addr) (items : Array Value) :
    Meets (Builtin.«enumerate.__new__» ⟨[.type "enumerate", .ref t], []⟩) (fun _ R s => s.heap.IsTuple t items ∧
      R (.ok (.ret (.ref (s.heap.push { cls := .type "tuple_iterator", data := .fields #[.ref t, .int 0 0] }).objs.size)))
        { s with heap := (s.heap.push { cls := .type "tuple_iterator", data := .fields #[.ref t, .int 0 0] }).push { cls := .type "enumerate", data := .fields #[.none, .bool false, .ref s.heap.objs.size, rawInt 0, .none, .none] } }) :=
  .of_wp fun prog w A R s h => by
    obtain ⟨hp, g, d, tk, os⟩ := s
    obtain ⟨hT, h⟩ := h
    obtain ⟨⟨c0, dct, dt, sl⟩, ho, hc, n, hd⟩ := id hT
    simp only at hc hd
    subst hc hd
    have hsub := sub_enumerate
    wp_walk using AutoSeq1.wpAny_loadPart' ho
    refine wpAny_stack_any fun st => wpAny_pure ?_
    split
    · rename_i c _ _ _ _ _
      cases (c == Value.type "enumerate")
      · wp_walk using AutoSeq1.wpAny_loadPart' ho, wpAny_pyIter_tuple hT
        exact ⟨_, rfl, h⟩
      · wp_walk using AutoSeq1.wpAny_loadPart' ho, wpAny_pyIter_tuple hT
        exact ⟨_, rfl, h⟩
    · wp_walk using AutoSeq1.wpAny_loadPart' ho, wpAny_pyIter_tuple hT
      exact ⟨_, rfl, h⟩
section
variable {prog : Program} {w : World} {A : Around} {E : Value → Shared → Prop} {s : Shared}
theorem call_enumT {t : Addr} {items : Array Value} {Q : Value → Shared → Prop} (hT : s.heap.IsTuple t items)
    (h : ∀ h', IsEnum h' (s.heap.objs.size + 1) s.heap.objs.size 0 .none → h'.IsTupleIter s.heap.objs.size t 0 → h'.objs.size = s.heap.objs.size + 2 →
      (∀ b o, s.heap.get? b = some o → h'.get? b = some o) → Q (.ref (s.heap.objs.size + 1)) { s with heap := h' }) :
    wpAny (model prog w) A (call (.type "enumerate") [.ref t]) Q E s := by
  refine callType_new F.called_enumerate (by decide) (F.typeCall_enumerate_1 _) (F.newCall_enumerate_1 _) (fun obj => F.args_object_init_2 obj _) F.entry_enumerate_new
    (meets_enumT t items) ⟨hT, ?_⟩
  have hz : (s.heap.push { cls := .type "tuple_iterator", data := .fields #[.ref t, .int 0 0] }).objs.size = s.heap.objs.size + 1 := Heap.size_push ..
  show _ ∧ _
  rw [hz]
  have he : IsEnum ((s.heap.push { cls := .type "tuple_iterator", data := .fields #[.ref t, .int 0 0] }).push
      { cls := .type "enumerate", data := .fields #[.none, .bool false, .ref s.heap.objs.size, rawInt 0, .none, .none] }) (s.heap.objs.size + 1) s.heap.objs.size 0 .none := by
    have q := Heap.get?_push_size (s.heap.push { cls := .type "tuple_iterator", data := .fields #[.ref t, .int 0 0] })
      (o := { cls := .type "enumerate", data := .fields #[.none, .bool false, .ref s.heap.objs.size, rawInt 0, .none, .none] }) rfl
    rw [hz] at q
    exact q
  exact ⟨⟨_, he, rfl⟩, h _ he ⟨_, Heap.get?_push_of_some _ (Heap.get?_push_size _ rfl), rfl, rfl⟩ (by rw [Heap.size_push, hz]) fun b o x => Heap.get?_push_of_some _ (Heap.get?_push_of_some _ x)⟩
end
/-- the tuple at a as it stands at each turn, each item in a new pair -/
def IteT (K : PySem.W.Frag) (a : Addr) : L2.It :=
  ⟨fun i H => ∃ (xs : List V) (x : V), SqT K H a xs ∧ xs[i]? = some x, fun i H v H' => ∃ T x, v = .ref T ∧ H T = none ∧ H' = upd H T (.tup [.int (i : Nat), x]) ∧ ∀ xs, SqT K H a xs → xs[i]? = some x, fun i H => ∃ xs : List V, SqT K H a xs ∧ xs.length = i⟩
theorem turn_enumT {P : Program} {w : World} {K : PySem.W.Frag} {elts : List Expr} {kk : Nat} {tpos : Pos} (a e it : Addr) :
    Turn P w K (.Tuple elts kk tpos) (IteT K a) [e, it] e (fun i h => (∃ old, IsEnum h e it ((i : Nat) : Int) old) ∧ h.IsTupleIter it a i ∧ e ≠ it ∧ a ≠ it ∧ e ≠ a) where
  mem := by simp
  obj := fun i h st b hb => by
    obtain ⟨⟨old, he⟩, ⟨o, ho, hc, hd⟩, _⟩ := st
    have e' : b = e ∨ b = it := by simpa using hb
    rcases e' with z | z
    · subst z; exact ⟨_, he, fun v q => nomatch q⟩
    · subst z; exact ⟨o, ho, fun v q => by rw [hd] at q; cases q⟩
  keep := fun i h h' st k => by
    obtain ⟨⟨old, he⟩, hi, hne⟩ := st
    exact ⟨⟨old, k e (by simp) _ he⟩, hi.at fun o q => k it (by simp) o q, hne⟩
  item := by
    intro X hP hw hK hc i pins s σ H E I hf st hg
    subst hP hw hK
    obtain ⟨⟨old, he⟩, hit, hne, hai, hea⟩ := st
    obtain ⟨xs, x, hq, hx⟩ := hg
    obtain ⟨its, rv, p, hz⟩ := I.tuple hq
    obtain ⟨u, hu, ru⟩ := rv.get hx
    have hel : e < s.heap.objs.size := Heap.lt_size he
    have hlt : i < its.toArray.size := by
      have := (List.getElem?_eq_some_iff.mp hu).1
      simpa using this
    refine wpAny_pyNext_enum_itemD (i := i) (Draws.tuple (A := X.A.in1) (show X.A.in1.handled = none from I.ok.hd hc) it a hai its.toArray) he ⟨hit, p⟩ hlt hne (by simp [hne, hea]) fun u' h' tk hP ho hst hT hsz hk => ?_
    obtain ⟨hit', _⟩ := hst
    have eu : u' = u := by
      have : its.toArray[i]? = some u := by simpa using hu
      rw [this] at hP
      exact (Option.some.inj hP).symm
    subst eu
    refine ⟨_, rfl, wpAny_letOwnedTupleGo_enum (s := { s with heap := h', toks := tk + 1 }) ho fun h'' he' sb => ?_⟩
    have hT2 : h''.get? s.heap.objs.size = some { cls := .type "tuple", data := .seq #[.int i tk, u'] } := (sb.2 _ (Nat.ne_of_gt hel)).trans hT
    have new : ObjOk X.prog X.w (upd H s.heap.objs.size (.tup [.int (i : Nat), x])) h'' s.heap.objs.size (.tup [.int (i : Nat), x]) :=
      ⟨by show 2 ≤ sizeLine; decide, [.int i tk, u'], .cons ⟨_, rfl⟩ (.cons ru .nil), ⟨_, hT2, rfl, _, rfl⟩⟩
    have I1 : Inv X pins σ (upd H s.heap.objs.size (.tup [.int (i : Nat), x])) { s with heap := h'', toks := tk + 1 } :=
      I.turnedNew (ch := [e, it]) (fun b ob hb q => (sb.2 b (fun z => hb (by simp [z]))).trans (hk b ob (fun z => hb (by simp [z])) (fun z => hb (by simp [z])) q)) hf (Nat.le_refl _) new
    refine ⟨.ref s.heap.objs.size, _, I1, rfl, ⟨_, x, rfl, I.hok.fresh (Nat.le_refl _), rfl, fun ys hy => by rw [I.tuple_inj hy hq]; exact hx⟩, ⟨⟨u', ?_⟩, hit'.at fun o q => (sb.2 it (Ne.symm hne)).trans q, hne, hai, hea⟩, fun b hb => ?_⟩
    · have e1 : ((i + 1 : Nat) : Int) = (i : Int) + 1 := by omega
      rw [e1]; exact he'
    · have hb' : b < s.heap.objs.size := by
        have e' : b = e ∨ b = it := by simpa using hb
        rcases e' with z | z
        · rw [z]; exact hel
        · obtain ⟨_, q, _⟩ := hit
          rw [z]; exact Heap.lt_size q
      rw [upd_ne (Nat.ne_of_lt hb')]
      exact (hf b hb).1
  done := by
    intro X hP hw hK hc i pins s σ H E I hf st hg
    subst hP hw hK
    obtain ⟨⟨old, he⟩, hit, hne, hai, hea⟩ := st
    obtain ⟨xs, hq, hx⟩ := hg
    obtain ⟨its, rv, p, hz⟩ := I.tuple hq
    obtain ⟨f0, f1, f2, f3, f4, f5⟩ := hf it (by simp)
    have hl := rv.length
    have hn : its.toArray.size = i := by simp; omega
    refine wpAny_pyNext_enum_endD (Draws.tuple (A := X.A.in1) (show X.A.in1.handled = none from I.ok.hd hc) it a hai its.toArray) he (by rw [hn]; exact ⟨hit, p⟩) fun h' eb => ⟨rfl, I.turned (t' := s.toks) (fun b o hb q => eb b o hb q) f0 f1 f3 f4 f5⟩
  self := fun A i s Q E st h => let ⟨⟨_, he⟩, _⟩ := st; wpAny_pyIter_enum he h
/-- enumerate of a list or a tuple -/
def iEnumA (K : PySem.W.Frag) (ta : TA) : TI := fun σ H R => ta σ H fun vs H1 => ∃ a xs, vs = [.ref a] ∧ ((SqL K H1 a xs ∧ R (Ite K a) H1) ∨ (SqT K H1 a xs ∧ R (IteT K a) H1))
theorem pi_enumA {X : Cx} {e : Expr} {ta : TA} {p pos tpos : Pos} {elts : List Expr} {kk : Nat} (hg : Gl X "enumerate") (hm : X.mg "enumerate" = none) (ha : PA X [e] ta) (hs : starEach [e] X.env = [(false, eval e X.env)]) :
    PI X (.Tuple elts kk tpos) (.Call (.Name "enumerate" p) [e] [] pos) (iEnumA X.K ta) := by
  refine ⟨fun pins s σ H R I h => ?_⟩
  refine Call_ (ld_blt I hg hm boot_enumerate (PyProof.Rows.callWith_type1 (thn (ha.run pos pins s σ H _ I h) fun us s1 ⟨vs, H1, I1, r1, q1⟩ => ?_) hs rfl))
  obtain ⟨a, xs, ex, q⟩ := q1
  subst ex
  cases r1 with
  | cons r rr =>
    cases rr
    cases r
    have fr : ∀ b ∈ [s1.heap.objs.size + 1, s1.heap.objs.size], FpOk X pins H1 b := fun b hb => by
      have hle : s1.heap.objs.size ≤ b := by
        have e' : b = s1.heap.objs.size + 1 ∨ b = s1.heap.objs.size := by simpa using hb
        rcases e' with z | z
        · rw [z]; exact Nat.le_add_right _ _
        · rw [z]; exact Nat.le_refl _
      exact I1.fpOk hle (I1.hok.fresh hle)
    rcases q with ⟨hq, q⟩ | ⟨hq, q⟩
    · obtain ⟨its, rv, p', hz⟩ := I1.list hq
      refine call_enumerate_list p'.isList fun h' he hit hsz hk => wpAny_pyIter_enum he ?_
      have I2 : Inv X pins σ H1 { s1 with heap := h' } := I1.kept (t' := s1.toks) hk
      exact ⟨s1.heap.objs.size + 1, [s1.heap.objs.size + 1, s1.heap.objs.size], _, _, H1, rfl, I2, turn_enum a (s1.heap.objs.size + 1) s1.heap.objs.size, ⟨⟨.none, he⟩, hit, Nat.succ_ne_self _⟩, fr, q⟩
    · obtain ⟨its, rv, p', hz⟩ := I1.tuple hq
      have hl : a < s1.heap.objs.size := p'.lt
      refine call_enumT (show s1.heap.IsTuple a its.toArray from p') fun h' he hit hsz hk => wpAny_pyIter_enum he ?_
      have I2 : Inv X pins σ H1 { s1 with heap := h' } := I1.kept (t' := s1.toks) hk
      exact ⟨s1.heap.objs.size + 1, [s1.heap.objs.size + 1, s1.heap.objs.size], _, _, H1, rfl, I2, turn_enumT a (s1.heap.objs.size + 1) s1.heap.objs.size, ⟨⟨.none, he⟩, hit, Nat.succ_ne_self _, Nat.ne_of_lt hl, Nat.ne_of_gt (Nat.lt_succ_of_lt hl)⟩, fr, q⟩
theorem walk_enumT {K : PySem.W.Frag} {a : Addr} {xs : List V} : Walk (IteT K a) xs.length (fun H => H a = some (.tup xs)) (YPair (fun i => some (.int (i : Nat))) (fun i => xs[i]?)) := by
  refine ⟨fun i _ hi q => ⟨xs, xs[i], SqT.of q, by simp [hi]⟩, fun _ q => ⟨xs, SqT.of q, rfl⟩, fun i H v H' _ q y => ?_⟩
  obtain ⟨T, x, h1, h2, h3, h4⟩ := y
  exact ⟨T, .int (i : Nat), x, h1, h2, h3, rfl, h4 xs (SqT.of q)⟩
end FS

set_option Elab.async false
set_option linter.all false
set_option maxRecDepth 100000
set_option maxHeartbeats 4000000
namespace FS
open PySem PySem.Spec PyProof.Rows L2

/-! ### argument lists -/
inductive RRs (W : Wd) (fe : List Addr) (F H H0 : Hp) : List Rv → List V → List Addr → Prop
  | nil : RRs W fe F H H0 [] [] []
  | old {v : V} {x : PV} {f g : List Addr} {rs : List Rv} {vs : List V} : Ro W F H v x f → (∀ a ∈ f, a ∈ fe) → RRs W fe F H H0 rs vs g → RRs W fe F H H0 ((true, x) :: rs) (v :: vs) g
  | new {v : V} {x : PV} {f g : List Addr} {rs : List Rv} {vs : List V} : Ro W F H v x f → (∀ a ∈ f, H0 a = none) → RRs W fe F H H0 rs vs g → (∀ a ∈ f, a ∉ g) → RRs W fe F H H0 ((false, x) :: rs) (v :: vs) (f ++ g)
theorem RRs.fresh {W : Wd} {fe : List Addr} {F H H0 : Hp} : ∀ {rs : List Rv} {vs : List V} {g : List Addr}, RRs W fe F H H0 rs vs g → ∀ a ∈ g, H0 a = none ∧ F a = none ∧ a ≠ W.pen ∧ ∃ o, H a = some o
  | _, _, _, .nil, a, h => by simp at h
  | _, _, _, .old _ _ t, a, h => t.fresh a h
  | _, _, _, .new r n t _, a, h => by
    rcases List.mem_append.mp h with h | h
    · obtain ⟨x, y, z⟩ := r.own a h
      exact ⟨n a h, y, z, x⟩
    · exact t.fresh a h
theorem RRs.length {W : Wd} {fe : List Addr} {F H H0 : Hp} : ∀ {rs : List Rv} {vs : List V} {g : List Addr}, RRs W fe F H H0 rs vs g → vs.length = rs.length
  | _, _, _, .nil => rfl
  | _, _, _, .old _ _ t => by simp [t.length]
  | _, _, _, .new _ _ t _ => by simp [t.length]
/-- frozen, all that is one's own -/
theorem RRs.froze {W : Wd} {fe : List Addr} {F0 H0 F H : Hp} (e : Ext W F0 H0 F H) (fo : ∀ a ∈ fe, ∃ o, H0 a = some o) {rs : List Rv} {vs : List V} {g : List Addr} (x : RRs W fe F H H0 rs vs g) : ∃ F', Ext W F0 H0 F' H ∧ RFs W fe F' H rs vs := by
  have k : ∀ a ∈ g, F a = none := fun a h => (x.fresh a h).2.1
  have main : ∀ {rs : List Rv} {vs : List V} {f : List Addr}, RRs W fe F H H0 rs vs f → (∀ a ∈ f, a ∈ g) → RFs W fe (adj F H g) H rs vs := by
    intro rs vs f y
    induction y with
    | nil => exact fun _ => .nil
    | old r m t ih =>
      intro s
      refine .cons (.inr ⟨rfl, _, r.carry (adj_same k) (fun a ha => ⟨rfl, ?_⟩), m⟩) (ih s)
      rw [adj_out]
      · exact (r.own a ha).2.1
      · intro z
        obtain ⟨o, ho⟩ := fo a (m a ha)
        rw [(x.fresh a z).1] at ho
        cases ho
    | new r n t d ih =>
      intro s
      exact .cons (.inl ⟨rfl, r.frozen.mono (adj_mono (fun a ha => s a (by simp [ha])) k)⟩) (ih fun a ha => s a (by simp [ha]))
  exact ⟨adj F H g, e.freeze (fun a h => ⟨k a h, (x.fresh a h).2.2.1⟩) (fun a h => (x.fresh a h).1), main x fun _ h => h⟩
def PostA (W : Wd) (E : XK) (fe : List Addr) (F H : Hp) (Q : List V → Hp → Prop) : Out (List Rv) → Prop
  | .ok rs => ∀ (F' H' : Hp) (vs : List V) (g : List Addr), Ext W F H F' H' → RRs W fe F' H' H rs vs g → Q vs H'
  | .exn c ns xs => ExP W E F H c ns xs
  | .bad => False
def tA (W : Wd) (E : XK) (m : Loc → Tr (List Rv)) : TA := fun σ H Q => ∃ F ρ fp, Good W F H ∧ EnvR W F H σ ρ fp ∧ (m ρ).W (PostA W E fp F H Q)
def PAX (W : Wd) (k : Nat) (N : List Str) (sc : Scope) (xs : List Expr) (m : Loc → Tr (List Rv)) : Prop := ∀ (X : Cx) (E : XK), CxOk W k N sc E X → PA X xs (tA W E m)
theorem RRs.back {W : Wd} {fe : List Addr} {F H H0 H1 F0 F1 : Hp} (e : Ext W F0 H0 F1 H1) : ∀ {rs : List Rv} {vs : List V} {g : List Addr}, RRs W fe F H H1 rs vs g → RRs W fe F H H0 rs vs g
  | _, _, _, .nil => .nil
  | _, _, _, .old r m t => .old r m (t.back e)
  | _, _, _, .new r n t d => .new r (fun a ha => e.free (n a ha)) (t.back e) d
theorem tA.imp {W : Wd} {E : XK} {m : Loc → Tr (List Rv)} {σ : L2.St} {H : Hp} {Q Q' : List V → Hp → Prop} (h : tA W E m σ H Q) (i : ∀ v H', Q v H' → Q' v H') : tA W E m σ H Q' := by
  obtain ⟨F, ρ, fp, g, env, h⟩ := h
  refine ⟨F, ρ, fp, g, env, Tr.W_imp (fun o ho => ?_) h⟩
  cases o with
  | ok r => exact fun F' H' v f e' q => i _ _ (ho F' H' v f e' q)
  | exn c ns xs => exact ho
  | bad => exact ho
/-- the arguments, then what is done with them: not frozen -/
theorem stepA {W : Wd} {E : XK} {m : Loc → Tr (List Rv)} {K : List Rv → Tr Rv} {σ : L2.St} {H : Hp} {Q : VK} (h : tE W E (fun ρ => (m ρ).bind K) σ H Q) :
    tA W E m σ H fun vs H1 => ∃ fe F0 H0 F1 rs g, (∀ a ∈ fe, ∃ o, H0 a = some o) ∧ Ext W F0 H0 F1 H1 ∧ RRs W fe F1 H1 H0 rs vs g ∧ (K rs).W (PostE W E fe F0 H0 Q) := by
  obtain ⟨F, ρ, fp, g, env, h⟩ := h
  refine ⟨F, ρ, fp, g, env, Tr.W_imp (fun o ho => ?_) (Tr.W_bind.mp h)⟩
  cases o with
  | ok r => exact fun F' H' v f e' q => ⟨fp, F, H, F', r, f, fun a ha => (env.own a ha).1, e', q, ho⟩
  | exn c ns xs => exact ho
  | bad => exact ho
/-- .. frozen -/
theorem stepAF {W : Wd} {E : XK} {m : Loc → Tr (List Rv)} {K : List Rv → Tr Rv} {σ : L2.St} {H : Hp} {Q : VK} (h : tE W E (fun ρ => (m ρ).bind K) σ H Q) :
    tA W E m σ H fun vs H1 => ∃ fe F0 H0 F1 rs, Ext W F0 H0 F1 H1 ∧ RFs W fe F1 H1 rs vs ∧ (K rs).W (PostE W E fe F0 H0 Q) :=
  (stepA h).imp fun v H' ⟨fe, F0, H0, F1, rs, g, fo, e, q, z⟩ => by
    obtain ⟨F2, e2, q2⟩ := q.froze e fo
    exact ⟨fe, F0, H0, F2, rs, e2, q2, z⟩
theorem takes_ok {W : Wd} {fe : List Addr} {F H : Hp} : ∀ {rs : List Rv} {vs : List V} {xs : List PV}, RFs W fe F H rs vs → takes rs = some xs → Rps W F vs xs
  | _, _, _, .nil, h => by cases h; exact .nil
  | _, _, _, .cons (r := r) (rs := rs) a t, h => by
    simp only [takes] at h
    cases hx : FS.take r with
    | none => rw [hx] at h; simp at h
    | some x =>
      cases hs : takes rs with
      | none => rw [hx, hs] at h; simp at h
      | some xs =>
        rw [hx, hs] at h
        cases h
        exact .cons (a.take hx) (takes_ok t hs)
theorem movs_ok {W : Wd} {fe : List Addr} {F H H0 : Hp} : ∀ {rs : List Rv} {vs : List V} {g : List Addr} {xs : List PV}, RRs W fe F H H0 rs vs g → movs rs = some xs → Ros W F H vs xs g
  | _, _, _, _, .nil, h => by cases h; exact .nil
  | _, _, _, _, .old (x := y) (rs := rs) r m t, h => by
    simp only [movs] at h
    cases hx : mov (true, y) with
    | none => rw [hx] at h; simp at h
    | some x =>
      cases hs : movs rs with
      | none => rw [hx, hs] at h; simp at h
      | some xs =>
        rw [hx, hs] at h
        cases h
        have hy : y.st = true := by
          by_cases z : y.st = true
          · exact z
          · simp [mov, z] at hx
        have e : y = x := by simpa [mov, hy] using hx
        subst e
        exact Ros.cons (f := []) (.st (r.stable hy)) (movs_ok t hs) (fun _ z => by simp at z)
  | _, _, _, _, .new (x := y) (rs := rs) r n t d, h => by
    simp only [movs] at h
    cases hs : movs rs with
    | none => rw [hs] at h; simp [mov] at h
    | some xs =>
      rw [hs] at h
      have e0 : mov (false, y) = some y := by simp [mov]
      rw [e0] at h
      cases h
      exact .cons r (movs_ok t hs) d

/-! ### the checker's small parts -/
def visB (sc : Scope) (x : Str) : Bool := match sc.names.lookup x with
  | some .local => true
  | some .cell => true
  | some .free => true
  | _ => false
def glB (sc : Scope) (x : Str) : Bool := match sc.names.lookup x with
  | some .globalImplicit => true
  | _ => false
def locB (sc : Scope) (x : Str) : Bool := match sc.names.lookup x with
  | some .local => true
  | _ => false
def nmB (x : Str) : Bool := !(x == ("__debug__" : Str)) && (!(x == ("__classdict__" : Str)) && !(x == ("__name__" : Str)))
theorem visB_ok {sc : Scope} {x : Str} (h : visB sc x = true) : Vis sc x := by
  unfold visB at h
  unfold Vis
  split at h <;> first | exact .inl (by assumption) | exact .inr (.inl (by assumption)) | exact .inr (.inr (by assumption)) | cases h
theorem glB_ok {sc : Scope} {x : Str} (h : glB sc x = true) : sc.names.lookup x = some .globalImplicit := by
  unfold glB at h
  split at h
  · assumption
  · cases h
theorem locB_ok {sc : Scope} {x : Str} (h : locB sc x = true) : sc.names.lookup x = some .local := by
  unfold locB at h
  split at h
  · assumption
  · cases h
theorem nmB_ok {x : Str} (h : nmB x = true) : (x == ("__debug__" : Str)) = false ∧ (x == ("__classdict__" : Str)) = false ∧ x ≠ "__name__" := by
  unfold nmB at h
  simp only [Bool.and_eq_true, Bool.not_eq_true'] at h
  exact ⟨h.1, h.2.1, fun z => by rw [z] at h; simp at h⟩
def bltN : Blt → Str
  | .len => "len" | .int => "int" | .list => "list" | .tuple => "tuple" | .sum => "sum" | .max => "max" | .min => "min" | .abs => "abs" | .sorted => "sorted" | .any => "any" | .all => "all"
theorem boot_blt : ∀ b : Blt, bootBuiltins (bltN b) = some (bltId b) := fun b => by cases b <;> decide +kernel
def tyN (n : String) : Option Str := match n with
  | "int" => some "int" | "bool" => some "bool" | "str" => some "str" | "list" => some "list" | "tuple" => some "tuple" | "dict" => some "dict" | _ => none
theorem boot_ty {n : String} {x : Str} (h : tyN n = some x) : bootBuiltins x = some (.type n) := by
  unfold tyN at h
  split at h <;> first | (cases h; decide +kernel) | cases h
/-- no star, no slice -/
def plainB : Expr → Bool
  | .Starred _ _ => false
  | .Slice _ _ _ _ => false
  | .Set _ _ _ => false
  | _ => true
theorem star_cons {e : Expr} {es : List Expr} {env : Env} (h : plainB e = true) : starEach (e :: es) env = (false, eval e env) :: starEach es env := by
  cases e <;> first | rfl | cases h
theorem star_all {env : Env} {pos : Pos} : ∀ {es : List Expr}, es.all plainB = true → (backTo pos (starEach es env)).any (·.1) = false
  | [], _ => rfl
  | e :: es, h => by
    simp only [List.all_cons, Bool.and_eq_true] at h
    rw [star_cons h.1]
    have := star_all (env := env) (pos := pos) h.2
    simpa [backTo] using this
theorem plain_ix {e : Expr} (h : plainB e = true) : PlainIx e := fun o i => by
  cases e <;> first | rfl | cases h
theorem plain_fold {e : Expr} {env : Env} (h : plainB e = true) : ∀ x, foldedSetIterable e env x = pure x := fun x => by
  cases e <;> first | rfl | cases h
theorem plain_mark {e : Expr} {op : CmpOp} (h : plainB e = true) : behindInMarks op e = false := by
  cases e <;> first | rfl | cases h
def truB : Expr → Bool
  | .UnaryOp .Not _ _ => false
  | .BoolOp _ _ _ => false
  | .IfExp _ _ _ _ => false
  | .Compare _ _ _ _ => false
  | _ => true
theorem tru_plain {e : Expr} {env : Env} (h : truB e = true) : ∀ whole, isTrue e env whole = (do let v ← whole; standAt e.pos; holding [v] (truthy v)) := fun whole => by
  cases e with
  | UnaryOp op a p => cases op <;> first | rfl | cases h
  | _ => first | rfl | cases h
end FS

set_option Elab.async false
set_option linter.all false
set_option maxRecDepth 100000
set_option maxHeartbeats 4000000
namespace FS
open PySem PySem.Spec PyProof.Rows L2

/-! ### targets -/
def storeB (fnc : Str → Bool) (sc : Scope) (x : Str) : Bool := match sc.names.lookup x with
  | some .local => true
  | some .cell => fnc x
  | _ => false
def namesB (fnc : Str → Bool) (N : List Str) (sc : Scope) : List Nat → List Expr → Bool
  | [], [] => true
  | i :: is, .Name x _ :: es => decide (N[i]? = some x) && storeB fnc sc x && namesB fnc N sc is es
  | _, _ => false
def tgB (fnc : Str → Bool) (N : List Str) (sc : Scope) : Tg → Expr → Bool
  | .v i, .Name x _ => decide (N[i]? = some x) && storeB fnc sc x
  | .t is, .Tuple es _ _ => namesB fnc N sc is es
  | _, _ => false
def gNames : List Nat → TGs
  | [] => gNil
  | i :: is => gCons (gName i) (gNames is)
def gT (K : PySem.W.Frag) : Tg → TG
  | .v i => gName i
  | .t is => gTup K is.length (gNames is)
theorem storeB_ok {fnc : Str → Bool} {sc : Scope} {x : Str} {X : Cx} (h : storeB fnc sc x = true) (hf : ∀ y, fnc y = true → X.fn y = true) (hs : X.env.scope = sc) :
    L2.Loc X.env.scope x ∧ (X.fn x = true ∨ X.env.scope.names.lookup x = some .local) := by
  unfold storeB at h
  rw [hs]
  split at h
  · exact ⟨.inl (by assumption), .inr (by assumption)⟩
  · exact ⟨.inr (by assumption), .inl (hf _ h)⟩
  · cases h
theorem pgs_names {fnc : Str → Bool} {N : List Str} {sc : Scope} {X : Cx} (hN : X.N.Nodup) (eN : X.N = N) (hf : ∀ y, fnc y = true → X.fn y = true) (hs : X.env.scope = sc) :
    ∀ {is : List Nat} {es : List Expr}, namesB fnc N sc is es = true → PGs X es (gNames is) ∧ (assignEach es X.env).length = is.length ∧ (assignEach es X.env).findIdx? (·.1) = none
  | [], [], _ => ⟨pgs_nil, rfl, rfl⟩
  | i :: is, .Name x p :: es, h => by
    unfold namesB at h
    simp only [Bool.and_eq_true, decide_eq_true_eq] at h
    obtain ⟨⟨h1, h2⟩, h3⟩ := h
    obtain ⟨l, s⟩ := storeB_ok h2 hf hs
    obtain ⟨r1, r2, r3⟩ := pgs_names hN eN hf hs h3
    refine ⟨pgs_cons (pg_name hN (eN ▸ h1) l s) r1, by simp [assignEach, r2], ?_⟩
    simp only [assignEach, List.findIdx?_cons, r3]
    rfl
  | [], _ :: _, h => by cases h
  | _ :: _, [], h => by unfold namesB at h; cases h
  | _ :: _, .BoolOp .. :: _, h | _ :: _, .NamedExpr .. :: _, h | _ :: _, .BinOp .. :: _, h | _ :: _, .UnaryOp .. :: _, h | _ :: _, .Lambda .. :: _, h | _ :: _, .IfExp .. :: _, h | _ :: _, .Dict .. :: _, h | _ :: _, .Set .. :: _, h
  | _ :: _, .ListComp .. :: _, h | _ :: _, .SetComp .. :: _, h | _ :: _, .DictComp .. :: _, h | _ :: _, .GeneratorExp .. :: _, h | _ :: _, .Await .. :: _, h | _ :: _, .Yield .. :: _, h | _ :: _, .YieldFrom .. :: _, h | _ :: _, .Compare .. :: _, h
  | _ :: _, .Call .. :: _, h | _ :: _, .FormattedValue .. :: _, h | _ :: _, .JoinedStr .. :: _, h | _ :: _, .Constant .. :: _, h | _ :: _, .Attribute .. :: _, h | _ :: _, .Subscript .. :: _, h | _ :: _, .Starred .. :: _, h | _ :: _, .List .. :: _, h
  | _ :: _, .Tuple .. :: _, h | _ :: _, .Slice .. :: _, h => by simp [namesB] at h
theorem pg_tg {fnc : Str → Bool} {N : List Str} {sc : Scope} {X : Cx} (hc : X.calm = true) (hN : X.N.Nodup) (eN : X.N = N) (hf : ∀ y, fnc y = true → X.fn y = true) (hs : X.env.scope = sc) {t : Tg} {e : Expr} (h : tgB fnc N sc t e = true) : PG X e (gT X.K t) := by
  cases t with
  | v i =>
    cases e with
    | Name x p =>
      simp only [tgB, Bool.and_eq_true, decide_eq_true_eq] at h
      obtain ⟨l, s⟩ := storeB_ok h.2 hf hs
      exact pg_name hN (eN ▸ h.1) l s
    | _ => simp [tgB] at h
  | t is =>
    cases e with
    | Tuple es k p =>
      obtain ⟨r1, r2, r3⟩ := pgs_names hN eN hf hs (show namesB fnc N sc is es = true from h)
      exact pg_tup hc r1 r2 r3
    | _ => simp [tgB] at h
/-- what a target's reading asks: the item is bound -/
theorem gNames_ok {W : Wd} {F H : Hp} : ∀ {is : List Nat} {vs : List V} {xs : List PV} {σ : L2.St} {ρ ρ' : Loc} {fp : List Addr} {Q : L2.St → Hp → Prop}, Rps W F vs xs → EnvR W F H σ ρ fp → bindTs is xs ρ = some ρ' →
    (∀ σ' fq, EnvR W F H σ' ρ' fq → (∀ a ∈ fq, a ∈ fp) → (∀ j, j ∉ is → σ'[j]? = σ[j]?) → σ'.length = σ.length → Q σ' H) → gNames is vs σ H Q
  | [], _, _, σ, ρ, ρ', fp, Q, .nil, env, h, k => by
    cases h
    exact ⟨rfl, k σ fp env (fun _ h => h) (fun _ _ => rfl) rfl⟩
  | [], _, _, _, _, _, _, _, .cons _ _, _, h, _ => by cases h
  | _ :: _, _, _, _, _, _, _, _, .nil, _, h, _ => by cases h
  | i :: is, _, _, σ, ρ, ρ', fp, Q, .cons (v := v) (x := x) a t, env, h, k => by
    obtain ⟨fq, e2, s2⟩ := EnvR.put (.st a) i env (fun _ z => by simp at z)
    refine ⟨_, _, rfl, ?_⟩
    refine gNames_ok t e2 h fun σ' fr e3 s3 j3 l3 => k σ' fr e3 (fun a ha => ?_) (fun j hj => ?_) (by rw [l3, List.length_set])
    · rcases s2 a (s3 a ha) with z | z
      · simp at z
      · exact z
    · simp only [List.mem_cons, not_or] at hj
      rw [j3 j hj.2, List.getElem?_set_ne (Ne.symm hj.1)]
def tgIs : Tg → List Nat
  | .v i => [i]
  | .t is => is
theorem gT_ok {W : Wd} {F H : Hp} {t : Tg} {v : V} {x : PV} {σ : L2.St} {ρ ρ' : Loc} {fp : List Addr} {Q : L2.St → Hp → Prop} (g : Good W F H) (r : Rp W F v x) (env : EnvR W F H σ ρ fp) (h : bindTg t x ρ = some ρ')
    (k : ∀ σ' fq, EnvR W F H σ' ρ' fq → (∀ a ∈ fq, a ∈ fp) → (∀ j, j ∉ tgIs t → σ'[j]? = σ[j]?) → σ'.length = σ.length → Q σ' H) : gT W.K t v σ H Q := by
  cases t with
  | v i =>
    simp only [bindTg, Option.some.injEq] at h
    subst h
    obtain ⟨fq, e2, s2⟩ := EnvR.put (.st r) i env (fun _ z => by simp at z)
    refine k _ fq e2 (fun a ha => ?_) (fun j hj => ?_) (by rw [List.length_set])
    · rcases s2 a ha with z | z
      · simp at z
      · exact z
    · rw [List.getElem?_set_ne (by simpa [tgIs, eq_comm] using hj)]
  | t is =>
    cases x with
    | tup xs =>
      cases r with
      | tup ha t =>
        refine ⟨_, _, rfl, .inl (.inl (g.sub _ _ ha)), ?_, gNames_ok t env h k⟩
        have key : ∀ {is : List Nat} {xs : List PV} {ρ ρ' : Loc}, bindTs is xs ρ = some ρ' → xs.length = is.length := by
          intro is
          induction is with
          | nil => intro xs ρ ρ' h; cases xs <;> first | rfl | cases h
          | cons i is ih => intro xs ρ ρ' h; cases xs with
            | nil => cases h
            | cons x xs => simp [ih (show bindTs is xs (ρ.set i (some x)) = some ρ' from h)]
        rw [t.length, key h]
    | _ => simp [bindTg] at h

/-! ### what is walked -/
def Srcs (W : Wd) (S F : Hp) (J : L2.It) (xs : List PV) : Prop :=
  ∃ (G : Hp → Prop) (Y : Nat → Hp → V → Hp → Prop), Walk J xs.length G Y ∧ (∀ H', Same S (np W H') → G H') ∧
    ∀ (F' H' : Hp) (i : Nat) (v : V) (H'' : Hp) (x : PV), Good W F' H' → Same F F' → Same S (np W H') → xs[i]? = some x → Y i H' v H'' → ∃ F'', Ext W F' H' F'' H'' ∧ Rp W F'' v x
def sup (W : Wd) (b : Bool) (F H : Hp) : Hp := if b then F else np W H
def PostI (W : Wd) (E : XK) (F H : Hp) (R : L2.It → Hp → Prop) : Out (Bool × List PV) → Prop
  | .ok (b, xs) => ∀ (F' H' : Hp) (J : L2.It), Ext W F H F' H' → Srcs W (sup W b F' H') F' J xs → R J H'
  | .exn c ns xs => ExP W E F H c ns xs
  | .bad => False
def tI (W : Wd) (E : XK) (m : Loc → Tr (Bool × List PV)) : TI := fun σ H R => ∃ F ρ fp, Good W F H ∧ EnvR W F H σ ρ fp ∧ (m ρ).W (PostI W E F H R)
def PIX (W : Wd) (k : Nat) (N : List Str) (sc : Scope) (tg x : Expr) (m : Loc → Tr (Bool × List PV)) : Prop := ∀ (X : Cx) (E : XK), CxOk W k N sc E X → PI X tg x (tI W E m)
theorem PI.imp {X : Cx} {tg e : Expr} {t t' : TI} (h : PI X tg e t) (i : ∀ σ H Q, t' σ H Q → t σ H Q) : PI X tg e t' := ⟨fun pins s σ H Q I q => h.run pins s σ H Q I (i _ _ _ q)⟩
theorem Rps.at_ {W : Wd} {F : Hp} {vs : List V} {xs : List PV} (r : Rps W F vs xs) {i : Nat} {v : V} {x : PV} (h1 : vs[i]? = some v) (h2 : xs[i]? = some x) : Rp W F v x := by
  obtain ⟨w, h3, h4⟩ := r.get h2
  rw [h1] at h3
  cases h3
  exact h4
section
variable {W : Wd} {S F H : Hp}
theorem src_list {a : Addr} {vs : List V} {xs : List PV} (hs : S a = some (.lst vs)) (r : Rps W F vs xs) : Srcs W S F (Itl W.K a) xs := by
  refine ⟨_, _, r.length ▸ walk_list (K := W.K) (a := a) (xs := vs), fun H' s => .inl (.inl (np_sub _ _ (s _ _ hs))), fun F' H' i v H'' x g f s hx y => ?_⟩
  obtain ⟨rfl, hv⟩ := y
  exact ⟨F', Ext.refl g, (r.at_ hv hx).mono f⟩
theorem src_tup {a : Addr} {vs : List V} {xs : List PV} (hs : S a = some (.tup vs)) (r : Rps W F vs xs) : Srcs W S F (Itt W.K a) xs := by
  refine ⟨_, _, r.length ▸ walk_tup (K := W.K) (a := a) (xs := vs), fun H' s => .inl (.inl (np_sub _ _ (s _ _ hs))), fun F' H' i v H'' x g f s hx y => ?_⟩
  obtain ⟨rfl, hv⟩ := y
  exact ⟨F', Ext.refl g, (r.at_ hv hx).mono f⟩
theorem src_range (lo hi : Int) : Srcs W S F (Itr lo (hi - lo).toNat) (rangeL lo hi) := by
  have hl : (rangeL lo hi).length = (hi - lo).toNat := by simp [rangeL]
  refine ⟨_, _, by rw [hl]; exact walk_range (lo := lo) (n := (hi - lo).toNat), fun H' s => trivial, fun F' H' i v H'' x g f s hx y => ?_⟩
  obtain ⟨rfl, hv⟩ := y
  have : x = .int (lo + i) := by
    simp only [rangeL, List.getElem?_map, Option.map_eq_some_iff] at hx
    obtain ⟨j, h1, rfl⟩ := hx
    obtain ⟨h2, h3⟩ := List.getElem?_eq_some_iff.mp h1
    simp at h3
    rw [h3]
  subst this hv
  exact ⟨F', Ext.refl g, .int⟩
theorem pair_new {F' H' H'' : Hp} {T : Addr} {u w : V} {x y : PV} (g : Good W F' H') (ht : H' T = none) (e : H'' = upd H' T (.tup [u, w])) (r1 : Rp W F' u x) (r2 : Rp W F' w y) : ∃ F'', Ext W F' H' F'' H'' ∧ Rp W F'' (.ref T) (.tup [x, y]) := by
  subst e
  have q := g.laidF (o := .tup [u, w]) ht
  exact ⟨_, q, .tup upd_same (.cons (r1.mono q.f) (.cons (r2.mono q.f) .nil))⟩
theorem enumP_get : ∀ {xs : List PV} {k i : Nat} {x : PV}, (enumP k xs)[i]? = some x → ∃ y, xs[i]? = some y ∧ x = .tup [.int ((k + i : Nat) : Int), y]
  | [], _, _, _, h => by simp [enumP] at h
  | y :: xs, k, 0, x, h => by simp [enumP] at h; exact ⟨y, rfl, h.symm⟩
  | y :: xs, k, i + 1, x, h => by
    obtain ⟨z, h1, h2⟩ := enumP_get (xs := xs) (k := k + 1) (i := i) (x := x) (by simpa [enumP] using h)
    exact ⟨z, by simpa using h1, by rw [h2]; congr 3; omega⟩
theorem enumP_len : ∀ (xs : List PV) (k : Nat), (enumP k xs).length = xs.length
  | [], _ => rfl
  | _ :: xs, k => by simp [enumP, enumP_len xs]
theorem src_enumL {a : Addr} {vs : List V} {xs : List PV} (hs : S a = some (.lst vs)) (r : Rps W F vs xs) : Srcs W S F (Ite W.K a) (enumP 0 xs) := by
  have hl : (enumP 0 xs).length = vs.length := by rw [enumP_len, r.length]
  refine ⟨_, _, hl ▸ walk_enum (K := W.K) (a := a) (xs := vs), fun H' s => .inl (.inl (np_sub _ _ (s _ _ hs))), fun F' H' i v H'' x g f s hx y => ?_⟩
  obtain ⟨T, u, w, rfl, ht, e, h1, h2⟩ := y
  cases h1
  obtain ⟨z, h3, h4⟩ := enumP_get hx
  subst h4
  rw [Nat.zero_add]
  exact pair_new g ht e .int ((r.at_ h2 h3).mono f)
theorem src_enumT {a : Addr} {vs : List V} {xs : List PV} (hs : S a = some (.tup vs)) (r : Rps W F vs xs) : Srcs W S F (IteT W.K a) (enumP 0 xs) := by
  have hl : (enumP 0 xs).length = vs.length := by rw [enumP_len, r.length]
  refine ⟨_, _, hl ▸ walk_enumT (K := W.K) (a := a) (xs := vs), fun H' s => np_sub _ _ (s _ _ hs), fun F' H' i v H'' x g f s hx y => ?_⟩
  obtain ⟨T, u, w, rfl, ht, e, h1, h2⟩ := y
  cases h1
  obtain ⟨z, h3, h4⟩ := enumP_get hx
  subst h4
  rw [Nat.zero_add]
  exact pair_new g ht e .int ((r.at_ h2 h3).mono f)
theorem zipP_get : ∀ {xs ys : List PV} {i : Nat} {x : PV}, (zipP xs ys)[i]? = some x → ∃ y z, xs[i]? = some y ∧ ys[i]? = some z ∧ x = .tup [y, z]
  | [], _, _, _, h => by simp [zipP] at h
  | _ :: _, [], _, _, h => by simp [zipP] at h
  | y :: xs, z :: ys, 0, x, h => by simp [zipP] at h; exact ⟨y, z, rfl, rfl, h.symm⟩
  | y :: xs, z :: ys, i + 1, x, h => by
    obtain ⟨u, v, h1, h2, h3⟩ := zipP_get (xs := xs) (ys := ys) (i := i) (x := x) (by simpa [zipP] using h)
    exact ⟨u, v, by simpa using h1, by simpa using h2, h3⟩
theorem zipP_len : ∀ (xs ys : List PV), (zipP xs ys).length = min xs.length ys.length
  | [], _ => by simp [zipP]
  | _ :: _, [] => by simp [zipP]
  | _ :: xs, _ :: ys => by simp [zipP, zipP_len xs ys]
theorem src_zipL {a b : Addr} {vs ws : List V} {xs ys : List PV} (hs : S a = some (.lst vs)) (hs2 : S b = some (.lst ws)) (r : Rps W F vs xs) (q : Rps W F ws ys) : Srcs W S F (Itz W.K a b) (zipP xs ys) := by
  have hl : (zipP xs ys).length = min vs.length ws.length := by rw [zipP_len, r.length, q.length]
  refine ⟨_, _, walk_zip (K := W.K) (a := a) (b := b) (xs := vs) (ys := ws) hl, fun H' s => ⟨.inl (.inl (np_sub _ _ (s _ _ hs))), .inl (.inl (np_sub _ _ (s _ _ hs2)))⟩, fun F' H' i v H'' x g f s hx y => ?_⟩
  obtain ⟨T, u, w, rfl, ht, e, h1, h2⟩ := y
  obtain ⟨y, z, h3, h4, rfl⟩ := zipP_get hx
  exact pair_new g ht e ((r.at_ h1 h3).mono f) ((q.at_ h2 h4).mono f)
theorem walk_zipT {K : PySem.W.Frag} {a b : Addr} {xs ys : List V} {n : Nat} (hn : n = min xs.length ys.length) : Walk (RZ.ItzT K a b) n (fun H => H a = some (.tup xs) ∧ H b = some (.tup ys)) (YPair (fun i => xs[i]?) (fun i => ys[i]?)) := by
  subst hn
  refine ⟨fun i _ hi q => ?_, fun _ q => ⟨xs, ys, SqT.of q.1, SqT.of q.2, by omega⟩, fun i H v H' _ q y => ?_⟩
  · have h1 : i < xs.length := by omega
    have h2 : i < ys.length := by omega
    exact ⟨xs, ys, xs[i], ys[i], SqT.of q.1, SqT.of q.2, by simp [h1], by simp [h2]⟩
  · obtain ⟨T, x, z, h1, h2, h3, h4, h5⟩ := y
    exact ⟨T, x, z, h1, h2, h3, h4 xs (SqT.of q.1), h5 ys (SqT.of q.2)⟩
theorem src_zipT {a b : Addr} {vs ws : List V} {xs ys : List PV} (hs : S a = some (.tup vs)) (hs2 : S b = some (.tup ws)) (r : Rps W F vs xs) (q : Rps W F ws ys) : Srcs W S F (RZ.ItzT W.K a b) (zipP xs ys) := by
  have hl : (zipP xs ys).length = min vs.length ws.length := by rw [zipP_len, r.length, q.length]
  refine ⟨_, _, walk_zipT (K := W.K) (a := a) (b := b) (xs := vs) (ys := ws) hl, fun H' s => ⟨np_sub _ _ (s _ _ hs), np_sub _ _ (s _ _ hs2)⟩, fun F' H' i v H'' x g f s hx y => ?_⟩
  obtain ⟨T, u, w, rfl, ht, e, h1, h2⟩ := y
  obtain ⟨y, z, h3, h4, rfl⟩ := zipP_get hx
  exact pair_new g ht e ((r.at_ h1 h3).mono f) ((q.at_ h2 h4).mono f)
end
end FS

set_option Elab.async false
set_option linter.all false
set_option maxRecDepth 100000
set_option maxHeartbeats 4000000
namespace FS
open PySem PySem.Spec PyProof.Rows L2

/-! ### tests -/
def PostT (W : Wd) (E : XK) (F H : Hp) (Q : Bool → Hp → Prop) : Out Bool → Prop
  | .ok b => ∀ (F' H' : Hp), Ext W F H F' H' → Q b H'
  | .exn c ns xs => ExP W E F H c ns xs
  | .bad => False
def tT (W : Wd) (E : XK) (m : Loc → Tr Bool) : TT := fun σ H Q => ∃ F ρ fp, Good W F H ∧ EnvR W F H σ ρ fp ∧ (m ρ).W (PostT W E F H Q)
def PTX (W : Wd) (k : Nat) (N : List Str) (sc : Scope) (x : Expr) (m : Loc → Tr Bool) : Prop := ∀ (X : Cx) (E : XK), CxOk W k N sc E X → PT X x (tT W E m)
def PWX (W : Wd) (k : Nat) (N : List Str) (sc : Scope) (x : Expr) (m : Loc → Tr Bool) : Prop := ∀ (X : Cx) (E : XK), CxOk W k N sc E X → PW X x (tT W E m)
def PCX (W : Wd) (k : Nat) (N : List Str) (sc : Scope) (xs : List Expr) (m : Loc → Tr Bool) : Prop := ∀ (X : Cx) (E : XK), CxOk W k N sc E X → PTs X xs (tT W E m)
/-- a test, then what is done -/
theorem stepT {W : Wd} {E : XK} {F0 H0 F1 H1 : Hp} {σ : L2.St} {ρ : Loc} {fp : List Addr} {α : Type} {m : Loc → Tr Bool} {K : Bool → Tr α} {P : Hp → Hp → Out α → Prop} {R : Bool → Hp → Prop} (e : Ext W F0 H0 F1 H1) (env : EnvR W F1 H1 σ ρ fp)
    (hx : ∀ c ns xs, P F0 H0 (.exn c ns xs) → ExP W E F0 H0 c ns xs) (hb : ¬ P F0 H0 .bad)
    (h : ((m ρ).bind K).W (P F0 H0)) (k : ∀ b F2 H2, Ext W F1 H1 F2 H2 → (K b).W (P F0 H0) → R b H2) : tT W E m σ H1 R := by
  refine ⟨F1, ρ, fp, e.g, env, Tr.W_imp (fun o ho => ?_) (Tr.W_bind.mp h)⟩
  cases o with
  | ok r => exact fun F' H' e' => k r F' H' e' ho
  | exn c ns xs => exact ExP.ext e (hx c ns xs ho)
  | bad => exact hb ho
theorem nx_W {α : Type} {P : Out α → Prop} : ∀ {m : Tr α}, (m.nx).W P → m.W (fun o => match o with | .ok a => P (.ok a) | _ => P .bad)
  | .ret (.ok a), h => h
  | .ret (.exn _ _ _), h => h
  | .ret .bad, h => h
  | .draw n k, ⟨a, g⟩ => ⟨a, fun i p q => nx_W (g i p q)⟩

/-! ### comprehensions -/
theorem wipe_get {σ : L2.St} : ∀ {vs : List Nat} {j : Nat}, (wipe σ vs)[j]? = if j ∈ vs ∧ j < σ.length then some none else σ[j]?
  | [], j => by simp [wipe]
  | v :: vs, j => by
    unfold wipe
    rw [List.getElem?_set, wipe_length, wipe_get (vs := vs)]
    by_cases h : v = j
    · subst h
      by_cases hl : v < σ.length
      · simp [hl]
      · simp [hl]
    · simp [h, Ne.symm h]
theorem wipe_of {σ σ' : L2.St} {vs : List Nat} (hl : σ'.length = σ.length) (h : ∀ j, j ∉ vs → σ'[j]? = σ[j]?) : wipe σ' vs = wipe σ vs := by
  apply List.ext_getElem?
  intro j
  rw [wipe_get, wipe_get, hl]
  by_cases z : j ∈ vs
  · by_cases y : j < σ.length
    · simp [z, y]
    · simp only [z, y, and_false, if_false]
      rw [List.getElem?_eq_none (by omega), List.getElem?_eq_none (by omega)]
  · simp [z, h j z]
theorem wipe_wipe {σ : L2.St} {vs : List Nat} : wipe (wipe σ vs) vs = wipe σ vs := wipe_of (wipe_length σ vs) fun j hj => by
  rw [wipe_get]
  simp [hj]
theorem EnvR.wipes {W : Wd} {F H : Hp} {σ : L2.St} {ρ : Loc} {fp : List Addr} (r : EnvR W F H σ ρ fp) : ∀ vs : List Nat, ∃ fq, EnvR W F H (wipe σ vs) (wipeL ρ vs) fq ∧ ∀ a ∈ fq, a ∈ fp
  | [] => ⟨fp, r, fun _ h => h⟩
  | v :: vs => by
    obtain ⟨fq, e, s⟩ := r.wipes vs
    obtain ⟨fr, e2, s2⟩ := e.drop v .none
    exact ⟨fr, e2, fun a h => s a (s2 a h)⟩
/-- an object of one's own, new behind the base, is written -/
theorem Ext.put {W : Wd} {F0 H0 F H : Hp} (e : Ext W F0 H0 F H) {D : Addr} {o : HO} (h0 : H0 D = none) (hf : F D = none) (hp : D ≠ W.pen) : Ext W F0 H0 F (upd H D o) where
  f := e.f
  h := fun a u n q => by
    rw [upd_ne (ne_of_none q h0)]
    exact e.h a u n q
  n := e.n
  g := ⟨fun a u q => by
    rw [upd_ne (ne_of_none q hf)]
    exact e.g.sub a u q, by
    obtain ⟨⟨l, cs, x1, x2, x3, x4, q, r⟩, out⟩ := e.g.pen
    refine ⟨⟨l, cs, x1, x2, x3, x4, ?_, r⟩, out⟩
    rw [upd_ne (Ne.symm hp)]
    exact q⟩
theorem Same.np_put {W : Wd} {S H : Hp} {D : Addr} {o : HO} (s : Same S (np W H)) (h : S D = none) : Same S (np W (upd H D o)) := fun a u q => by
  have := s a u q
  by_cases z : a = W.pen
  · unfold np at this
    rw [if_pos z] at this
    cases this
  · rw [np_ne z] at this ⊢
    rw [upd_ne (ne_of_none q h)]
    exact this
def compF (cond : Loc → Tr Bool) (elt : Loc → Tr Rv) : Loc → Tr (Option PV) := fun ρ' => (cond ρ').bind fun k => if k then (elt ρ').bind fun r => (match mov r with | some y => .ok (some y) | none => .bad) else .ok none
theorem ne_pen {W : Wd} {F H : Hp} (g : Good W F H) {a : Addr} (h : H a = none) : a ≠ W.pen := by
  rintro rfl
  obtain ⟨o, q⟩ := g.pen.there
  rw [h] at q
  cases q
theorem Good.fn {W : Wd} {F H : Hp} (g : Good W F H) {a : Addr} (h : H a = none) : F a = none := by
  cases q : F a with
  | none => rfl
  | some u =>
    rw [g.sub a u q] at h
    cases h
/-- THE READING OF A COMPREHENSION: over what is walked -/
theorem comp_reads {W : Wd} {E E' : XK} {J : L2.It} {xs : List PV} {tg : Tg} {cond : Loc → Tr Bool} {elt : Loc → Tr Rv} {vs : List Nat} {σ : L2.St} {ρ : Loc} {fp : List Addr} {F0 H0 F1 H1 : Hp} {D : Addr} {Q : VK} {b : Bool}
    (e : Ext W F0 H0 F1 H1) (env : EnvR W F1 H1 σ ρ fp) (fo : ∀ a ∈ fp, ∃ o, H0 a = some o) (src : Srcs W (sup W b F1 H1) F1 J xs) (hz : xs.length < sizeLine) (hD : H1 D = none) (htg : ∀ i ∈ tgIs tg, i ∈ vs)
    (h : ((compL tg (wipeL ρ vs) (compF cond elt) xs []).bind fun ys => vB (.lst true ys)).W (PostE W E fp F0 H0 Q)) :
    ∃ Wi : Nat → Nat → Hp → Prop, (∃ m, Wi 0 m (upd H1 D (.lst []))) ∧ ∀ i m H, Wi i m H →
      (J.stop i H ∧ Q (.ref D) H) ∨ (J.go i H ∧ ∃ Nx : Hp → Prop, (∀ H', Nx H' → ∃ m', m' < m ∧ Wi (i + 1) m' H') ∧ ∀ x H', J.yld i H x H' → gT W.K tg x (wipe σ vs) H' fun σ2 H2 => wipe σ2 vs = wipe σ vs ∧ tT W E' cond σ2 H2 fun b H3 =>
        if b = true then tE W E' elt σ2 H3 fun y H4 => ∃ acc, H4 D = some (.lst acc) ∧ acc.length < sizeLine ∧ Nx (upd H4 D (.lst (acc ++ [y]))) else Nx H3) := by
  obtain ⟨G, Y, walk, hG, hY⟩ := src
  have dp : D ≠ W.pen := ne_pen e.g hD
  have d0 : H0 D = none := e.free hD
  have sD : (sup W b F1 H1) D = none := by
    unfold sup
    cases b with
    | true => exact e.g.fn hD
    | false => simp [np, hD]
  have s1 : Same (sup W b F1 H1) (np W H1) := by
    unfold sup
    cases b with
    | true => exact e.g.np
    | false => exact fun _ _ q => q
  obtain ⟨fq, envw, sq⟩ := env.wipes vs
  refine lc_it walk (fun i H' => ∃ F' accV acc fD, Ext W F0 H0 F' H' ∧ H' D = some (.lst accV) ∧ F' D = none ∧ Ros W F' H' accV acc fD ∧ D ∉ fD ∧ (∀ a ∈ fD, H0 a = none) ∧ EnvR W F' H' (wipe σ vs) (wipeL ρ vs) fq ∧ Same (sup W b F1 H1) (np W H') ∧ Same F1 F' ∧ accV.length ≤ i ∧
    ((compL tg (wipeL ρ vs) (compF cond elt) (xs.drop i) acc).bind fun ys => vB (.lst true ys)).W (PostE W E fp F0 H0 Q)) ?_ ?_ ?_ ?_
  · refine ⟨F1, [], [], [], e.trans (e.g.laid hD), upd_same, e.g.fn hD, .nil, by simp, fun _ z => by simp at z, envw.ext (e.g.laid hD), Same.np_put s1 sD, fun _ _ q => q, Nat.le_refl _, h⟩
  · rintro i H' _ ⟨F', accV, acc, fD, e', hd, fd, ra, nd, n0, en, ss, sf, hl, z⟩
    exact hG H' ss
  · rintro i v H' H'' hi ⟨F', accV, acc, fD, e', hd, fd, ra, nd, n0, en, ss, sf, hl, z⟩ y
    have hx : xs[i]? = some xs[i] := by simp [hi]
    obtain ⟨F2, e2, rx⟩ := hY F' H' i v H'' _ e'.g sf ss hx y
    rw [List.drop_eq_getElem_cons hi] at z
    simp only [compL] at z
    cases hb : bindTg tg xs[i] (wipeL ρ vs) with
    | none => rw [hb] at z; exact z.elim
    | some ρ' =>
      rw [hb] at z
      dsimp only at z
      refine gT_ok e2.g rx (en.ext e2) hb fun σ2 fr en2 sr js ls => ⟨?_, ?_⟩
      · have q : wipe σ2 vs = wipe (wipe σ vs) vs := wipe_of ls fun j hj => js j fun hm => hj (htg j hm)
        rw [q, wipe_wipe]
      · have z2 := Tr.W_bind.mp z
        have z3 := Tr.W_bind.mp z2
        have z4 : ((cond ρ').bind fun k => if k then (elt ρ').bind fun r => (match mov r with | some y => .ok (some y) | none => .bad) else .ok none).W _ := nx_W z3
        have ow2 : H'' D = some (.lst accV) ∧ F2 D = none := by
          have := e2.own hd fd dp
          exact ⟨this.1.trans hd, this.2⟩
        have ra2 := ra.ext e2
        refine ⟨F2, ρ', fr, e2.g, en2, Tr.W_imp (fun o ho => ?_) (Tr.W_bind.mp z4)⟩
        cases o with
        | exn c ns xs => exact (show False from ho).elim
        | bad => exact (show False from ho).elim
        | ok k =>
          intro F3 H3 e3
          have ow3 : H3 D = some (.lst accV) ∧ F3 D = none := by
            have := e3.own ow2.1 ow2.2 dp
            exact ⟨this.1.trans ow2.1, this.2⟩
          have ra3 := ra2.ext e3
          have eT := (e'.trans e2).trans e3
          cases k with
          | false =>
            rw [if_neg (by simp)]
            have ho : (compL tg (wipeL ρ vs) (compF cond elt) (xs.drop (i + 1)) acc).W (Out.K (PostE W E fp F0 H0 Q) fun ys => vB (.lst true ys)) := ho
            refine ⟨F3, accV, acc, fD, eT, ow3.1, ow3.2, ra3, nd, n0, (en.ext e2).ext e3, ?_, ?_, by omega, ?_⟩
            · exact fun a u q => e3.np a u (e2.np a u (ss a u q))
            · exact fun a u q => e3.f a u (e2.f a u (sf a u q))
            · exact Tr.W_bind.mpr ho
          | true =>
            rw [if_pos rfl]
            have ho : (Tr.W _ ((elt ρ').bind fun r => (match mov r with | some y => Tr.ok (some y) | none => Tr.bad))) := ho
            refine ⟨F3, ρ', fr, e3.g, en2.ext e3, Tr.W_imp (fun o2 ho2 => ?_) (Tr.W_bind.mp ho)⟩
            cases o2 with
            | exn c ns xs => exact (show False from ho2).elim
            | bad => exact (show False from ho2).elim
            | ok r =>
              intro F4 H4 yv e4 rr
              have ow4 : H4 D = some (.lst accV) ∧ F4 D = none := by
                have := e4.own ow3.1 ow3.2 dp
                exact ⟨this.1.trans ow3.1, this.2⟩
              have ra4 := ra3.ext e4
              have eT4 := eT.trans e4
              obtain ⟨fy, ry, ny, my⟩ := rr
              have hq : ∀ y, mov r = some y → (compL tg (wipeL ρ vs) (compF cond elt) (xs.drop (i + 1)) (acc ++ [y])).W (Out.K (PostE W E fp F0 H0 Q) fun ys => vB (.lst true ys)) := fun y hm => by
                have t : Tr.W _ (match mov r with | some y => Tr.ok (some y) | none => Tr.bad) := ho2
                rw [hm] at t
                exact t
              have hn : mov r = none → False := fun hm => by
                have t : Tr.W _ (match mov r with | some y => Tr.ok (some y) | none => Tr.bad) := ho2
                rw [hm] at t
                exact t
              clear ho2
              cases hm : mov r with
              | none => exact (hn hm).elim
              | some y =>

                obtain ⟨bb, xx⟩ := r
                have key : ∃ f, Ro W F4 H4 yv y f ∧ (∀ a ∈ f, H3 a = none) := by
                  cases bb with
                  | false =>
                    have : xx = y := by simpa [mov] using hm
                    subst this
                    exact ⟨fy, ry, ny rfl⟩
                  | true =>
                    have st : xx.st = true := by
                      by_cases z : xx.st = true
                      · exact z
                      · simp [mov, z] at hm
                    have : xx = y := by simpa [mov, st] using hm
                    subst this
                    exact ⟨[], .st (ry.stable st), fun _ z => by simp at z⟩
                obtain ⟨f, ryf, nf⟩ := key
                have hlen : accV.length < sizeLine := by omega
                refine ⟨accV, ow4.1, hlen, F4, accV ++ [yv], acc ++ [y], fD ++ f, eT4.put d0 ow4.2 dp, upd_same, ow4.2, ?_, ?_, ?_, ?_, ?_, ?_, by simp; omega, ?_⟩
                · have dj : ∀ a ∈ fD, a ∉ f := fun a ha hb => by
                    obtain ⟨⟨o, ho⟩, _⟩ := ra3.own a ha
                    rw [nf a hb] at ho
                    cases ho
                  have c1 : Ros W F4 (upd H4 D (.lst (accV ++ [yv]))) accV acc fD := ra4.carry (fun _ _ q => q) fun a ha => ⟨upd_ne (fun z => nd (z ▸ ha)), (ra4.own a ha).2.1⟩
                  have c2 : Ro W F4 (upd H4 D (.lst (accV ++ [yv]))) yv y f := ryf.carry (fun _ _ q => q) fun a ha => ⟨upd_ne (fun z => by
                    have := nf a ha
                    rw [z, ow3.1] at this
                    cases this), (ryf.own a ha).2.1⟩
                  have app : ∀ {vs : List V} {xs : List PV} {g : List Addr}, Ros W F4 (upd H4 D (.lst (accV ++ [yv]))) vs xs g → (∀ a ∈ g, a ∉ f) → Ros W F4 (upd H4 D (.lst (accV ++ [yv]))) (vs ++ [yv]) (xs ++ [y]) (g ++ f) := by
                    intro vs xs g r
                    induction vs generalizing xs g with
                    | nil =>
                      intro _
                      cases r
                      have := Ros.cons c2 .nil (fun _ _ z => by simp at z)
                      simpa using this
                    | cons v vs ih =>
                      intro dj
                      cases r with
                      | cons a t d =>
                        rw [List.append_assoc]
                        exact .cons a (ih t fun a ha => dj a (by simp [ha])) fun a ha hb => by
                          rcases List.mem_append.mp hb with hb | hb
                          · exact d a ha hb
                          · exact dj a (by simp [ha]) hb
                  exact app c1 dj
                · intro z
                  rcases List.mem_append.mp z with z | z
                  · exact nd z
                  · have := nf D z
                    rw [ow3.1] at this
                    cases this
                · intro a ha
                  rcases List.mem_append.mp ha with ha | ha
                  · exact n0 a ha
                  · exact eT.free (nf a ha)
                · have en4 := ((en.ext e2).ext e3).ext e4
                  refine en4.carry (fun _ _ q => q) fun a ha => ⟨upd_ne fun z => ?_, (en4.own a ha).2.1⟩
                  obtain ⟨o, ho⟩ := fo a (sq a ha)
                  rw [z, d0] at ho
                  cases ho
                · exact Same.np_put (fun a u q => e4.np a u (e3.np a u (e2.np a u (ss a u q)))) sD
                · exact fun a u q => e4.f a u (e3.f a u (e2.f a u (sf a u q)))
                · exact Tr.W_bind.mpr (hq y hm)
  · rintro H' ⟨F', accV, acc, fD, e', hd, fd, ra, nd, n0, en, ss, sf, hl, z⟩
    rw [List.drop_length] at z
    have z : (vB (.lst true acc)).W (PostE W E fp F0 H0 Q) := z
    exact give z e' (.lst hd fd dp ra nd) fun a ha => by
      rcases List.mem_cons.mp ha with rfl | ha
      · exact d0
      · exact n0 a ha
end FS

set_option Elab.async false
set_option linter.all false
set_option maxRecDepth 100000
set_option maxHeartbeats 4000000
namespace FS
open PySem PySem.Spec PyProof.Rows L2

/-! ### what a def is known to do -/
def PostF (W : Wd) (E : XK) (F H : Hp) (Q : VK) : Out PV → Prop
  | .ok x => ∀ (F' H' : Hp) (v : V) (fp : List Addr), Ext W F H F' H' → Ro W F' H' v x fp → (∀ a ∈ fp, H a = none) → Q v H'
  | .exn c ns xs => ExP W E F H c ns xs
  | .bad => False
def spF (W : Wd) (n : Nat) (m : Fn) : Sp := fun vs H Q E => ∃ F xs, vs.length = n ∧ Good W F H ∧ Rps W F vs xs ∧ (m xs).W (PostF W E F H Q)
structure FnS (W : Wd) (k : Nat) (f : Str) (n : Nat) (m : Fn) : Prop where
  ex : ∃ (a : Addr) (fd : FuncData) (ps : List Str), W.mg f = some (.ref a) ∧ PySem.W.keepIn W.K (.ref a) = true ∧ Binds W.K fd ps [] ∧ ps.length = n ∧ FnG W.P W.w W.K W.mg W.base (L2.CX W.P W.w) k a fd ps (spF W n m)
theorem FnS.mono {W : Wd} {j k : Nat} {f : Str} {n : Nat} {m : Fn} (h : FnS W j f n m) (l : j ≤ k) : FnS W k f n m :=
  let ⟨a, fd, ps, h1, h2, h3, h4, h5⟩ := h.ex; ⟨a, fd, ps, h1, h2, h3, h4, h5.mono l⟩
/-- a def does no less -/
theorem FnS.imp {W : Wd} {k : Nat} {f : Str} {n : Nat} {m m' : Fn} (h : FnS W k f n m) (i : ∀ (xs : List PV) (P : Out PV → Prop), ¬ P .bad → (m' xs).W P → (m xs).W P) : FnS W k f n m' :=
  let ⟨a, fd, ps, h1, h2, h3, h4, h5⟩ := h.ex; ⟨a, fd, ps, h1, h2, h3, h4, h5.imp fun vs H Q E ⟨F, xs, q1, q2, q3, q4⟩ => ⟨F, xs, q1, q2, q3, i xs _ (fun z => z) q4⟩⟩
inductive PXL (W : Wd) (k : Nat) (N : List Str) : List (Scope × Expr) → List (Loc → Tr Rv) → Prop
  | nil : PXL W k N [] []
  | cons {sc : Scope} {x : Expr} {ss : List (Scope × Expr)} {m : Loc → Tr Rv} {ms : List (Loc → Tr Rv)} : plainB x = true → PX W k N sc x m → PXL W k N ss ms → PXL W k N ((sc, x) :: ss) (m :: ms)
inductive Need where
  | prim (q : Prim)
  | primI (q : PrimI)
  | fn (f : Str) (n : Nat) (m : Fn)
  | gl (x : Str)
  | gi (x : Str) (i : Int)
  | fr (x : Str)
def Need.holds (W : Wd) (k : Nat) : Need → Prop
  | .fn f n m => FnS W k f n m
  | .gl x => ∃ a, W.mg x = some (.ref a)
  | .gi x i => ∃ t, W.mg x = some (.int i t)
  | .fr x => W.mg x = none
  | .prim q => ∀ (N : List Str) (sc : Scope) (x : Expr) (ss : List (Scope × Expr)) (ms : List (Loc → Tr Rv)), q.chk sc x = some ss → PXL W k N ss ms → PX W k N sc x (q.m ms)
  | .primI q => ∀ (N : List Str) (sc : Scope) (t x : Expr) (ss : List (Scope × Expr)) (ms : List (Loc → Tr Rv)), q.chk sc t x = some ss → PXL W k N ss ms → PIX W k N sc t x (q.m ms)
def AllN (W : Wd) (k : Nat) : List Need → Prop
  | [] => True
  | n :: r => n.holds W k ∧ AllN W k r
theorem AllN.app {W : Wd} {k : Nat} : ∀ {a b : List Need}, AllN W k (a ++ b) → AllN W k a ∧ AllN W k b
  | [], b, h => ⟨trivial, h⟩
  | n :: a, b, ⟨h, t⟩ => ⟨⟨h, (AllN.app t).1⟩, (AllN.app t).2⟩
mutual
def ndE : Ex → List Need
  | .var _ => []
  | .gl x => [.gl x]
  | .gi x i => [.gi x i]
  | .ty n => (match tyN n with | some x => [.fr x] | none => [])
  | .non => []
  | .bl _ => []
  | .int _ => []
  | .str _ => []
  | .bin _ a b => ndE a ++ ndE b
  | .neg a => ndE a
  | .cmp _ a b => ndE a ++ ndE b
  | .chn _ _ a b c => ndE a ++ (ndE b ++ ndE c)
  | .isN _ a => ndE a
  | .isB _ a b => ndE a ++ ndE b
  | .nt a => ndE a
  | .an a r => ndE a ++ ndE r
  | .orr a r => ndE a ++ ndE r
  | .one a => ndE a
  | .ife c a b => ndT c ++ (ndE a ++ ndE b)
  | .call f n m es => .fn f n m :: nds es
  | .blt b es => .fr (bltN b) :: nds es
  | .listR a => .fr "list" :: .fr "range" :: ndE a
  | .isi a ts => .fr "isinstance" :: (ts.flatMap (fun n => match tyN n with | some x => [Need.fr x] | none => []) ++ ndE a)
  | .sub a i => ndE a ++ ndE i
  | .sli a lo hi => ndE a ++ (ndO lo ++ ndO hi)
  | .tup es => nds es
  | .lst es => nds es
  | .dnew _ => []
  | .comp elt _ it cond _ => ndI it ++ (ndT cond ++ ndE elt)
  | .prim q es => .prim q :: nds es
def nds : Exs → List Need
  | .nil => []
  | .cons e es => ndE e ++ nds es
def ndO : OEx → List Need
  | .none => []
  | .some e => ndE e
def ndI : ItX → List Need
  | .seq e => ndE e
  | .rng a => .fr "range" :: ndE a
  | .rng2 a b => .fr "range" :: (ndE a ++ ndE b)
  | .enum e => .fr "enumerate" :: ndE e
  | .zip a b => .fr "zip" :: (ndE a ++ ndE b)
  | .prim q es => .primI q :: nds es
def ndT : Te → List Need
  | .yes => []
  | .tru e => ndE e
  | .cmp _ a b => ndE a ++ ndE b
  | .chn _ _ a b c => ndE a ++ (ndE b ++ ndE c)
  | .isN _ a => ndE a
  | .isB _ a b => ndE a ++ ndE b
  | .nt a => ndT a
  | .an a r => ndT a ++ ndT r
  | .orr a r => ndT a ++ ndT r
  | .one a => ndT a
end

/-! ### the checker -/
def opB : BOp → Operator → Bool
  | .add, .Add => true | .sub, .Sub => true | .mul, .Mult => true | .fdiv, .FloorDiv => true | .mod, .Mod => true | .pow, .Pow => true | _, _ => false
theorem opB_ok {op : BOp} {o : Operator} (h : opB op o = true) : o = pyB op := by cases op <;> cases o <;> first | rfl | cases h
def coB : COp → CmpOp → Bool
  | .lt, .Lt => true | .le, .LtE => true | .gt, .Gt => true | .ge, .GtE => true | .eq, .Eq => true | .ne, .NotEq => true | .in_, .In => true | .notin, .NotIn => true | _, _ => false
theorem coB_ok {op : COp} {o : CmpOp} (h : coB op o = true) : o = pyC op := by cases op <;> cases o <;> first | rfl | cases h
def isB' (ng : Bool) : CmpOp → Bool
  | .Is => !ng
  | .IsNot => ng
  | _ => false
def tysB (sc : Scope) : List String → List Expr → Bool
  | [], [] => true
  | n :: ns, .Name x _ :: es => decide (tyN n = some x) && glB sc x && nmB x && tysB sc ns es
  | _, _ => false
def isAnd : Expr → Bool
  | .BoolOp .And _ _ => true
  | _ => false
def isOr : Expr → Bool
  | .BoolOp .Or _ _ => true
  | _ => false
def needT : ItX → Bool
  | .enum _ => true
  | .zip _ _ => true
  | _ => false
def isTupE : Expr → Bool
  | .Tuple _ _ _ => true
  | _ => false
mutual
def chkE (N : List Str) (sc : Scope) : Ex → Expr → Bool
  | .var i, x => (match x with | .Name x _ => decide (N[i]? = some x) && (visB sc x && nmB x) | _ => false)
  | .gl y, x => (match x with | .Name x _ => decide (x = y) && (glB sc x && nmB x) | _ => false)
  | .gi y _, x => (match x with | .Name x _ => decide (x = y) && (glB sc x && nmB x) | _ => false)
  | .ty n, x => (match x with | .Name x _ => decide (tyN n = some x) && (glB sc x && nmB x) | _ => false)
  | .non, x => (match x with | .Constant .none _ _ => true | _ => false)
  | .bl b, x => (match x with | .Constant (.bool c) _ _ => decide (b = c) | _ => false)
  | .int i, x => (match x with | .Constant (.int j) _ _ => decide (i = j) | _ => false)
  | .str s, x => (match x with | .Constant (.str t) _ _ => decide (s = t) | _ => false)
  | .bin op a b, x => (match x with | .BinOp l o r _ => opB op o && (chkE N sc a l && chkE N sc b r) | _ => false)
  | .neg a, x => (match x with | .UnaryOp .USub y _ => chkE N sc a y | _ => false)
  | .cmp op a b, x => (match x with | .Compare l [o] [r] _ => coB op o && (plainB r && (chkE N sc a l && chkE N sc b r)) | _ => false)
  | .chn o o' a b c, x => (match x with | .Compare l [p, p'] [r, s] _ => coB o p && (coB o' p' && (plainB s && (chkE N sc a l && (chkE N sc b r && chkE N sc c s)))) | _ => false)
  | .isN ng a, x => (match x with | .Compare l [o] [.Constant .none _ _] _ => isB' ng o && chkE N sc a l | _ => false)
  | .isB ng a b, x => (match x with | .Compare l [o] [r] _ => isB' ng o && (chkE N sc a l && chkE N sc b r) | _ => false)
  | .nt a, x => (match x with | .UnaryOp .Not y _ => chkE N sc a y | _ => false)
  | .an a r, x => (match x with | .BoolOp .And (l :: m :: rest) p => chkE N sc a l && chkE N sc r (.BoolOp .And (m :: rest) p) | _ => false)
  | .orr a r, x => (match x with | .BoolOp .Or (l :: m :: rest) p => chkE N sc a l && chkE N sc r (.BoolOp .Or (m :: rest) p) | _ => false)
  | .one a, x => (match x with | .BoolOp _ [l] _ => chkE N sc a l | _ => false)
  | .ife c a b, x => (match x with | .IfExp t l r _ => chkT N sc c t && (chkE N sc a l && chkE N sc b r) | _ => false)
  | .call f _ _ es, x => (match x with | .Call (.Name y _) args [] _ => decide (y = f) && (glB sc y && (nmB y && (args.all plainB && chks N sc es args))) | _ => false)
  | .blt b es, x => (match x with | .Call (.Name y _) (a :: args) [] _ => decide (y = bltN b) && (glB sc y && ((a :: args).all plainB && chks N sc es (a :: args))) | _ => false)
  | .listR a, x => (match x with | .Call (.Name y _) [.Call (.Name z _) [e] [] _] [] _ => decide (y = "list") && (glB sc y && (decide (z = "range") && (glB sc z && (plainB e && chkE N sc a e)))) | _ => false)
  | .isi a ts, x => decide (ts.length ≤ 100) && (match x with
    | .Call (.Name y _) [e, .Tuple cs _ _] [] _ => decide (y = "isinstance") && (glB sc y && (plainB e && (chkE N sc a e && tysB sc ts cs)))
    | .Call (.Name y _) [e, .Name z q] [] _ => decide (y = "isinstance") && (glB sc y && (plainB e && (chkE N sc a e && tysB sc ts [.Name z q])))
    | _ => false)
  | .sub a i, x => (match x with | .Subscript l r _ => plainB r && (chkE N sc a l && chkE N sc i r) | _ => false)
  | .sli a lo hi, x => (match x with | .Subscript l (.Slice p q none _) _ => chkE N sc a l && (chkO N sc lo p && chkO N sc hi q) | _ => false)
  | .tup es, x => (match x with | .Tuple l _ _ => l.all plainB && chks N sc es l | _ => false)
  | .lst es, x => (match x with | .List l _ => l.all plainB && chks N sc es l | _ => false)
  | .dnew _, x => (match x with | .Dict [] [] _ => true | _ => false)
  | .comp elt tg it cond own, x => (match x with
    | .ListComp e [⟨t, i, ifs, z⟩] scope _ => decide (z = 0) && (blkC N sc scope own && (plainB i && ((!needT it || isTupE t) && (tgB (fun y => scope.names.lookup y == some .cell) N (relS scope sc) tg t && ((tgIs tg).all (fun j => (own.map (·.2)).contains j) && (chkI N sc t it i &&
        ((match ifs with | [] => (match cond with | .yes => true | _ => false) | [c] => chkT N (relS scope sc) cond c | _ => false) && chkE N (relS scope sc) elt e)))))))
    | _ => false)
  | .prim q es, x => plainB x && (match q.chk sc x with | some ss => chkL N es ss | none => false)
def chkL (N : List Str) : Exs → List (Scope × Expr) → Bool
  | .nil, xs => (match xs with | [] => true | _ => false)
  | .cons e es, xs => (match xs with | p :: xs => chkE N p.1 e p.2 && chkL N es xs | _ => false)
def chks (N : List Str) (sc : Scope) : Exs → List Expr → Bool
  | .nil, xs => (match xs with | [] => true | _ => false)
  | .cons e es, xs => (match xs with | x :: xs => chkE N sc e x && chks N sc es xs | _ => false)
def chkO (N : List Str) (sc : Scope) : OEx → Option Expr → Bool
  | .none, x => (match x with | none => true | _ => false)
  | .some e, x => (match x with | some x => chkE N sc e x | _ => false)
def chkI (N : List Str) (sc : Scope) (tg : Expr) : ItX → Expr → Bool
  | .seq e, x => chkE N sc e x
  | .rng a, x => (match x with | .Call (.Name y _) [e] [] _ => decide (y = "range") && (glB sc y && (plainB e && chkE N sc a e)) | _ => false)
  | .rng2 a b, x => (match x with | .Call (.Name y _) [e, f] [] _ => decide (y = "range") && (glB sc y && (plainB e && (plainB f && (chkE N sc a e && chkE N sc b f)))) | _ => false)
  | .enum e, x => (match x with | .Call (.Name y _) [l] [] _ => decide (y = "enumerate") && (glB sc y && (plainB l && chkE N sc e l)) | _ => false)
  | .zip a b, x => (match x with | .Call (.Name y _) [e, f] [] _ => decide (y = "zip") && (glB sc y && (plainB e && (plainB f && (chkE N sc a e && chkE N sc b f)))) | _ => false)
  | .prim q es, x => (match q.chk sc tg x with | some ss => chkL N es ss | none => false)
def chkT (N : List Str) (sc : Scope) : Te → Expr → Bool
  | .yes, _ => false
  | .tru e, x => truB x && chkE N sc e x
  | .cmp op a b, x => (match x with | .Compare l [o] [r] _ => coB op o && (plainB r && (chkE N sc a l && chkE N sc b r)) | _ => false)
  | .chn o o' a b c, x => (match x with | .Compare l [p, p'] [r, s] _ => coB o p && (coB o' p' && (plainB s && (chkE N sc a l && (chkE N sc b r && chkE N sc c s)))) | _ => false)
  | .isN ng a, x => (match x with | .Compare l [o] [.Constant .none _ _] _ => isB' ng o && chkE N sc a l | _ => false)
  | .isB ng a b, x => (match x with | .Compare l [o] [r] _ => isB' ng o && (chkE N sc a l && chkE N sc b r) | _ => false)
  | .nt a, x => (match x with | .UnaryOp .Not y _ => chkT N sc a y | _ => false)
  | .an a r, x => (match x with | .BoolOp .And (l :: m :: rest) p => chkT N sc a l && chkT N sc r (.BoolOp .And (m :: rest) p) | _ => false)
  | .orr a r, x => (match x with | .BoolOp .Or (l :: m :: rest) p => chkT N sc a l && chkT N sc r (.BoolOp .Or (m :: rest) p) | _ => false)
  | .one a, x => (match x with | .BoolOp _ [l] _ => chkT N sc a l | _ => false)
end
end FS

set_option Elab.async false
set_option linter.all false
set_option maxRecDepth 100000
set_option maxHeartbeats 4000000
namespace FS
open PySem PySem.Spec PyProof.Rows L2

section
variable {W : Wd} {E : XK}
/-- an operand ahead of anything -/
theorem stepG {α : Type} {P : Out α → Prop} {F0 H0 F1 H1 : Hp} {σ : L2.St} {ρ : Loc} {fp : List Addr} {m : Loc → Tr Rv} {K : Rv → Tr α} (hx : ∀ c ns xs, P (.exn c ns xs) → ExP W E F0 H0 c ns xs) (hb : ¬ P .bad)
    (e : Ext W F0 H0 F1 H1) (env : EnvR W F1 H1 σ ρ fp) (h : ((m ρ).bind K).W P) : tE W E m σ H1 fun x H2 => ∃ r F2, Ext W F1 H1 F2 H2 ∧ RF W fp F2 H2 r x ∧ (K r).W P := by
  refine ⟨F1, ρ, fp, e.g, env, Tr.W_imp (fun o ho => ?_) (Tr.W_bind.mp h)⟩
  cases o with
  | ok r =>
    intro F' H' v e' q
    obtain ⟨F3, e3, q3⟩ := q.froze e'
    exact ⟨r, F3, e3, q3, ho⟩
  | exn c ns xs => exact ExP.ext e (hx _ _ _ ho)
  | bad => exact hb ho
theorem tst1 {m : Loc → Tr Rv} {K : Rv → Tr Bool} {σ : L2.St} {H : Hp} {R : Bool → Hp → Prop} (h : tT W E (fun ρ => (m ρ).bind K) σ H R) :
    tE W E m σ H fun x H1 => ∃ fe F0 H0 F' r, Ext W F0 H0 F' H1 ∧ RF W fe F' H1 r x ∧ (K r).W (PostT W E F0 H0 R) := by
  obtain ⟨F, ρ, fp, g, env, h⟩ := h
  exact (stepG (fun _ _ _ z => z) (fun z => z) (Ext.refl g) env h).imp fun v H' ⟨r, F2, e2, q, z⟩ => ⟨fp, F, H, F2, r, e2, q, z⟩
theorem tst2 {ma mb : Loc → Tr Rv} {K : Rv → Rv → Tr Bool} {σ : L2.St} {H : Hp} {R : Bool → Hp → Prop} (h : tT W E (fun ρ => (ma ρ).bind fun ra => (mb ρ).bind fun rb => K ra rb) σ H R) :
    tE W E ma σ H fun x H1 => tE W E mb σ H1 fun y H2 => ∃ fe F0 H0 F' ra rb, Ext W F0 H0 F' H2 ∧ RF W fe F' H2 ra x ∧ RF W fe F' H2 rb y ∧ (K ra rb).W (PostT W E F0 H0 R) := by
  obtain ⟨F, ρ, fp, g, env, h⟩ := h
  refine (stepG (fun _ _ _ z => z) (fun z => z) (Ext.refl g) env h).imp fun v H' ⟨r, F2, e2, q, z⟩ => ?_
  refine (stepG (P := PostT W E F H R) (fun _ _ _ z => z) (fun z => z) e2 (env.ext e2) z).imp fun v3 H3 ⟨r3, F3, e3, q3, z3⟩ => ?_
  exact ⟨fp, F, H, F3, r, r3, e2.trans e3, q.ext e3, q3, z3⟩
theorem itr1 {m : Loc → Tr Rv} {K : Rv → Tr (Bool × List PV)} {σ : L2.St} {H : Hp} {R : L2.It → Hp → Prop} (h : tI W E (fun ρ => (m ρ).bind K) σ H R) :
    tE W E m σ H fun x H1 => ∃ fe F0 H0 F' r, Ext W F0 H0 F' H1 ∧ RF W fe F' H1 r x ∧ (K r).W (PostI W E F0 H0 R) := by
  obtain ⟨F, ρ, fp, g, env, h⟩ := h
  exact (stepG (fun _ _ _ z => z) (fun z => z) (Ext.refl g) env h).imp fun v H' ⟨r, F2, e2, q, z⟩ => ⟨fp, F, H, F2, r, e2, q, z⟩
theorem itr2 {ma mb : Loc → Tr Rv} {K : Rv → Rv → Tr (Bool × List PV)} {σ : L2.St} {H : Hp} {R : L2.It → Hp → Prop} (h : tI W E (fun ρ => (ma ρ).bind fun ra => (mb ρ).bind fun rb => K ra rb) σ H R) :
    tE W E ma σ H fun x H1 => tE W E mb σ H1 fun y H2 => ∃ fe F0 H0 F' ra rb, Ext W F0 H0 F' H2 ∧ RF W fe F' H2 ra x ∧ RF W fe F' H2 rb y ∧ (K ra rb).W (PostI W E F0 H0 R) := by
  obtain ⟨F, ρ, fp, g, env, h⟩ := h
  refine (stepG (fun _ _ _ z => z) (fun z => z) (Ext.refl g) env h).imp fun v H' ⟨r, F2, e2, q, z⟩ => ?_
  refine (stepG (P := PostI W E F H R) (fun _ _ _ z => z) (fun z => z) e2 (env.ext e2) z).imp fun v3 H3 ⟨r3, F3, e3, q3, z3⟩ => ?_
  exact ⟨fp, F, H, F3, r, r3, e2.trans e3, q.ext e3, q3, z3⟩
/-- three, the last one asked or not -/
theorem op3 {α : Type} {P : List Addr → Hp → Hp → Out α → Prop} {ma mb : Loc → Tr Rv} {K : Loc → Rv → Rv → Tr α} {σ : L2.St} {H : Hp} (hx : ∀ fe F H c ns xs, P fe F H (.exn c ns xs) → ExP W E F H c ns xs) (hb : ∀ fe F H, ¬ P fe F H .bad)
    (h : ∃ F ρ fp, Good W F H ∧ EnvR W F H σ ρ fp ∧ ((ma ρ).bind fun ra => (mb ρ).bind fun rb => K ρ ra rb).W (P fp F H)) :
    tE W E ma σ H fun x H1 => tE W E mb σ H1 fun y H2 => ∃ fe F0 H0 F' ra rb ρ, Ext W F0 H0 F' H2 ∧ EnvR W F' H2 σ ρ fe ∧ RF W fe F' H2 ra x ∧ RF W fe F' H2 rb y ∧ (K ρ ra rb).W (P fe F0 H0) := by
  obtain ⟨F, ρ, fp, g, env, h⟩ := h
  refine (stepG (hx fp F H) (hb fp F H) (Ext.refl g) env h).imp fun v H' ⟨r, F2, e2, q, z⟩ => ?_
  refine (stepG (P := P fp F H) (hx fp F H) (hb fp F H) e2 (env.ext e2) z).imp fun v3 H3 ⟨r3, F3, e3, q3, z3⟩ => ?_
  exact ⟨fp, F, H, F3, r, r3, ρ, e2.trans e3, (env.ext e2).ext e3, q.ext e3, q3, z3⟩
/-- a comparison's answer is taken by whoever takes a truth value -/
theorem rCmp_bl {K : PySem.W.Frag} {op : COp} {x y : V} {H : Hp} {Q Q' : VK} (h : rCmp K op x y H Q) (i : ∀ b, Q (.bl b) H → Q' (.bl b) H) : rCmp K op x y H Q' := by
  cases op with
  | lt => obtain ⟨a, b, h1, h2, q⟩ := h; exact ⟨a, b, h1, h2, i _ q⟩
  | le => obtain ⟨a, b, h1, h2, q⟩ := h; exact ⟨a, b, h1, h2, i _ q⟩
  | gt => obtain ⟨a, b, h1, h2, q⟩ := h; exact ⟨a, b, h1, h2, i _ q⟩
  | ge => obtain ⟨a, b, h1, h2, q⟩ := h; exact ⟨a, b, h1, h2, i _ q⟩
  | eq => obtain ⟨d, e, h1, h2, h3, h4, q⟩ := h; exact ⟨d, e, h1, h2, h3, h4, i _ q⟩
  | ne => obtain ⟨d, e, h1, h2, h3, h4, q⟩ := h; exact ⟨d, e, h1, h2, h3, h4, i _ q⟩
  | in_ =>
    rcases h with ⟨d, e, h1, h2, h3, h4, q⟩ | ⟨a, o, h1, h2, q⟩
    · exact .inl ⟨d, e, h1, h2, h3, h4, i _ q⟩
    · exact .inr ⟨a, o, h1, h2, i _ q⟩
  | notin =>
    rcases h with ⟨d, e, h1, h2, h3, h4, q⟩ | ⟨a, o, h1, h2, q⟩
    · exact .inl ⟨d, e, h1, h2, h3, h4, i _ q⟩
    · exact .inr ⟨a, o, h1, h2, i _ q⟩
/-- a value's truth -/
theorem tru_of {fe : List Addr} {F H : Hp} {r : Rv} {v : V} {b : Bool} (g : Good W F H) (q : RF W fe F H r v) (h : truS r.2 = some b) : TruV W.K v H b := by
  obtain ⟨bb, x⟩ := r
  cases x with
  | non => cases h; have := q.plain rfl rfl; cases this; rfl
  | bl c => cases h; have := q.plain rfl rfl; cases this; rfl
  | int i => cases h; have := q.plain rfl rfl; cases this; rfl
  | lst o xs =>
    cases h
    obtain ⟨a, vs, rfl, ha, hl, _⟩ := q.lst g rfl
    refine .inl ⟨vs, .inl (.inl ha), ?_⟩
    cases vs <;> cases xs <;> simp_all
  | tup xs =>
    cases h
    have := q.plain rfl rfl
    cases this with
    | tup ha t =>
      refine .inr (.inl ⟨_, .inl (.inl (g.sub _ _ ha)), ?_⟩)
      cases t <;> rfl
  | _ => simp [truS] at h
theorem cmp_rd {fe : List Addr} {F H : Hp} {ra rb : Rv} {va vb : V} {op : COp} {b : Bool} {Q : VK} (g : Good W F H) (qa : RF W fe F H ra va) (qb : RF W fe F H rb vb) (h : cmpS op ra.2.fz rb.2.fz = some b) (q : Q (.bl b) H) : rCmp W.K op va vb H Q :=
  cmp_ok op (qa.read g) (qb.read g) h q
theorem isN_ok {fe : List Addr} {F H : Hp} {r : Rv} {v : V} (q : RF W fe F H r v) : decide (v = V.non) = (match r.2 with | .non => true | _ => false) := by
  obtain ⟨b, x⟩ := r
  rcases q with ⟨hb, q⟩ | ⟨hb, fp, q, m⟩
  · cases x <;> cases q <;> rfl
  · cases q with
    | st q => cases q <;> rfl
    | lst => rfl
    | dK => rfl
    | dT => rfl
end
end FS

set_option Elab.async false
set_option linter.all false
set_option maxRecDepth 100000
set_option maxHeartbeats 8000000
namespace FS
open PySem PySem.Spec PyProof.Rows L2

section
variable {W : Wd} {k : Nat} {N : List Str} {sc : Scope} {E : XK} {X : Cx}
theorem CxOk.gl (c : CxOk W k N sc E X) {x : Str} (h : glB sc x = true) : Gl X x := by
  show X.env.scope.names.lookup x = _
  rw [c.sc]
  exact glB_ok h
theorem CxOk.vis (c : CxOk W k N sc E X) {x : Str} (h : visB sc x = true) : Vis X.env.scope x := by
  rw [c.sc]
  exact visB_ok h
theorem CxOk.at_ (c : CxOk W k N sc E X) {i : Nat} {x : Str} (h : N[i]? = some x) : X.N[i]? = some x := by
  rw [c.N]
  exact h
theorem CxOk.fr (c : CxOk W k N sc E X) {x : Str} (h : W.mg x = none) : X.mg x = none := by rw [c.mg]; exact h
theorem nm1 {x : Str} (h : nmB x = true) : (x == ("__debug__" : Str)) = false := (nmB_ok h).1
theorem const_ok {x : Expr} {v : V} {p : PV} (h : PE X x (tC v)) (r : ∀ F, Rp W F v p) : PE X x (tE W E fun _ => vB p) :=
  PE.imp h fun σ H Q ⟨F, ρ, fp, g, env, h⟩ => giveS h (Ext.refl g) (r F)
/-- the block's context -/
theorem CxOk.blk (c : CxOk W k N sc E X) (s : Shared) (H : Hp) (scope : Scope) (C : Addr) (cl : List (Str × Addr)) (fp : List Addr) : CxOk W k N (relS scope sc) (fun _ _ _ => False) (X.blk s H scope (compEnvC scope cl C X.env) fp) :=
  ⟨c.prog, c.w, c.K, c.mg, c.base, c.nd, c.N, by
    have : (X.blk s H scope (compEnvC scope cl C X.env) fp).env.scope = relS scope X.env.scope := rfl
    rw [this, c.sc], c.calm, c.room, passL, c.gd⟩
theorem pl_cons {e : Expr} {es : List Expr} (h : (e :: es).all plainB = true) : plainB e = true ∧ es.all plainB = true := by simpa using h
end
theorem relV_int {v : V} {W : Wd} {F : Hp} {i : Int} (h : Rp W F v (.int i)) : v = .int i := by cases h; rfl
theorem fn_fin {W : Wd} {k : Nat} {E : XK} {n : Nat} {m : Fn} {H : Hp} {Q : VK} {vs : List V} {fe : List Addr} {F0 H0 F1 : Hp} {rs : List Rv} (e : Ext W F0 H0 F1 H) (q : RFs W fe F1 H rs vs)
    (h : (match takes rs with | some xs => if xs.length = n then (m xs).bind fun x => vB x else .bad | none => .bad : Tr Rv).W (PostE W E fe F0 H0 Q)) : spF W n m vs H Q E := by
  cases ht : takes rs with
  | none => rw [ht] at h; exact (show False from h).elim
  | some xs =>
    rw [ht] at h
    dsimp only at h
    by_cases hl : xs.length = n
    · rw [if_pos hl] at h
      have t := takes_ok q ht
      refine ⟨F1, xs, by rw [t.length]; exact hl, e.g, t, Tr.W_imp (fun o ho => ?_) (Tr.W_bind.mp h)⟩
      cases o with
      | ok x => exact fun F' H' v fp e' r n => ho F' H' v (e.trans e') ⟨fp, r, fun _ a ha => e.free (n a ha), fun z => Bool.noConfusion z⟩
      | exn c ns xs => exact ExP.ext e ho
      | bad => exact ho
    · rw [if_neg hl] at h
      exact (show False from h).elim
theorem px_call {W : Wd} {k : Nat} {N : List Str} {sc : Scope} {f : Str} {n : Nat} {m : Fn} {a0 : Expr} {as : List Expr} {me : Loc → Tr (List Rv)} {p pos : Pos} (hn : FnS W k f n m) (g : glB sc f = true) (nm : nmB f = true) (pl : (a0 :: as).all plainB = true) (ha : PAX W k N sc (a0 :: as) me) :
    PX W k N sc (.Call (.Name f p) (a0 :: as) [] pos) (fun ρ => (me ρ).bind fun rs => match takes rs with | some xs => if xs.length = n then (m xs).bind fun x => vB x else .bad | none => .bad) := by
  intro X E c
  obtain ⟨a, fd, ps, h1, h2, h3, h4, h5⟩ := hn.ex
  have F : FnG X.prog X.w X.K X.mg X.base (L2.CX X.prog X.w) k a fd ps (spF W n m) := by
    rw [c.prog, c.w, c.K, c.mg, c.base]
    exact h5
  obtain ⟨p1, p2⟩ := pl_cons pl
  refine PE.imp (pe_callG F c.gd c.room (c.gl g) (by rw [c.mg]; exact h1) (by rw [c.K]; exact h2) (by rw [c.K]; exact h3) c.pass (ha X E c) (nm1 nm) (star_cons p1) (star_all p2)) fun σ H Q h => ?_
  refine (stepAF h).imp fun vs H1 ⟨fe, F0, H0, F1, rs, e, q, z⟩ => ?_
  exact fn_fin (k := k) e q z
theorem px_call0 {W : Wd} {k : Nat} {N : List Str} {sc : Scope} {f : Str} {n : Nat} {m : Fn} {p pos : Pos} (hn : FnS W k f n m) (g : glB sc f = true) (nm : nmB f = true) :
    PX W k N sc (.Call (.Name f p) [] [] pos) (fun ρ => (Tr.ok []).bind fun rs => match takes rs with | some xs => if xs.length = n then (m xs).bind fun x => vB x else .bad | none => .bad) := by
  intro X E c
  obtain ⟨a, fd, ps, h1, h2, h3, h4, h5⟩ := hn.ex
  have F : FnG X.prog X.w X.K X.mg X.base (L2.CX X.prog X.w) k a fd ps (spF W n m) := by
    rw [c.prog, c.w, c.K, c.mg, c.base]
    exact h5
  refine PE.imp (pe_call0G F c.gd c.room (c.gl g) (by rw [c.mg]; exact h1) (by rw [c.K]; exact h2) (by rw [c.K]; exact h3) c.pass (nm1 nm)) fun σ H Q ⟨F', ρ, fp, gd, env, h⟩ => ?_
  exact fn_fin (k := k) (fe := fp) (Ext.refl gd) .nil h
theorem px_blt {W : Wd} {k : Nat} {N : List Str} {sc : Scope} {b : Blt} {a0 : Expr} {as : List Expr} {me : Loc → Tr (List Rv)} {p pos : Pos} (hm : W.mg (bltN b) = none) (g : glB sc (bltN b) = true) (pl : (a0 :: as).all plainB = true) (ha : PAX W k N sc (a0 :: as) me) :
    PX W k N sc (.Call (.Name (bltN b) p) (a0 :: as) [] pos) (fun ρ => (me ρ).bind fun rs => ofV (bltS b rs)) := by
  intro X E c
  obtain ⟨p1, p2⟩ := pl_cons pl
  have key : PE X (.Call (.Name (bltN b) p) (a0 :: as) [] pos) (tCB (rBlt X.K b) (tA W E me)) := by
    have hc := cr_blt (X := X) c.calm b
    have hb := boot_blt b
    have n1 : bltN b ≠ "__name__" := by cases b <;> decide +kernel
    have n2 : (bltN b == ("__debug__" : Str)) = false := by cases b <;> decide +kernel
    cases b with
    | len | sum | max | min | abs | sorted | any | all => exact pe_callB hc (c.gl g) (c.fr hm) hb (ha X E c) n1 n2 (star_cons p1) (star_all p2)
    | int | list | tuple => exact pe_callTy hc (c.gl g) (c.fr hm) hb (ha X E c) n1 n2 (star_cons p1) (star_all p2)
  refine PE.imp key fun σ H Q h => ?_
  refine (stepAF h).imp fun vs H1 ⟨fe, F0, H0, F1, rs, e, q, z⟩ => ?_
  rw [c.K]
  exact blt_ok b e q z
theorem px_comp {W : Wd} {k : Nat} {N : List Str} {sc : Scope} {e t i : Expr} {ifs : List Expr} {scope : Scope} {pos : Pos} {tg : Tg} {own : List (Str × Nat)} {mi : Loc → Tr (Bool × List PV)} {mc : Loc → Tr Bool} {me : Loc → Tr Rv}
    (hb : blkC N sc scope own = true) (pl : plainB i = true) (ht : tgB (fun y => scope.names.lookup y == some .cell) N (relS scope sc) tg t = true) (hs : ∀ j ∈ tgIs tg, j ∈ own.map (·.2))
    (hi : PIX W k N sc t i mi) (hc : PCX W k N (relS scope sc) ifs mc) (he : PX W k N (relS scope sc) e me) :
    PX W k N sc (.ListComp e [⟨t, i, ifs, 0⟩] scope pos) (fun ρ => (mi ρ).bind fun p => if p.2.length < sizeLine then (compL tg (wipeL ρ (own.map (·.2))) (compF mc me) p.2 []).bind fun ys => vB (.lst true ys) else .bad) := by
  intro X E c
  have ok : BlkOk X.N X.env.scope scope own := by
    rw [c.N, c.sc]
    exact blkOk_by hb
  refine PE.imp (pe_lc (g := gT X.K tg) c.calm c.ndX (hi X E c) ok (fun s H C cl fp => pg_tg (c.blk s H scope C cl fp).calm c.ndX (c.blk s H scope C cl fp).N (fun y hy => hy) (c.blk s H scope C cl fp).sc ht)
    (fun s H C cl fp => hc _ _ (c.blk s H scope C cl fp)) (fun s H C cl fp => he _ _ (c.blk s H scope C cl fp)) (plain_fold pl)) fun σ H Q ⟨F, ρ, fp, g, env, h⟩ => ?_
  refine ⟨F, ρ, fp, g, env, Tr.W_imp (fun o ho => ?_) (Tr.W_bind.mp h)⟩
  cases o with
  | exn cc ns xs => exact ho
  | bad => exact ho
  | ok p =>
    obtain ⟨b, xs⟩ := p
    intro F1 H1 J e1 src D hD
    have ho : (if xs.length < sizeLine then (compL tg (wipeL ρ (own.map (·.2))) (compF mc me) xs []).bind fun ys => vB (.lst true ys) else .bad : Tr Rv).W (PostE W E fp F H Q) := ho
    by_cases hz : xs.length < sizeLine
    · rw [if_pos hz] at ho
      have := comp_reads (E' := fun _ _ _ => False) e1 (env.ext e1) (fun a ha => (env.own a ha).1) src hz hD hs ho
      rw [← c.K] at this
      exact this
    · rw [if_neg hz] at ho
      exact (show False from ho).elim
end FS

set_option Elab.async false
set_option linter.all false
set_option maxRecDepth 100000
set_option maxHeartbeats 8000000
namespace FS
open PySem PySem.Spec PyProof.Rows L2

theorem chk_plain {N : List Str} {sc : Scope} : ∀ {e : Ex} {x : Expr}, chkE N sc e x = true → plainB x = true := by
  intro e x h
  cases x with
  | Starred a p => cases e <;> simp [chkE] at h <;> exact h.1
  | Slice a b c p => cases e <;> simp [chkE] at h <;> exact h.1
  | Set a b c => cases e <;> simp [chkE] at h <;> exact h.1
  | _ => rfl
theorem chks_len {N : List Str} {sc : Scope} : ∀ {es : Exs} {xs : List Expr}, chks N sc es xs = true → (xs = [] ↔ es = .nil)
  | .nil, xs, h => by cases xs <;> simp_all [chks]
  | .cons _ _, xs, h => by cases xs <;> simp_all [chks]
section
variable {W : Wd} {k : Nat} {N : List Str}
theorem px_var {sc : Scope} {i : Nat} {x : Str} {p : Pos} (h1 : N[i]? = some x) (h2 : visB sc x = true) (h3 : nmB x = true) : PX W k N sc (.Name x p) (evE (.var i)) := by
  intro X E c
  refine PE.imp (pe_var (i := i) (c.at_ h1) (c.vis h2) (nmB_ok h3).1 (nmB_ok h3).2.1) fun σ H Q ⟨F, ρ, fp, g, env, h⟩ => ?_
  simp only [evE] at h
  cases hr : ρ[i]? with
  | none => rw [hr] at h; exact (show False from h).elim
  | some o =>
    cases o with
    | none => rw [hr] at h; exact (show False from h).elim
    | some y =>
      rw [hr] at h
      obtain ⟨v, f, h4, h5, h6⟩ := env.get hr
      exact ⟨v, h4, h F H v (Ext.refl g) ⟨f, h5, fun z => Bool.noConfusion z, fun _ => h6⟩⟩
theorem px_bin {sc : Scope} {op : BOp} {a b : Expr} {ma mb : Loc → Tr Rv} {p : Pos} (ha : PX W k N sc a ma) (hb : PX W k N sc b mb) :
    PX W k N sc (.BinOp a (pyB op) b p) (fun ρ => (ma ρ).bind fun ra => (mb ρ).bind fun rb => match shal ra, shal rb with | some x, some y => ofV (binS op x y) | _, _ => .bad) := by
  intro X E c
  refine PE.imp (pe_op (op_bin op) (ha X E c) (hb X E c)) fun σ H Q h => ?_
  refine (op2 h).imp fun x H1 h => h.imp fun y H2 ⟨fe, F0, H0, F', ra, rb, e, qa, qb, z⟩ => ?_
  rw [c.K]
  cases hx : shal ra with
  | none => rw [hx] at z; exact (show False from z).elim
  | some u =>
    cases hy : shal rb with
    | none => rw [hx, hy] at z; exact (show False from z).elim
    | some w =>
      rw [hx, hy] at z
      exact bin_ok op e (qa.sh e.g hx) (qb.sh e.g hy) z
theorem px_neg {sc : Scope} {a : Expr} {ma : Loc → Tr Rv} {p : Pos} (ha : PX W k N sc a ma) : PX W k N sc (.UnaryOp .USub a p) (fun ρ => (ma ρ).bind fun ra => match ra.2 with | .int i => vB (.int (-i)) | _ => .bad) := by
  intro X E c
  refine PE.imp (pe_un un_neg (ha X E c)) fun σ H Q h => ?_
  refine (op1 h).imp fun x H1 ⟨fe, F0, H0, F', r, e, q, z⟩ => ?_
  obtain ⟨b, y⟩ := r
  cases y with
  | int i =>
    have := q.plain rfl rfl
    cases this
    exact ⟨i, rfl, giveS z e .int⟩
  | _ => exact (show False from z).elim
theorem px_cmp {sc : Scope} {op : COp} {a b : Expr} {ma mb : Loc → Tr Rv} {p : Pos} (pl : plainB b = true) (ha : PX W k N sc a ma) (hb : PX W k N sc b mb) :
    PX W k N sc (.Compare a [pyC op] [b] p) (fun ρ => (ma ρ).bind fun ra => (mb ρ).bind fun rb => ofB (cmpS op ra.2.fz rb.2.fz)) := by
  intro X E c
  refine PE.imp (pe_cmpR (op_cmp c.hu op) (ha X E c) (hb X E c) (plain_mark pl)) fun σ H Q h => ?_
  refine (op2 h).imp fun x H1 h => h.imp fun y H2 ⟨fe, F0, H0, F', ra, rb, e, qa, qb, z⟩ => ?_
  rw [c.K]
  cases hc : cmpS op ra.2.fz rb.2.fz with
  | none => rw [hc] at z; exact (show False from z).elim
  | some b =>
    rw [hc] at z
    exact cmp_rd e.g qa qb hc (giveS z e .bl)
theorem pt_cmpX {sc : Scope} {op : COp} {a b : Expr} {ma mb : Loc → Tr Rv} {p : Pos} (pl : plainB b = true) (ha : PX W k N sc a ma) (hb : PX W k N sc b mb) :
    PTX W k N sc (.Compare a [pyC op] [b] p) (fun ρ => (ma ρ).bind fun ra => (mb ρ).bind fun rb => Tr.ofO (cmpS op ra.2.fz rb.2.fz)) := by
  intro X E c
  refine PT.imp (pt_cmpR (op_cmp c.hu op) (ha X E c) (hb X E c) (plain_mark pl)) fun σ H Q h => ?_
  refine (tst2 h).imp fun x H1 h => h.imp fun y H2 ⟨fe, F0, H0, F', ra, rb, e, qa, qb, z⟩ => ?_
  rw [c.K]
  cases hc : cmpS op ra.2.fz rb.2.fz with
  | none => rw [hc] at z; exact (show False from z).elim
  | some b =>
    rw [hc] at z
    exact cmp_rd e.g qa qb hc ⟨b, rfl, z F' H2 e⟩
theorem lastm {op op' : CmpOp} {b c : Expr} (h : plainB c = true) : lastMarks [op, op'] [b, c] = false := by
  show lastMarks [op'] [c] = false
  exact plain_mark h
theorem px_chn {sc : Scope} {o o' : COp} {a b d : Expr} {ma mb md : Loc → Tr Rv} {p : Pos} (pl : plainB d = true) (ha : PX W k N sc a ma) (hb : PX W k N sc b mb) (hd : PX W k N sc d md) :
    PX W k N sc (.Compare a [pyC o, pyC o'] [b, d] p) (fun ρ => (ma ρ).bind fun ra => (mb ρ).bind fun rb => match cmpS o ra.2.fz rb.2.fz with | some true => (md ρ).bind fun rc => ofB (cmpS o' rb.2.fz rc.2.fz) | some false => vB (.bl false) | none => .bad) := by
  intro X E c
  refine PE.imp (pe_chain (op_cmp c.hu o) (op_cmp c.hu o') (ha X E c) (hb X E c) (hd X E c) (lastm pl)) fun σ H Q h => ?_
  refine (op3 (P := fun fe F H => PostE W E fe F H Q) (fun _ _ _ _ _ _ z => z) (fun _ _ _ z => z) h).imp fun x H1 h => h.imp fun y H2 ⟨fe, F0, H0, F', ra, rb, ρ, e, env, qa, qb, z⟩ => ?_
  rw [c.K]
  cases hc : cmpS o ra.2.fz rb.2.fz with
  | none => rw [hc] at z; exact (show False from z).elim
  | some b =>
    rw [hc] at z
    refine cmp_rd e.g qa qb hc ⟨b, rfl, ?_⟩
    cases b with
    | false =>
      rw [if_neg (by simp)]
      exact giveS z e .bl
    | true =>
      rw [if_pos rfl]
      refine (stepF e env z).imp fun v H3 ⟨rc, F3, e3, q3, z3⟩ => ?_
      cases hd : cmpS o' rb.2.fz rc.2.fz with
      | none => rw [hd] at z3; exact (show False from z3).elim
      | some b' =>
        rw [hd] at z3
        exact cmp_rd e3.g (qb.ext e3) q3 hd (giveS z3 (e.trans e3) .bl)
theorem pt_chnX {sc : Scope} {o o' : COp} {a b d : Expr} {ma mb md : Loc → Tr Rv} {p : Pos} (pl : plainB d = true) (ha : PX W k N sc a ma) (hb : PX W k N sc b mb) (hd : PX W k N sc d md) :
    PTX W k N sc (.Compare a [pyC o, pyC o'] [b, d] p) (fun ρ => (ma ρ).bind fun ra => (mb ρ).bind fun rb => match cmpS o ra.2.fz rb.2.fz with | some true => (md ρ).bind fun rc => Tr.ofO (cmpS o' rb.2.fz rc.2.fz) | some false => .ok false | none => .bad) := by
  intro X E c
  refine PT.imp (pt_chain (op_cmp c.hu o) (op_cmp c.hu o') (ha X E c) (hb X E c) (hd X E c) (lastm pl)) fun σ H Q h => ?_
  refine (op3 (P := fun fe F H => PostT W E F H Q) (fun _ _ _ _ _ _ z => z) (fun _ _ _ z => z) h).imp fun x H1 h => h.imp fun y H2 ⟨fe, F0, H0, F', ra, rb, ρ, e, env, qa, qb, z⟩ => ?_
  rw [c.K]
  cases hc : cmpS o ra.2.fz rb.2.fz with
  | none => rw [hc] at z; exact (show False from z).elim
  | some b =>
    rw [hc] at z
    refine cmp_rd e.g qa qb hc ⟨b, rfl, ?_⟩
    cases b with
    | false =>
      rw [if_neg (by simp)]
      exact ⟨false, rfl, z F' H2 e⟩
    | true =>
      rw [if_pos rfl]
      refine (stepG (P := PostT W E F0 H0 Q) (fun _ _ _ z => z) (fun z => z) e env z).imp fun v H3 ⟨rc, F3, e3, q3, z3⟩ => ?_
      cases hd : cmpS o' rb.2.fz rc.2.fz with
      | none => rw [hd] at z3; exact (show False from z3).elim
      | some b' =>
        rw [hd] at z3
        exact cmp_rd e3.g (qb.ext e3) q3 hd ⟨b', rfl, z3 F3 H3 (e.trans e3)⟩
theorem px_isN {sc : Scope} {ng : Bool} {op : CmpOp} {a : Expr} {ma : Loc → Tr Rv} {j : Nat} {p p' : Pos} (ho : isB' ng op = true) (ha : PX W k N sc a ma) :
    PX W k N sc (.Compare a [op] [.Constant .none j p'] p) (fun ρ => (ma ρ).bind fun ra => match ra.2 with | .non => vB (.bl (!ng)) | _ => vB (.bl ng)) := by
  intro X E c
  have fin : ∀ {σ H Q}, tE W E (fun ρ => (ma ρ).bind fun ra => match ra.2 with | .non => vB (.bl (!ng)) | _ => vB (.bl ng)) σ H Q → tE W E ma σ H fun x H1 => Q (.bl (if ng then !decide (x = .non) else decide (x = .non))) H1 := by
    intro σ H Q h
    refine (op1 h).imp fun x H1 ⟨fe, F0, H0, F', r, e, q, z⟩ => ?_
    rw [isN_ok q]
    obtain ⟨b, y⟩ := r
    cases y <;> cases ng <;> exact giveS z e .bl
  cases op <;> cases ng <;> first | (cases ho; done) | skip
  · exact PE.imp (pe_cmp (pc_isN (ha X E c)) rfl) fun σ H Q h => fin h
  · exact PE.imp (pe_cmp (pc_notN (ha X E c)) rfl) fun σ H Q h => fin h
theorem pt_isNX {sc : Scope} {ng : Bool} {op : CmpOp} {a : Expr} {ma : Loc → Tr Rv} {j : Nat} {p p' : Pos} (ho : isB' ng op = true) (ha : PX W k N sc a ma) :
    PTX W k N sc (.Compare a [op] [.Constant .none j p'] p) (fun ρ => (ma ρ).bind fun ra => match ra.2 with | .non => .ok (!ng) | _ => .ok ng) := by
  intro X E c
  have fin : ∀ {σ H R}, tT W E (fun ρ => (ma ρ).bind fun ra => match ra.2 with | .non => .ok (!ng) | _ => .ok ng) σ H R → tE W E ma σ H fun x H1 => ∃ b, V.bl (if ng then !decide (x = .non) else decide (x = .non)) = .bl b ∧ R b H1 := by
    intro σ H R h
    refine (tst1 h).imp fun x H1 ⟨fe, F0, H0, F', r, e, q, z⟩ => ⟨_, rfl, ?_⟩
    rw [isN_ok q]
    obtain ⟨b, y⟩ := r
    cases y <;> cases ng <;> exact z F' H1 e
  cases op <;> cases ng <;> first | (cases ho; done) | skip
  · exact PT.imp (pt_cmp (pc_isN (ha X E c)) rfl) fun σ H Q h => fin h
  · exact PT.imp (pt_cmp (pc_notN (ha X E c)) rfl) fun σ H Q h => fin h
def rIsNg (ng : Bool) : R2 := fun x y H Q => ∃ a b : Bool, x = .bl a ∧ y = .bl b ∧ Q (.bl (if ng then !decide (a = b) else decide (a = b))) H
theorem op_isNg {X : Cx} {ng : Bool} {op : CmpOp} (ho : isB' ng op = true) : OpR X (compareOp op) (rIsNg ng) ∧ op ≠ .In ∧ op ≠ .NotIn := by
  cases op <;> cases ng <;> first | (cases ho; done) | skip
  · exact ⟨op_isBl, by decide, by decide⟩
  · exact ⟨op_notBl, by decide, by decide⟩
theorem px_isB {sc : Scope} {ng : Bool} {op : CmpOp} {a b : Expr} {ma mb : Loc → Tr Rv} {p : Pos} (ho : isB' ng op = true) (ha : PX W k N sc a ma) (hb : PX W k N sc b mb) :
    PX W k N sc (.Compare a [op] [b] p) (fun ρ => (ma ρ).bind fun ra => (mb ρ).bind fun rb => match ra.2, rb.2 with | .bl p, .bl q => vB (.bl (if ng then !decide (p = q) else decide (p = q))) | _, _ => .bad) := by
  intro X E c
  obtain ⟨h1, h2, h3⟩ := op_isNg (X := X) ho
  refine PE.imp (pe_cmpR h1 (ha X E c) (hb X E c) (nomark _ h2 h3)) fun σ H Q h => ?_
  refine (op2 h).imp fun x H1 h => h.imp fun y H2 ⟨fe, F0, H0, F', ra, rb, e, qa, qb, z⟩ => ?_
  obtain ⟨b1, y1⟩ := ra
  obtain ⟨b2, y2⟩ := rb
  cases y1 <;> first | exact (show False from z).elim | skip
  cases y2 <;> first | exact (show False from z).elim | skip
  have a1 := qa.plain rfl rfl
  have a2 := qb.plain rfl rfl
  cases a1; cases a2
  exact ⟨_, _, rfl, rfl, giveS z e .bl⟩
theorem pt_isBX {sc : Scope} {ng : Bool} {op : CmpOp} {a b : Expr} {ma mb : Loc → Tr Rv} {p : Pos} (ho : isB' ng op = true) (ha : PX W k N sc a ma) (hb : PX W k N sc b mb) :
    PTX W k N sc (.Compare a [op] [b] p) (fun ρ => (ma ρ).bind fun ra => (mb ρ).bind fun rb => match ra.2, rb.2 with | .bl p, .bl q => .ok (if ng then !decide (p = q) else decide (p = q)) | _, _ => .bad) := by
  intro X E c
  obtain ⟨h1, h2, h3⟩ := op_isNg (X := X) ho
  refine PT.imp (pt_cmpR h1 (ha X E c) (hb X E c) (nomark _ h2 h3)) fun σ H Q h => ?_
  refine (tst2 h).imp fun x H1 h => h.imp fun y H2 ⟨fe, F0, H0, F', ra, rb, e, qa, qb, z⟩ => ?_
  obtain ⟨b1, y1⟩ := ra
  obtain ⟨b2, y2⟩ := rb
  cases y1 <;> first | exact (show False from z).elim | skip
  cases y2 <;> first | exact (show False from z).elim | skip
  have a1 := qa.plain rfl rfl
  have a2 := qb.plain rfl rfl
  cases a1; cases a2
  exact ⟨_, _, rfl, rfl, _, rfl, z F' H2 e⟩
theorem px_nt {sc : Scope} {a : Expr} {ma : Loc → Tr Rv} {p : Pos} (ha : PX W k N sc a ma) : PX W k N sc (.UnaryOp .Not a p) (fun ρ => (ma ρ).bind fun ra => match truS ra.2 with | some b => vB (.bl (!b)) | none => .bad) := by
  intro X E c
  refine PE.imp (pe_notT (ha X E c)) fun σ H Q h => ?_
  refine (op1 h).imp fun x H1 ⟨fe, F0, H0, F', r, e, q, z⟩ => ?_
  cases ht : truS r.2 with
  | none => rw [ht] at z; exact (show False from z).elim
  | some b =>
    rw [ht] at z
    refine ⟨b, ?_, giveS z e .bl⟩
    rw [c.K]
    exact tru_of e.g q ht
/-- a bool first, then another way -/
theorem px_an {sc : Scope} {a b : Expr} {rest : List Expr} {ma mb : Loc → Tr Rv} {p : Pos} (ha : PX W k N sc a ma) (hb : PX W k N sc (.BoolOp .And (b :: rest) p) mb) :
    PX W k N sc (.BoolOp .And (a :: b :: rest) p) (fun ρ => (ma ρ).bind fun ra => match ra.2 with | .bl true => mb ρ | .bl false => vB (.bl false) | _ => .bad) := by
  intro X E c
  refine PE.imp (pe_and (ha X E c) (hb X E c)) fun σ H Q ⟨F, ρ, fp, g, env, h⟩ => ?_
  refine (stepF (Ext.refl g) env h).imp fun x H1 ⟨r, F1, e, q, z⟩ => ?_
  obtain ⟨b1, y1⟩ := r
  cases y1 with
  | bl bb =>
    have a1 := q.plain rfl rfl
    cases a1
    refine ⟨bb, rfl, ?_⟩
    cases bb with
    | false => exact giveS z e .bl
    | true => exact ⟨F1, ρ, fp, e.g, env.ext e, Tr.W_imp (fun o ho => PostE.ext e ho) z⟩
  | _ => exact (show False from z).elim
theorem px_or {sc : Scope} {a b : Expr} {rest : List Expr} {ma mb : Loc → Tr Rv} {p : Pos} (ha : PX W k N sc a ma) (hb : PX W k N sc (.BoolOp .Or (b :: rest) p) mb) :
    PX W k N sc (.BoolOp .Or (a :: b :: rest) p) (fun ρ => (ma ρ).bind fun ra => match ra.2 with | .bl false => mb ρ | .bl true => vB (.bl true) | _ => .bad) := by
  intro X E c
  refine PE.imp (pe_or (ha X E c) (hb X E c)) fun σ H Q ⟨F, ρ, fp, g, env, h⟩ => ?_
  refine (stepF (Ext.refl g) env h).imp fun x H1 ⟨r, F1, e, q, z⟩ => ?_
  obtain ⟨b1, y1⟩ := r
  cases y1 with
  | bl bb =>
    have a1 := q.plain rfl rfl
    cases a1
    refine ⟨bb, rfl, ?_⟩
    cases bb with
    | true => exact giveS z e .bl
    | false => exact ⟨F1, ρ, fp, e.g, env.ext e, Tr.W_imp (fun o ho => PostE.ext e ho) z⟩
  | _ => exact (show False from z).elim
theorem px_ife {sc : Scope} {t a b : Expr} {mt : Loc → Tr Bool} {ma mb : Loc → Tr Rv} {p : Pos} (ht : PTX W k N sc t mt) (ha : PX W k N sc a ma) (hb : PX W k N sc b mb) :
    PX W k N sc (.IfExp t a b p) (fun ρ => (mt ρ).bind fun k => if k then ma ρ else mb ρ) := by
  intro X E c
  refine PE.imp (pe_ifExp (ht X E c) (ha X E c) (hb X E c)) fun σ H Q ⟨F, ρ, fp, g, env, h⟩ => ?_
  refine stepT (P := fun F0 H0 => PostE W E fp F0 H0 Q) (Ext.refl g) env (fun _ _ _ z => z) (fun z => z) h fun b F2 H2 e2 z => ?_
  cases b with
  | true => exact ⟨F2, ρ, fp, e2.g, env.ext e2, Tr.W_imp (fun o ho => PostE.ext e2 ho) z⟩
  | false => exact ⟨F2, ρ, fp, e2.g, env.ext e2, Tr.W_imp (fun o ho => PostE.ext e2 ho) z⟩
end
end FS

set_option Elab.async false
set_option linter.all false
set_option maxRecDepth 100000
set_option maxHeartbeats 8000000
namespace FS
open PySem PySem.Spec PyProof.Rows L2

section
variable {W : Wd} {k : Nat} {N : List Str} {sc : Scope}
theorem rgV_rp {F : Hp} (a b : Int) : Rps W F (rgV a b) (rangeL a b) := by
  unfold rgV rangeL
  induction (List.range (b - a).toNat) with
  | nil => exact .nil
  | cons x xs ih => exact .cons .int ih
theorem px_listR {a : Expr} {ma : Loc → Tr Rv} {p p2 p3 p4 : Pos} (g1 : glB sc "list" = true) (g2 : glB sc "range" = true) (m1 : W.mg "list" = none) (m2 : W.mg "range" = none) (pl : plainB a = true) (ha : PX W k N sc a ma) :
    PX W k N sc (.Call (.Name "list" p) [.Call (.Name "range" p2) [a] [] p3] [] p4) (fun ρ => (ma ρ).bind fun ra => match ra.2 with | .int j => if 0 ≤ j ∧ j ≤ 16777216 then vB (.lst true (rangeL 0 j)) else .bad | _ => .bad) := by
  intro X E c
  refine PE.imp (pe_listRg c.calm (c.gl g1) (c.fr m1) (prg_1 (c.gl g2) (c.fr m2) (ha X E c) (star_cons pl))) fun σ H Q h => ?_
  refine (op1 h).imp fun x H1 ⟨fe, F0, H0, F', r, e, q, z⟩ => ?_
  obtain ⟨b, y⟩ := r
  cases y with
  | int j =>
    have a1 := q.plain rfl rfl
    cases a1
    dsimp only at z
    by_cases hj : 0 ≤ j ∧ j ≤ 16777216
    · rw [if_pos hj] at z
      exact ⟨j, rfl, RgOk.of_le (Int.le_refl _) hj.2 (by omega) hj.1, fun l hl => giveL z e hl (rgV_rp 0 j)⟩
    · rw [if_neg hj] at z
      exact (show False from z).elim
  | _ => exact (show False from z).elim
/-- classes by their names -/
theorem tys_ok {X : Cx} {E : XK} (c : CxOk W k N sc E X) : ∀ {ns : List String} {es : List Expr}, tysB sc ns es = true → AllN W k (ns.flatMap fun n => match tyN n with | some x => [Need.fr x] | none => []) →
    PA X es (fun _ H Q => Q (ns.map V.ty) H) ∧ es.all plainB = true
  | [], [], _, _ => ⟨pa_nil, rfl⟩
  | n :: ns, .Name x p :: es, h, nd => by
    unfold tysB at h
    simp only [Bool.and_eq_true, decide_eq_true_eq] at h
    obtain ⟨⟨⟨h1, h2⟩, h3⟩, h4⟩ := h
    simp only [List.flatMap_cons, h1] at nd
    obtain ⟨n1, n2⟩ := nd.app
    obtain ⟨t1, t2⟩ := tys_ok c h4 n2
    exact ⟨pa_cons (pe_bltn (v := .ty n) (c.gl h2) (c.fr n1.1) (boot_ty h1) rfl (nmB_ok h3).2.2 (nmB_ok h3).1) t1, by simp [plainB, t2]⟩
  | [], _ :: _, h, _ => by cases h
  | _ :: _, [], h, _ => by unfold tysB at h; cases h
  | _ :: _, .BoolOp .. :: _, h, _ | _ :: _, .NamedExpr .. :: _, h, _ | _ :: _, .BinOp .. :: _, h, _ | _ :: _, .UnaryOp .. :: _, h, _ | _ :: _, .Lambda .. :: _, h, _ | _ :: _, .IfExp .. :: _, h, _ | _ :: _, .Dict .. :: _, h, _ | _ :: _, .Set .. :: _, h, _
  | _ :: _, .ListComp .. :: _, h, _ | _ :: _, .SetComp .. :: _, h, _ | _ :: _, .DictComp .. :: _, h, _ | _ :: _, .GeneratorExp .. :: _, h, _ | _ :: _, .Await .. :: _, h, _ | _ :: _, .Yield .. :: _, h, _ | _ :: _, .YieldFrom .. :: _, h, _ | _ :: _, .Compare .. :: _, h, _
  | _ :: _, .Call .. :: _, h, _ | _ :: _, .FormattedValue .. :: _, h, _ | _ :: _, .JoinedStr .. :: _, h, _ | _ :: _, .Constant .. :: _, h, _ | _ :: _, .Attribute .. :: _, h, _ | _ :: _, .Subscript .. :: _, h, _ | _ :: _, .Starred .. :: _, h, _ | _ :: _, .List .. :: _, h, _
  | _ :: _, .Tuple .. :: _, h, _ | _ :: _, .Slice .. :: _, h, _ => by simp [tysB] at h
theorem kit_is {K : PySem.W.Frag} {n t : String} (hn : n = "NoneType" ∨ n = "bool" ∨ n = "int" ∨ n = "str" ∨ n = "tuple" ∨ n = "list" ∨ n = "dict") {x : Str} (ht : tyN t = some x) : PySem.W.kitOne K (.type n) (.type t) = some (isT n t) := by
  apply kit_ty
  unfold tyN at ht
  rcases hn with rfl | rfl | rfl | rfl | rfl | rfl | rfl <;> (split at ht <;> first | (decide +kernel) | cases ht)
theorem tyName_is {x : PV} {n : String} (h : tyName x = some n) : n = "NoneType" ∨ n = "bool" ∨ n = "int" ∨ n = "str" ∨ n = "tuple" ∨ n = "list" ∨ n = "dict" := by
  cases x <;> simp [tyName] at h <;> subst h <;> simp
theorem ty_of {fe : List Addr} {F H : Hp} {r : Rv} {v : V} {n : String} (g : Good W F H) (q : RF W fe F H r v) (h : tyName r.2 = some n) : TyX W.K H v (.type n) := by
  obtain ⟨b, y⟩ := r
  cases y with
  | non => cases h; have := q.plain rfl rfl; cases this; exact .base .non
  | bl c => cases h; have := q.plain rfl rfl; cases this; exact .base (.bl _)
  | int i => cases h; have := q.plain rfl rfl; cases this; exact .base (.int _)
  | str s => cases h; have := q.plain rfl rfl; cases this; exact .base (.str _)
  | tup xs => cases h; have := q.plain rfl rfl; cases this with | tup ha t => exact .base (.tup (g.sub _ _ ha))
  | lst o xs =>
    cases h
    obtain ⟨a, vs, rfl, ha, _⟩ := q.lst g rfl
    exact .base (.lst ha)
  | dct o T ks vs =>
    cases h
    rcases q with ⟨hb, q⟩ | ⟨hb, fp, q, m⟩
    · cases q with
      | dK ha t => exact .base (.dK (g.sub _ _ ha))
      | dT ha t => exact .base (.dT (g.sub _ _ ha))
    · cases q with
      | st q =>
        cases q with
        | dK ha t => exact .base (.dK (g.sub _ _ ha))
        | dT ha t => exact .base (.dT (g.sub _ _ ha))
      | dK ha => exact .base (.dK ha)
      | dT ha => exact .base (.dT ha)
  | _ => simp [tyName] at h
theorem kit_any {K : PySem.W.Frag} {n : String} (hn : n = "NoneType" ∨ n = "bool" ∨ n = "int" ∨ n = "str" ∨ n = "tuple" ∨ n = "list" ∨ n = "dict") : ∀ {ts : List String} {es : List Expr}, tysB sc ts es = true → PySem.W.kitAny K (.type n) (ts.map Value.type) = some (ts.any (isT n))
  | [], [], _ => rfl
  | [], _ :: _, h => by cases h
  | t :: ts, es, h => by
    have key : ∃ x es', tyN t = some x ∧ tysB sc ts es' = true := by
      cases es with
      | nil => cases h
      | cons e es =>
        cases e with
        | Name x p =>
          unfold tysB at h
          simp only [Bool.and_eq_true, decide_eq_true_eq] at h
          exact ⟨x, es, h.1.1.1, h.2⟩
        | _ => simp [tysB] at h
    obtain ⟨x, es', h1, h2⟩ := key
    refine kitAny_cons (kit_is hn h1) (fun hb => ?_) (fun hb => ?_)
    · rw [List.any_cons, hb, Bool.false_or]
      exact kit_any hn h2
    · rw [List.any_cons, hb, Bool.true_or]
theorem cls_pair : ∀ ts : List String, Paired ClsV (ts.map V.ty) (ts.map Value.type)
  | [] => .nil
  | t :: ts => .cons (.ty t) (cls_pair ts)
theorem pa2 {a b : Expr} {ta : TE} {tb : TE} {X : Cx} (ha : PE X a ta) (hb : PE X b tb) (p1 : plainB a = true) (p2 : plainB b = true) : PA X [a, b] (tCons ta (tCons tb tNil)) := pa_cons ha (pa_cons hb pa_nil (star_cons p2)) (star_cons p1)
theorem px_isi {a : Expr} {ma : Loc → Tr Rv} {ts : List String} {cs : List Expr} {tk : Nat} {p p2 p3 : Pos} (g1 : glB sc "isinstance" = true) (m1 : W.mg "isinstance" = none) (pl : plainB a = true) (ha : PX W k N sc a ma) (h : tysB sc ts cs = true) (hz : ts.length ≤ 100)
    (nd : AllN W k (ts.flatMap fun n => match tyN n with | some x => [Need.fr x] | none => [])) :
    PX W k N sc (.Call (.Name "isinstance" p) [a, .Tuple cs tk p2] [] p3) (fun ρ => (ma ρ).bind fun ra => match tyName ra.2 with | some n => vB (.bl (ts.any (isT n))) | none => .bad) := by
  intro X E c
  obtain ⟨t1, t2⟩ := tys_ok c h nd
  refine PE.imp (pe_callB call_isiT (c.gl g1) (c.fr m1) boot_isinstance (pa2 (ha X E c) (pe_tup t1) pl rfl) (by decide) (by decide) (star_cons pl) (star_all (by rfl))) fun σ H Q hh => ?_
  refine (op1 hh).imp fun x H1 ⟨fe, F0, H0, F', r, e, q, z⟩ => ?_
  refine ⟨?_, fun l hl => ?_⟩
  · rw [List.length_map]
    exact Nat.le_trans hz (by decide)
  · cases ht : tyName r.2 with
    | none => rw [ht] at z; exact (show False from z).elim
    | some n =>
      rw [ht] at z
      have e2 := e.g.laidF (o := .tup (ts.map V.ty)) hl
      refine ⟨x, l, ts.map V.ty, .type n, ts.map Value.type, ts.any (isT n), rfl, upd_same, ?_, ?_, kit_any (tyName_is ht) h, ?_⟩
      · exact cls_pair ts
      · rw [c.K]
        exact ty_of e2.g (q.ext e2) ht
      · exact giveS z (e.trans e2) .bl
theorem px_isi1 {a : Expr} {ma : Loc → Tr Rv} {ts : List String} {x : Str} {p p2 p3 : Pos} (g1 : glB sc "isinstance" = true) (m1 : W.mg "isinstance" = none) (pl : plainB a = true) (ha : PX W k N sc a ma) (h : tysB sc ts [.Name x p2] = true)
    (nd : AllN W k (ts.flatMap fun n => match tyN n with | some x => [Need.fr x] | none => [])) :
    PX W k N sc (.Call (.Name "isinstance" p) [a, .Name x p2] [] p3) (fun ρ => (ma ρ).bind fun ra => match tyName ra.2 with | some n => vB (.bl (ts.any (isT n))) | none => .bad) := by
  intro X E c
  obtain ⟨n, rfl⟩ : ∃ n, ts = [n] := by
    cases ts with
    | nil => cases h
    | cons n ts =>
      unfold tysB at h
      simp only [Bool.and_eq_true] at h
      cases ts with
      | nil => exact ⟨n, rfl⟩
      | cons n2 ts => exact absurd h.2 (by simp [tysB])
  have h' := h
  unfold tysB at h
  simp only [Bool.and_eq_true, decide_eq_true_eq] at h
  obtain ⟨⟨⟨h1, h2⟩, h3⟩, h4⟩ := h
  simp only [List.flatMap_cons, h1] at nd
  obtain ⟨n1, n2⟩ := nd.app
  refine PE.imp (pe_callB call_isi (c.gl g1) (c.fr m1) boot_isinstance (pa2 (ha X E c) (pe_bltn (v := .ty n) (c.gl h2) (c.fr n1.1) (boot_ty h1) rfl (nmB_ok h3).2.2 (nmB_ok h3).1) pl rfl) (by decide) (by decide) (star_cons pl) (star_all (by rfl))) fun σ H Q hh => ?_
  refine (op1 hh).imp fun x H1 ⟨fe, F0, H0, F', r, e, q, z⟩ => ?_
  cases ht : tyName r.2 with
  | none => rw [ht] at z; exact (show False from z).elim
  | some m =>
    rw [ht] at z
    have kk := kit_is (K := X.K) (tyName_is ht) h1
    refine ⟨x, .ty n, .type m, .type n, isT m n, rfl, .ty n, ?_, kk, ?_⟩
    · rw [c.K]
      exact ty_of e.g q ht
    · have z : (vB (.bl ([n].any (isT m)))).W (PostE W E fe F0 H0 Q) := z
      have : [n].any (isT m) = isT m n := by simp
      rw [this] at z
      exact giveS z e .bl
theorem px_sub {a b : Expr} {ma mb : Loc → Tr Rv} {p : Pos} (pl : plainB b = true) (ha : PX W k N sc a ma) (hb : PX W k N sc b mb) :
    PX W k N sc (.Subscript a b p) (fun ρ => (ma ρ).bind fun ra => (mb ρ).bind fun ri => match subS ra.2 ri.2.fz with | some x => .ok (ra.1, if ra.1 then x else x.fz) | none => .bad) := by
  intro X E c
  refine PE.imp (pe_ix (ix_sub c.hu) (ha X E c) (hb X E c) (plain_ix pl)) fun σ H Q h => ?_
  refine (op2 h).imp fun x H1 h => h.imp fun y H2 ⟨fe, F0, H0, F', ra, rb, e, qa, qb, z⟩ => ?_
  rw [c.K]
  cases hs : subS ra.2 rb.2.fz with
  | none => rw [hs] at z; exact (show False from z).elim
  | some u =>
    rw [hs] at z
    have gv : ∀ w, RF W fe F' H2 (ra.1, u) w → Q w H2 := fun w q => by
      refine z F' H2 w e ?_
      rcases q with ⟨hb, q⟩ | ⟨hb, fp, q, m⟩
      · have hb : ra.1 = false := hb
        rw [hb]
        exact ⟨[], .st (by simpa using q), fun _ _ z => by simp at z, fun z => Bool.noConfusion z⟩
      · have hb : ra.1 = true := hb
        rw [hb]
        exact ⟨fp, by simpa using q, fun z => Bool.noConfusion z, fun _ => m⟩
    have qi := qb.read e.g
    unfold subS at hs
    split at hs
    · rename_i o xs i hr hi
      rw [hi] at qi
      cases qi
      obtain ⟨p, vs, rfl, hp, hl, _, _, hg⟩ := qa.lst e.g hr
      unfold atI at hs
      obtain ⟨j, h1, h2⟩ := Option.bind_eq_some_iff.mp hs
      obtain ⟨w, h3, h4⟩ := hg j u h2
      exact .inl (.inl ⟨p, vs, i, w, rfl, rfl, .inl (.inl hp), by unfold atI; rw [hl, h1]; exact h3, gv w h4⟩)
    · rename_i xs i hr hi
      rw [hi] at qi
      cases qi
      have := qa.plain (by rw [hr]; rfl) (by rw [hr]; rfl)
      rw [hr] at this
      cases this with
      | tup hp t =>
        unfold atI at hs
        obtain ⟨j, h1, h2⟩ := Option.bind_eq_some_iff.mp hs
        obtain ⟨w, h3, h4⟩ := t.get h2
        refine .inl (.inr ⟨_, _, i, w, rfl, rfl, .inl (.inl (e.g.sub _ _ hp)), by unfold atI; rw [t.length, h1]; exact h3, gv w ?_⟩)
        cases hb : ra.1 with
        | false => exact .inl ⟨rfl, by rw [h4.fz]; exact h4⟩
        | true => exact .inr ⟨rfl, [], .st h4, fun _ z => by simp at z⟩
    · rename_i o T ks vs hr
      by_cases hk : isKey T rb.2.fz = true
      · rw [if_pos hk] at hs
        obtain ⟨a, w, rfl, gg, q⟩ := qa.dget e.g hr qi np_sub hk hs
        exact .inr ⟨a, w, rfl, gg, gv w q⟩
      · rw [if_neg hk] at hs
        cases hs
    · cases hs
/-- a part of a slice -/
def PostO (W : Wd) (E : XK) (F H : Hp) (Q : Option Int → Hp → Prop) : Out (Option Int) → Prop
  | .ok o => ∀ (F' H' : Hp), Ext W F H F' H' → Q o H'
  | .exn c ns xs => ExP W E F H c ns xs
  | .bad => False
def tOx (W : Wd) (E : XK) (m : Loc → Tr (Option Int)) : TO := fun σ H Q => ∃ F ρ fp, Good W F H ∧ EnvR W F H σ ρ fp ∧ (m ρ).W (PostO W E F H Q)
def POX (W : Wd) (k : Nat) (N : List Str) (sc : Scope) (x : Option Expr) (m : Loc → Tr (Option Int)) : Prop := ∀ (X : Cx) (E : XK), CxOk W k N sc E X → PO X x (tOx W E m)
theorem PO.imp {X : Cx} {e : Option Expr} {t t' : TO} (h : PO X e t) (i : ∀ σ H Q, t' σ H Q → t σ H Q) : PO X e t' := ⟨fun pins s σ H Q I q => h.run pins s σ H Q I (i _ _ _ q)⟩
theorem po_noneX : POX W k N sc none (fun _ => .ok none) := fun X E c => PO.imp po_none fun σ H Q ⟨F, ρ, fp, g, env, h⟩ => h F H (Ext.refl g)
theorem po_someX {e : Expr} {m : Loc → Tr Rv} (he : PX W k N sc e m) : POX W k N sc (some e) (fun ρ => (m ρ).bind fun r => match r.2 with | .int i => .ok (some i) | _ => .bad) := fun X E c =>
  PO.imp (po_some (he X E c)) fun σ H Q ⟨F, ρ, fp, g, env, h⟩ => by
    refine (stepG (P := PostO W E F H Q) (fun _ _ _ z => z) (fun z => z) (Ext.refl g) env h).imp fun x H1 ⟨r, F2, e2, q, z⟩ => ?_
    obtain ⟨b, y⟩ := r
    cases y with
    | int i =>
      have a1 := q.plain rfl rfl
      cases a1
      exact ⟨i, rfl, z F2 H1 e2⟩
    | _ => exact (show False from z).elim
theorem Rps.cut {F : Hp} {vs : List V} {xs : List PV} (r : Rps W F vs xs) (lo hi : Option Int) : Rps W F (cutV vs lo hi) (cut xs lo hi) := by
  unfold cutV FS.cut
  rw [r.length]
  exact (r.drop _).take _
def rSli (K : PySem.W.Frag) : V → Option Int → Option Int → Hp → VK → Prop := fun x lo hi H Q => rSlL K x lo hi H Q ∨ rSlA K x lo hi H Q
theorem px_sli {a : Expr} {ma : Loc → Tr Rv} {lo hi : Option Expr} {ml mh : Loc → Tr (Option Int)} {p p2 : Pos} (ha : PX W k N sc a ma) (hl : POX W k N sc lo ml) (hh : POX W k N sc hi mh) :
    PX W k N sc (.Subscript a (.Slice lo hi none p2) p) (fun ρ => (ma ρ).bind fun ra => (ml ρ).bind fun l => (mh ρ).bind fun h => match shal ra with | some x => ofV (sliS x l h) | none => .bad) := by
  intro X E c
  refine PE.imp (pe_slice (r := rSli X.K) (sl_list.or sl_tupA) (ha X E c) (hl X E c) (hh X E c)) fun σ H Q ⟨F, ρ, fp, g, env, h⟩ => ?_
  refine (stepF (Ext.refl g) env h).imp fun x H1 ⟨r, F1, e1, q, z⟩ => ?_
  refine ⟨F1, ρ, fp, e1.g, env.ext e1, Tr.W_imp (fun o ho => ?_) (Tr.W_bind.mp z)⟩
  cases o with
  | exn cc ns xs => exact ExP.ext e1 ho
  | bad => exact ho
  | ok l =>
    intro F2 H2 e2
    refine ⟨F2, ρ, fp, e2.g, (env.ext e1).ext e2, Tr.W_imp (fun o ho => ?_) (Tr.W_bind.mp ho)⟩
    cases o with
    | exn cc ns xs => exact ExP.ext (e1.trans e2) ho
    | bad => exact ho
    | ok u =>
      intro F3 H3 e3
      have e := (e1.trans e2).trans e3
      have q3 := (q.ext e2).ext e3
      have ho : (match shal r with | some x => ofV (sliS x l u) | none => .bad : Tr Rv).W (PostE W E fp F H Q) := ho
      rw [c.K]
      cases hx : shal r with
      | none => rw [hx] at ho; exact (show False from ho).elim
      | some y =>
        rw [hx] at ho
        have s := q3.sh e.g hx
        cases y with
        | lst o xs =>
          obtain ⟨a, vs, rfl, hp, hn, t⟩ := s
          exact .inl ⟨a, vs, rfl, .inl (.inl hp), fun l hl => giveL ho e hl (t.cut _ _)⟩
        | tup xs =>
          cases s with
          | tup hp t =>
            have ho : (vB (.tup (FS.cut xs l u))).W (PostE W E fp F H Q) := ho
            refine .inr ⟨_, _, rfl, .inl (.inl (e.g.sub _ _ hp)), fun hz => ?_, fun _ l hl => giveT ho e hl (t.cut _ _)⟩
            have : FS.cut xs l u = xs := by
              rw [t.length] at hz
              unfold FS.cut
              rw [hz.1, hz.2]
              simp
            rw [this] at ho
            exact giveS ho e (.tup hp t)
        | _ => exact (show False from ho).elim
theorem px_tup {es : List Expr} {me : Loc → Tr (List Rv)} {j : Nat} {p : Pos} (ha : PAX W k N sc es me) :
    PX W k N sc (.Tuple es j p) (fun ρ => (me ρ).bind fun rs => match takes rs with | some xs => if xs.length ≤ 100000 then vB (.tup xs) else .bad | none => .bad) := by
  intro X E c
  refine PE.imp (pe_tup (ha X E c)) fun σ H Q h => ?_
  refine (stepAF h).imp fun vs H1 ⟨fe, F0, H0, F1, rs, e, q, z⟩ => ?_
  cases ht : takes rs with
  | none => rw [ht] at z; exact (show False from z).elim
  | some xs =>
    rw [ht] at z
    dsimp only at z
    by_cases hl : xs.length ≤ 100000
    · rw [if_pos hl] at z
      have t := takes_ok q ht
      exact ⟨by rw [t.length]; exact Nat.le_trans hl (by decide), fun l hl => giveT z e hl t⟩
    · rw [if_neg hl] at z
      exact (show False from z).elim
theorem px_lst {es : List Expr} {me : Loc → Tr (List Rv)} {p : Pos} (ha : PAX W k N sc es me) :
    PX W k N sc (.List es p) (fun ρ => (me ρ).bind fun rs => match movs rs with | some xs => if xs.length ≤ 100000 then vB (.lst true xs) else .bad | none => .bad) := by
  intro X E c
  refine PE.imp (pe_lst (ha X E c)) fun σ H Q h => ?_
  refine (stepA h).imp fun vs H1 ⟨fe, F0, H0, F1, rs, g, fo, e, q, z⟩ => ?_
  cases ht : movs rs with
  | none => rw [ht] at z; exact (show False from z).elim
  | some xs =>
    rw [ht] at z
    dsimp only at z
    by_cases hl : xs.length ≤ 100000
    · rw [if_pos hl] at z
      have t := movs_ok q ht
      refine ⟨by rw [t.length]; exact Nat.le_trans hl (by decide), fun l hl => ?_⟩
      have e2 := e.g.laid (o := .lst vs) hl
      have ng : l ∉ g := fun hm => by
        obtain ⟨_, _, _, o, ho⟩ := q.fresh l hm
        rw [ho] at hl
        cases hl
      refine give z (e.trans e2) (.lst upd_same (e.g.fn hl) (ne_pen e.g hl) (t.ext e2) ng) fun a ha => ?_
      rcases List.mem_cons.mp ha with rfl | ha
      · exact e.free hl
      · exact (q.fresh a ha).1
    · rw [if_neg hl] at z
      exact (show False from z).elim
theorem px_dnew {T : Bool} {p : Pos} : PX W k N sc (.Dict [] [] p) (fun _ => vB (.dct true T [] [])) := by
  intro X E c
  cases T with
  | false =>
    refine PE.imp pe_dnewK fun σ H Q ⟨F, ρ, fp, g, env, h⟩ => fun d hd => ?_
    have e := g.laid (o := .dK []) hd
    exact give h e (fp := [d]) (.dK (kvs := []) upd_same (g.fn hd) (ne_pen g hd) .nil (by simp)) fun a ha => by
      have : a = d := by simpa using ha
      rw [this]; exact hd
  | true =>
    refine PE.imp pe_dnewT fun σ H Q ⟨F, ρ, fp, g, env, h⟩ => fun d hd => ?_
    have e := g.laid (o := .dT []) hd
    exact give h e (fp := [d]) (.dT (kvs := []) upd_same (g.fn hd) (ne_pen g hd) .nil (by simp)) fun a ha => by
      have : a = d := by simpa using ha
      rw [this]; exact hd
end
end FS

set_option Elab.async false
set_option linter.all false
set_option maxRecDepth 100000
set_option maxHeartbeats 8000000
namespace FS
open PySem PySem.Spec PyProof.Rows L2

section
variable {W : Wd} {k : Nat} {N : List Str} {sc : Scope} {tg : Expr}
def iSeqA (K : PySem.W.Frag) (tl : TE) : TI := fun σ H R => tl σ H fun x H1 => ∃ a, x = .ref a ∧ (((∃ xs, SqL K H1 a xs) ∧ R (Itl K a) H1) ∨ ((∃ xs, SqT K H1 a xs) ∧ R (Itt K a) H1))
theorem pi_seqA {X : Cx} {l : Expr} {tl : TE} (hl : PE X l tl) : PI X tg l (iSeqA X.K tl) := by
  refine ⟨fun pins s σ H R I h => ?_⟩
  refine thn (hl.run pins s σ H _ I h) fun v s1 ⟨x, H1, I1, r1, a, e, q1⟩ => ?_
  subst e
  cases r1
  have fr : ∀ b ∈ [s1.heap.objs.size], FpOk X pins H1 b := fun b hb => by
    have e : b = s1.heap.objs.size := by simpa using hb
    rw [e]
    exact I1.fpOk (Nat.le_refl _) (I1.hok.fresh (Nat.le_refl _))
  rcases q1 with ⟨⟨xs, hq⟩, q⟩ | ⟨⟨xs, hq⟩, q⟩
  · obtain ⟨its, rv, p, hz⟩ := I1.list hq
    exact wpAny_pyIter_list p.isList ⟨s1.heap.objs.size, [s1.heap.objs.size], _, _, H1, rfl, I1.kept (t' := s1.toks) fun b o e => Heap.get?_push_of_some _ e, turn_list a _, ⟨_, Heap.get?_push_size _ rfl, rfl, rfl⟩, fr, q⟩
  · obtain ⟨its, rv, p, hz⟩ := I1.tuple hq
    exact wpAny_pyIter_tuple (show s1.heap.IsTuple a its.toArray from p) ⟨s1.heap.objs.size, [s1.heap.objs.size], _, _, H1, rfl, I1.kept (t' := s1.toks) fun b o e => Heap.get?_push_of_some _ e, turn_tuple a _, ⟨_, Heap.get?_push_size _ rfl, rfl, rfl⟩, fr, q⟩
/-- what a sequence stands on -/
theorem seq_sup {fe : List Addr} {F H : Hp} {r : Rv} {v : V} {b : Bool} {xs : List PV} (g : Good W F H) (q : RF W fe F H r v) (h : seqS r = some (b, xs)) :
    ∃ a vs, v = .ref a ∧ Rps W F vs xs ∧ ((H a = some (.lst vs) ∧ sup W b F H a = some (.lst vs)) ∨ (H a = some (.tup vs) ∧ sup W b F H a = some (.tup vs))) := by
  unfold seqS at h
  cases hs : shal r with
  | none => rw [hs] at h; simp at h
  | some y =>
    have s := q.sh g hs
    rw [hs] at h
    cases y with
    | lst o ys =>
      obtain ⟨a, vs, rfl, ha, na, t⟩ := s
      simp only [Option.some.injEq, Prod.mk.injEq] at h
      obtain ⟨h1, rfl⟩ := h
      refine ⟨a, vs, rfl, t, .inl ⟨ha, ?_⟩⟩
      cases b with
      | false => show np W H a = _; rw [np_ne na]; exact ha
      | true =>
        show F a = _
        obtain ⟨bb, x⟩ := r
        rcases q with ⟨hb, q⟩ | ⟨hb, fp, q, m⟩
        · cases hb
          have e : x.fz = .lst o ys := by simpa [shal] using hs
          rw [e] at q
          cases q with
          | lst hf t2 =>
            rw [g.sub _ _ hf] at ha
            cases ha
            exact hf
        · cases hb
          have st : x.st = true := by simpa using h1
          have p := q.stable st
          have e : x = .lst o ys := by
            cases x with
            | lst o2 zs => cases p; simpa [shal] using hs
            | dct o2 T ks vs => cases p <;> simp [shal] at hs
            | _ => simpa [shal] using hs
          rw [e] at p
          cases p with
          | lst hf t2 =>
            rw [g.sub _ _ hf] at ha
            cases ha
            exact hf
    | tup ys =>
      simp only [Option.some.injEq, Prod.mk.injEq] at h
      obtain ⟨rfl, rfl⟩ := h
      cases s with
      | tup hf t => exact ⟨_, _, rfl, t, .inr ⟨g.sub _ _ hf, hf⟩⟩
    | _ => simp at h
theorem pix_seq {e : Expr} {m : Loc → Tr Rv} (he : PX W k N sc e m) : PIX W k N sc tg e (fun ρ => (m ρ).bind fun r => Tr.ofO (seqS r)) := by
  intro X E c
  refine PI.imp (pi_seqA (he X E c)) fun σ H R h => ?_
  refine (itr1 h).imp fun x H1 ⟨fe, F0, H0, F', r, e, q, z⟩ => ?_
  cases hs : seqS r with
  | none => rw [hs] at z; exact (show False from z).elim
  | some p =>
    obtain ⟨b, xs⟩ := p
    rw [hs] at z
    obtain ⟨a, vs, rfl, t, ⟨h1, h2⟩ | ⟨h1, h2⟩⟩ := seq_sup e.g q hs
    · refine ⟨a, rfl, .inl ⟨⟨vs, .inl (.inl h1)⟩, ?_⟩⟩
      rw [c.K]
      exact z F' H1 _ e (src_list h2 t)
    · refine ⟨a, rfl, .inr ⟨⟨vs, .inl (.inl h1)⟩, ?_⟩⟩
      rw [c.K]
      exact z F' H1 _ e (src_tup h2 t)
theorem rng_ok {a b : Int} (h : rngOk a b = true) : -(2 ^ 62) ≤ a ∧ a < 2 ^ 62 ∧ -(2 ^ 62) ≤ b ∧ b < 2 ^ 62 := by
  unfold rngOk at h
  simp only [Bool.and_eq_true, decide_eq_true_eq] at h
  exact ⟨h.1.1, h.1.2, h.2.1, h.2.2⟩
theorem pix_rng {e : Expr} {m : Loc → Tr Rv} {p p2 : Pos} (g1 : glB sc "range" = true) (m1 : W.mg "range" = none) (pl : plainB e = true) (he : PX W k N sc e m) :
    PIX W k N sc tg (.Call (.Name "range" p) [e] [] p2) (fun ρ => (m ρ).bind fun r => match r.2 with | .int j => if rngOk 0 j then .ok (true, rangeL 0 j) else .bad | _ => .bad) := by
  intro X E c
  refine PI.imp (pi_range1 (c.gl g1) (c.fr m1) (pa_cons (he X E c) pa_nil (star_cons pl)) (star_cons pl)) fun σ H R h => ?_
  refine (itr1 h).imp fun x H1 ⟨fe, F0, H0, F', r, e, q, z⟩ => ?_
  obtain ⟨bb, y⟩ := r
  cases y with
  | int j =>
    have a1 := q.plain rfl rfl
    cases a1
    dsimp only at z
    by_cases hr : rngOk 0 j = true
    · rw [if_pos hr] at z
      obtain ⟨_, _, h3, h4⟩ := rng_ok hr
      refine ⟨j, rfl, h3, h4, ?_⟩
      have s := src_range (W := W) (S := sup W true F' H1) (F := F') 0 j
      rw [Int.sub_zero] at s
      exact z F' H1 _ e s
    · rw [if_neg hr] at z
      exact (show False from z).elim
  | _ => exact (show False from z).elim
theorem pix_rng2 {a b : Expr} {ma mb : Loc → Tr Rv} {p p2 : Pos} (g1 : glB sc "range" = true) (m1 : W.mg "range" = none) (pl : plainB a = true) (pl2 : plainB b = true) (ha : PX W k N sc a ma) (hb : PX W k N sc b mb) :
    PIX W k N sc tg (.Call (.Name "range" p) [a, b] [] p2) (fun ρ => (ma ρ).bind fun r => (mb ρ).bind fun q => match r.2, q.2 with | .int i, .int j => if rngOk i j then .ok (true, rangeL i j) else .bad | _, _ => .bad) := by
  intro X E c
  refine PI.imp (pi_range2 (c.gl g1) (c.fr m1) (pa2 (ha X E c) (hb X E c) pl pl2) (by rw [star_cons pl, star_cons pl2]; rfl) (star_cons pl2)) fun σ H R h => ?_
  refine (itr2 h).imp fun x H1 h => h.imp fun y H2 ⟨fe, F0, H0, F', r, r2, e, q, q2, z⟩ => ?_
  obtain ⟨b1, y1⟩ := r
  obtain ⟨b2, y2⟩ := r2
  cases y1 <;> first | exact (show False from z).elim | skip
  cases y2 <;> first | exact (show False from z).elim | skip
  rename_i i j
  have a1 := q.plain rfl rfl
  have a2 := q2.plain rfl rfl
  cases a1; cases a2
  dsimp only at z
  by_cases hr : rngOk i j = true
  · rw [if_pos hr] at z
    exact ⟨i, j, rfl, rng_ok hr, z F' H2 _ e (src_range i j)⟩
  · rw [if_neg hr] at z
    exact (show False from z).elim
theorem pix_enum {l : Expr} {ml : Loc → Tr Rv} {p p2 : Pos} (g1 : glB sc "enumerate" = true) (m1 : W.mg "enumerate" = none) (pl : plainB l = true) (ht : isTupE tg = true) (hl : PX W k N sc l ml) :
    PIX W k N sc tg (.Call (.Name "enumerate" p) [l] [] p2) (fun ρ => (ml ρ).bind fun r => match seqS r with | some (b, xs) => .ok (b, enumP 0 xs) | none => .bad) := by
  intro X E c
  cases tg with
  | Tuple es j q =>
    refine PI.imp (pi_enumA (c.gl g1) (c.fr m1) (pa_cons (hl X E c) pa_nil (star_cons pl)) (star_cons pl)) fun σ H R h => ?_
    refine (itr1 h).imp fun x H1 ⟨fe, F0, H0, F', r, e, q, z⟩ => ?_
    cases hs : seqS r with
    | none => rw [hs] at z; exact (show False from z).elim
    | some p =>
      obtain ⟨b, xs⟩ := p
      rw [hs] at z
      obtain ⟨a, vs, rfl, t, ⟨h1, h2⟩ | ⟨h1, h2⟩⟩ := seq_sup e.g q hs
      · refine ⟨a, vs, rfl, .inl ⟨.inl (.inl h1), ?_⟩⟩
        rw [c.K]
        exact z F' H1 _ e (src_enumL h2 t)
      · refine ⟨a, vs, rfl, .inr ⟨.inl (.inl h1), ?_⟩⟩
        rw [c.K]
        exact z F' H1 _ e (src_enumT h2 t)
  | _ => cases ht
theorem zip_sup {fe : List Addr} {F H : Hp} {r q : Rv} {v w : V} {f : List PV → List PV → List PV} {b : Bool} {zs : List PV} (g : Good W F H) (qr : RF W fe F H r v) (qq : RF W fe F H q w) (h : zipS r q f = some (b, zs)) :
    ∃ a a' vs ws xs ys, v = .ref a ∧ w = .ref a' ∧ Rps W F vs xs ∧ Rps W F ws ys ∧ zs = f xs ys ∧ ((H a = some (.lst vs) ∧ sup W b F H a = some (.lst vs) ∧ H a' = some (.lst ws) ∧ sup W b F H a' = some (.lst ws)) ∨
      (H a = some (.tup vs) ∧ sup W b F H a = some (.tup vs) ∧ H a' = some (.tup ws) ∧ sup W b F H a' = some (.tup ws))) := by
  have up : ∀ {b1 b2 : Bool} {a : Addr} {o : HO}, sup W b1 F H a = some o → sup W (b1 && b2) F H a = some o := by
    intro b1 b2 a o h
    cases b1 with
    | false => exact h
    | true =>
      cases b2 with
      | true => exact h
      | false => exact g.np a o h
  unfold zipS at h
  cases hs : shal r with
  | none => rw [hs] at h; simp at h
  | some y =>
    cases hs2 : shal q with
    | none => rw [hs, hs2] at h; cases y <;> simp at h
    | some y2 =>
      rw [hs, hs2] at h
      cases y with
      | lst o xs =>
        cases y2 with
        | lst o2 ys =>
          simp only [Option.some.injEq, Prod.mk.injEq] at h
          obtain ⟨rfl, rfl⟩ := h
          obtain ⟨a, vs, rfl, t, k1⟩ := seq_sup g qr (show seqS r = some (!r.1 || r.2.st, xs) by unfold seqS; rw [hs])
          obtain ⟨a', ws, rfl, t', k2⟩ := seq_sup g qq (show seqS q = some (!q.1 || q.2.st, ys) by unfold seqS; rw [hs2])
          obtain ⟨aa, vv, ee, hh, _⟩ := qr.sh g hs
          obtain ⟨aa', vv', ee', hh', _⟩ := qq.sh g hs2
          cases ee; cases ee'
          rcases k1 with ⟨k1, k1'⟩ | ⟨k1, k1'⟩
          · rcases k2 with ⟨k2, k2'⟩ | ⟨k2, k2'⟩
            · exact ⟨a, a', vs, ws, xs, ys, rfl, rfl, t, t', rfl, .inl ⟨k1, up k1', k2, by rw [Bool.and_comm]; exact up k2'⟩⟩
            · rw [k2] at hh'; cases hh'
          · rw [k1] at hh; cases hh
        | _ => simp at h
      | tup xs =>
        cases y2 with
        | tup ys =>
          simp only [Option.some.injEq, Prod.mk.injEq] at h
          obtain ⟨rfl, rfl⟩ := h
          have s1 := qr.sh g hs
          have s2 := qq.sh g hs2
          cases s1 with
          | tup h1 t1 =>
            cases s2 with
            | tup h2 t2 => exact ⟨_, _, _, _, xs, ys, rfl, rfl, t1, t2, rfl, .inr ⟨g.sub _ _ h1, h1, g.sub _ _ h2, h2⟩⟩
        | _ => simp at h
      | _ => simp at h
theorem pix_zip {a b : Expr} {ma mb : Loc → Tr Rv} {p p2 : Pos} (g1 : glB sc "zip" = true) (m1 : W.mg "zip" = none) (pl : plainB a = true) (pl2 : plainB b = true) (ht : isTupE tg = true) (ha : PX W k N sc a ma) (hb : PX W k N sc b mb) :
    PIX W k N sc tg (.Call (.Name "zip" p) [a, b] [] p2) (fun ρ => (ma ρ).bind fun r => (mb ρ).bind fun q => Tr.ofO (zipS r q zipP)) := by
  intro X E c
  cases tg with
  | Tuple es j q =>
    refine PI.imp (RZ.pi_zipA (c.gl g1) (c.fr m1) (pa2 (ha X E c) (hb X E c) pl pl2) (star_cons pl) (star_all (by simp [pl2]))) fun σ H R h => ?_
    refine (itr2 h).imp fun x H1 h => h.imp fun y H2 ⟨fe, F0, H0, F', r, r2, e, q, q2, z⟩ => ?_
    cases hs : zipS r r2 zipP with
    | none => rw [hs] at z; exact (show False from z).elim
    | some p =>
      obtain ⟨b, zs⟩ := p
      rw [hs] at z
      obtain ⟨a, a', vs, ws, xs, ys, rfl, rfl, t, t', rfl, ⟨h1, h2, h3, h4⟩ | ⟨h1, h2, h3, h4⟩⟩ := zip_sup e.g q q2 hs
      · refine ⟨a, a', vs, ws, rfl, .inl ⟨.inl (.inl h1), .inl (.inl h3), ?_⟩⟩
        rw [c.K]
        exact z F' H2 _ e (src_zipL h2 h4 t t')
      · refine ⟨a, a', vs, ws, rfl, .inr ⟨.inl (.inl h1), .inl (.inl h3), ?_⟩⟩
        rw [c.K]
        exact z F' H2 _ e (src_zipT h2 h4 t t')
  | _ => cases ht
theorem pax_nil : PAX W k N sc [] (fun _ => .ok []) := fun X E c => PA.imp pa_nil fun σ H Q ⟨F, ρ, fp, g, env, h⟩ => h F H [] [] (Ext.refl g) .nil
theorem pax_cons {e : Expr} {es : List Expr} {m : Loc → Tr Rv} {ms : Loc → Tr (List Rv)} (pl : plainB e = true) (he : PX W k N sc e m) (hs : PAX W k N sc es ms) : PAX W k N sc (e :: es) (fun ρ => (m ρ).bind fun r => (ms ρ).bind fun rs => .ok (r :: rs)) := by
  intro X E c
  refine PA.imp (pa_cons (he X E c) (hs X E c) (star_cons pl)) fun σ H Q ⟨F, ρ, fp, g, env, h⟩ => ?_
  refine ⟨F, ρ, fp, g, env, Tr.W_imp (fun o ho => ?_) (Tr.W_bind.mp h)⟩
  cases o with
  | exn cc ns xs => exact ho
  | bad => exact ho
  | ok r =>
    intro F1 H1 v e1 q1
    refine ⟨F1, ρ, fp, e1.g, env.ext e1, Tr.W_imp (fun o2 ho2 => ?_) (Tr.W_bind.mp ho)⟩
    cases o2 with
    | exn cc ns xs => exact ExP.ext e1 ho2
    | bad => exact ho2
    | ok rs =>
      intro F2 H2 vs gg e2 q2
      obtain ⟨f, rf, nf, mf⟩ := q1
      obtain ⟨b, x⟩ := r
      cases b with
      | true => exact ho2 F2 H2 _ _ (e1.trans e2) (.old (rf.ext e2) (mf rfl) (q2.back e1))
      | false => exact ho2 F2 H2 _ _ (e1.trans e2) (.new (rf.ext e2) (nf rfl) (q2.back e1) fun a ha hb => by
          obtain ⟨⟨o, ho⟩, _⟩ := rf.own a ha
          rw [(q2.fresh a hb).1] at ho
          cases ho)
end
end FS

set_option Elab.async false
set_option linter.all false
set_option maxRecDepth 100000
set_option maxHeartbeats 8000000
namespace FS
open PySem PySem.Spec PyProof.Rows L2

section
variable {W : Wd} {k : Nat} {N : List Str} {sc : Scope}
theorem px_gl {x : Str} {p : Pos} (h : ∃ a, W.mg x = some (.ref a)) (g : glB sc x = true) (n : nmB x = true) : PX W k N sc (.Name x p) (fun _ => vB (.gl x)) := by
  intro X E c
  obtain ⟨a, h⟩ := h
  exact const_ok (pe_glob (v := .ref a) (c.gl g) (by rw [c.mg]; exact h) rfl (nm1 n)) fun F => .gl h
theorem px_gi {x : Str} {i : Int} {p : Pos} (h : ∃ t, W.mg x = some (.int i t)) (g : glB sc x = true) (n : nmB x = true) : PX W k N sc (.Name x p) (fun _ => vB (.int i)) := by
  intro X E c
  obtain ⟨t, h⟩ := h
  exact const_ok (pe_glob (v := .int i) (c.gl g) (by rw [c.mg]; exact h) ⟨t, rfl⟩ (nm1 n)) fun F => .int
theorem px_ty {n : String} {x : Str} {p : Pos} (ht : tyN n = some x) (h : W.mg x = none) (g : glB sc x = true) (nn : nmB x = true) : PX W k N sc (.Name x p) (fun _ => vB (.ty n)) := by
  intro X E c
  exact const_ok (pe_bltn (v := .ty n) (c.gl g) (c.fr h) (boot_ty ht) rfl (nmB_ok nn).2.2 (nm1 nn)) fun F => .ty
theorem px_non {j} {p : Pos} : PX W k N sc (.Constant .none j p) (fun _ => vB .non) := fun X E c => const_ok pe_non fun F => .non
theorem px_bl {b j} {p : Pos} : PX W k N sc (.Constant (.bool b) j p) (fun _ => vB (.bl b)) := fun X E c => const_ok pe_bl fun F => .bl
theorem px_int {i j} {p : Pos} : PX W k N sc (.Constant (.int i) j p) (fun _ => vB (.int i)) := fun X E c => const_ok pe_int fun F => .int
theorem px_str {s j} {p : Pos} : PX W k N sc (.Constant (.str s) j p) (fun _ => vB (.str s)) := fun X E c => const_ok pe_str fun F => .str
theorem px_one {a : Expr} {op : BoolOp} {m : Loc → Tr Rv} {p : Pos} (ha : PX W k N sc a m) : PX W k N sc (.BoolOp op [a] p) m := fun X E c => pe_one (ha X E c)
theorem pt_tru {a : Expr} {m : Loc → Tr Rv} (h : truB a = true) (ha : PX W k N sc a m) : PTX W k N sc a (fun ρ => (m ρ).bind fun r => Tr.ofO (truS r.2)) := by
  intro X E c
  refine PT.imp (pt_truth (ha X E c) (tru_plain h)) fun σ H Q hh => ?_
  refine (tst1 hh).imp fun x H1 ⟨fe, F0, H0, F', r, e, q, z⟩ => ?_
  cases ht : truS r.2 with
  | none => rw [ht] at z; exact (show False from z).elim
  | some b =>
    rw [ht] at z
    refine ⟨b, ?_, z F' H1 e⟩
    rw [c.K]
    exact tru_of e.g q ht
theorem tT.imp {E : XK} {m : Loc → Tr Bool} {σ : L2.St} {H : Hp} {Q Q' : Bool → Hp → Prop} (h : tT W E m σ H Q) (i : ∀ b H', Q b H' → Q' b H') : tT W E m σ H Q' := by
  obtain ⟨F, ρ, fp, g, env, h⟩ := h
  refine ⟨F, ρ, fp, g, env, Tr.W_imp (fun o ho => ?_) h⟩
  cases o with
  | ok r => exact fun F' H' e' => i _ _ (ho F' H' e')
  | exn c ns xs => exact ho
  | bad => exact ho
theorem tstT {E : XK} {m : Loc → Tr Bool} {K : Loc → Bool → Tr Bool} {σ : L2.St} {H : Hp} {Q : Bool → Hp → Prop} (h : tT W E (fun ρ => (m ρ).bind (K ρ)) σ H Q) :
    tT W E m σ H fun b H1 => tT W E (fun ρ => K ρ b) σ H1 Q := by
  obtain ⟨F, ρ, fp, g, env, h⟩ := h
  refine stepT (P := fun F0 H0 => PostT W E F0 H0 Q) (Ext.refl g) env (fun _ _ _ z => z) (fun z => z) h fun b F2 H2 e2 z => ?_
  refine ⟨F2, ρ, fp, e2.g, env.ext e2, Tr.W_imp (fun o ho => ?_) z⟩
  cases o with
  | ok r => exact fun F' H' e' => ho F' H' (e2.trans e')
  | exn c ns xs => exact ExP.ext e2 ho
  | bad => exact ho
theorem tT.ok {E : XK} {b : Bool} {σ : L2.St} {H : Hp} {Q : Bool → Hp → Prop} (h : tT W E (fun _ => Tr.ok b) σ H Q) : Q b H :=
  let ⟨F, ρ, fp, g, env, h⟩ := h; h F H (Ext.refl g)
theorem pt_ntX {a : Expr} {m : Loc → Tr Bool} {p : Pos} (ha : PTX W k N sc a m) : PTX W k N sc (.UnaryOp .Not a p) (fun ρ => (m ρ).bind fun k => .ok (!k)) := fun X E c =>
  PT.imp (pt_not (ha X E c)) fun σ H Q h => (tstT h).imp fun b H1 h1 => h1.ok
theorem pw_imp {X : Cx} {e : Expr} {t t' : TT} (h : PW X e t) (i : ∀ σ H Q, t' σ H Q → t σ H Q) : PW X e t' := ⟨fun wh pins s σ H Q I q => h.run wh pins s σ H Q I (i _ _ _ q)⟩
theorem pw_anX {a b : Expr} {rest : List Expr} {ma mb : Loc → Tr Bool} {p : Pos} (ha : PTX W k N sc a ma) (hb : PWX W k N sc (.BoolOp .And (b :: rest) p) mb) :
    PWX W k N sc (.BoolOp .And (a :: b :: rest) p) (fun ρ => (ma ρ).bind fun k => if k then mb ρ else .ok false) := fun X E c =>
  pw_imp (pw_and (ha X E c) (hb X E c)) fun σ H Q h => (tstT h).imp fun b H1 h1 => by
    cases b with
    | true => exact h1
    | false => exact h1.ok
theorem pw_orX {a b : Expr} {rest : List Expr} {ma mb : Loc → Tr Bool} {p : Pos} (ha : PTX W k N sc a ma) (hb : PWX W k N sc (.BoolOp .Or (b :: rest) p) mb) :
    PWX W k N sc (.BoolOp .Or (a :: b :: rest) p) (fun ρ => (ma ρ).bind fun k => if k then .ok true else mb ρ) := fun X E c =>
  pw_imp (pw_or (ha X E c) (hb X E c)) fun σ H Q h => (tstT h).imp fun b H1 h1 => by
    cases b with
    | true => exact h1.ok
    | false => exact h1
theorem pw_oneX {a : Expr} {op : BoolOp} {m : Loc → Tr Bool} {p : Pos} (ha : PTX W k N sc a m) : PWX W k N sc (.BoolOp op [a] p) m := fun X E c => by
  cases op with
  | And => exact pw_and1 (ha X E c)
  | Or => exact pw_or1 (ha X E c)
theorem pt_pw {x : Expr} {m : Loc → Tr Bool} (h : PWX W k N sc x m) : PTX W k N sc x m := fun X E c => (h X E c).pt
theorem pc_yes : PCX W k N sc [] (fun _ => .ok true) := fun X E c => ⟨fun pins s σ H Q I h => pts_nil.run pins s σ H Q I h.ok⟩
theorem pc_one {x : Expr} {m : Loc → Tr Bool} (h : PTX W k N sc x m) : PCX W k N sc [x] m := fun X E c => pts_one (h X E c)
def isBoolOp : Expr → Bool
  | .BoolOp _ _ _ => true
  | _ => false
end

theorem PX.cast {W : Wd} {k : Nat} {N : List Str} {sc : Scope} {x : Expr} {m m' : Loc → Tr Rv} (h : PX W k N sc x m) (e : ∀ ρ, m' ρ = m ρ) : PX W k N sc x m' := by
  have : m' = m := funext e
  rw [this]; exact h
theorem PTX.cast {W : Wd} {k : Nat} {N : List Str} {sc : Scope} {x : Expr} {m m' : Loc → Tr Bool} (h : PTX W k N sc x m) (e : ∀ ρ, m' ρ = m ρ) : PTX W k N sc x m' := by
  have : m' = m := funext e
  rw [this]; exact h
theorem PWX.cast {W : Wd} {k : Nat} {N : List Str} {sc : Scope} {x : Expr} {m m' : Loc → Tr Bool} (h : PWX W k N sc x m) (e : ∀ ρ, m' ρ = m ρ) : PWX W k N sc x m' := by
  have : m' = m := funext e
  rw [this]; exact h
theorem PAX.cast {W : Wd} {k : Nat} {N : List Str} {sc : Scope} {x : List Expr} {m m' : Loc → Tr (List Rv)} (h : PAX W k N sc x m) (e : ∀ ρ, m' ρ = m ρ) : PAX W k N sc x m' := by
  have : m' = m := funext e
  rw [this]; exact h
theorem PIX.cast {W : Wd} {k : Nat} {N : List Str} {sc : Scope} {t x : Expr} {m m' : Loc → Tr (Bool × List PV)} (h : PIX W k N sc t x m) (e : ∀ ρ, m' ρ = m ρ) : PIX W k N sc t x m' := by
  have : m' = m := funext e
  rw [this]; exact h
theorem POX.cast {W : Wd} {k : Nat} {N : List Str} {sc : Scope} {x : Option Expr} {m m' : Loc → Tr (Option Int)} (h : POX W k N sc x m) (e : ∀ ρ, m' ρ = m ρ) : POX W k N sc x m' := by
  have : m' = m := funext e
  rw [this]; exact h
theorem bt {a b : Bool} (h : (a && b) = true) : a = true ∧ b = true := by simpa using h
theorem dt {p : Prop} [Decidable p] (h : decide p = true) : p := by simpa using h
theorem chk_bool {N : List Str} {sc : Scope} {t : Te} {op : BoolOp} {l : List Expr} {p : Pos} (h : chkT N sc t (.BoolOp op l p) = true) : (∃ a r, t = .an a r) ∨ (∃ a r, t = .orr a r) ∨ (∃ a, t = .one a) := by
  cases t <;> simp [chkT, truB] at h <;> simp
mutual
theorem soE {W : Wd} {k : Nat} : ∀ (e : Ex) {N : List Str} {sc : Scope} {x : Expr}, chkE N sc e x = true → AllN W k (ndE e) → PX W k N sc x (evE e)
  | .var i, N, sc, x, h, nd => by
    unfold chkE at h
    split at h
    · have h := bt h; exact px_var (dt h.1) (bt h.2).1 (bt h.2).2
    · cases h
  | .gl y, N, sc, x, h, nd => by
    unfold chkE at h
    split at h
    · have h := bt h
      have e := dt h.1; subst e
      exact (px_gl nd.1 (bt h.2).1 (bt h.2).2).cast fun ρ => by simp only [evE]
    · cases h
  | .gi y i, N, sc, x, h, nd => by
    unfold chkE at h
    split at h
    · have h := bt h
      have e := dt h.1; subst e
      exact (px_gi nd.1 (bt h.2).1 (bt h.2).2).cast fun ρ => by simp only [evE]
    · cases h
  | .ty n, N, sc, x, h, nd => by
    unfold chkE at h
    split at h
    · have h := bt h
      have e := dt h.1
      simp only [ndE, e] at nd
      exact (px_ty e nd.1 (bt h.2).1 (bt h.2).2).cast fun ρ => by simp only [evE]
    · cases h
  | .non, N, sc, x, h, nd => by
    unfold chkE at h
    split at h
    · exact px_non.cast fun ρ => by simp only [evE]
    · cases h
  | .bl b, N, sc, x, h, nd => by
    unfold chkE at h
    split at h
    · have e := dt h; subst e; exact px_bl.cast fun ρ => by simp only [evE]
    · cases h
  | .int b, N, sc, x, h, nd => by
    unfold chkE at h
    split at h
    · have e := dt h; subst e; exact px_int.cast fun ρ => by simp only [evE]
    · cases h
  | .str b, N, sc, x, h, nd => by
    unfold chkE at h
    split at h
    · have e := dt h; subst e; exact px_str.cast fun ρ => by simp only [evE]
    · cases h
  | .bin op a b, N, sc, x, h, nd => by
    unfold chkE at h
    split at h
    · have h := bt h
      have e := opB_ok h.1; subst e
      have nd := AllN.app nd
      exact (px_bin (soE a (bt h.2).1 nd.1) (soE b (bt h.2).2 nd.2)).cast fun ρ => by simp only [evE] <;> rfl
    · cases h
  | .neg a, N, sc, x, h, nd => by
    unfold chkE at h
    split at h
    · exact (px_neg (soE a h nd)).cast fun ρ => by simp only [evE] <;> rfl
    · cases h
  | .cmp op a b, N, sc, x, h, nd => by
    unfold chkE at h
    split at h
    · have h := bt h
      have e := coB_ok h.1; subst e
      have h := bt h.2
      have nd := AllN.app nd
      exact (px_cmp h.1 (soE a (bt h.2).1 nd.1) (soE b (bt h.2).2 nd.2)).cast fun ρ => by simp only [evE] <;> rfl
    · cases h
  | .chn o o' a b c, N, sc, x, h, nd => by
    unfold chkE at h
    split at h
    · have h := bt h
      have e := coB_ok h.1; subst e
      have h := bt h.2
      have e := coB_ok h.1; subst e
      have h := bt h.2
      have h2 := bt h.2
      have h3 := bt h2.2
      have nd := AllN.app nd
      have nd2 := AllN.app nd.2
      exact (px_chn h.1 (soE a h2.1 nd.1) (soE b h3.1 nd2.1) (soE c h3.2 nd2.2)).cast fun ρ => by simp only [evE] <;> rfl
    · cases h
  | .isN ng a, N, sc, x, h, nd => by
    unfold chkE at h
    split at h
    · have h := bt h
      exact (px_isN h.1 (soE a h.2 nd)).cast fun ρ => by simp only [evE] <;> rfl
    · cases h
  | .isB ng a b, N, sc, x, h, nd => by
    unfold chkE at h
    split at h
    · have h := bt h
      have nd := AllN.app nd
      exact (px_isB h.1 (soE a (bt h.2).1 nd.1) (soE b (bt h.2).2 nd.2)).cast fun ρ => by simp only [evE] <;> rfl
    · cases h
  | .nt a, N, sc, x, h, nd => by
    unfold chkE at h
    split at h
    · exact (px_nt (soE a h nd)).cast fun ρ => by simp only [evE] <;> rfl
    · cases h
  | .an a r, N, sc, x, h, nd => by
    unfold chkE at h
    split at h
    · have h := bt h
      have nd := AllN.app nd
      exact (px_an (soE a h.1 nd.1) (soE r h.2 nd.2)).cast fun ρ => by simp only [evE] <;> rfl
    · cases h
  | .orr a r, N, sc, x, h, nd => by
    unfold chkE at h
    split at h
    · have h := bt h
      have nd := AllN.app nd
      exact (px_or (soE a h.1 nd.1) (soE r h.2 nd.2)).cast fun ρ => by simp only [evE] <;> rfl
    · cases h
  | .one a, N, sc, x, h, nd => by
    unfold chkE at h
    split at h
    · exact (px_one (soE a h nd)).cast fun ρ => by simp only [evE]
    · cases h
  | .ife c a b, N, sc, x, h, nd => by
    unfold chkE at h
    split at h
    · have h := bt h
      have nd := AllN.app nd
      have nd2 := AllN.app nd.2
      exact (px_ife (soT c h.1 nd.1) (soE a (bt h.2).1 nd2.1) (soE b (bt h.2).2 nd2.2)).cast fun ρ => by simp only [evE]
    · cases h
  | .call f n m es, N, sc, x, h, nd => by
    unfold chkE at h
    split at h
    · rename_i y p args q
      have h := bt h
      have e := dt h.1; subst e
      have h1 := bt h.2
      have h2 := bt h1.2
      have h3 := bt h2.2
      cases args with
      | nil =>
        have := (chks_len h3.2).mp rfl
        subst this
        exact (px_call0 nd.1 h1.1 h2.1).cast fun ρ => by simp only [evE, evs] <;> rfl
      | cons a0 as => exact (px_call nd.1 h1.1 h2.1 h3.1 (soA es h3.2 nd.2)).cast fun ρ => by simp only [evE] <;> rfl
    · cases h
  | .blt b es, N, sc, x, h, nd => by
    unfold chkE at h
    split at h
    · have h := bt h
      have e := dt h.1; subst e
      have h1 := bt h.2
      have h2 := bt h1.2
      exact (px_blt nd.1 h1.1 h2.1 (soA es h2.2 nd.2)).cast fun ρ => by simp only [evE]
    · cases h
  | .listR a, N, sc, x, h, nd => by
    unfold chkE at h
    split at h
    · have h := bt h
      have e := dt h.1; subst e
      have h1 := bt h.2
      have h2 := bt h1.2
      have e := dt h2.1; subst e
      have h3 := bt h2.2
      have h4 := bt h3.2
      exact (px_listR h1.1 h3.1 nd.1 nd.2.1 h4.1 (soE a h4.2 nd.2.2)).cast fun ρ => by simp only [evE] <;> rfl
    · cases h
  | .isi a ts, N, sc, x, h, nd => by
    unfold chkE at h
    have hz := bt h
    have h := hz.2
    obtain ⟨n0, nd⟩ : W.mg "isinstance" = none ∧ AllN W k (ts.flatMap (fun n => match tyN n with | some x => [Need.fr x] | none => []) ++ ndE a) := nd
    have nd := AllN.app nd
    split at h
    · have h := bt h
      have e := dt h.1; subst e
      have h1 := bt h.2
      have h2 := bt h1.2
      have h3 := bt h2.2
      exact (px_isi h1.1 n0 h2.1 (soE a h3.1 nd.2) h3.2 (dt hz.1) nd.1).cast fun ρ => by simp only [evE] <;> rfl
    · have h := bt h
      have e := dt h.1; subst e
      have h1 := bt h.2
      have h2 := bt h1.2
      have h3 := bt h2.2
      exact (px_isi1 h1.1 n0 h2.1 (soE a h3.1 nd.2) h3.2 nd.1).cast fun ρ => by simp only [evE] <;> rfl
    · cases h
  | .sub a i, N, sc, x, h, nd => by
    unfold chkE at h
    split at h
    · have h := bt h
      have nd := AllN.app nd
      exact (px_sub h.1 (soE a (bt h.2).1 nd.1) (soE i (bt h.2).2 nd.2)).cast fun ρ => by simp only [evE] <;> rfl
    · cases h
  | .sli a lo hi, N, sc, x, h, nd => by
    unfold chkE at h
    split at h
    · have h := bt h
      have nd := AllN.app nd
      have nd2 := AllN.app nd.2
      exact (px_sli (soE a h.1 nd.1) (soO lo (bt h.2).1 nd2.1) (soO hi (bt h.2).2 nd2.2)).cast fun ρ => by simp only [evE] <;> rfl
    · cases h
  | .tup es, N, sc, x, h, nd => by
    unfold chkE at h
    split at h
    · have h := bt h
      exact (px_tup (soA es h.2 nd)).cast fun ρ => by simp only [evE] <;> rfl
    · cases h
  | .lst es, N, sc, x, h, nd => by
    unfold chkE at h
    split at h
    · have h := bt h
      exact (px_lst (soA es h.2 nd)).cast fun ρ => by simp only [evE] <;> rfl
    · cases h
  | .dnew T, N, sc, x, h, nd => by
    unfold chkE at h
    split at h
    · exact (px_dnew (T := T)).cast fun ρ => by simp only [evE]
    · cases h
  | .comp elt tg it cond own, N, sc, x, h, nd => by
    unfold chkE at h
    split at h
    · rename_i e t i ifs z scope p
      have h := bt h
      have e0 := dt h.1; subst e0
      have h1 := bt h.2
      have h2 := bt h1.2
      have h3 := bt h2.2
      have h4 := bt h3.2
      have h5 := bt h4.2
      have h6 := bt h5.2
      have h7 := bt h6.2
      have nd := AllN.app nd
      have nd2 := AllN.app nd.2
      have hc : PCX W k N (relS scope sc) ifs (evT cond) := by
        have h8 := h7.1
        split at h8
        · split at h8
          · have : evT .yes = fun _ => Tr.ok true := by funext ρ; simp only [evT]
            rw [this]; exact pc_yes
          · cases h8
        · exact pc_one (soT cond h8 nd2.1)
        · cases h8
      have hs : ∀ j ∈ tgIs tg, j ∈ own.map (·.2) := fun j hj => by
        have := List.all_eq_true.mp h5.1 j hj
        simpa using this
      have hi := soI it h6.1 (t := t) (fun q => by
        have := h3.1
        rw [q] at this
        simpa using this) nd.1
      exact (px_comp h1.1 h2.1 h4.1 hs hi hc (soE elt h7.2 nd2.2)).cast fun ρ => by simp only [evE]; rfl
    · cases h
  | .prim q es, N, sc, x, h, nd => by
    unfold chkE at h
    have h := bt h
    have h2 := h.2
    split at h2
    · rename_i ss hs
      exact (nd.1 N sc x ss (evl es) hs (soL es h2 nd.2)).cast fun ρ => by simp only [evE]
    · cases h2
theorem soL {W : Wd} {k : Nat} : ∀ (es : Exs) {N : List Str} {ss : List (Scope × Expr)}, chkL N es ss = true → AllN W k (nds es) → PXL W k N ss (evl es)
  | .nil, N, ss, h, nd => by
    unfold chkL at h
    split at h
    · unfold evl
      exact .nil
    · cases h
  | .cons e es, N, ss, h, nd => by
    unfold chkL at h
    split at h
    · have h := bt h
      have nd := AllN.app nd
      unfold evl
      exact .cons (chk_plain h.1) (soE e h.1 nd.1) (soL es h.2 nd.2)
    · cases h
theorem soA {W : Wd} {k : Nat} : ∀ (es : Exs) {N : List Str} {sc : Scope} {xs : List Expr}, chks N sc es xs = true → AllN W k (nds es) → PAX W k N sc xs (evs es)
  | .nil, N, sc, xs, h, nd => by
    unfold chks at h
    split at h
    · exact pax_nil.cast fun ρ => by simp only [evs]
    · cases h
  | .cons e es, N, sc, xs, h, nd => by
    unfold chks at h
    split at h
    · have h := bt h
      have nd := AllN.app nd
      exact (pax_cons (chk_plain h.1) (soE e h.1 nd.1) (soA es h.2 nd.2)).cast fun ρ => by simp only [evs]
    · cases h
theorem soO {W : Wd} {k : Nat} : ∀ (e : OEx) {N : List Str} {sc : Scope} {x : Option Expr}, chkO N sc e x = true → AllN W k (ndO e) → POX W k N sc x (evO e)
  | .none, N, sc, x, h, nd => by
    unfold chkO at h
    split at h
    · exact po_noneX.cast fun ρ => by simp only [evO]
    · cases h
  | .some e, N, sc, x, h, nd => by
    unfold chkO at h
    split at h
    · exact (po_someX (soE e h nd)).cast fun ρ => by simp only [evO] <;> rfl
    · cases h
theorem soI {W : Wd} {k : Nat} : ∀ (e : ItX) {N : List Str} {sc : Scope} {t x : Expr}, chkI N sc t e x = true → (needT e = true → isTupE t = true) → AllN W k (ndI e) → PIX W k N sc t x (evI e)
  | .seq e, N, sc, t, x, h, ht, nd => by
    unfold chkI at h
    exact (pix_seq (soE e h nd)).cast fun ρ => by simp only [evI]
  | .rng a, N, sc, t, x, h, ht, nd => by
    unfold chkI at h
    split at h
    · have h := bt h
      have e := dt h.1; subst e
      have h1 := bt h.2
      have h2 := bt h1.2
      exact (pix_rng h1.1 nd.1 h2.1 (soE a h2.2 nd.2)).cast fun ρ => by simp only [evI] <;> rfl
    · cases h
  | .rng2 a b, N, sc, t, x, h, ht, nd => by
    unfold chkI at h
    split at h
    · have h := bt h
      have e := dt h.1; subst e
      have h1 := bt h.2
      have h2 := bt h1.2
      have h3 := bt h2.2
      have h4 := bt h3.2
      have nd2 := AllN.app nd.2
      exact (pix_rng2 h1.1 nd.1 h2.1 h3.1 (soE a h4.1 nd2.1) (soE b h4.2 nd2.2)).cast fun ρ => by simp only [evI] <;> rfl
    · cases h
  | .enum a, N, sc, t, x, h, ht, nd => by
    unfold chkI at h
    split at h
    · have h := bt h
      have e := dt h.1; subst e
      have h1 := bt h.2
      have h2 := bt h1.2
      exact (pix_enum h1.1 nd.1 h2.1 (ht rfl) (soE a h2.2 nd.2)).cast fun ρ => by simp only [evI] <;> rfl
    · cases h
  | .zip a b, N, sc, t, x, h, ht, nd => by
    unfold chkI at h
    split at h
    · have h := bt h
      have e := dt h.1; subst e
      have h1 := bt h.2
      have h2 := bt h1.2
      have h3 := bt h2.2
      have h4 := bt h3.2
      have nd2 := AllN.app nd.2
      exact (pix_zip h1.1 nd.1 h2.1 h3.1 (ht rfl) (soE a h4.1 nd2.1) (soE b h4.2 nd2.2)).cast fun ρ => by simp only [evI]
    · cases h
  | .prim q es, N, sc, t, x, h, ht, nd => by
    unfold chkI at h
    split at h
    · rename_i ss hs
      exact (nd.1 N sc t x ss (evl es) hs (soL es h nd.2)).cast fun ρ => by simp only [evI]
    · cases h
theorem soT {W : Wd} {k : Nat} : ∀ (e : Te) {N : List Str} {sc : Scope} {x : Expr}, chkT N sc e x = true → AllN W k (ndT e) → PTX W k N sc x (evT e)
  | .yes, N, sc, x, h, nd => by unfold chkT at h; cases h
  | .tru e, N, sc, x, h, nd => by
    unfold chkT at h
    have h := bt h
    exact (pt_tru h.1 (soE e h.2 nd)).cast fun ρ => by simp only [evT]
  | .cmp op a b, N, sc, x, h, nd => by
    unfold chkT at h
    split at h
    · have h := bt h
      have e := coB_ok h.1; subst e
      have h := bt h.2
      have nd := AllN.app nd
      exact (pt_cmpX h.1 (soE a (bt h.2).1 nd.1) (soE b (bt h.2).2 nd.2)).cast fun ρ => by simp only [evT]
    · cases h
  | .chn o o' a b c, N, sc, x, h, nd => by
    unfold chkT at h
    split at h
    · have h := bt h
      have e := coB_ok h.1; subst e
      have h := bt h.2
      have e := coB_ok h.1; subst e
      have h := bt h.2
      have h2 := bt h.2
      have h3 := bt h2.2
      have nd := AllN.app nd
      have nd2 := AllN.app nd.2
      exact (pt_chnX h.1 (soE a h2.1 nd.1) (soE b h3.1 nd2.1) (soE c h3.2 nd2.2)).cast fun ρ => by simp only [evT] <;> rfl
    · cases h
  | .isN ng a, N, sc, x, h, nd => by
    unfold chkT at h
    split at h
    · have h := bt h
      exact (pt_isNX h.1 (soE a h.2 nd)).cast fun ρ => by simp only [evT] <;> rfl
    · cases h
  | .isB ng a b, N, sc, x, h, nd => by
    unfold chkT at h
    split at h
    · have h := bt h
      have nd := AllN.app nd
      exact (pt_isBX h.1 (soE a (bt h.2).1 nd.1) (soE b (bt h.2).2 nd.2)).cast fun ρ => by simp only [evT] <;> rfl
    · cases h
  | .nt a, N, sc, x, h, nd => by
    unfold chkT at h
    split at h
    · exact (pt_ntX (soT a h nd)).cast fun ρ => by simp only [evT]
    · cases h
  | .an a r, N, sc, x, h, nd => pt_pw (soW (.an a r) (.inl ⟨a, r, rfl⟩) h nd)
  | .orr a r, N, sc, x, h, nd => pt_pw (soW (.orr a r) (.inr (.inl ⟨a, r, rfl⟩)) h nd)
  | .one a, N, sc, x, h, nd => pt_pw (soW (.one a) (.inr (.inr ⟨a, rfl⟩)) h nd)
theorem soW {W : Wd} {k : Nat} : ∀ (e : Te) {N : List Str} {sc : Scope} {x : Expr}, ((∃ a r, e = .an a r) ∨ (∃ a r, e = .orr a r) ∨ (∃ a, e = .one a)) → chkT N sc e x = true → AllN W k (ndT e) → PWX W k N sc x (evT e)
  | .an a r, N, sc, x, s, h, nd => by
    unfold chkT at h
    split at h
    · have h := bt h
      have nd := AllN.app nd
      exact (pw_anX (soT a h.1 nd.1) (soW r (chk_bool h.2) h.2 nd.2)).cast fun ρ => by simp only [evT]
    · cases h
  | .orr a r, N, sc, x, s, h, nd => by
    unfold chkT at h
    split at h
    · have h := bt h
      have nd := AllN.app nd
      exact (pw_orX (soT a h.1 nd.1) (soW r (chk_bool h.2) h.2 nd.2)).cast fun ρ => by simp only [evT]
    · cases h
  | .one a, N, sc, x, s, h, nd => by
    unfold chkT at h
    split at h
    · exact (pw_oneX (soT a h nd)).cast fun ρ => by simp only [evT]
    · cases h
  | .yes, _, _, _, s, _, _ => by simp at s
  | .tru _, _, _, _, s, _, _ => by simp at s
  | .cmp _ _ _, _, _, _, s, _, _ => by simp at s
  | .chn _ _ _ _ _, _, _, _, s, _, _ => by simp at s
  | .isN _ _, _, _, _, s, _, _ => by simp at s
  | .isB _ _ _, _, _, _, s, _, _ => by simp at s
  | .nt _, _, _, _, s, _, _ => by simp at s
end
end FS

set_option Elab.async false
set_option linter.all false
set_option maxRecDepth 100000
set_option maxHeartbeats 8000000
namespace FS
open PySem PySem.Spec PyProof.Rows L2

theorem set_self {α : Type} : ∀ {l : List α} {i : Nat} {x : α}, l[i]? = some x → l.set i x = l
  | [], _, _, _ => rfl
  | y :: l, 0, x, h => by simp at h; rw [List.set_cons_zero, h]
  | y :: l, i + 1, x, h => by rw [List.set_cons_succ, set_self (by simpa using h)]
/-! ### statements: the base -/
structure CxF (W : Wd) (k : Nat) (N : List Str) (sc : Scope) (E : XK) (X : Cx) : Prop where
  c : CxOk W k N sc E X
  po : PassesOwn (model X.prog X.w) X.A X.env X.xe
  fnA : ∀ y, X.fn y = true
  tk : L2.Takes X (fun cls d _ H => E cls d H)
/-- behind the def's entry at F0, H0 -/
structure At (W : Wd) (F0 H0 Fb F H : Hp) (σ : L2.St) (ρ : Loc) (fp : List Addr) : Prop where
  e : Ext W F0 H0 F H
  env : EnvR W F H σ ρ fp
  fr : ∀ a ∈ fp, H0 a = none
  lo : Same Fb F
theorem At.ext {W : Wd} {F0 H0 Fb F H F' H' : Hp} {σ : L2.St} {ρ : Loc} {fp : List Addr} (a : At W F0 H0 Fb F H σ ρ fp) (e : Ext W F H F' H') : At W F0 H0 Fb F' H' σ ρ fp := ⟨a.e.trans e, a.env.ext e, a.fr, fun b o q => e.f b o (a.lo b o q)⟩
inductive Fl where
  | nx (ρ : Loc)
  | rt (x : PV)
  | bk (ρ : Loc)
  | ct (ρ : Loc)
def PostS (W : Wd) (E : XK) (F0 H0 Fb : Hp) (D : L2.Ends) : Out Fl → Prop
  | .ok (.nx ρ) => ∀ F H σ fp, At W F0 H0 Fb F H σ ρ fp → D.nx σ H
  | .ok (.bk ρ) => ∀ F H σ fp, At W F0 H0 Fb F H σ ρ fp → D.bk σ H
  | .ok (.ct ρ) => ∀ F H σ fp, At W F0 H0 Fb F H σ ρ fp → D.ct σ H
  | .ok (.rt x) => ∀ F H v fp, Ext W F0 H0 F H → Ro W F H v x fp → (∀ a ∈ fp, H0 a = none) → D.rt v H
  | .exn c ns xs => ExP W E F0 H0 c ns xs
  | .bad => False
def tSx (W : Wd) (E : XK) (m : Loc → Tr Fl) : TS := fun D σ H => ∃ F0 H0 Fb F ρ fp, At W F0 H0 Fb F H σ ρ fp ∧ (m ρ).W (PostS W E F0 H0 Fb D)
def PSX (W : Wd) (k : Nat) (N : List Str) (sc : Scope) (st : Stmt) (m : Loc → Tr Fl) : Prop := ∀ (X : Cx) (E : XK), CxF W k N sc E X → PS X st (tSx W E m)
def PBX (W : Wd) (k : Nat) (N : List Str) (sc : Scope) (st : List Stmt) (m : Loc → Tr Fl) : Prop := ∀ (X : Cx) (E : XK), CxF W k N sc E X → PSs X st (tSx W E m)
theorem PS.imp {X : Cx} {e : Stmt} {t t' : TS} (h : PS X e t) (i : ∀ D σ H, t' D σ H → t D σ H) : PS X e t' := ⟨fun pins s σ H D I q => h.run pins s σ H D I (i _ _ _ q)⟩
theorem PSs.imp {X : Cx} {e : List Stmt} {t t' : TS} (h : PSs X e t) (i : ∀ D σ H, t' D σ H → t D σ H) : PSs X e t' := ⟨fun pins s σ H D I q => h.run pins s σ H D I (i _ _ _ q)⟩
theorem PSX.cast {W : Wd} {k : Nat} {N : List Str} {sc : Scope} {x : Stmt} {m m' : Loc → Tr Fl} (h : PSX W k N sc x m) (e : ∀ ρ, m' ρ = m ρ) : PSX W k N sc x m' := by
  have : m' = m := funext e
  rw [this]; exact h
theorem PBX.cast {W : Wd} {k : Nat} {N : List Str} {sc : Scope} {x : List Stmt} {m m' : Loc → Tr Fl} (h : PBX W k N sc x m) (e : ∀ ρ, m' ρ = m ρ) : PBX W k N sc x m' := by
  have : m' = m := funext e
  rw [this]; exact h
section
variable {W : Wd} {k : Nat} {N : List Str} {sc : Scope} {E : XK}
/-- an operand as it is, ahead of anything -/
theorem stepN {α : Type} {P : Out α → Prop} {F0 H0 F1 H1 : Hp} {σ : L2.St} {ρ : Loc} {fp : List Addr} {m : Loc → Tr Rv} {K : Rv → Tr α} (hx : ∀ c ns xs, P (.exn c ns xs) → ExP W E F0 H0 c ns xs) (hb : ¬ P .bad)
    (e : Ext W F0 H0 F1 H1) (env : EnvR W F1 H1 σ ρ fp) (h : ((m ρ).bind K).W P) : tE W E m σ H1 fun x H2 => ∃ r F2, Ext W F1 H1 F2 H2 ∧ RR W fp F2 H2 H1 r x ∧ (K r).W P := by
  refine ⟨F1, ρ, fp, e.g, env, Tr.W_imp (fun o ho => ?_) (Tr.W_bind.mp h)⟩
  cases o with
  | ok r => exact fun F' H' v e' q => ⟨r, F', e', q, ho⟩
  | exn c ns xs => exact ExP.ext e (hx _ _ _ ho)
  | bad => exact hb ho
theorem At.stepN {α : Type} {P : Out α → Prop} {F0 H0 Fb F1 H1 : Hp} {σ : L2.St} {ρ : Loc} {fp : List Addr} {m : Loc → Tr Rv} {K : Rv → Tr α} (a : At W F0 H0 Fb F1 H1 σ ρ fp) (hx : ∀ c ns xs, P (.exn c ns xs) → ExP W E F0 H0 c ns xs) (hb : ¬ P .bad)
    (h : ((m ρ).bind K).W P) : tE W E m σ H1 fun x H2 => ∃ r F2, At W F0 H0 Fb F2 H2 σ ρ fp ∧ Ext W F1 H1 F2 H2 ∧ RR W fp F2 H2 H1 r x ∧ (K r).W P :=
  (FS.stepN hx hb a.e a.env h).imp fun x H2 ⟨r, F2, e, q, z⟩ => ⟨r, F2, a.ext e, e, q, z⟩
theorem At.stepG {α : Type} {P : Out α → Prop} {F0 H0 Fb F1 H1 : Hp} {σ : L2.St} {ρ : Loc} {fp : List Addr} {m : Loc → Tr Rv} {K : Rv → Tr α} (a : At W F0 H0 Fb F1 H1 σ ρ fp) (hx : ∀ c ns xs, P (.exn c ns xs) → ExP W E F0 H0 c ns xs) (hb : ¬ P .bad)
    (h : ((m ρ).bind K).W P) : tE W E m σ H1 fun x H2 => ∃ r F2, At W F0 H0 Fb F2 H2 σ ρ fp ∧ Ext W F1 H1 F2 H2 ∧ RF W fp F2 H2 r x ∧ (K r).W P :=
  (FS.stepG hx hb a.e a.env h).imp fun x H2 ⟨r, F2, e, q, z⟩ => ⟨r, F2, a.ext e, e, q, z⟩
/-- what may be stored: its own, apart from the slots' -/
theorem RR.mov {fe : List Addr} {F H H1 : Hp} {r : Rv} {v : V} {y : PV} (fo : ∀ a ∈ fe, ∃ o, H1 a = some o) (q : RR W fe F H H1 r v) (h : FS.mov r = some y) : ∃ f, Ro W F H v y f ∧ (∀ a ∈ f, H1 a = none) ∧ ∀ a ∈ f, a ∉ fe := by
  obtain ⟨f, ro, n, m⟩ := q
  obtain ⟨b, x⟩ := r
  cases b with
  | false =>
    have e : x = y := by simpa [FS.mov] using h
    subst e
    refine ⟨f, ro, n rfl, fun a ha hb => ?_⟩
    obtain ⟨o, ho⟩ := fo a hb
    rw [n rfl a ha] at ho
    cases ho
  | true =>
    have st : x.st = true := by
      by_cases z : x.st = true
      · exact z
      · simp [FS.mov, z] at h
    have e : x = y := by simpa [FS.mov, st] using h
    subst e
    exact ⟨[], .st (ro.stable st), fun _ z => by simp at z, fun _ z => by simp at z⟩
/-- a slot is stored -/
theorem At.put {F0 H0 Fb F H : Hp} {σ : L2.St} {ρ : Loc} {fp : List Addr} {v : V} {y : PV} {f : List Addr} (a : At W F0 H0 Fb F H σ ρ fp) (r : Ro W F H v y f) (n : ∀ a ∈ f, H0 a = none) (d : ∀ a ∈ f, a ∉ fp) (i : Nat) :
    ∃ fq, At W F0 H0 Fb F H (σ.set i (some v)) (ρ.set i (some y)) fq := by
  obtain ⟨fq, e2, s2⟩ := EnvR.put r i a.env d
  exact ⟨fq, a.e, e2, fun b hb => by
    rcases s2 b hb with z | z
    · exact n b z
    · exact a.fr b z, a.lo⟩

/-! ### sequences, tests, ends -/
def sqF (m : Loc → Tr Fl) (k : Loc → Tr Fl) : Loc → Tr Fl := fun ρ => (m ρ).bind fun f => match f with
  | .nx ρ' => k ρ'
  | f => .ok f
theorem pb_nil : PBX W k N sc [] (fun ρ => .ok (.nx ρ)) := fun X E c => PSs.imp pss_nil fun D σ H ⟨F0, H0, Fb, F, ρ, fp, a, h⟩ => h F H σ fp a
theorem sq_imp {m r : Loc → Tr Fl} {D : L2.Ends} {σ : L2.St} {H : Hp} (h : tSx W E (sqF m r) D σ H) : tSx W E m { D with nx := tSx W E r D } σ H := by
  obtain ⟨F0, H0, Fb, F, ρ, fp, a, h⟩ := h
  refine ⟨F0, H0, Fb, F, ρ, fp, a, Tr.W_imp (fun o ho => ?_) (Tr.W_bind.mp h)⟩
  cases o with
  | exn c ns xs => exact ho
  | bad => exact ho
  | ok f =>
    cases f with
    | nx ρ' => exact fun F1 H1 σ1 fp1 a1 => ⟨F0, H0, Fb, F1, ρ', fp1, a1, ho⟩
    | rt x => exact ho
    | bk ρ' => exact ho
    | ct ρ' => exact ho
theorem pb_cons {s : Stmt} {ss : List Stmt} {m r : Loc → Tr Fl} (h1 : PSX W k N sc s m) (h2 : PBX W k N sc ss r) : PBX W k N sc (s :: ss) (sqF m r) := fun X E c =>
  PSs.imp (pss_cons (h1 X E c) (h2 X E c)) fun D σ H h => sq_imp h
theorem pb_ghost {ss : List Stmt} {m r : Loc → Tr Fl} (hm : ∀ E D σ H, tSx W E m D σ H → D.nx σ H) (h2 : PBX W k N sc ss r) : PBX W k N sc ss (sqF m r) := fun X E c =>
  PSs.imp (h2 X E c) fun D σ H h => hm _ _ _ _ (sq_imp h)
def frzL (i : Nat) (ρ : Loc) : Tr Fl := match ρ[i]? with
  | some (some x) => .ok (.nx (ρ.set i (some x.fz)))
  | _ => .bad
theorem gh_frz (i : Nat) : ∀ (E : XK) (D : L2.Ends) (σ : L2.St) (H : Hp), tSx W E (frzL i) D σ H → D.nx σ H := by
  rintro E D σ H ⟨F0, H0, Fb, F, ρ, fp, a, h⟩
  unfold frzL at h
  cases hr : ρ[i]? with
  | none => rw [hr] at h; exact (show False from h).elim
  | some o =>
    cases o with
    | none => rw [hr] at h; exact (show False from h).elim
    | some x =>
      rw [hr] at h
      obtain ⟨v, f, g, h1, h2, h3, h4, h5⟩ := a.env.split hr
      have hf : ∀ b ∈ f, F b = none ∧ b ≠ W.pen := fun b hb => ⟨(h2.own b hb).2.1, (h2.own b hb).2.2⟩
      have e2 := a.e.freeze hf (fun b hb => a.fr b ((h5 b).mpr (.inl hb)))
      have en : EnvR W (adj F H f) H (σ.set i none) (ρ.set i none) g := (h3 none).carry (adj_same fun b hb => (hf b hb).1) fun b hb => ⟨rfl, by
        rw [adj_out]
        · exact ((h3 none).own b hb).2.1
        · exact fun z => h4 b z hb⟩
      obtain ⟨fq, e3, s3⟩ := EnvR.put (Ro.st h2.frozen) i en (fun _ z => by simp at z)
      have es : (σ.set i none).set i (some v) = σ := by
        rw [List.set_set]
        exact set_self h1
      rw [es, List.set_set] at e3
      exact h (adj F H f) H σ fq ⟨e2, e3, fun b hb => by
        rcases s3 b hb with z | z
        · simp at z
        · exact a.fr b ((h5 b).mpr (.inr z)), fun b o q => adj_same (fun b hb => (hf b hb).1) b o (a.lo b o q)⟩
end
end FS

set_option Elab.async false
set_option linter.all false
set_option maxRecDepth 100000
set_option maxHeartbeats 8000000
namespace FS
open PySem PySem.Spec PyProof.Rows L2

def noLc : Expr → Bool
  | .ListComp .. => false
  | .SetComp .. => false
  | .DictComp .. => false
  | _ => true
def noTup : Expr → Bool
  | .Tuple .. => false
  | _ => true
theorem sw_no {e : Expr} (h : noLc e = true) (t : Option Expr) (l : Nat) (env : Env) : swapsWith e t l env = pure false := by cases e <;> first | rfl | cases h
theorem swst_no {e : Expr} (h : noTup e = true) (ts : List Expr) (env : Env) : swappedStores ts e env = pure none := by
  unfold swappedStores
  cases e <;> first | cases h | skip
  all_goals (cases ts with
    | nil => rfl
    | cons t r => cases r with
      | nil => cases t <;> rfl
      | cons _ _ => cases t <;> rfl)
section
variable {W : Wd} {k : Nat} {N : List Str} {sc : Scope} {E : XK}
theorem pExn {F0 H0 Fb : Hp} {D : L2.Ends} : ∀ (c : Str) (ns : List Str) (xs : List PV), PostS W E F0 H0 Fb D (.exn c ns xs) → ExP W E F0 H0 c ns xs := fun _ _ _ z => z
theorem pBad {F0 H0 Fb : Hp} {D : L2.Ends} : ¬ PostS W E F0 H0 Fb D .bad := fun z => z
theorem At.fo {F0 H0 Fb F H : Hp} {σ : L2.St} {ρ : Loc} {fp : List Addr} (a : At W F0 H0 Fb F H σ ρ fp) : ∀ b ∈ fp, ∃ o, H b = some o := fun b hb => (a.env.own b hb).1
theorem ps_exX {e : Expr} {m : Loc → Tr Rv} {p : Pos} (h : noLc e = true) (he : PX W k N sc e m) : PSX W k N sc (.Expr e p) (fun ρ => (m ρ).bind fun _ => .ok (.nx ρ)) := fun X E c =>
  PS.imp (ps_expr (he X E c.c) (sw_no h _ _ _)) fun D σ H ⟨F0, H0, Fb, F, ρ, fp, a, h⟩ =>
    (a.stepN pExn pBad h).imp fun x H1 ⟨r, F1, a1, e1, q, z⟩ => z F1 H1 σ fp a1
theorem ps_docX {x : Str} {j} {p p' : Pos} : PSX W k N sc (.Expr (.Constant (.str x) j p) p') (fun ρ => .ok (.nx ρ)) := fun X E c =>
  PS.imp ps_doc fun D σ H ⟨F0, H0, Fb, F, ρ, fp, a, h⟩ => h F H σ fp a
theorem ps_passX {p : Pos} : PSX W k N sc (.Pass p) (fun ρ => .ok (.nx ρ)) := fun X E c =>
  PS.imp ps_pass fun D σ H ⟨F0, H0, Fb, F, ρ, fp, a, h⟩ => h F H σ fp a
theorem ps_brkX {p : Pos} : PSX W k N sc (.Break p) (fun ρ => .ok (.bk ρ)) := fun X E c =>
  PS.imp ps_break fun D σ H ⟨F0, H0, Fb, F, ρ, fp, a, h⟩ => h F H σ fp a
theorem ps_cntX {p : Pos} : PSX W k N sc (.Continue p) (fun ρ => .ok (.ct ρ)) := fun X E c =>
  PS.imp ps_continue fun D σ H ⟨F0, H0, Fb, F, ρ, fp, a, h⟩ => h F H σ fp a
theorem ps_retNX {p : Pos} : PSX W k N sc (.Return none p) (fun ρ => .ok (.rt .non)) := fun X E c =>
  PS.imp ps_retN fun D σ H ⟨F0, H0, Fb, F, ρ, fp, a, h⟩ => h F H .non [] a.e (.st .non) (fun _ z => by simp at z)
theorem ps_nevX {s : Stmt} : PSX W k N sc s (fun ρ => .bad) := fun X E c => PS.imp ps_never fun D σ H ⟨F0, H0, Fb, F, ρ, fp, a, h⟩ => h
theorem ps_retX {e : Expr} {m : Loc → Tr Rv} {p : Pos} (he : PX W k N sc e m) : PSX W k N sc (.Return (some e) p) (fun ρ => (m ρ).bind fun r => .ok (.rt r.2)) := fun X E c =>
  PS.imp (ps_ret (he X E c.c)) fun D σ H ⟨F0, H0, Fb, F, ρ, fp, a, h⟩ =>
    (a.stepN pExn pBad h).imp fun x H1 ⟨r, F1, a1, e1, q, z⟩ => by
      obtain ⟨f, ro, n, m⟩ := q
      refine z F1 H1 x f a1.e ro fun b hb => ?_
      cases hr : r.1 with
      | false => exact a.e.free (n hr b hb)
      | true => exact a.fr b (m hr b hb)
/-! ### storing -/
def setF (i : Nat) (m : Loc → Tr Rv) : Loc → Tr Fl := fun ρ => (m ρ).bind fun r => match mov r with
  | some y => .ok (.nx (ρ.set i (some y)))
  | none => .bad
theorem set_imp {i : Nat} {m : Loc → Tr Rv} {D : L2.Ends} {σ : L2.St} {H : Hp} (h : tSx W E (setF i m) D σ H) : tAsg (tE W E m) (gName i) D σ H := by
  obtain ⟨F0, H0, Fb, F, ρ, fp, a, h⟩ := h
  refine (a.stepN pExn pBad h).imp fun x H1 ⟨r, F1, a1, e1, q, z⟩ => ?_
  cases hm : mov r with
  | none => rw [hm] at z; exact (show False from z).elim
  | some y =>
    rw [hm] at z
    obtain ⟨f, ro, n, d⟩ := q.mov a.fo hm
    obtain ⟨fq, a2⟩ := a1.put ro (fun b hb => a.e.free (n b hb)) d i
    exact z F1 H1 _ fq a2
theorem CxF.at_ {X : Cx} (c : CxF W k N sc E X) {i : Nat} {x : Str} (h : N[i]? = some x) : X.N[i]? = some x := c.c.at_ h
theorem CxF.loc {X : Cx} (c : CxF W k N sc E X) {x : Str} (h : locB sc x = true) : X.env.scope.names.lookup x = some .local := by
  rw [c.c.sc]
  exact locB_ok h
theorem ps_setX {e : Expr} {m : Loc → Tr Rv} {i : Nat} {y : Str} {p p2 : Pos} (hi : N[i]? = some y) (hl : locB sc y = true) (h : noLc e = true) (he : PX W k N sc e m) : PSX W k N sc (.Assign [.Name y p2] e p) (setF i m) := fun X E c =>
  PS.imp (ps_set c.c.ndX (c.at_ hi) (.inl (c.loc hl)) (he X E c.c) (sw_no h _ _ _) (.inr (c.loc hl))) fun D σ H h => set_imp h
/-- of cells, too -/
theorem ps_setCX {e : Expr} {m : Loc → Tr Rv} {i : Nat} {y : Str} {p p2 : Pos} (hi : N[i]? = some y) (hl : storeB (fun _ => true) sc y = true) (h : noLc e = true) (he : PX W k N sc e m) : PSX W k N sc (.Assign [.Name y p2] e p) (setF i m) := fun X E c => by
  obtain ⟨l1, l2⟩ := storeB_ok (X := X) hl (fun y _ => c.fnA y) c.c.sc
  exact PS.imp (ps_set c.c.ndX (c.at_ hi) l1 (he X E c.c) (sw_no h _ _ _) l2) fun D σ H h => set_imp h
/-- a comprehension stored in a local name -/
def swapB (y : Str) (py pos : Pos) (scope : Scope) : Bool := (py.line == pos.line) && !(scope.names.any fun (n, k) => n == y && (k == .local || k == .cell))
theorem ps_setLcX {sce : Scope} {e t i : Expr} {ifs : List Expr} {scope : Scope} {pos p p2 : Pos} {tg : Tg} {own : List (Str × Nat)} {mi : Loc → Tr (Bool × List PV)} {mc : Loc → Tr Bool} {me : Loc → Tr Rv} {j : Nat} {y : Str}
    (hj : N[j]? = some y) (hl : locB sc y = true) (hsw : swapB y p2 pos scope = true) (hk : sc.kind = .function)
    (hb : blkC N sc scope own = true) (pl : plainB i = true) (ht : tgB (fun y => scope.names.lookup y == some .cell) N (relS scope sc) tg t = true) (hs : ∀ j ∈ tgIs tg, j ∈ own.map (·.2))
    (hi : PIX W k N sc t i mi) (hc : PCX W k N (relS scope sc) ifs mc) (he : PX W k N (relS scope sc) e me) :
    PSX W k N sc (.Assign [.Name y p2] (.ListComp e [⟨t, i, ifs, 0⟩] scope pos) p) (setF j (fun ρ => (mi ρ).bind fun p => if p.2.length < sizeLine then (compL tg (wipeL ρ (own.map (·.2))) (compF mc me) p.2 []).bind fun ys => vB (.lst true ys) else .bad)) := by
  intro X E c
  have c0 := c.c
  have ok : BlkOk X.N X.env.scope scope own := by
    rw [c0.N, c0.sc]
    exact blkOk_by hb
  unfold swapB at hsw
  simp only [Bool.and_eq_true, Bool.not_eq_true'] at hsw
  refine PS.imp (ps_setLc (g := gT X.K tg) c0.calm c0.ndX (c.at_ hj) (c.loc hl) (sw_true (by rw [c0.sc]; exact hk) (c.loc hl) hsw.1 hsw.2) (hi X E c0) ok (fun s H C cl fp => pg_tg (c0.blk s H scope C cl fp).calm c0.ndX (c0.blk s H scope C cl fp).N (fun y hy => hy) (c0.blk s H scope C cl fp).sc ht)
    (fun s H C cl fp => hc _ _ (c0.blk s H scope C cl fp)) (fun s H C cl fp => he _ _ (c0.blk s H scope C cl fp)) (plain_fold pl)) fun D σ H h => ?_
  have h := set_imp h
  obtain ⟨F, ρ, fp, g, env, h⟩ := h
  refine ⟨F, ρ, fp, g, env, Tr.W_imp (fun o ho => ?_) (Tr.W_bind.mp h)⟩
  cases o with
  | exn cc ns xs => exact ho
  | bad => exact ho
  | ok p =>
    obtain ⟨b, xs⟩ := p
    intro F1 H1 J e1 src D hD
    have ho : (if xs.length < sizeLine then (compL tg (wipeL ρ (own.map (·.2))) (compF mc me) xs []).bind fun ys => vB (.lst true ys) else .bad : Tr Rv).W (PostE W E fp F H _) := ho
    by_cases hz : xs.length < sizeLine
    · rw [if_pos hz] at ho
      have := comp_reads (E' := fun _ _ _ => False) e1 (env.ext e1) (fun a ha => (env.own a ha).1) src hz hD hs ho
      rw [← c0.K] at this
      exact this
    · rw [if_neg hz] at ho
      exact (show False from ho).elim
/-- .. in a cell -/
def cellB (sc : Scope) (x : Str) : Bool := match sc.names.lookup x with
  | some .cell => true
  | _ => false
theorem ps_setLcC {e : Expr} {m : Loc → Tr Rv} {i : Nat} {y : Str} {p p2 : Pos} (hi : N[i]? = some y) (hl : cellB sc y = true) (he : PX W k N sc e m) : PSX W k N sc (.Assign [.Name y p2] e p) (setF i m) := fun X E c => by
  have hk : sc.names.lookup y = some .cell := by
    unfold cellB at hl
    split at hl
    · assumption
    · cases hl
  have hk2 : X.env.kindOf y = some .cell := by
    show X.env.scope.names.lookup y = _
    rw [c.c.sc]; exact hk
  have hs : swapsWith e (some (.Name y p2)) p.line X.env = pure false := by
    unfold swapsWith
    have e3 : (NameKind.cell == NameKind.local) = false := by decide
    cases e <;> first | rfl | (simp only [hk2]; simp [e3])
  exact PS.imp (ps_set c.c.ndX (c.at_ hi) (.inr (by rw [c.c.sc]; exact hk)) (he X E c.c) hs (.inl (c.fnA y))) fun D σ H h => set_imp h
/-- taken apart -/
def unpF (t : Tg) (m : Loc → Tr Rv) : Loc → Tr Fl := fun ρ => (m ρ).bind fun r => match take r with
  | some y => (match bindTg t y ρ with
    | some ρ' => .ok (.nx ρ')
    | none => .bad)
  | none => .bad
theorem ps_unpX {e tgt : Expr} {m : Loc → Tr Rv} {t : Tg} {p : Pos} (ht : tgB (fun _ => true) N sc t tgt = true) (hq : isTupE tgt = true) (h1 : noLc e = true) (h2 : noTup e = true) (he : PX W k N sc e m) : PSX W k N sc (.Assign [tgt] e p) (unpF t m) := fun X E c => by
  refine PS.imp (ps_asg (g := gT X.K t) (he X E c.c) (pg_tg c.c.calm c.c.ndX c.c.N (fun y _ => c.fnA y) c.c.sc ht) (sw_no h1 _ _ _) (swst_no h2 _ _) ?_) fun D σ H ⟨F0, H0, Fb, F, ρ, fp, a, h⟩ => ?_
  · cases tgt <;> first | rfl | cases hq
  · refine (a.stepG pExn pBad h).imp fun x H1 ⟨r, F1, a1, e1, q, z⟩ => ?_
    cases hm : FS.take r with
    | none => rw [hm] at z; exact (show False from z).elim
    | some y =>
      rw [hm] at z
      dsimp only at z
      cases hb : bindTg t y ρ with
      | none => rw [hb] at z; exact (show False from z).elim
      | some ρ' =>
        rw [hb] at z
        rw [c.c.K]
        exact gT_ok a1.e.g (q.take hm) a1.env hb fun σ' fq e2 s2 _ _ => z F1 H1 σ' fq ⟨a1.e, e2, fun b hb => a1.fr b (s2 b hb), a1.lo⟩
/-! ### branches and loops -/
def iteF (c : Loc → Tr Bool) (m1 m2 : Loc → Tr Fl) : Loc → Tr Fl := fun ρ => (c ρ).bind fun b => if b then m1 ρ else m2 ρ
theorem At.stepT {F0 H0 Fb F1 H1 : Hp} {σ : L2.St} {ρ : Loc} {fp : List Addr} {D : L2.Ends} {m : Loc → Tr Bool} {K : Bool → Tr Fl} {R : Bool → Hp → Prop} (a : At W F0 H0 Fb F1 H1 σ ρ fp) (h : ((m ρ).bind K).W (PostS W E F0 H0 Fb D))
    (k : ∀ b F2 H2, At W F0 H0 Fb F2 H2 σ ρ fp → (K b).W (PostS W E F0 H0 Fb D) → R b H2) : tT W E m σ H1 R :=
  FS.stepT (P := fun F0 H0 => PostS W E F0 H0 Fb D) a.e a.env (fun _ _ _ z => z) (fun z => z) h fun b F2 H2 e z => k b F2 H2 (a.ext e) z
theorem ps_iteX {c : Expr} {s1 s2 : List Stmt} {mc : Loc → Tr Bool} {m1 m2 : Loc → Tr Fl} {p : Pos} (hc : PTX W k N sc c mc) (h1 : PBX W k N sc s1 m1) (h2 : PBX W k N sc s2 m2) : PSX W k N sc (.If c s1 s2 p) (iteF mc m1 m2) := fun X E x =>
  PS.imp (ps_if (hc X E x.c) (h1 X E x) (h2 X E x)) fun D σ H ⟨F0, H0, Fb, F, ρ, fp, a, h⟩ =>
    a.stepT h fun b F2 H2 a2 z => by
      cases b with
      | true => exact ⟨F0, H0, Fb, F2, ρ, fp, a2, z⟩
      | false => exact ⟨F0, H0, Fb, F2, ρ, fp, a2, z⟩
def loopK (again : Loc → Tr Fl) : Fl → Tr Fl
  | .nx ρ => again ρ
  | .ct ρ => again ρ
  | .bk ρ => .ok (.nx ρ)
  | .rt x => .ok (.rt x)
def whlF (c : Loc → Tr Bool) (b : Loc → Tr Fl) : Nat → Loc → Tr Fl
  | 0, _ => .bad
  | n + 1, ρ => (c ρ).bind fun k => if k then (b ρ).bind (loopK (whlF c b n)) else .ok (.nx ρ)
theorem ps_whlX {c : Expr} {ss : List Stmt} {mc : Loc → Tr Bool} {m : Loc → Tr Fl} {p : Pos} (n : Nat) (hc : PTX W k N sc c mc) (hb : PBX W k N sc ss m) : PSX W k N sc (.While c ss [] p) (whlF mc m n) := fun X E x =>
  PS.imp (ps_while x.po (hc X E x.c) (hb X E x)) fun D σ H ⟨F0, H0, Fb, F, ρ, fp, a, h⟩ => by
    refine ⟨fun n σ H => ∃ F ρ fp, At W F0 H0 Fb F H σ ρ fp ∧ (whlF mc m n ρ).W (PostS W E F0 H0 Fb D), ⟨n, F, ρ, fp, a, h⟩, ?_⟩
    rintro j σ1 H1 ⟨F1, ρ1, fp1, a1, h1⟩
    cases j with
    | zero => exact (show False from h1).elim
    | succ j =>
      refine a1.stepT h1 fun b F2 H2 a2 z => ?_
      cases b with
      | false =>
        rw [if_neg (by simp)]
        exact z F2 H2 σ1 fp1 a2
      | true =>
        rw [if_pos rfl]
        refine ⟨fun σ' H' => ∃ F ρ fp, At W F0 H0 Fb F H' σ' ρ fp ∧ (whlF mc m j ρ).W (PostS W E F0 H0 Fb D), fun σ' H' q => ⟨j, Nat.lt_succ_self j, q⟩, ?_⟩
        refine ⟨F0, H0, Fb, F2, ρ1, fp1, a2, Tr.W_imp (fun o ho => ?_) (Tr.W_bind.mp z)⟩
        cases o with
        | exn cc ns xs => exact ho
        | bad => exact ho
        | ok f =>
          cases f with
          | nx ρ' => exact fun F H σ fp a => ⟨F, ρ', fp, a, ho⟩
          | ct ρ' => exact fun F H σ fp a => ⟨F, ρ', fp, a, ho⟩
          | bk ρ' => exact ho
          | rt x => exact ho
def forL (t : Tg) (b : Loc → Tr Fl) : List PV → Loc → Tr Fl
  | [], ρ => .ok (.nx ρ)
  | x :: xs, ρ => match bindTg t x ρ with
    | none => .bad
    | some ρ' => (b ρ').bind (loopK (forL t b xs))
def forF (t : Tg) (mi : Loc → Tr (Bool × List PV)) (b : Loc → Tr Fl) : Loc → Tr Fl := fun ρ => (mi ρ).bind fun p => if p.1 then forL t b p.2 ρ else .bad
theorem ps_forX {tgt it : Expr} {ss : List Stmt} {mi : Loc → Tr (Bool × List PV)} {m : Loc → Tr Fl} {t : Tg} {p : Pos} (pl : plainB it = true) (ht : tgB (fun _ => true) N sc t tgt = true) (hi : PIX W k N sc tgt it mi) (hb : PBX W k N sc ss m) :
    PSX W k N sc (.For tgt it ss [] p) (forF t mi m) := fun X E x =>
  PS.imp (ps_for (g := gT X.K t) x.po x.c.calm (hi X E x.c) (pg_tg x.c.calm x.c.ndX x.c.N (fun y _ => x.fnA y) x.c.sc ht) (hb X E x) (plain_fold pl)) fun D σ H ⟨F0, H0, Fb, F, ρ, fp, a, h⟩ => by
    refine ⟨F, ρ, fp, a.e.g, a.env, Tr.W_imp (fun o ho => ?_) (Tr.W_bind.mp h)⟩
    cases o with
    | exn cc ns xs => exact ExP.ext a.e ho
    | bad => exact ho
    | ok q =>
      obtain ⟨b, xs⟩ := q
      cases b with
      | false => exact (show False from ho).elim
      | true =>
        intro F1 H1 J e1 src
        have ho : (forL t m xs ρ).W (PostS W E F0 H0 Fb D) := ho
        obtain ⟨G, Y, walk, hG, hY⟩ := src
        have lo1 : Same Fb F1 := fun b o q => e1.f b o (a.lo b o q)
        have sn : ∀ {F H : Hp}, Good W F H → Same F1 F → Same (sup W true F1 H1) (np W H) := fun g s a u q => g.np a u (s a u q)
        refine for_it walk (fun i σ H => ∃ F ρ fp, At W F0 H0 F1 F H σ ρ fp ∧ (forL t m (xs.drop i) ρ).W (PostS W E F0 H0 Fb D)) ⟨F1, ρ, fp, ⟨a.e.trans e1, a.env.ext e1, a.fr, fun _ _ q => q⟩, ho⟩ ?_ ?_ ?_
        · rintro i σ' H' _ ⟨F', ρ', fp', a', z⟩
          exact hG H' (sn a'.e.g a'.lo)
        · rintro i v σ' H' H'' hi ⟨F', ρ', fp', a', z⟩ y
          have hx : xs[i]? = some xs[i] := by simp [hi]
          obtain ⟨F2, e2, rx⟩ := hY F' H' i v H'' _ a'.e.g a'.lo (sn a'.e.g a'.lo) hx y
          rw [List.drop_eq_getElem_cons hi] at z
          simp only [forL] at z
          cases hb : bindTg t xs[i] ρ' with
          | none => rw [hb] at z; exact z.elim
          | some ρ2 =>
            rw [hb] at z
            dsimp only at z
            rw [x.c.K]
            refine gT_ok e2.g rx (a'.env.ext e2) hb fun σ2 fr en2 sr _ _ => ?_
            have a2 : At W F0 H0 F1 F2 H'' σ2 ρ2 fr := ⟨a'.e.trans e2, en2, fun b hb => a'.fr b (sr b hb), fun b o q => e2.f b o (a'.lo b o q)⟩
            have up : ∀ {F H σ ρ fp}, At W F0 H0 F1 F H σ ρ fp → At W F0 H0 Fb F H σ ρ fp := fun q => ⟨q.e, q.env, q.fr, fun b o z => q.lo b o (lo1 b o z)⟩
            refine ⟨F0, H0, F1, F2, ρ2, fr, a2, Tr.W_imp (fun o ho => ?_) (Tr.W_bind.mp z)⟩
            cases o with
            | exn cc ns xs => exact ho
            | bad => exact ho
            | ok f =>
              cases f with
              | nx ρ' => exact fun F H σ fp a => ⟨F, ρ', fp, a, ho⟩
              | ct ρ' => exact fun F H σ fp a => ⟨F, ρ', fp, a, ho⟩
              | bk ρ' => exact fun F H σ fp a => ho F H σ fp (up a)
              | rt x => exact ho
        · rintro σ' H' ⟨F', ρ', fp', a', z⟩
          rw [List.drop_length] at z
          exact z F' H' σ' fp' ⟨a'.e, a'.env, a'.fr, fun b o q => a'.lo b o (lo1 b o q)⟩
end
end FS

set_option Elab.async false
set_option linter.all false
set_option maxRecDepth 100000
set_option maxHeartbeats 8000000
namespace FS
open PySem PySem.Spec PyProof.Rows L2

section
variable {W : Wd} {F H : Hp}
theorem Ros.append : ∀ {vs ws : List V} {xs ys : List PV} {f g : List Addr}, Ros W F H vs xs f → Ros W F H ws ys g → (∀ a ∈ f, a ∉ g) → Ros W F H (vs ++ ws) (xs ++ ys) (f ++ g)
  | _, _, _, _, _, _, .nil, s, _ => s
  | _, _, _, _, _, g, .cons (f := f) (g := g') a t d, s, k => by
    rw [List.append_assoc]
    exact .cons a (t.append s fun b hb => k b (by simp [hb])) fun b hb hc => by
      rcases List.mem_append.mp hc with hc | hc
      · exact d b hb hc
      · exact k b (by simp [hb]) hc
theorem Ros.set : ∀ {vs : List V} {xs : List PV} {f : List Addr} {v : V} {y : PV} {g : List Addr} (j : Nat), Ros W F H vs xs f → Ro W F H v y g → (∀ a ∈ g, a ∉ f) → ∃ f', Ros W F H (vs.set j v) (xs.set j y) f' ∧ ∀ a ∈ f', a ∈ f ∨ a ∈ g
  | _, _, _, _, _, _, _, .nil, _, _ => ⟨[], .nil, fun _ h => by simp at h⟩
  | _, _, _, _, _, g, 0, .cons (f := f) (g := f2) a t d, r, k => ⟨g ++ f2, .cons r t (fun b hb hc => k b hb (by simp [hc])), fun b hb => by
      rcases List.mem_append.mp hb with hb | hb
      · exact .inr hb
      · exact .inl (by simp [hb])⟩
  | _, _, _, _, _, g, j + 1, .cons (f := f) (g := f2) a t d, r, k => by
    obtain ⟨f', h1, h2⟩ := Ros.set j t r (fun b hb hc => k b hb (by simp [hc]))
    refine ⟨f ++ f', .cons a h1 fun b hb hc => ?_, fun b hb => ?_⟩
    · rcases h2 b hc with z | z
      · exact d b hb z
      · exact k b z (by simp [hb])
    · rcases List.mem_append.mp hb with hb | hb
      · exact .inl (by simp [hb])
      · rcases h2 b hb with z | z
        · exact .inl (by simp [z])
        · exact .inr z
theorem Ro.lstI {v : V} {xs : List PV} {f : List Addr} (r : Ro W F H v (.lst true xs) f) : ∃ a vs f0, v = .ref a ∧ f = a :: f0 ∧ H a = some (.lst vs) ∧ F a = none ∧ a ≠ W.pen ∧ Ros W F H vs xs f0 ∧ a ∉ f0 := by
  cases r with
  | st r => have := r.st; cases this
  | lst h1 h2 h3 h4 h5 => exact ⟨_, _, _, rfl, rfl, h1, h2, h3, h4, h5⟩
theorem Rps.eraseIdx : ∀ {vs : List V} {xs : List PV} (i : Nat), Rps W F vs xs → Rps W F (vs.eraseIdx i) (xs.eraseIdx i)
  | _, _, _, .nil => .nil
  | _, _, 0, .cons _ t => t
  | _, _, i + 1, .cons h t => .cons h (t.eraseIdx i)
theorem Rps.dropLast {vs : List V} {xs : List PV} (r : Rps W F vs xs) : Rps W F vs.dropLast xs.dropLast := by
  rw [List.dropLast_eq_take, List.dropLast_eq_take, r.length]
  exact r.take _
end
section
variable {W : Wd} {k : Nat} {N : List Str} {sc : Scope} {E : XK}
/-- an object of a slot's own is written -/
theorem At.wr {F0 H0 Fb F H : Hp} {σ : L2.St} {ρ : Loc} {fp : List Addr} {i : Nat} {x' : PV} {v : V} {f g f' : List Addr} {b : Addr} {o : HO} (a : At W F0 H0 Fb F H σ ρ fp)
    (h1 : σ[i]? = some (some v)) (h3 : ∀ o, EnvR W F H (σ.set i o) (ρ.set i none) g) (h4 : ∀ a ∈ f, a ∉ g) (h5 : ∀ a, a ∈ fp ↔ a ∈ f ∨ a ∈ g) (hb : b ∈ f) (hF : F b = none) (hp : b ≠ W.pen)
    (r : Ro W F (upd H b o) v x' f') (hn : ∀ c ∈ f', c ∈ f ∨ (H0 c = none ∧ c ∉ fp)) : ∃ fq, At W F0 H0 Fb F (upd H b o) σ (ρ.set i (some x')) fq := by
  have hb0 : H0 b = none := a.fr b ((h5 b).mpr (.inl hb))
  have e2 := a.e.put (o := o) hb0 hF hp
  have en : EnvR W F (upd H b o) (σ.set i none) (ρ.set i none) g := (h3 none).carry (fun _ _ q => q) fun c hc => ⟨upd_ne fun z => h4 b hb (z ▸ hc), ((h3 none).own c hc).2.1⟩
  obtain ⟨fq, e3, s3⟩ := EnvR.put r i en (fun c hc hd => by
    rcases hn c hc with z | z
    · exact h4 c z hd
    · exact z.2 ((h5 c).mpr (.inr hd)))
  have es : (σ.set i none).set i (some v) = σ := by
    rw [List.set_set]
    exact set_self h1
  rw [es, List.set_set] at e3
  exact ⟨fq, e2, e3, fun c hc => by
    rcases s3 c hc with z | z
    · rcases hn c z with y | y
      · exact a.fr c ((h5 c).mpr (.inl y))
      · exact y.1
    · exact a.fr c ((h5 c).mpr (.inr z)), a.lo⟩
theorem CxF.vis {X : Cx} (c : CxF W k N sc E X) {x : Str} (h : visB sc x = true) : Vis X.env.scope x := c.c.vis h
theorem few_of {e : Expr} {env : Env} {pos : Pos} (h : plainB e = true) : ((backTo pos (starEach [e] env)).all (fun x => !x.1) && (backToKw pos (keywordEach [] env)).all (fun x => x.1.isSome)
      && decide ([e].length + ([] : List Keyword).length + (if ([] : List Keyword).isEmpty then 0 else 1) < 30)) = true := by
  rw [star_cons h]
  rfl
/-! ### append -/
def lstAt (i : Nat) (ρ : Loc) (k : List PV → Tr Fl) : Tr Fl := match ρ[i]? with
  | some (some (.lst true xs)) => k xs
  | _ => .bad
theorem lstAt_W {i : Nat} {ρ : Loc} {k : List PV → Tr Fl} {P : Out Fl → Prop} (hb : ¬ P .bad) (h : (lstAt i ρ k).W P) : ∃ xs, ρ[i]? = some (some (.lst true xs)) ∧ (k xs).W P := by
  unfold lstAt at h
  split at h
  · exact ⟨_, by assumption, h⟩
  · exact absurd h hb
def appF (i : Nat) (m : Loc → Tr Rv) : Loc → Tr Fl := fun ρ => lstAt i ρ fun xs => (m ρ).bind fun r => match mov r with
  | some y => if xs.length < 1000000 then .ok (.nx (ρ.set i (some (.lst true (xs ++ [y]))))) else .bad
  | none => .bad
theorem big_line : 1000000 < sizeLine := by rw [sizeLine_eq]; omega
theorem app_core {F0 H0 Fb F H : Hp} {σ : L2.St} {ρ : Loc} {fp : List Addr} {i : Nat} {xs : List PV} {v w : V} {y : PV} {fy : List Addr} (a : At W F0 H0 Fb F H σ ρ fp) (hr : ρ[i]? = some (some (.lst true xs))) (hv : σ[i]? = some (some v))
    (ry : Ro W F H w y fy) (ny : ∀ a ∈ fy, H0 a = none) (dy : ∀ a ∈ fy, a ∉ fp) : ∃ p vs, v = .ref p ∧ H p = some (.lst vs) ∧ vs.length = xs.length ∧ ∃ fq, At W F0 H0 Fb F (upd H p (.lst (vs ++ [w]))) σ (ρ.set i (some (.lst true (xs ++ [y])))) fq := by
  obtain ⟨v', f, g, h1, h2, h3, h4, h5⟩ := a.env.split hr
  rw [hv] at h1
  cases h1
  obtain ⟨p, vs, f0, rfl, rfl, hp, hF, hn, rs, hnp⟩ := h2.lstI
  have npy : p ∉ fy := fun z => dy p z ((h5 p).mpr (.inl (by simp)))
  have dj : ∀ c ∈ f0, c ∉ fy := fun c hc z => dy c z ((h5 c).mpr (.inl (by simp [hc])))
  refine ⟨p, vs, rfl, hp, rs.length, ?_⟩
  refine a.wr hv h3 h4 h5 (b := p) (by simp) hF hn (f' := p :: (f0 ++ fy)) (.lst upd_same hF hn ?_ (by simp [hnp, npy])) fun c hc => ?_
  · have c1 : Ros W F (upd H p (.lst (vs ++ [w]))) vs xs f0 := rs.carry (fun _ _ q => q) fun c hc => ⟨upd_ne fun z => hnp (z ▸ hc), (rs.own c hc).2.1⟩
    have c2 : Ro W F (upd H p (.lst (vs ++ [w]))) w y fy := ry.carry (fun _ _ q => q) fun c hc => ⟨upd_ne fun z => npy (z ▸ hc), (ry.own c hc).2.1⟩
    have := c1.append (.cons c2 .nil (fun _ _ z => by simp at z)) (g := fy ++ []) (by simpa using dj)
    simpa using this
  · simp only [List.mem_cons, List.mem_append] at hc
    rcases hc with rfl | hc | hc
    · exact .inl (by simp)
    · exact .inl (by simp [hc])
    · exact .inr ⟨ny c hc, dy c hc⟩
theorem ps_appX {e : Expr} {m : Loc → Tr Rv} {i : Nat} {x : Str} {p p1 p2 p3 : Pos} (hi : N[i]? = some x) (hv : visB sc x = true) (hm : nmB x = true) (pl : plainB e = true) (hl : (p2.endLine == p3.line) = true) (he : PX W k N sc e m) :
    PSX W k N sc (.Expr (.Call (.Attribute (.Name x p1) "append" p2) [e] [] p3) p) (appF i m) := fun X E c =>
  PS.imp (ps_expr (pe_bm PySem.F.plainAttrs_list PySem.F.slot_list_append PySem.F.type_list_append mt_append (pe_var (c.at_ hi) (c.vis hv) (nmB_ok hm).1 (nmB_ok hm).2.1) (pa_cons (he X E c.c) pa_nil (star_cons pl)) rfl (few_of pl) hl (star_cons pl) (by rfl)) (by rfl))
    fun D σ H ⟨F0, H0, Fb, F, ρ, fp, a, h⟩ => by
      obtain ⟨xs, hr, h⟩ := lstAt_W pBad h
      obtain ⟨v, f, g, h1, h2, h3, h4, h5⟩ := a.env.split hr
      obtain ⟨q, vs, f0, rfl, rfl, hp, hF, hn, rs, hnp⟩ := h2.lstI
      refine ⟨_, h1, .inl ⟨rfl, _, SqL.of hp⟩, ?_⟩
      refine (a.stepN pExn pBad h).imp fun w H1 ⟨r, F1, a1, e1, qr, z⟩ => ?_
      cases hm : mov r with
      | none => rw [hm] at z; exact (show False from z).elim
      | some y =>
        rw [hm] at z
        dsimp only at z
        by_cases hz : xs.length < 1000000
        · rw [if_pos hz] at z
          obtain ⟨fy, ry, ny, dy⟩ := qr.mov a.fo hm
          obtain ⟨q', vs', eq, hp', hl', fq, a2⟩ := app_core a1 hr h1 ry (fun b hb => a.e.free (ny b hb)) dy
          cases eq
          exact ⟨q, vs', w, rfl, rfl, hp', by rw [hl']; exact Nat.lt_trans hz big_line, z F1 _ σ fq a2⟩
        · rw [if_neg hz] at z
          exact (show False from z).elim
/-! ### extend -/
def extF (i : Nat) (m : Loc → Tr Rv) : Loc → Tr Fl := fun ρ => lstAt i ρ fun xs => (m ρ).bind fun r => match shal r with
  | some (.lst _ ys) => if xs.length + ys.length < 1000000 then .ok (.nx (ρ.set i (some (.lst true (xs ++ ys))))) else .bad
  | _ => .bad
theorem ps_extX {e : Expr} {m : Loc → Tr Rv} {i : Nat} {x : Str} {p p1 p2 p3 : Pos} (hi : N[i]? = some x) (hv : visB sc x = true) (hm : nmB x = true) (pl : plainB e = true) (hl : (p2.endLine == p3.line) = true) (he : PX W k N sc e m) :
    PSX W k N sc (.Expr (.Call (.Attribute (.Name x p1) "extend" p2) [e] [] p3) p) (extF i m) := fun X E c =>
  PS.imp (ps_expr (pe_bm PySem.F.plainAttrs_list PySem.F.slot_list_extend PySem.F.type_list_extend mt_extend (pe_var (c.at_ hi) (c.vis hv) (nmB_ok hm).1 (nmB_ok hm).2.1) (pa_cons (he X E c.c) pa_nil (star_cons pl)) rfl (few_of pl) hl (star_cons pl) (by rfl)) (by rfl))
    fun D σ H ⟨F0, H0, Fb, F, ρ, fp, a, h⟩ => by
      obtain ⟨xs, hr, h⟩ := lstAt_W pBad h
      obtain ⟨v, f, g, h1, h2, h3, h4, h5⟩ := a.env.split hr
      obtain ⟨q, vs, f0, rfl, rfl, hp, hF, hn, rs, hnp⟩ := h2.lstI
      refine ⟨_, h1, .inl ⟨rfl, _, SqL.of hp⟩, ?_⟩
      refine (a.stepG pExn pBad h).imp fun w H1 ⟨r, F1, a1, e1, qr, z⟩ => ?_
      cases hs : shal r with
      | none => rw [hs] at z; exact (show False from z).elim
      | some u =>
        rw [hs] at z
        cases u with
        | lst o ys =>
          dsimp only at z
          by_cases hz : xs.length + ys.length < 1000000
          · rw [if_pos hz] at z
            obtain ⟨b, ws, rfl, hb, nb, rw_⟩ := qr.sh a1.e.g hs
            obtain ⟨v', f', g', k1, k2, k3, k4, k5⟩ := a1.env.split hr
            rw [h1] at k1
            cases k1
            obtain ⟨q', vs', f1, eq, rfl, hp', hF', hn', rs', hnp'⟩ := k2.lstI
            cases eq
            have rs2 : Ros W F1 (upd H1 q (.lst (vs' ++ ws))) vs' xs f1 := rs'.carry (fun _ _ q => q) fun c hc => ⟨upd_ne fun z => hnp' (z ▸ hc), (rs'.own c hc).2.1⟩
            have rr : Ros W F1 (upd H1 q (.lst (vs' ++ ws))) (vs' ++ ws) (xs ++ ys) (f1 ++ []) := rs2.append rw_.ros (fun _ _ z => by simp at z)
            rw [List.append_nil] at rr
            obtain ⟨fq, a2⟩ := a1.wr h1 k3 k4 k5 (b := q) (by simp) hF' hn' (f' := q :: f1) (.lst upd_same hF' hn' rr hnp') fun c hc => .inl hc
            refine ⟨q, b, vs', ws, rfl, rfl, hp', hb, ?_, z F1 _ σ fq a2⟩
            rw [rs'.length, rw_.length]
            exact Nat.le_of_lt (Nat.lt_trans hz big_line)
          · rw [if_neg hz] at z
            exact (show False from z).elim
        | _ => exact (show False from z).elim
/-! ### pop -/
def spopF (i j : Nat) : Loc → Tr Fl := fun ρ => lstAt j ρ fun xs => match xs.getLast? with
  | some y => if xs.all PV.st then .ok (.nx ((ρ.set j (some (.lst true xs.dropLast))).set i (some y))) else .bad
  | none => .bad
theorem ps_spopX {i j : Nat} {x y : Str} {p p1 p2 p3 p4 : Pos} (hi : N[i]? = some y) (hl : storeB (fun _ => true) sc y = true) (hj : N[j]? = some x) (hv : visB sc x = true) (hm : nmB x = true) (hl2 : (p2.endLine == p3.line) = true) :
    PSX W k N sc (.Assign [.Name y p4] (.Call (.Attribute (.Name x p1) "pop" p2) [] [] p3) p) (spopF i j) := fun X E c =>
  PS.imp (ps_set c.c.ndX (c.at_ hi) (storeB_ok (X := X) hl (fun y _ => c.fnA y) c.c.sc).1 (pe_bm0 PySem.F.plainAttrs_list PySem.F.slot_list_pop PySem.F.type_list_pop mt_pop (pe_var (c.at_ hj) (c.vis hv) (nmB_ok hm).1 (nmB_ok hm).2.1) rfl hl2) (by rfl) (storeB_ok (X := X) hl (fun y _ => c.fnA y) c.c.sc).2)
    fun D σ H ⟨F0, H0, Fb, F, ρ, fp, a, h⟩ => by
      obtain ⟨xs, hr, h⟩ := lstAt_W pBad h
      obtain ⟨v, f, g, h1, h2, h3, h4, h5⟩ := a.env.split hr
      obtain ⟨q, vs, f0, rfl, rfl, hp, hF, hn, rs, hnp⟩ := h2.lstI
      refine ⟨_, h1, .inl ⟨rfl, _, SqL.of hp⟩, ?_⟩
      cases hg : xs.getLast? with
      | none => rw [hg] at h; exact (show False from h).elim
      | some y =>
        rw [hg] at h
        dsimp only at h
        by_cases hz : xs.all PV.st = true
        · rw [if_pos hz] at h
          have rp := rs.stable hz
          have hg' : xs[xs.length - 1]? = some y := by rw [← List.getLast?_eq_getElem?]; exact hg
          obtain ⟨w, hw, rw_⟩ := rp.get hg'
          have rr := (rp.dropLast.ros (H := upd H q (.lst vs.dropLast)))
          obtain ⟨fq, a2⟩ := a.wr h1 h3 h4 h5 (b := q) (by simp) hF hn (f' := [q]) (.lst upd_same hF hn rr (by simp)) fun c hc => .inl (by simp at hc; simp [hc])
          obtain ⟨fr, a3⟩ := a2.put (.st rw_) (fun _ z => by simp at z) (fun _ z => by simp at z) i
          exact ⟨q, vs, w, rfl, rfl, hp, by rw [rs.length]; exact hw, h F _ _ fr a3⟩
        · rw [if_neg hz] at h
          exact (show False from h).elim
/-- i.append(j.pop(e)) -/
def apopF (i j : Nat) (m : Loc → Tr Rv) : Loc → Tr Fl := fun ρ => lstAt i ρ fun xs => lstAt j ρ fun ys => if i ≠ j ∧ ys.all PV.st = true ∧ xs.length < 1000000 ∧ ys.length < 1000000 then (m ρ).bind fun r => match r.2 with
  | .int t => if 0 ≤ t ∧ t < ys.length then (match ys[t.toNat]? with
    | some y => .ok (.nx ((ρ.set j (some (.lst true (ys.eraseIdx t.toNat)))).set i (some (.lst true (xs ++ [y])))))
    | none => .bad) else .bad
  | _ => .bad else .bad
theorem ps_apopX {e : Expr} {m : Loc → Tr Rv} {i j : Nat} {x y : Str} {p p1 p2 p3 p4 p5 p6 : Pos} (hi : N[i]? = some y) (hv : visB sc y = true) (hm : nmB y = true) (hj : N[j]? = some x) (hv2 : visB sc x = true) (hm2 : nmB x = true) (pl : plainB e = true)
    (hl : (p2.endLine == p3.line) = true) (hl2 : (p5.endLine == p6.line) = true) (he : PX W k N sc e m) :
    PSX W k N sc (.Expr (.Call (.Attribute (.Name y p1) "append" p2) [.Call (.Attribute (.Name x p4) "pop" p5) [e] [] p6] [] p3) p) (apopF i j m) := fun X E c =>
  PS.imp (ps_expr (pe_bm PySem.F.plainAttrs_list PySem.F.slot_list_append PySem.F.type_list_append mt_append (pe_var (c.at_ hi) (c.vis hv) (nmB_ok hm).1 (nmB_ok hm).2.1)
      (pa_cons (pe_bm PySem.F.plainAttrs_list PySem.F.slot_list_pop PySem.F.type_list_pop mt_popAt (pe_var (c.at_ hj) (c.vis hv2) (nmB_ok hm2).1 (nmB_ok hm2).2.1) (pa_cons (he X E c.c) pa_nil (star_cons pl)) rfl (few_of pl) hl2 (star_cons pl) (by rfl)) pa_nil (star_cons rfl)) rfl (few_of rfl) hl (star_cons rfl) (by rfl)) (by rfl))
    fun D σ H ⟨F0, H0, Fb, F, ρ, fp, a, h⟩ => by
      obtain ⟨xs, hr, h⟩ := lstAt_W pBad h
      obtain ⟨ys, hr2, h⟩ := lstAt_W pBad h
      by_cases hc : i ≠ j ∧ ys.all PV.st = true ∧ xs.length < 1000000 ∧ ys.length < 1000000
      · rw [if_pos hc] at h
        obtain ⟨hij, hst, hz, hz2⟩ := hc
        obtain ⟨v, f, g, h1, h2, h3, h4, h5⟩ := a.env.split hr
        obtain ⟨q, vs, f0, rfl, rfl, hp, hF, hn, rs, hnp⟩ := h2.lstI
        obtain ⟨v2, f2, g2, k1, k2, k3, k4, k5⟩ := a.env.split hr2
        obtain ⟨q2, vs2, f02, rfl, rfl, hp2, hF2, hn2, rs2, hnp2⟩ := k2.lstI
        refine ⟨_, h1, .inl ⟨rfl, _, SqL.of hp⟩, ?_⟩
        refine ⟨_, k1, .inl ⟨rfl, _, SqL.of hp2⟩, ?_⟩
        refine (a.stepG pExn pBad h).imp fun w H1 ⟨r, F1, a1, e1, qr, z⟩ => ?_
        obtain ⟨b, u⟩ := r
        cases u with
        | int t =>
          have := qr.plain rfl rfl
          cases this
          dsimp only at z
          by_cases ht : 0 ≤ t ∧ t < ys.length
          · rw [if_pos ht] at z
            cases hy : ys[t.toNat]? with
            | none => rw [hy] at z; exact (show False from z).elim
            | some y =>
              rw [hy] at z
              obtain ⟨v', f', g', l1, l2, l3, l4, l5⟩ := a1.env.split hr2
              rw [k1] at l1
              cases l1
              obtain ⟨q', vs', f1, eq, rfl, hp', hF', hn', rs', hnp'⟩ := l2.lstI
              cases eq
              have rp := rs'.stable hst
              obtain ⟨w, hw, rw_⟩ := rp.get hy
              have rr := ((rp.eraseIdx t.toNat).ros (H := upd H1 q2 (.lst (vs'.eraseIdx t.toNat))))
              obtain ⟨fq, a2⟩ := a1.wr k1 l3 l4 l5 (b := q2) (by simp) hF' hn' (f' := [q2]) (.lst upd_same hF' hn' rr (by simp)) fun c hc => .inl (by simp at hc; simp [hc])
              have hr3 : (ρ.set j (some (.lst true (ys.eraseIdx t.toNat))))[i]? = some (some (.lst true xs)) := by
                rw [List.getElem?_set_ne (Ne.symm hij)]
                exact hr
              obtain ⟨q3, vs3, eq3, hp3, hl3, fr, a3⟩ := app_core a2 hr3 h1 (.st rw_) (fun _ z => by simp at z) (fun _ z => by simp at z)
              cases eq3
              have hlen : vs'.length = ys.length := rs'.length
              have hsl := big_line
              have hs63 : sizeLine < 2 ^ 63 := by rw [sizeLine_eq]; decide
              refine ⟨q2, vs', t, t.toNat, w, rfl, rfl, hp', by omega, by omega, seqIndex_of ht.1 (by rw [hlen]; exact ht.2), hw, ?_⟩
              exact ⟨q, vs3, w, rfl, rfl, hp3, by rw [hl3]; omega, z F1 _ σ fr a3⟩
          · rw [if_neg ht] at z
            exact (show False from z).elim
        | _ => exact (show False from z).elim
      · rw [if_neg hc] at h
        exact (show False from h).elim
end
end FS

set_option Elab.async false
set_option linter.all false
set_option maxRecDepth 100000
set_option maxHeartbeats 8000000
namespace FS
open PySem PySem.Spec PyProof.Rows L2

section
variable {W : Wd} {k : Nat} {N : List Str} {sc : Scope} {E : XK}
/-! ### a, b = x, y -/
theorem Ros.two {F H : Hp} {vs : List V} {x y : PV} {f : List Addr} (r : Ros W F H vs [x, y] f) : ∃ v w g h, vs = [v, w] ∧ Ro W F H v x g ∧ Ro W F H w y h ∧ (∀ a ∈ g, a ∉ h) ∧ (∀ a ∈ g, a ∈ f) ∧ ∀ a ∈ h, a ∈ f := by
  cases r with
  | cons a t d => cases t with
    | cons b t2 d2 =>
      cases t2
      exact ⟨_, _, _, _, rfl, a, b, fun c hc z => d c hc (by simp [z]), fun c hc => by simp [hc], fun c hc => by simp [hc]⟩
theorem Ros.three {F H : Hp} {vs : List V} {x y z : PV} {f : List Addr} (r : Ros W F H vs [x, y, z] f) : ∃ u v w g h i, vs = [u, v, w] ∧ Ro W F H u x g ∧ Ro W F H v y h ∧ Ro W F H w z i ∧ (∀ a ∈ g, a ∉ h) ∧ (∀ a ∈ g, a ∉ i) ∧ (∀ a ∈ h, a ∉ i) ∧ (∀ a ∈ g, a ∈ f) ∧ (∀ a ∈ h, a ∈ f) ∧ ∀ a ∈ i, a ∈ f := by
  cases r with
  | cons a t d =>
    obtain ⟨v, w, g, h, rfl, r1, r2, d1, s1, s2⟩ := t.two
    exact ⟨_, v, w, _, g, h, rfl, a, r1, r2, fun c hc z => d c hc (s1 c z), fun c hc z => d c hc (s2 c z), d1, fun c hc => by simp [hc], fun c hc => by simp [s1 c hc], fun c hc => by simp [s2 c hc]⟩
theorem At.stepA {F0 H0 Fb F1 H1 : Hp} {σ : L2.St} {ρ : Loc} {fp : List Addr} {D : L2.Ends} {m : Loc → Tr (List Rv)} {K : List Rv → Tr Fl} (a : At W F0 H0 Fb F1 H1 σ ρ fp) (h : ((m ρ).bind K).W (PostS W E F0 H0 Fb D)) :
    tA W E m σ H1 fun vs H2 => ∃ rs F2 g, At W F0 H0 Fb F2 H2 σ ρ fp ∧ Ext W F1 H1 F2 H2 ∧ RRs W fp F2 H2 H1 rs vs g ∧ (K rs).W (PostS W E F0 H0 Fb D) := by
  refine ⟨F1, ρ, fp, a.e.g, a.env, Tr.W_imp (fun o ho => ?_) (Tr.W_bind.mp h)⟩
  cases o with
  | ok r => exact fun F' H' v f e' q => ⟨r, F', f, a.ext e', e', q, ho⟩
  | exn c ns xs => exact ExP.ext a.e ho
  | bad => exact ho
theorem At.put' {F0 H0 Fb F H : Hp} {σ : L2.St} {ρ : Loc} {fp : List Addr} {v : V} {y : PV} {f : List Addr} (a : At W F0 H0 Fb F H σ ρ fp) (r : Ro W F H v y f) (n : ∀ a ∈ f, H0 a = none) (d : ∀ a ∈ f, a ∉ fp) (i : Nat) :
    ∃ fq, At W F0 H0 Fb F H (σ.set i (some v)) (ρ.set i (some y)) fq ∧ ∀ a ∈ fq, a ∈ f ∨ a ∈ fp := by
  obtain ⟨fq, e2, s2⟩ := EnvR.put r i a.env d
  exact ⟨fq, ⟨a.e, e2, fun b hb => by
    rcases s2 b hb with z | z
    · exact n b z
    · exact a.fr b z, a.lo⟩, s2⟩
def par2F (i j : Nat) (m : Loc → Tr (List Rv)) : Loc → Tr Fl := fun ρ => (m ρ).bind fun rs => match movs rs with
  | some [x, y] => .ok (.nx ((ρ.set i (some x)).set j (some y)))
  | _ => .bad
def par3F (i j l : Nat) (m : Loc → Tr (List Rv)) : Loc → Tr Fl := fun ρ => (m ρ).bind fun rs => match movs rs with
  | some [x, y, z] => .ok (.nx (((ρ.set i (some x)).set j (some y)).set l (some z)))
  | _ => .bad
def notC : Expr → Bool
  | .Constant .. => false
  | .Name .. => false
  | .UnaryOp .. => false
  | .BinOp .. => false
  | .Subscript .. => false
  | .Tuple .. => false
  | _ => true
/-- the values are not all constants -/
def notCs (vs : List Expr) : Bool := !vs.all (foldedForSure 8) && !vs.all (constantsAlone 8)
theorem any_plain : ∀ {vs : List Expr}, vs.all plainB = true → (vs.any fun | .Starred .. => true | _ => false) = false
  | [], _ => rfl
  | v :: vs, h => by
    simp only [List.all_cons, Bool.and_eq_true] at h
    rw [List.any_cons, any_plain h.2]
    cases v <;> first | rfl | cases h.1
theorem swst2 {x y : Str} {px py pt pt2 : Pos} {kt k2} {a b : Expr} {env : Env} (hk : env.scope.kind = .function) (hx : env.scope.names.lookup x = some .local) (hy : env.scope.names.lookup y = some .local) (hl : (py.line == px.line) = true) (hne : x ≠ y) (pl : [a, b].all plainB = true) (nc : notCs [a, b] = true) :
    swappedStores [.Tuple [.Name x px, .Name y py] kt pt] (.Tuple [a, b] k2 pt2) env = pure (some [x, y]) := by
  have kx : env.kindOf x = some .local := hx
  have ky : env.kindOf y = some .local := hy
  have hb : env.blockKind = .function := by unfold Env.blockKind; rw [hk]; rfl
  unfold notCs at nc
  simp only [Bool.and_eq_true, Bool.not_eq_true'] at nc
  have pl2 : plainB a = true ∧ plainB b = true := by simpa using pl
  have hl' : py.line = px.line := by simpa using hl
  have ex : (x == y) = false := by simpa using hne
  have ey : (y == x) = false := by simpa using (Ne.symm hne)
  unfold swappedStores
  simp only [hb, kx, ky, nc.1, nc.2, List.filterMap, Expr.pos, List.head?, hl', List.length, List.eraseDups, List.eraseDupsBy, List.eraseDupsBy.loop, ex, ey]
  simp [hb, kx, ky, nc.1, nc.2, hl', List.eraseDups, List.eraseDupsBy, List.eraseDupsBy.loop, ex, ey, List.any, Expr.pos]
  intro h
  rcases h with h | h
  · cases a <;> first | (cases h; done) | (have := pl2.1; cases this; done)
  · cases b <;> first | (cases h; done) | (have := pl2.2; cases this; done)
theorem swst3 {x y z : Str} {px py pz pt pt2 : Pos} {kt k2} {a b c : Expr} {env : Env} (hk : env.scope.kind = .function) (hx : env.scope.names.lookup x = some .local) (hy : env.scope.names.lookup y = some .local) (hz : env.scope.names.lookup z = some .local) (hl : (py.line == px.line) = true) (hl2 : (pz.line == px.line) = true)
    (h1 : x ≠ y) (h2 : x ≠ z) (h3 : y ≠ z) (pl : [a, b, c].all plainB = true) (nc : notCs [a, b, c] = true) :
    swappedStores [.Tuple [.Name x px, .Name y py, .Name z pz] kt pt] (.Tuple [a, b, c] k2 pt2) env = pure (some [x, y, z]) := by
  have kx : env.kindOf x = some .local := hx
  have ky : env.kindOf y = some .local := hy
  have kz : env.kindOf z = some .local := hz
  have hb : env.blockKind = .function := by unfold Env.blockKind; rw [hk]; rfl
  unfold notCs at nc
  simp only [Bool.and_eq_true, Bool.not_eq_true'] at nc
  have pl2 : plainB a = true ∧ plainB b = true ∧ plainB c = true := by simpa using pl
  have hl' : py.line = px.line := by simpa using hl
  have hl2' : pz.line = px.line := by simpa using hl2
  have e1 : (x == y) = false := by simpa using h1
  have e2 : (y == x) = false := by simpa using (Ne.symm h1)
  have e3 : (x == z) = false := by simpa using h2
  have e4 : (z == x) = false := by simpa using (Ne.symm h2)
  have e5 : (y == z) = false := by simpa using h3
  have e6 : (z == y) = false := by simpa using (Ne.symm h3)
  unfold swappedStores
  simp only [hb, kx, ky, kz, nc.1, nc.2, List.filterMap, Expr.pos, List.head?, hl', hl2', List.length, List.eraseDups, List.eraseDupsBy, List.eraseDupsBy.loop, e1, e2, e3, e4, e5, e6]
  simp [hb, kx, ky, kz, nc.1, nc.2, hl', hl2', List.eraseDups, List.eraseDupsBy, List.eraseDupsBy.loop, e1, e2, e3, e4, e5, e6, List.any, Expr.pos]
  intro h
  rcases h with h | h | h
  · cases a <;> first | (cases h; done) | (have := pl2.1; cases this; done)
  · cases b <;> first | (cases h; done) | (have := pl2.2.1; cases this; done)
  · cases c <;> first | (cases h; done) | (have := pl2.2.2; cases this; done)
theorem ps_par2X {a b : Expr} {m : Loc → Tr (List Rv)} {i j : Nat} {x y : Str} {px py pt pt2 p : Pos} {kt k2} (hk : sc.kind = .function) (hi : N[i]? = some x) (hj : N[j]? = some y) (hij : i ≠ j) (hx : locB sc x = true) (hy : locB sc y = true) (hl : (py.line == px.line) = true)
    (pl : [a, b].all plainB = true) (nc : notCs [a, b] = true) (he : PAX W k N sc [a, b] m) : PSX W k N sc (.Assign [.Tuple [.Name x px, .Name y py] kt pt] (.Tuple [a, b] k2 pt2) p) (par2F i j m) := fun X E c => by
  have hne : x ≠ y := fun z => hij (((List.getElem?_inj (by rw [List.getElem?_eq_some_iff] at hi; exact hi.1) c.c.nd).mp (by rw [hi, hj, z])))
  refine PS.imp (ps_par c.c.calm c.c.ndX (c.at_ hi) (c.at_ hj) hij (c.loc hx) (c.loc hy) (he X E c.c) (swst2 (by rw [c.c.sc]; exact hk) (c.loc hx) (c.loc hy) hl hne pl nc) (by rfl)) fun D σ H ⟨F0, H0, Fb, F, ρ, fp, a, h⟩ => ?_
  refine (a.stepA h).imp fun vs H1 ⟨rs, F1, g, a1, e1, q, z⟩ => ?_
  cases hm : movs rs with
  | none => rw [hm] at z; exact (show False from z).elim
  | some l =>
    rw [hm] at z
    have ro := movs_ok q hm
    cases l with
    | nil => exact (show False from z).elim
    | cons x1 l => cases l with
      | nil => exact (show False from z).elim
      | cons x2 l => cases l with
        | cons _ _ => exact (show False from z).elim
        | nil =>
          obtain ⟨v, w, f1, f2, rfl, r1, r2, d, s1, s2⟩ := ro.two
          have nf : ∀ c ∈ g, H0 c = none ∧ c ∉ fp := fun c hc => by
            have := (q.fresh c hc).1
            exact ⟨a.e.free this, fun z => by
              obtain ⟨o, ho⟩ := a.fo c z
              rw [this] at ho
              cases ho⟩
          obtain ⟨fq, a2, sq⟩ := a1.put' r1 (fun c hc => (nf c (s1 c hc)).1) (fun c hc => (nf c (s1 c hc)).2) i
          obtain ⟨fr, a3⟩ := a2.put r2 (fun c hc => (nf c (s2 c hc)).1) (fun c hc z => by
            rcases sq c z with y | y
            · exact d c y hc
            · exact (nf c (s2 c hc)).2 y) j
          exact ⟨v, w, rfl, z F1 H1 _ fr a3⟩
theorem ps_par3X {a b b2 : Expr} {m : Loc → Tr (List Rv)} {i j l : Nat} {x y w : Str} {px py pw pt pt2 p : Pos} {kt k2} (hk : sc.kind = .function) (hi : N[i]? = some x) (hj : N[j]? = some y) (hl' : N[l]? = some w) (hij : i ≠ j) (hil : i ≠ l) (hjl : j ≠ l) (hx : locB sc x = true) (hy : locB sc y = true) (hw : locB sc w = true)
    (hl : (py.line == px.line) = true) (hl2 : (pw.line == px.line) = true)
    (pl : [a, b, b2].all plainB = true) (nc : notCs [a, b, b2] = true) (he : PAX W k N sc [a, b, b2] m) : PSX W k N sc (.Assign [.Tuple [.Name x px, .Name y py, .Name w pw] kt pt] (.Tuple [a, b, b2] k2 pt2) p) (par3F i j l m) := fun X E c => by
  have inj : ∀ {i j : Nat} {x y : Str}, N[i]? = some x → N[j]? = some y → i ≠ j → x ≠ y := fun {i j x y} hi hj hij z => hij (((List.getElem?_inj (by rw [List.getElem?_eq_some_iff] at hi; exact hi.1) c.c.nd).mp (by rw [hi, hj, z])))
  refine PS.imp (ps_par3 c.c.calm c.c.ndX (c.at_ hi) (c.at_ hj) (c.at_ hl') hij hil hjl (c.loc hx) (c.loc hy) (c.loc hw) (he X E c.c) (swst3 (by rw [c.c.sc]; exact hk) (c.loc hx) (c.loc hy) (c.loc hw) hl hl2 (inj hi hj hij) (inj hi hl' hil) (inj hj hl' hjl) pl nc) (by rfl)) fun D σ H ⟨F0, H0, Fb, F, ρ, fp, a, h⟩ => ?_
  refine (a.stepA h).imp fun vs H1 ⟨rs, F1, g, a1, e1, q, z⟩ => ?_
  cases hm : movs rs with
  | none => rw [hm] at z; exact (show False from z).elim
  | some l =>
    rw [hm] at z
    have ro := movs_ok q hm
    cases l with
    | nil => exact (show False from z).elim
    | cons x1 l => cases l with
      | nil => exact (show False from z).elim
      | cons x2 l => cases l with
        | nil => exact (show False from z).elim
        | cons x3 l => cases l with
          | cons _ _ => exact (show False from z).elim
          | nil =>
            obtain ⟨u, v, w, f1, f2, f3, rfl, r1, r2, r3, d12, d13, d23, s1, s2, s3⟩ := ro.three
            have nf : ∀ c ∈ g, H0 c = none ∧ c ∉ fp := fun c hc => by
              have := (q.fresh c hc).1
              exact ⟨a.e.free this, fun z => by
                obtain ⟨o, ho⟩ := a.fo c z
                rw [this] at ho
                cases ho⟩
            obtain ⟨fq, a2, sq⟩ := a1.put' r1 (fun c hc => (nf c (s1 c hc)).1) (fun c hc => (nf c (s1 c hc)).2) i
            obtain ⟨fr, a3, sr⟩ := a2.put' r2 (fun c hc => (nf c (s2 c hc)).1) (fun c hc z => by
              rcases sq c z with y | y
              · exact d12 c y hc
              · exact (nf c (s2 c hc)).2 y) j
            obtain ⟨ft, a4⟩ := a3.put r3 (fun c hc => (nf c (s3 c hc)).1) (fun c hc z => by
              rcases sr c z with y | y
              · exact d23 c y hc
              · rcases sq c y with y | y
                · exact d13 c y hc
                · exact (nf c (s3 c hc)).2 y) _
            exact ⟨u, v, w, rfl, z F1 H1 _ ft a4⟩
/-! ### a, b = x, y where not all names are locals -/
def notLoc (sc : Scope) : Expr → Bool
  | .Name x _ => !locB sc x
  | _ => true
theorem swst_cell {ts vs : List Expr} {kt k2} {pt p2 : Pos} {env : Env} (h : ts.any (notLoc env.scope) = true) : swappedStores [.Tuple ts kt pt] (.Tuple vs k2 p2) env = pure none := by
  have key : ∀ line : Nat, ∀ ts : List Expr, ts.any (notLoc env.scope) = true → (ts.filterMap fun
    | .Name id pos => if env.kindOf id == some .local && pos.line == line then some id else none
    | _ => none).length < ts.length := by
    intro line ts
    induction ts with
    | nil => intro h; cases h
    | cons t ts ih =>
      intro h
      rw [List.any_cons, Bool.or_eq_true] at h
      have le : (ts.filterMap fun
        | .Name id pos => if env.kindOf id == some .local && pos.line == line then some id else none
        | _ => none).length ≤ ts.length := List.length_filterMap_le _ _
      rcases h with h | h
      · rw [List.filterMap_cons]
        split
        · exact Nat.lt_succ_of_le le
        · rename_i b e
          exfalso
          cases t with
          | Name x p =>
            have hx : locB env.scope x = false := by simpa [notLoc] using h
            have : (env.kindOf x == some .local) = false := by
              have e2 : env.kindOf x = env.scope.names.lookup x := rfl
              rw [e2]
              unfold locB at hx
              split at hx
              · cases hx
              · rename_i q
                simpa using q
            simp [this] at e
          | _ => simp at e
      · rw [List.filterMap_cons]
        split
        · exact Nat.lt_succ_of_lt (ih h)
        · exact Nat.succ_lt_succ (ih h)
  have k2 := key ((ts.head?.map (·.pos.line)).getD 0) ts h
  unfold swappedStores
  dsimp only
  split
  · rfl
  split
  · rfl
  rw [if_pos]
  rw [Bool.or_eq_true]
  left
  exact bne_iff_ne.mpr (Nat.ne_of_lt k2)
theorem gNamesO {F0 : Hp} {H0 Fb F H : Hp} : ∀ {is : List Nat} {vs : List V} {xs : List PV} {σ : L2.St} {ρ ρ' : Loc} {fp g : List Addr} {Q : L2.St → Hp → Prop}, Ros W F H vs xs g → At W F0 H0 Fb F H σ ρ fp → (∀ a ∈ g, H0 a = none ∧ a ∉ fp) → bindTs is xs ρ = some ρ' →
    (∀ σ' fq, At W F0 H0 Fb F H σ' ρ' fq → Q σ' H) → gNames is vs σ H Q
  | [], _, _, σ, ρ, ρ', fp, _, Q, .nil, a, n, h, k => by
    cases h
    exact ⟨rfl, k σ fp a⟩
  | [], _, _, _, _, _, _, _, _, .cons _ _ _, _, _, h, _ => by cases h
  | _ :: _, _, _, _, _, _, _, _, _, .nil, _, _, h, _ => by cases h
  | i :: is, _, _, σ, ρ, ρ', fp, _, Q, .cons (v := v) (x := x) (f := f) (g := g) r t d, a, n, h, k => by
    obtain ⟨fq, a2, s2⟩ := a.put' r (fun b hb => (n b (by simp [hb])).1) (fun b hb => (n b (by simp [hb])).2) i
    refine ⟨_, _, rfl, ?_⟩
    refine gNamesO t a2 (fun b hb => ⟨(n b (by simp [hb])).1, fun z => ?_⟩) h k
    rcases s2 b z with y | y
    · exact d b y hb
    · exact (n b (by simp [hb])).2 y
def parNF (is : List Nat) (m : Loc → Tr (List Rv)) : Loc → Tr Fl := fun ρ => (m ρ).bind fun rs => match movs rs with
  | some xs => if xs.length ≤ 100000 then (match bindTs is xs ρ with
    | some ρ' => .ok (.nx ρ')
    | none => .bad) else .bad
  | none => .bad
theorem bindTs_len : ∀ {is : List Nat} {xs : List PV} {ρ ρ' : Loc}, bindTs is xs ρ = some ρ' → xs.length = is.length := by
  intro is
  induction is with
  | nil => intro xs ρ ρ' h; cases xs <;> first | rfl | cases h
  | cons i is ih => intro xs ρ ρ' h; cases xs with
    | nil => cases h
    | cons x xs => simp [ih (show bindTs is xs (ρ.set i (some x)) = some ρ' from h)]
theorem ps_parNX {ts vs : List Expr} {m : Loc → Tr (List Rv)} {is : List Nat} {kt k2} {pt p2 p : Pos} (ht : namesB (fun _ => true) N sc is ts = true) (hn : ts.any (notLoc sc) = true) (he : PAX W k N sc vs m) :
    PSX W k N sc (.Assign [.Tuple ts kt pt] (.Tuple vs k2 p2) p) (parNF is m) := fun X E c => by
  refine PS.imp (ps_asg (pe_tup (he X E c.c)) (pg_tg (t := .t is) c.c.calm c.c.ndX c.c.N (fun y _ => c.fnA y) c.c.sc (show tgB (fun _ => true) N sc (.t is) (.Tuple ts kt pt) = true from ht)) (by rfl) (swst_cell (by rw [c.c.sc]; exact hn)) (by rfl)) fun D σ H ⟨F0, H0, Fb, F, ρ, fp, a, h⟩ => ?_
  refine (a.stepA h).imp fun vs H1 ⟨rs, F1, g, a1, e1, q, z⟩ => ?_
  cases hm : movs rs with
  | none => rw [hm] at z; exact (show False from z).elim
  | some xs =>
    rw [hm] at z
    dsimp only at z
    by_cases hl : xs.length ≤ 100000
    · rw [if_pos hl] at z
      have ro := movs_ok q hm
      cases hb : bindTs is xs ρ with
      | none => rw [hb] at z; exact (show False from z).elim
      | some ρ' =>
        rw [hb] at z
        refine ⟨by rw [ro.length]; exact Nat.le_trans hl (by decide), fun l hl => ?_⟩
        have e2 := a1.e.g.laid (o := .tup vs) hl
        have a2 := a1.ext e2
        have ng : ∀ b ∈ g, H0 b = none ∧ b ∉ fp := fun b hb => by
          have := (q.fresh b hb).1
          exact ⟨a.e.free this, fun z => by
            obtain ⟨o, ho⟩ := a.fo b z
            rw [this] at ho
            cases ho⟩
        refine ⟨l, vs, rfl, .inl (.inl upd_same), by rw [ro.length, bindTs_len hb], gNamesO (ro.ext e2) a2 ng hb fun σ' fq a3 => z F1 _ σ' fq a3⟩
    · rw [if_neg hl] at z
      exact (show False from z).elim
end
end FS

set_option Elab.async false
set_option linter.all false
set_option maxRecDepth 100000
set_option maxHeartbeats 8000000
namespace FS
open PySem PySem.Spec PyProof.Rows L2

section
variable {W : Wd} {k : Nat} {N : List Str} {sc : Scope} {E : XK}
theorem sws_no {t e : Expr} (h : noLc e = true) {l : Nat} {env : Env} : swapsWithSole [t] e l env = pure false := by
  show swapsWith e (some t) l env = pure false
  exact sw_no h _ _ _
def intV (r : Rv) : Option Int := match r.2 with
  | .int i => some i
  | _ => none
theorem RF.intV {fe : List Addr} {F H : Hp} {r : Rv} {v : V} {i : Int} (q : RF W fe F H r v) (h : FS.intV r = some i) : v = .int i := by
  obtain ⟨b, x⟩ := r
  cases x with
  | int j =>
    have e : j = i := by simpa [FS.intV] using h
    subst e
    have := q.plain rfl rfl
    cases this
    rfl
  | _ => simp [FS.intV] at h
/-- list[i] = value -/
def putF (i : Nat) (mk mv : Loc → Tr Rv) : Loc → Tr Fl := fun ρ => lstAt i ρ fun xs => (mv ρ).bind fun r => (mk ρ).bind fun q => match mov r, intV q with
  | some y, some t => (match ixN xs.length t with
    | some j => .ok (.nx (ρ.set i (some (.lst true (xs.set j y)))))
    | none => .bad)
  | _, _ => .bad
theorem ps_putX {e kx : Expr} {me mk : Loc → Tr Rv} {i : Nat} {x : Str} {p p1 p2 : Pos} (hi : N[i]? = some x) (hv : visB sc x = true) (hm : nmB x = true) (h1 : noLc e = true) (h2 : noTup e = true) (pl : plainB kx = true) (he : PX W k N sc e me) (hk : PX W k N sc kx mk) :
    PSX W k N sc (.Assign [.Subscript (.Name x p1) kx p2] e p) (putF i mk me) := fun X E c =>
  PS.imp (ps_asg (he X E c.c) (pg_sub (pe_var (c.at_ hi) (c.vis hv) (nmB_ok hm).1 (nmB_ok hm).2.1) (hk X E c.c) set_list (by intro v; cases kx <;> first | rfl | cases pl)) (sws_no h1) (swst_no h2 _ _) (by rfl))
    fun D σ H ⟨F0, H0, Fb, F, ρ, fp, a, h⟩ => by
      obtain ⟨xs, hr, h⟩ := lstAt_W pBad h
      refine (a.stepN pExn pBad h).imp fun w H1 ⟨r, F1, a1, e1, qr, z⟩ => ?_
      obtain ⟨v, f, g, h1, h2, h3, h4, h5⟩ := a1.env.split hr
      obtain ⟨q, vs, f0, rfl, rfl, hp, hF, hn, rs, hnp⟩ := h2.lstI
      refine ⟨_, h1, ?_⟩
      refine (a1.stepG pExn pBad z).imp fun w2 H2 ⟨r2, F2, a2, e2, q2, z2⟩ => ?_
      cases hm : mov r with
      | none => rw [hm] at z2; exact (show False from z2).elim
      | some y =>
        cases ht : intV r2 with
        | none => rw [hm, ht] at z2; exact (show False from z2).elim
        | some t =>
          rw [hm, ht] at z2
          dsimp only at z2
          cases hj : ixN xs.length t with
          | none => rw [hj] at z2; exact (show False from z2).elim
          | some j =>
            rw [hj] at z2
            have := q2.intV ht
            subst this
            obtain ⟨fy, ry, ny, dy⟩ := qr.mov a.fo hm
            obtain ⟨v', f', g', l1, l2, l3, l4, l5⟩ := a2.env.split hr
            rw [h1] at l1
            cases l1
            obtain ⟨q', vs', f1, eq, rfl, hp', hF', hn', rs', hnp'⟩ := l2.lstI
            cases eq
            have npy : q ∉ fy := fun z => dy q z ((l5 q).mpr (.inl (by simp)))
            have c1 : Ros W F2 (upd H2 q (.lst (vs'.set j w))) vs' xs f1 := rs'.carry (fun _ _ q => q) fun c hc => ⟨upd_ne fun z => hnp' (z ▸ hc), (rs'.own c hc).2.1⟩
            have ry2 := ry.ext e2
            have c2 : Ro W F2 (upd H2 q (.lst (vs'.set j w))) w y fy := ry2.carry (fun _ _ q => q) fun c hc => ⟨upd_ne fun z => npy (z ▸ hc), (ry2.own c hc).2.1⟩
            obtain ⟨f2, c3, s3⟩ := c1.set j c2 fun c hc z => dy c hc ((l5 c).mpr (.inl (by simp [z])))
            obtain ⟨fq, a3⟩ := a2.wr h1 l3 l4 l5 (b := q) (by simp) hF' hn' (f' := q :: f2) (.lst upd_same hF' hn' c3 fun z => by
              rcases s3 q z with y | y
              · exact hnp' y
              · exact npy y) fun c hc => by
                rcases List.mem_cons.mp hc with rfl | hc
                · exact .inl (by simp)
                · rcases s3 c hc with y | y
                  · exact .inl (by simp [y])
                  · exact .inr ⟨a.e.free (ny c y), dy c y⟩
            exact ⟨q, vs', t, j, rfl, rfl, hp', by rw [rs'.length]; exact hj, z2 F2 _ σ fq a3⟩
/-- list[i][k] = a stable value -/
def rowAt (xs : List PV) (q : Rv) (k : Nat → List PV → Tr Fl) : Tr Fl := match intV q with
  | some t => (match ixN xs.length t with
    | some j => (match xs[j]? with
      | some (.lst true ys) => k j ys
      | _ => .bad)
    | none => .bad)
  | none => .bad
theorem rowAt_W {xs : List PV} {q : Rv} {k : Nat → List PV → Tr Fl} {P : Out Fl → Prop} (hb : ¬ P .bad) (h : (rowAt xs q k).W P) : ∃ t j ys, intV q = some t ∧ ixN xs.length t = some j ∧ xs[j]? = some (.lst true ys) ∧ (k j ys).W P := by
  unfold rowAt at h
  split at h
  · split at h
    · split at h
      · exact ⟨_, _, _, by assumption, by assumption, by assumption, h⟩
      · exact absurd h hb
    · exact absurd h hb
  · exact absurd h hb
def put2F (i : Nat) (mk mj mv : Loc → Tr Rv) : Loc → Tr Fl := fun ρ => lstAt i ρ fun xs => (mv ρ).bind fun r => (mk ρ).bind fun q => rowAt xs q fun j ys => (mj ρ).bind fun q2 => match take r, intV q2 with
  | some y, some u => (match ixN ys.length u with
    | some l => .ok (.nx (ρ.set i (some (.lst true (xs.set j (.lst true (ys.set l y)))))))
    | none => .bad)
  | _, _ => .bad
/-- an item of a list of one's own, apart from the others -/
theorem Ros.item {F H : Hp} : ∀ {vs : List V} {xs : List PV} {f : List Addr} {j : Nat} {x : PV}, Ros W F H vs xs f → xs[j]? = some x →
    ∃ v g, vs[j]? = some v ∧ Ro W F H v x g ∧ (∀ a ∈ g, a ∈ f) ∧ ∀ (F' H' : Hp) (w : V) (y : PV) (g' : List Addr), Same F F' → (∀ a ∈ f, a ∉ g → H' a = H a ∧ F' a = none) → Ro W F' H' w y g' → (∀ a ∈ g', a ∈ g ∨ a ∉ f) → ∃ f', Ros W F' H' (vs.set j w) (xs.set j y) f' ∧ ∀ a ∈ f', a ∈ f ∨ a ∈ g'
  | _, _, _, _, _, .nil, e => by simp at e
  | _, _, _, 0, _, .cons (f := f) (g := g) r t d, e => by
    simp at e
    subst e
    refine ⟨_, f, rfl, r, fun a h => by simp [h], fun F' H' w y g' s k r' n => ⟨g' ++ g, .cons r' (t.carry s fun a ha => k a (by simp [ha]) fun z => d a z ha) fun a ha hb => ?_, fun a ha => ?_⟩⟩
    · rcases n a ha with z | z
      · exact d a z hb
      · exact z (by simp [hb])
    · rcases List.mem_append.mp ha with ha | ha
      · exact .inr ha
      · exact .inl (by simp [ha])
  | _, _, _, j + 1, x, .cons (f := f) (g := g) r t d, e => by
    obtain ⟨v, g0, h1, h2, h3, h4⟩ := Ros.item (j := j) (x := x) t (by simpa using e)
    refine ⟨v, g0, by simpa using h1, h2, fun a h => by simp [h3 a h], fun F' H' w y g' s k r' n => ?_⟩
    obtain ⟨f', k1, k2⟩ := h4 F' H' w y g' s (fun a ha hb => k a (by simp [ha]) hb) r' (fun a ha => by
      rcases n a ha with z | z
      · exact .inl z
      · exact .inr fun y => z (by simp [y]))
    have r2 : Ro W F' H' _ _ f := r.carry s fun a ha => k a (by simp [ha]) fun z => d a ha (h3 a z)
    refine ⟨f ++ f', .cons r2 k1 fun a ha hb => ?_, fun a ha => ?_⟩
    · rcases k2 a hb with z | z
      · exact d a ha z
      · rcases n a z with y | y
        · exact d a ha (h3 a y)
        · exact y (by simp [ha])
    · rcases List.mem_append.mp ha with ha | ha
      · exact .inl (by simp [ha])
      · rcases k2 a ha with z | z
        · exact .inl (by simp [z])
        · exact .inr z
theorem ps_put2X {e kx jx : Expr} {me mk mj : Loc → Tr Rv} {i : Nat} {x : Str} {p p1 p2 p3 : Pos} (hi : N[i]? = some x) (hv : visB sc x = true) (hm : nmB x = true) (h1 : noLc e = true) (h2 : noTup e = true) (pl : plainB kx = true) (pl2 : plainB jx = true) (he : PX W k N sc e me) (hk : PX W k N sc kx mk) (hj : PX W k N sc jx mj) :
    PSX W k N sc (.Assign [.Subscript (.Subscript (.Name x p1) kx p2) jx p3] e p) (put2F i mk mj me) := fun X E c =>
  PS.imp (ps_asg (he X E c.c) (pg_sub (pe_ix ix_list (pe_var (c.at_ hi) (c.vis hv) (nmB_ok hm).1 (nmB_ok hm).2.1) (hk X E c.c) (plain_ix pl)) (hj X E c.c) set_list (by intro v; cases jx <;> first | rfl | cases pl2)) (sws_no h1) (swst_no h2 _ _) (by rfl))
    fun D σ H ⟨F0, H0, Fb, F, ρ, fp, a, h⟩ => by
      obtain ⟨xs, hr, h⟩ := lstAt_W pBad h
      refine (a.stepG pExn pBad h).imp fun w H1 ⟨r, F1, a1, e1, qr, z⟩ => ?_
      obtain ⟨v, f, g, h1, h2, h3, h4, h5⟩ := a1.env.split hr
      obtain ⟨q, vs, f0, rfl, rfl, hp, hF, hn, rs, hnp⟩ := h2.lstI
      refine ⟨_, h1, ?_⟩
      refine (a1.stepG pExn pBad z).imp fun w2 H2 ⟨r2, F2, a2, e2, q2, z2⟩ => ?_
      obtain ⟨t, j, ys, ht, hj, hy, z3⟩ := rowAt_W pBad z2
      have := q2.intV ht
      subst this
      obtain ⟨v', f', g', l1, l2, l3, l4, l5⟩ := a2.env.split hr
      rw [h1] at l1
      cases l1
      obtain ⟨q', vs', f1, eq, rfl, hp', hF', hn', rs', hnp'⟩ := l2.lstI
      cases eq
      obtain ⟨u, gi, hu, ri, si, _⟩ := rs'.item hy
      obtain ⟨b, ws, f2, rfl, rfl, hb, hFb, hnb, rsb, hnpb⟩ := ri.lstI
      refine ⟨q, vs', t, .ref b, rfl, rfl, .inl (.inl hp'), by unfold atI; rw [rs'.length, hj]; exact hu, ?_⟩
      refine (a2.stepG pExn pBad z3).imp fun w3 H3 ⟨r3, F3, a3, e3, q3, z4⟩ => ?_
      cases hm : FS.take r with
      | none => rw [hm] at z4; exact (show False from z4).elim
      | some y =>
        cases ht2 : intV r3 with
        | none => rw [hm, ht2] at z4; exact (show False from z4).elim
        | some u2 =>
          rw [hm, ht2] at z4
          dsimp only at z4
          cases hl : ixN ys.length u2 with
          | none => rw [hl] at z4; exact (show False from z4).elim
          | some l =>
            rw [hl] at z4
            have := q3.intV ht2
            subst this
            have ry : Rp W F3 w y := ((qr.ext e2).ext e3).take hm
            obtain ⟨v3, f3, g3, m1, m2, m3, m4, m5⟩ := a3.env.split hr
            rw [h1] at m1
            cases m1
            obtain ⟨q3', vs3, f4, eq, rfl, hp3, hF3, hn3, rs3, hnp3⟩ := m2.lstI
            cases eq
            have hv3 : vs3 = vs' := by
              have := (e3.own hp' hF' hn').1
              rw [hp3, hp'] at this
              cases this
              rfl
            subst hv3
            obtain ⟨u', gi', hu', ri', si', ki⟩ := rs3.item hy
            rw [hu] at hu'
            cases hu'
            obtain ⟨b', ws', f5, eq, rfl, hb', hFb', hnb', rsb', hnpb'⟩ := ri'.lstI
            cases eq
            have nqb : q ≠ b := fun z => hnp3 (si' q (by rw [z]; simp))
            have c0 : Ros W F3 (upd H3 b (.lst (ws'.set l w))) ws' ys f5 := rsb'.carry (fun _ _ q => q) fun c hc => ⟨upd_ne fun z => hnpb' (z ▸ hc), (rsb'.own c hc).2.1⟩
            obtain ⟨f6, c1, s1⟩ := c0.set l (.st ry) (fun _ z => by simp at z)
            have s1' : ∀ c ∈ f6, c ∈ f5 := fun c hc => by
              rcases s1 c hc with z | z
              · exact z
              · simp at z
            have cb : Ro W F3 (upd H3 b (.lst (ws'.set l w))) (.ref b) (.lst true (ys.set l y)) (b :: f6) := .lst upd_same hFb' hnb' c1 fun z => hnpb' (s1' b z)
            obtain ⟨f7, c2, s2⟩ := ki F3 (upd H3 b (.lst (ws'.set l w))) (.ref b) (.lst true (ys.set l y)) (b :: f6) (fun _ _ q => q)
              (fun c hc hd => ⟨upd_ne fun z => hd (by rw [z]; simp), (rs3.own c hc).2.1⟩) cb (fun c hc => .inl (by
                rcases List.mem_cons.mp hc with rfl | hc
                · simp
                · simp [s1' c hc]))
            have s2' : ∀ c ∈ f7, c ∈ f4 := fun c hc => by
              rcases s2 c hc with z | z
              · exact z
              · rcases List.mem_cons.mp z with rfl | z
                · exact si' _ (by simp)
                · exact si' _ (by simp [s1' c z])
            have same : vs3.set j (.ref b) = vs3 := set_self hu
            rw [same] at c2
            have bf : b ∈ f4 := si' b (by simp)
            obtain ⟨fq, a4⟩ := a3.wr h1 m3 m4 m5 (b := b) (by simp [bf]) hFb' hnb' (f' := q :: f7) (.lst (by rw [upd_ne nqb]; exact hp3) hF3 hn3 c2 fun z => hnp3 (s2' q z)) fun c hc => by
              rcases List.mem_cons.mp hc with rfl | hc
              · exact .inl (by simp)
              · exact .inl (by simp [s2' c hc])
            exact ⟨b, ws', u2, l, rfl, rfl, hb', by rw [rsb'.length]; exact hl, z4 F3 _ σ fq a4⟩
/-! ### a dict's entry -/
theorem putK_ros {F H : Hp} {α : Type} [DecidableEq α] {kp : α → PV} (hk : ∀ a b, PV.keq (kp a) (kp b) = decide (a = b)) {kvs : List (α × V)} {xs : List PV} {f : List Addr} {key : α} {v : V} {y : PV} (r : Ros W F H (kvs.map (·.2)) xs f) (ry : Rp W F v y) :
    ∃ f', Ros W F H ((putK kvs key v).map (·.2)) (putP (kvs.map fun p => kp p.1) xs (kp key) y).2 f' ∧ (putK kvs key v).map (fun p => kp p.1) = (putP (kvs.map fun p => kp p.1) xs (kp key) y).1 ∧ ∀ a ∈ f', a ∈ f := by
  have hany : (kvs.map fun p => kp p.1).any (PV.keq · (kp key)) = kvs.any fun kv => decide (kv.1 = key) := by
    rw [List.any_map]
    congr 1
    funext p
    exact hk _ _
  unfold putP putK
  rw [hany]
  by_cases h : (kvs.any fun kv => decide (kv.1 = key)) = true
  · rw [if_pos h, if_pos h]
    clear h hany
    have key2 : ∀ {kvs : List (α × V)} {xs : List PV} {f : List Addr}, Ros W F H (kvs.map (·.2)) xs f → ∃ f', Ros W F H ((kvs.map fun kv => if kv.1 = key then (kv.1, v) else kv).map (·.2)) (putV (kvs.map fun p => kp p.1) xs (kp key) y) f' ∧ (kvs.map fun kv => if kv.1 = key then (kv.1, v) else kv).map (fun p => kp p.1) = kvs.map (fun p => kp p.1) ∧ ∀ a ∈ f', a ∈ f := by
      intro kvs
      induction kvs with
      | nil =>
        intro xs f r
        cases r
        exact ⟨[], .nil, rfl, fun _ z => z⟩
      | cons p kvs ih =>
        intro xs f r
        cases r with
        | cons a t d =>
          obtain ⟨f', h1, h2, h3⟩ := ih t
          simp only [List.map_cons, putV, hk]
          by_cases e : p.1 = key
          · rw [if_pos e, if_pos (by simpa using e)]
            exact ⟨[] ++ f', .cons (.st ry) h1 (fun _ z => by simp at z), by simp only [h2], fun c hc => by simp [h3 c (by simpa using hc)]⟩
          · rw [if_neg e, if_neg (by simpa using e)]
            exact ⟨_, .cons a h1 fun c hc z => d c hc (h3 c z), by simp only [h2], fun c hc => by
              rcases List.mem_append.mp hc with hc | hc
              · simp [hc]
              · simp [h3 c hc]⟩
    exact key2 r
  · rw [if_neg h, if_neg h]
    refine ⟨f ++ [], ?_, by simp, fun a ha => by simpa using ha⟩
    rw [List.map_append]
    exact r.append (.cons (.st ry) .nil (fun _ z => by simp at z)) (fun _ _ z => by simp at z)
def dctAt (i : Nat) (ρ : Loc) (k : Bool → List PV → List PV → Tr Fl) : Tr Fl := match ρ[i]? with
  | some (some (.dct true T ks vs)) => k T ks vs
  | _ => .bad
theorem dctAt_W {i : Nat} {ρ : Loc} {k : Bool → List PV → List PV → Tr Fl} {P : Out Fl → Prop} (hb : ¬ P .bad) (h : (dctAt i ρ k).W P) : ∃ T ks vs, ρ[i]? = some (some (.dct true T ks vs)) ∧ (k T ks vs).W P := by
  unfold dctAt at h
  split at h
  · exact ⟨_, _, _, by assumption, h⟩
  · exact absurd h hb
/-- dict[key] = a stable value -/
def dputF (i : Nat) (mk mv : Loc → Tr Rv) : Loc → Tr Fl := fun ρ => dctAt i ρ fun T ks vs => (mv ρ).bind fun r => (mk ρ).bind fun q => match take r, take q with
  | some y, some x => if isKey T x = true ∧ ks.length < 1000000 then .ok (.nx (ρ.set i (some (.dct true T (putP ks vs x y).1 (putP ks vs x y).2)))) else .bad
  | _, _ => .bad
theorem ps_dputX {e kx : Expr} {me mk : Loc → Tr Rv} {i : Nat} {x : Str} {p p1 p2 : Pos} (hi : N[i]? = some x) (hv : visB sc x = true) (hm : nmB x = true) (h1 : noLc e = true) (he : PX W k N sc e me) (hk : PX W k N sc kx mk) :
    PSX W k N sc (.Assign [.Subscript (.Name x p1) kx p2] e p) (dputF i mk me) := fun X E c =>
  PS.imp (ps_dput (by have := c.c.hu; omega) (pe_var (c.at_ hi) (c.vis hv) (nmB_ok hm).1 (nmB_ok hm).2.1) (hk X E c.c) (he X E c.c) (sw_no h1 _ _ _))
    fun D σ H ⟨F0, H0, Fb, F, ρ, fp, a, h⟩ => by
      obtain ⟨T, ks, xs, hr, h⟩ := dctAt_W pBad h
      refine (a.stepG pExn pBad h).imp fun w H1 ⟨r, F1, a1, e1, qr, z⟩ => ?_
      obtain ⟨v, f, g1, g2, _⟩ := a1.env.get hr
      refine ⟨v, g1, ?_⟩
      refine (a1.stepG pExn pBad z).imp fun w2 H2 ⟨r2, F2, a2, e2, q2, z2⟩ => ?_
      cases hm : FS.take r with
      | none => rw [hm] at z2; exact (show False from z2).elim
      | some y =>
        cases ht : FS.take r2 with
        | none => rw [hm, ht] at z2; exact (show False from z2).elim
        | some kk =>
          rw [hm, ht] at z2
          dsimp only at z2
          by_cases hz : isKey T kk = true ∧ ks.length < 1000000
          · rw [if_pos hz] at z2
            have ry : Rp W F2 w y := (qr.ext e2).take hm
            have rk : Rp W F2 w2 kk := q2.take ht
            obtain ⟨v', f', g', l1, l2, l3, l4, l5⟩ := a2.env.split hr
            rw [g1] at l1
            cases l1
            cases l2 with
            | st q => have := q.st; cases this
            | @dK b kvs _ f1 hp hF hn rs hnp =>
              obtain ⟨key, hx⟩ : ∃ k, keyOf kk = some k := by
                have := hz.1
                cases kk <;> simp [isKey] at this <;> exact ⟨_, rfl⟩
              have q1 := rk.key hx
              have q3 := keyOf_kP hx
              subst q1 q3
              have rs2 : Ros W F2 (upd H2 b (.dK (putK kvs key w))) (kvs.map (·.2)) xs f1 := rs.carry (fun _ _ q => q) fun c hc => ⟨upd_ne fun z => hnp (z ▸ hc), (rs.own c hc).2.1⟩
              obtain ⟨f2, c1, c2, c3⟩ := putK_ros keq_kP (key := key) rs2 ry
              have cc := Ro.dK (W := W) (F := F2) (H := upd H2 b (.dK (putK kvs key w))) (a := b) upd_same hF hn c1 fun z => hnp (c3 b z)
              rw [c2] at cc
              obtain ⟨fq, a3⟩ := a2.wr g1 l3 l4 l5 (b := b) (by simp) hF hn cc fun c hc => by
                rcases List.mem_cons.mp hc with rfl | hc
                · exact .inl (by simp)
                · exact .inl (by simp [c3 c hc])
              exact ⟨b, _, rfl, DPut.k hp (by have := hz.2; rw [List.length_map] at this; exact Nat.lt_trans this big_line), z2 F2 _ σ fq a3⟩
            | @dT b kvs _ f1 hp hF hn rs hnp =>
              cases rk with
              | @tup d ws zs hb q =>
                obtain ⟨key, hx⟩ : ∃ k, keysOf zs = some k := Option.isSome_iff_exists.mp hz.1
                have q1 := q.keys hx
                have q3 := keysOf_kP hx
                subst q1 q3
                have rs2 : Ros W F2 (upd H2 b (.dT (putK kvs key w))) (kvs.map (·.2)) xs f1 := rs.carry (fun _ _ q => q) fun c hc => ⟨upd_ne fun z => hnp (z ▸ hc), (rs.own c hc).2.1⟩
                obtain ⟨f2, c1, c2, c3⟩ := putK_ros keq_tP (key := key) rs2 ry
                have cc := Ro.dT (W := W) (F := F2) (H := upd H2 b (.dT (putK kvs key w))) (a := b) upd_same hF hn c1 fun z => hnp (c3 b z)
                rw [c2] at cc
                obtain ⟨fq, a3⟩ := a2.wr g1 l3 l4 l5 (b := b) (by simp) hF hn cc fun c hc => by
                  rcases List.mem_cons.mp hc with rfl | hc
                  · exact .inl (by simp)
                  · exact .inl (by simp [c3 c hc])
                exact ⟨b, _, rfl, DPut.t hp (a2.e.g.sub _ _ hb) (by have := hz.2; rw [List.length_map] at this; exact Nat.lt_trans this big_line), z2 F2 _ σ fq a3⟩
              | _ => have := hz.1; simp [isKey] at this
          · rw [if_neg hz] at z2
            exact (show False from z2).elim
/-! ### name += int -/
def augF (i : Nat) (f : Int → Int → Int) (m : Loc → Tr Rv) : Loc → Tr Fl := fun ρ => match ρ[i]? with
  | some (some (.int n)) => (m ρ).bind fun r => (match intV r with
    | some t => .ok (.nx (ρ.set i (some (.int (f n t)))))
    | none => .bad)
  | _ => .bad
def augOp (neg : Bool) : Int → Int → Int := fun i j => if neg then i - j else i + j
theorem ps_augX {e : Expr} {m : Loc → Tr Rv} {i : Nat} {x : Str} {neg : Bool} {p p1 : Pos} (hi : N[i]? = some x) (hl : storeB (fun _ => true) sc x = true) (he : PX W k N sc e m) :
    PSX W k N sc (.AugAssign (.Name x p1) (if neg then .Sub else .Add) e p) (augF i (augOp neg) m) := fun X E c => by
  have ip : PIp X (if neg then .Sub else .Add) (ipI (augOp neg)) := by
    cases neg with
    | true => exact ip_sub
    | false => exact ip_add
  refine PS.imp (ps_aug c.c.ndX (c.at_ hi) (storeB_ok (X := X) hl (fun y _ => c.fnA y) c.c.sc).1 (he X E c.c) ip (storeB_ok (X := X) hl (fun y _ => c.fnA y) c.c.sc).2) fun D σ H ⟨F0, H0, Fb, F, ρ, fp, a, h⟩ => ?_
  unfold augF at h
  split at h
  · rename_i n hr
    obtain ⟨v, f, h1, h2, _⟩ := a.env.get hr
    have r0 := h2.stable rfl
    cases r0
    refine ⟨_, h1, (a.stepG pExn pBad h).imp fun w H1 ⟨r, F1, a1, e1, q, z⟩ => ?_⟩
    cases ht : intV r with
    | none => rw [ht] at z; exact (show False from z).elim
    | some t =>
      rw [ht] at z
      have := q.intV ht
      subst this
      obtain ⟨fq, a2⟩ := a1.put (v := .int (augOp neg n t)) (y := .int (augOp neg n t)) (.st .int) (fun _ z => by simp at z) (fun _ z => by simp at z) i
      exact ⟨n, t, rfl, rfl, z F1 H1 _ fq a2⟩
  · exact (show False from h).elim
end
end FS

set_option Elab.async false
set_option linter.all false
set_option maxRecDepth 100000
set_option maxHeartbeats 8000000
namespace FS
open PySem PySem.Spec PyProof.Rows L2

section
variable {W : Wd} {k : Nat} {N : List Str} {sc : Scope} {E : XK}
/-! ### __init__ of an error of one's own -/
/-- ns: the fields, the last one first -/
def spI (W : Wd) (C : Addr) (ns : List Str) : Sp := fun vs H Q E => ∃ a us, vs = .ref a :: us ∧ us.length = ns.length ∧ H a = some (exo a C none) ∧
  ∀ d H', H d = none → d ≠ a → H' a = some (exo a C (some d)) → H' d = some (exd d (ns.zip us.reverse)) → (∀ b, b ≠ a → b ≠ d → H' b = H b) → Q .non H'
def initS (N : List Str) (sc : Scope) (f : Str) (i : Nat) (st : Stmt) : Bool := match st with
  | .Assign [.Attribute (.Name s _) g _] (.Name x _) _ => decide (N[0]? = some s) && (visB sc s && (nmB s && (decide (f = g) && (decide (N[i]? = some x) && (visB sc x && nmB x)))))
  | _ => false
def initB (N : List Str) (sc : Scope) : List (Str × Nat) → List Stmt → Bool
  | [], ss => ss.isEmpty
  | (f, i) :: l, ss => (match ss with
    | s :: ss => initS N sc f i s && initB N sc l ss
    | [] => false)
def tInit (K : PySem.W.Frag) : List (Str × Nat) → TS
  | [] => tNext
  | (f, i) :: l => tSeq (tOst K f (tVar 0) (tVar i)) (tInit K l)
theorem ps_initS {X : Cx} (eN : X.N = N) (eS : X.env.scope = sc) {f : Str} {i : Nat} {st : Stmt} (h : initS N sc f i st = true) : PS X st (tOst X.K f (tVar 0) (tVar i)) := by
  unfold initS at h
  split at h
  · simp only [Bool.and_eq_true, decide_eq_true_eq] at h
    obtain ⟨h1, h2, h3, rfl, h4, h5, h6⟩ := h
    exact ps_ost (pe_var (by rw [eN]; exact h1) (by rw [eS]; exact visB_ok h2) (nmB_ok h3).1 (nmB_ok h3).2.1) (pe_var (by rw [eN]; exact h4) (by rw [eS]; exact visB_ok h5) (nmB_ok h6).1 (nmB_ok h6).2.1) (by rfl)
  · cases h
theorem pss_init {X : Cx} (eN : X.N = N) (eS : X.env.scope = sc) : ∀ {l : List (Str × Nat)} {ss : List Stmt}, initB N sc l ss = true → PSs X ss (tInit X.K l)
  | [], [], _ => pss_nil
  | [], _ :: _, h => by simp [initB] at h
  | (f, i) :: l, [], h => by simp [initB] at h
  | (f, i) :: l, s :: ss, h => by
    unfold initB at h
    have h := bt h
    exact pss_cons (ps_initS eN eS h.1) (pss_init eN eS h.2)
theorem tInit_ok {K : PySem.W.Frag} {C a d : Addr} (T : OexC K C) (da : d ≠ a) {D : L2.Ends} {σ : L2.St} (h0 : σ[0]? = some (some (.ref a))) : ∀ (L : List (Str × Nat × V)) (H : Hp) (fs : List (Str × V)), (∀ t ∈ L, PySem.W.findIn K (.ref C) t.1 = some none ∧ σ[t.2.1]? = some (some t.2.2)) →
    H a = some (exo a C (some d)) → H d = some (exd d fs) → fs.length + L.length ≤ 900 → (∀ H', H' a = some (exo a C (some d)) → H' d = some (exd d ((L.map fun t => (t.1, t.2.2)).reverse ++ fs)) → (∀ b, b ≠ a → b ≠ d → H' b = H b) → D.nx σ H') →
    tInit K (L.map fun t => (t.1, t.2.1)) D σ H
  | [], H, fs, _, ha, hd, _, q => q H ha hd fun _ _ _ => rfl
  | (f, i, y) :: L, H, fs, hL, ha, hd, hz, q => by
    obtain ⟨hf, hy⟩ := hL _ List.mem_cons_self
    refine ⟨y, hy, .ref a, h0, a, C, rfl, T, hf, .inr ⟨d, fs, ha, hd, by simp at hz; omega, ?_⟩⟩
    refine tInit_ok T da h0 L _ ((f, y) :: fs) (fun t ht => hL t (List.mem_cons_of_mem _ ht)) (by rw [upd_ne (Ne.symm da)]; exact ha) upd_same (by simp at hz ⊢; omega) fun H' h1 h2 h3 => ?_
    refine q H' h1 (by rw [h2]; simp) fun b hb1 hb2 => ?_
    rw [h3 b hb1 hb2, upd_ne hb2]
/-- its promise -/
theorem init_ok {K : PySem.W.Frag} {C : Addr} {f : Str} {i : Nat} {L : List (Str × Nat × V)} {y : V} {a : Addr} (T : OexC K C) {D : L2.Ends} {σ : L2.St} {H : Hp} (h0 : σ[0]? = some (some (.ref a))) (ha : H a = some (exo a C none)) (hn : L.length ≤ 800)
    (hL : ∀ t ∈ (f, i, y) :: L, PySem.W.findIn K (.ref C) t.1 = some none ∧ σ[t.2.1]? = some (some t.2.2))
    (q : ∀ d H', H d = none → d ≠ a → H' a = some (exo a C (some d)) → H' d = some (exd d (((f, i, y) :: L).map fun t => (t.1, t.2.2)).reverse) → (∀ b, b ≠ a → b ≠ d → H' b = H b) → D.nx σ H') :
    tInit K (((f, i, y) :: L).map fun t => (t.1, t.2.1)) D σ H := by
  obtain ⟨hf, hy⟩ := hL _ List.mem_cons_self
  refine ⟨y, hy, .ref a, h0, a, C, rfl, T, hf, .inl ⟨ha, fun d hd da => ?_⟩⟩
  refine tInit_ok T da h0 L _ [(f, y)] (fun t ht => hL t (List.mem_cons_of_mem _ ht)) upd_same (by rw [upd_ne da]; exact upd_same) (by simp; omega) fun H' h1 h2 h3 => ?_
  refine q d H' hd da h1 (by rw [h2]; simp) fun b hb1 hb2 => ?_
  rw [h3 b hb1 hb2, upd_ne hb1, upd_ne hb2]
structure RsS (W : Wd) (k : Nat) (c : Str) (ns : List Str) : Prop where
  ex : ∃ C fI fd ps j, W.mg c = some (.ref C) ∧ OexC W.K C ∧ PySem.W.findIn W.K (.ref C) "__init__" = some (some (.ref fI)) ∧ PySem.W.typeIn W.K (.ref fI) = some (.type "function") ∧
    FnOk W.P W.w W.K W.mg W.base (L2.CX W.P W.w) j fI fd ps (spI W C ns) ∧ j + 1 ≤ k ∧ Binds W.K fd ps [] ∧ ns.length ≤ 900
theorem Rps.reverse {F : Hp} : ∀ {vs : List V} {xs : List PV}, Rps W F vs xs → Rps W F vs.reverse xs.reverse
  | _, _, .nil => .nil
  | _, _, .cons h t => by
    rw [List.reverse_cons, List.reverse_cons]
    exact t.reverse.append (.cons h .nil)
def rsF (c : Str) (ns : List Str) (m : Loc → Tr (List Rv)) : Loc → Tr Fl := fun ρ => (m ρ).bind fun rs => match takes rs with
  | some xs => if xs.length = ns.length then .ret (.exn c ns xs.reverse) else .bad
  | none => .bad
theorem ps_rsX {a0 : Expr} {as : List Expr} {m : Loc → Tr (List Rv)} {c : Str} {ns : List Str} {p p2 pos : Pos} (R : RsS W k c ns) (g : glB sc c = true) (nm : nmB c = true) (pl : (a0 :: as).all plainB = true) (ha : PAX W k N sc (a0 :: as) m) :
    PSX W k N sc (.Raise (some (.Call (.Name c p) (a0 :: as) [] pos)) none p2) (rsF c ns m) := fun X E x => by
  obtain ⟨C, fI, fd, ps, j, h1, T, h2, h3, h4, h5, h6, h7⟩ := R.ex
  obtain ⟨p1, p2⟩ := pl_cons pl
  have F1 : FnOk X.prog X.w X.K X.mg X.base (L2.CX X.prog X.w) j fI fd ps (spI W C ns) := by
    rw [x.c.prog, x.c.w, x.c.K, x.c.mg, x.c.base]
    exact h4
  have mk := pmk_oex (X := X) (p := p) (pos := pos) (x := c) (dvs := []) (ds := []) (by rw [x.c.K]; exact T) (by rw [x.c.K]; exact h2) (by rw [x.c.K]; exact h3) F1 (x.c.room.mono h5) (by rw [x.c.K]; exact h6) .nil passL (x.c.gl g) (by rw [x.c.mg]; exact h1) (ha X E x.c) (nm1 nm) (star_cons p1) (star_all p2)
  refine PS.imp (ps_raise x.c.calm x.tk mk) fun D σ H ⟨F0, H0, Fb, F, ρ, fp, a, h⟩ => ?_
  refine (a.stepA h).imp fun vs H1 ⟨rs, F1, gg, a1, e1, q, z⟩ => ?_
  obtain ⟨F2, e2, q2⟩ := q.froze e1 a.fo
  cases ht : takes rs with
  | none => rw [ht] at z; exact (show False from z).elim
  | some xs =>
    rw [ht] at z
    dsimp only at z
    by_cases hl : xs.length = ns.length
    · rw [if_pos hl] at z
      have t := takes_ok q2 ht
      have tl := t.length
      refine ⟨by omega, fun b hb => ⟨b, vs, by rw [List.append_nil], by omega, upd_same, fun d H' hd db k1 k2 k3 => ⟨rfl, d, ns.zip vs.reverse, k1, k2, ?_, ?_⟩⟩⟩
      · rw [upd_ne db] at hd
        exact hd
      · have hd1 : H1 d = none := by
          rw [upd_ne db] at hd
          exact hd
        have eH : upd (del H' b) d (.xd (ns.zip vs.reverse)) = upd H1 d (.xd (ns.zip vs.reverse)) := by
          funext y
          by_cases y1 : y = d
          · rw [y1, upd_same, upd_same]
          · rw [upd_ne y1, upd_ne y1]
            by_cases y2 : y = b
            · rw [y2, del_same, hb]
            · rw [del_ne y2, k3 y y2 y1, upd_ne y2]
        rw [eH]
        have e := (a.e.trans e2)
        have el := e.g.laid (o := .xd (ns.zip vs.reverse)) hd1
        refine z F2 _ C (some d) (e.trans el) h1 ⟨e.free hd1, _, upd_same, ?_, ?_⟩
        · exact List.map_fst_zip (by rw [List.length_reverse]; omega)
        · rw [List.map_snd_zip (by rw [List.length_reverse]; omega)]
          exact t.reverse
    · rw [if_neg hl] at z
      exact (show False from z).elim
/-- an error class without an __init__ of its own -/
structure Rs0 (W : Wd) (c : Str) : Prop where
  ex : ∃ C, W.mg c = some (.ref C) ∧ PySem.W.excIn W.K C [.type "ValueError", .type "Exception", .type "BaseException", .type "object"] "ValueError.__new__" = true ∧ PySem.W.keepIn W.K (.ref C) = true ∧ PySem.W.subIn W.K (.ref C) (.type "BaseException") = some true ∧ PySem.W.typeIn W.K (.ref C) = some (.type "type")
theorem pmk_own0 {X : Cx} {C : Addr} {bmB : List Value} {B newId initId : String} {x : Str} {p pos : Pos} (F : ExcBaseFacts B newId initId bmB) (q : PySem.W.excIn X.K C bmB newId = true) (gC : X.mg x = some (.ref C)) (kC : PySem.W.keepIn X.K (.ref C) = true) (r : Raises X (.ref C)) (hg : Gl X x) (hdb : (x == ("__debug__" : Str)) = false) :
    PMk X (.Call (.Name x p) [] [] pos) (fun σ H Q => Q (.ref C) none H) := by
  intro pins s σ H Q I h
  refine wpAny_Call_Name_kw (ld_glob I hg gC (PySem.W.callWith_K0 I.kIn kC ?_) hdb)
  obtain ⟨bm, N, nm, qn, bs, hdct, sn, sub, ab, col, dd, k0, k1, k2, k3, k5, mN, hC, hN, hni, T⟩ := exc_obj I.kIn q
  exact wpAny_call_exc_subT F T hC hN hni (fun h' e hm => mk_of I hm r h (I.hok.gone hm.new)) (Nat.zero_le _)
theorem ps_rs0X {c : Str} {p p2 pos : Pos} (R : Rs0 W c) (g : glB sc c = true) (nm : nmB c = true) : PSX W k N sc (.Raise (some (.Call (.Name c p) [] [] pos)) none p2) (fun _ => .ret (.exn c [] [])) := fun X E x => by
  obtain ⟨C, h1, h2, h3, h4, h5⟩ := R.ex
  have mk := pmk_own0 (X := X) (p := p) (pos := pos) PySem.F.excBase_ValueError (by rw [x.c.K]; exact h2) (by rw [x.c.mg]; exact h1) (by rw [x.c.K]; exact h3) (raises_own (by rw [x.c.K]; exact h4) (by rw [x.c.K]; exact h5)) (x.c.gl g) (nm1 nm)
  refine PS.imp (ps_raise x.c.calm x.tk mk) fun D σ H ⟨F0, H0, Fb, F, ρ, fp, a, h⟩ => ?_
  exact h F H C none a.e h1 ⟨rfl, rfl⟩
end
end FS

set_option Elab.async false
set_option linter.all false
set_option maxRecDepth 100000
set_option maxHeartbeats 8000000
namespace FS
open PySem PySem.Spec PyProof.Rows L2

mutual
inductive S where
  | ex (e : Ex)
  | doc
  | pass
  | brk
  | cnt
  | ret (e : Ex)
  | retN
  | nev
  | set (i : Nat) (e : Ex)
  | unp (t : Tg) (e : Ex)
  | par2 (i j : Nat) (es : Exs)
  | par3 (i j l : Nat) (es : Exs)
  | parN (is : List Nat) (es : Exs)
  | ite (c : Te) (a b : Ss)
  | fr (t : Tg) (it : ItX) (b : Ss)
  | whl (n : Nat) (c : Te) (b : Ss)
  | app (i : Nat) (e : Ex)
  | ext (i : Nat) (e : Ex)
  | spop (i j : Nat)
  | apop (i j : Nat) (e : Ex)
  | put (i : Nat) (k e : Ex)
  | put2 (i : Nat) (k j e : Ex)
  | dput (i : Nat) (k e : Ex)
  | aug (i : Nat) (neg : Bool) (e : Ex)
  | rs (c : Str) (ns : List Str) (es : Exs)
  | rs0 (c : Str)
inductive Ss where
  | nil
  | cons (s : S) (ss : Ss)
  | frz (i : Nat) (ss : Ss)
end
mutual
def exS : S → Loc → Tr Fl
  | .ex e => fun ρ => (evE e ρ).bind fun _ => .ok (.nx ρ)
  | .doc => fun ρ => .ok (.nx ρ)
  | .pass => fun ρ => .ok (.nx ρ)
  | .brk => fun ρ => .ok (.bk ρ)
  | .cnt => fun ρ => .ok (.ct ρ)
  | .ret e => fun ρ => (evE e ρ).bind fun r => .ok (.rt r.2)
  | .retN => fun ρ => .ok (.rt .non)
  | .nev => fun ρ => .bad
  | .set i e => setF i (evE e)
  | .unp t e => unpF t (evE e)
  | .par2 i j es => par2F i j (evs es)
  | .par3 i j l es => par3F i j l (evs es)
  | .parN is es => parNF is (evs es)
  | .ite c a b => iteF (evT c) (exB a) (exB b)
  | .fr t it b => forF t (evI it) (exB b)
  | .whl n c b => whlF (evT c) (exB b) n
  | .app i e => appF i (evE e)
  | .ext i e => extF i (evE e)
  | .spop i j => spopF i j
  | .apop i j e => apopF i j (evE e)
  | .put i k e => putF i (evE k) (evE e)
  | .put2 i k j e => put2F i (evE k) (evE j) (evE e)
  | .dput i k e => dputF i (evE k) (evE e)
  | .aug i neg e => augF i (augOp neg) (evE e)
  | .rs c ns es => rsF c ns (evs es)
  | .rs0 c => fun _ => .ret (.exn c [] [])
def exB : Ss → Loc → Tr Fl
  | .nil => fun ρ => .ok (.nx ρ)
  | .cons s ss => sqF (exS s) (exB ss)
  | .frz i ss => sqF (frzL i) (exB ss)
end
def runF (l : Nat) (n : Nat) (ss : Ss) : Fn := fun xs => (exB ss (xs.map some ++ List.replicate (l - n) none)).bind fun f => match f with
  | .rt x => .ok x
  | .nx _ => .ok .non
  | _ => .bad
mutual
def ndS : S → List Need
  | .ex e => ndE e
  | .ret e => ndE e
  | .set _ e => ndE e
  | .unp _ e => ndE e
  | .par2 _ _ es => nds es
  | .par3 _ _ _ es => nds es
  | .parN _ es => nds es
  | .ite c a b => ndT c ++ (ndB a ++ ndB b)
  | .fr _ it b => ndI it ++ ndB b
  | .whl _ c b => ndT c ++ ndB b
  | .app _ e => ndE e
  | .ext _ e => ndE e
  | .apop _ _ e => ndE e
  | .put _ k e => ndE k ++ ndE e
  | .put2 _ k j e => ndE k ++ (ndE j ++ ndE e)
  | .dput _ k e => ndE k ++ ndE e
  | .aug _ _ e => ndE e
  | .rs _ _ es => nds es
  | .doc => []
  | .pass => []
  | .brk => []
  | .cnt => []
  | .retN => []
  | .nev => []
  | .spop _ _ => []
  | .rs0 _ => []
def ndB : Ss → List Need
  | .nil => []
  | .cons s ss => ndS s ++ ndB ss
  | .frz _ ss => ndB ss
end
mutual
def rsS : S → List (Str × List Str)
  | .ite _ a b => rsB a ++ rsB b
  | .fr _ _ b => rsB b
  | .whl _ _ b => rsB b
  | .rs c ns _ => [(c, ns)]
  | .rs0 c => [(c, [])]
  | _ => []
def rsB : Ss → List (Str × List Str)
  | .nil => []
  | .cons s ss => rsS s ++ rsB ss
  | .frz _ ss => rsB ss
end
def AllR (W : Wd) (k : Nat) : List (Str × List Str) → Prop
  | [] => True
  | p :: r => (match p.2 with | [] => Rs0 W p.1 | _ :: _ => RsS W k p.1 p.2) ∧ AllR W k r
theorem AllR.app {W : Wd} {k : Nat} : ∀ {a b : List (Str × List Str)}, AllR W k (a ++ b) → AllR W k a ∧ AllR W k b
  | [], b, h => ⟨trivial, h⟩
  | n :: a, b, ⟨h, t⟩ => ⟨⟨h, (AllR.app t).1⟩, (AllR.app t).2⟩
def isComp : Ex → Bool
  | .comp .. => true
  | _ => false
def swB (y : Str) (py : Pos) : Expr → Bool
  | .ListComp _ _ scope pos => swapB y py pos scope
  | _ => false
def anyB : Str → Bool := fun _ => true
def mB (N : List Str) (sc : Scope) (i : Nat) (x : Str) : Bool := decide (N[i]? = some x) && (visB sc x && nmB x)
mutual
def chkS (N : List Str) (sc : Scope) : S → Stmt → Bool
  | .ex e, x => (match x with | .Expr y _ => noLc y && chkE N sc e y | _ => false)
  | .doc, x => (match x with | .Expr (.Constant (.str _) _ _) _ => true | _ => false)
  | .pass, x => (match x with | .Pass _ => true | _ => false)
  | .brk, x => (match x with | .Break _ => true | _ => false)
  | .cnt, x => (match x with | .Continue _ => true | _ => false)
  | .ret e, x => (match x with | .Return (some y) _ => chkE N sc e y | _ => false)
  | .retN, x => (match x with | .Return none _ => true | _ => false)
  | .nev, _ => true
  | .set i e, x => (match x with
    | .Assign [.Name y p2] ex _ => decide (N[i]? = some y) && (chkE N sc e ex && ((noLc ex && storeB anyB sc y) || (cellB sc y || (isComp e && (locB sc y && (swB y p2 ex && decide (sc.kind = .function)))))))
    | _ => false)
  | .unp t e, x => (match x with | .Assign [tg] ex _ => tgB anyB N sc t tg && (isTupE tg && (noLc ex && (noTup ex && chkE N sc e ex))) | _ => false)
  | .par2 i j es, x => (match x with
    | .Assign [.Tuple [.Name x px, .Name y py] _ _] (.Tuple [a, b] _ _) _ => decide (sc.kind = .function) && (decide (N[i]? = some x) && (decide (N[j]? = some y) && (decide (i ≠ j) && (locB sc x && (locB sc y && ((py.line == px.line) && ([a, b].all plainB && (notCs [a, b] && chks N sc es [a, b]))))))))
    | _ => false)
  | .par3 i j l es, x => (match x with
    | .Assign [.Tuple [.Name x px, .Name y py, .Name z pz] _ _] (.Tuple [a, b, c] _ _) _ => decide (sc.kind = .function) && (decide (N[i]? = some x) && (decide (N[j]? = some y) && (decide (N[l]? = some z) && (decide (i ≠ j) && (decide (i ≠ l) && (decide (j ≠ l) && (locB sc x && (locB sc y && (locB sc z && ((py.line == px.line) && ((pz.line == px.line) && ([a, b, c].all plainB && (notCs [a, b, c] && chks N sc es [a, b, c])))))))))))))
    | _ => false)
  | .parN is es, x => (match x with | .Assign [.Tuple ts _ _] (.Tuple vs _ _) _ => namesB anyB N sc is ts && (ts.any (notLoc sc) && chks N sc es vs) | _ => false)
  | .ite c a b, x => (match x with | .If t p q _ => chkT N sc c t && (chkB N sc a p && chkB N sc b q) | _ => false)
  | .fr t it b, x => (match x with | .For tg i body [] _ => plainB i && (tgB anyB N sc t tg && ((!needT it || isTupE tg) && (chkI N sc tg it i && chkB N sc b body))) | _ => false)
  | .whl _ c b, x => (match x with | .While t body [] _ => chkT N sc c t && chkB N sc b body | _ => false)
  | .app i e, x => (match x with | .Expr (.Call (.Attribute (.Name y _) m p2) [a] [] p3) _ => decide (m = "append") && (mB N sc i y && (plainB a && ((p2.endLine == p3.line) && chkE N sc e a))) | _ => false)
  | .ext i e, x => (match x with | .Expr (.Call (.Attribute (.Name y _) m p2) [a] [] p3) _ => decide (m = "extend") && (mB N sc i y && (plainB a && ((p2.endLine == p3.line) && chkE N sc e a))) | _ => false)
  | .spop i j, x => (match x with | .Assign [.Name y _] (.Call (.Attribute (.Name z _) m p2) [] [] p3) _ => decide (m = "pop") && (decide (N[i]? = some y) && (storeB anyB sc y && (mB N sc j z && (p2.endLine == p3.line)))) | _ => false)
  | .apop i j e, x => (match x with | .Expr (.Call (.Attribute (.Name y _) m p2) [.Call (.Attribute (.Name z _) m2 p5) [a] [] p6] [] p3) _ => decide (m = "append") && (decide (m2 = "pop") && (mB N sc i y && (mB N sc j z && (plainB a && ((p2.endLine == p3.line) && ((p5.endLine == p6.line) && chkE N sc e a)))))) | _ => false)
  | .put i k e, x => (match x with | .Assign [.Subscript (.Name y _) kx _] ex _ => mB N sc i y && (noLc ex && (noTup ex && (plainB kx && (chkE N sc e ex && chkE N sc k kx)))) | _ => false)
  | .put2 i k j e, x => (match x with | .Assign [.Subscript (.Subscript (.Name y _) kx _) jx _] ex _ => mB N sc i y && (noLc ex && (noTup ex && (plainB kx && (plainB jx && (chkE N sc e ex && (chkE N sc k kx && chkE N sc j jx)))))) | _ => false)
  | .dput i k e, x => (match x with | .Assign [.Subscript (.Name y _) kx _] ex _ => mB N sc i y && (noLc ex && (chkE N sc e ex && chkE N sc k kx)) | _ => false)
  | .aug i neg e, x => (match x with | .AugAssign (.Name y _) op ex _ => decide (op = if neg then .Sub else .Add) && (decide (N[i]? = some y) && (storeB anyB sc y && chkE N sc e ex)) | _ => false)
  | .rs c ns es, x => (!ns.isEmpty) && (match x with | .Raise (some (.Call (.Name y _) (a :: as) [] _)) none _ => decide (y = c) && (glB sc y && (nmB y && ((a :: as).all plainB && chks N sc es (a :: as)))) | _ => false)
  | .rs0 c, x => (match x with | .Raise (some (.Call (.Name y _) [] [] _)) none _ => decide (y = c) && (glB sc y && nmB y) | _ => false)
def chkB (N : List Str) (sc : Scope) : Ss → List Stmt → Bool
  | .nil, xs => xs.isEmpty
  | .cons s ss, xs => (match xs with | x :: xs => chkS N sc s x && chkB N sc ss xs | [] => false)
  | .frz _ ss, xs => chkB N sc ss xs
end
section
variable {W : Wd} {k : Nat} {N : List Str} {sc : Scope}
theorem mB_ok {i : Nat} {x : Str} (h : mB N sc i x = true) : N[i]? = some x ∧ visB sc x = true ∧ nmB x = true := ⟨dt (bt h).1, (bt (bt h).2).1, (bt (bt h).2).2⟩
theorem set_comp {e : Ex} {ex : Expr} {j : Nat} {y : Str} {p p2 : Pos} (hc : isComp e = true) (h : chkE N sc e ex = true) (nd : AllN W k (ndE e)) (hj : N[j]? = some y) (hl : locB sc y = true) (hsw : swB y p2 ex = true) (hk : sc.kind = .function) : PSX W k N sc (.Assign [.Name y p2] ex p) (setF j (evE e)) := by
  cases e with
  | comp elt tg it cond own =>
    unfold chkE at h
    split at h
    · rename_i e t i ifs z scope p
      have h := bt h
      have e0 := dt h.1; subst e0
      have h1 := bt h.2
      have h2 := bt h1.2
      have h3 := bt h2.2
      have h4 := bt h3.2
      have h5 := bt h4.2
      have h6 := bt h5.2
      have h7 := bt h6.2
      have nd := AllN.app nd
      have nd2 := AllN.app nd.2
      have hc : PCX W k N (relS scope sc) ifs (evT cond) := by
        have h8 := h7.1
        split at h8
        · split at h8
          · have : evT .yes = fun _ => Tr.ok true := by funext ρ; simp only [evT]
            rw [this]; exact pc_yes
          · cases h8
        · exact pc_one (soT cond h8 nd2.1)
        · cases h8
      have hs : ∀ j ∈ tgIs tg, j ∈ own.map (·.2) := fun j hj => by
        have := List.all_eq_true.mp h5.1 j hj
        simpa using this
      have hi := soI it h6.1 (t := t) (fun q => by
        have := h3.1
        rw [q] at this
        simpa using this) nd.1
      refine (ps_setLcX (sce := sc) hj hl hsw hk h1.1 h2.1 h4.1 hs hi hc (soE elt h7.2 nd2.2)).cast fun ρ => ?_
      unfold setF
      simp only [evE]
      rfl
    · cases h
  | _ => cases hc
mutual
theorem soS : ∀ (s : S) {st : Stmt}, chkS N sc s st = true → AllN W k (ndS s) → AllR W k (rsS s) → PSX W k N sc st (exS s)
  | .ex e, st, h, nd, rs => by
    unfold chkS at h
    split at h
    · have h := bt h
      exact (ps_exX h.1 (soE e h.2 nd)).cast fun ρ => by simp only [exS]
    · cases h
  | .doc, st, h, nd, rs => by
    unfold chkS at h
    split at h
    · exact ps_docX.cast fun ρ => by simp only [exS]
    · cases h
  | .pass, st, h, nd, rs => by
    unfold chkS at h
    split at h
    · exact ps_passX.cast fun ρ => by simp only [exS]
    · cases h
  | .brk, st, h, nd, rs => by
    unfold chkS at h
    split at h
    · exact ps_brkX.cast fun ρ => by simp only [exS]
    · cases h
  | .cnt, st, h, nd, rs => by
    unfold chkS at h
    split at h
    · exact ps_cntX.cast fun ρ => by simp only [exS]
    · cases h
  | .ret e, st, h, nd, rs => by
    unfold chkS at h
    split at h
    · exact (ps_retX (soE e h nd)).cast fun ρ => by simp only [exS]
    · cases h
  | .retN, st, h, nd, rs => by
    unfold chkS at h
    split at h
    · exact ps_retNX.cast fun ρ => by simp only [exS]
    · cases h
  | .nev, st, h, nd, rs => ps_nevX.cast fun ρ => by simp only [exS]
  | .set i e, st, h, nd, rs => by
    unfold chkS at h
    split at h
    · have h := bt h
      have h2 := bt h.2
      rcases Bool.or_eq_true _ _ |>.mp h2.2 with h3 | h3
      · have h3 := bt h3
        exact (ps_setCX (dt h.1) h3.2 h3.1 (soE e h2.1 nd)).cast fun ρ => by simp only [exS]
      · rcases Bool.or_eq_true _ _ |>.mp h3 with h3 | h3
        · exact (ps_setLcC (dt h.1) h3 (soE e h2.1 nd)).cast fun ρ => by simp only [exS]
        have h3 := bt h3
        have h4 := bt h3.2
        have h5 := bt h4.2
        exact (set_comp h3.1 h2.1 nd (dt h.1) h4.1 h5.1 (dt h5.2)).cast fun ρ => by simp only [exS]
    · cases h
  | .unp t e, st, h, nd, rs => by
    unfold chkS at h
    split at h
    · have h := bt h
      have h2 := bt h.2
      have h3 := bt h2.2
      have h4 := bt h3.2
      exact (ps_unpX h.1 h2.1 h3.1 h4.1 (soE e h4.2 nd)).cast fun ρ => by simp only [exS]
    · cases h
  | .par2 i j es, st, h, nd, rs => by
    unfold chkS at h
    split at h
    · have h := bt h
      have h1 := bt h.2
      have h2 := bt h1.2
      have h3 := bt h2.2
      have h4 := bt h3.2
      have h5 := bt h4.2
      have h6 := bt h5.2
      have h7 := bt h6.2
      have h8 := bt h7.2
      exact (ps_par2X (dt h.1) (dt h1.1) (dt h2.1) (dt h3.1) h4.1 h5.1 h6.1 h7.1 h8.1 (soA es h8.2 nd)).cast fun ρ => by simp only [exS]
    · cases h
  | .par3 i j l es, st, h, nd, rs => by
    unfold chkS at h
    split at h
    · have h := bt h
      have h1 := bt h.2
      have h2 := bt h1.2
      have h3 := bt h2.2
      have h4 := bt h3.2
      have h5 := bt h4.2
      have h6 := bt h5.2
      have h7 := bt h6.2
      have h8 := bt h7.2
      have h9 := bt h8.2
      have h10 := bt h9.2
      have h11 := bt h10.2
      have h12 := bt h11.2
      have h13 := bt h12.2
      exact (ps_par3X (dt h.1) (dt h1.1) (dt h2.1) (dt h3.1) (dt h4.1) (dt h5.1) (dt h6.1) h7.1 h8.1 h9.1 h10.1 h11.1 h12.1 h13.1 (soA es h13.2 nd)).cast fun ρ => by simp only [exS]
    · cases h
  | .parN is es, st, h, nd, rs => by
    unfold chkS at h
    split at h
    · have h := bt h
      have h1 := bt h.2
      exact (ps_parNX h.1 h1.1 (soA es h1.2 nd)).cast fun ρ => by simp only [exS]
    · cases h
  | .ite c a b, st, h, nd, rs => by
    unfold chkS at h
    split at h
    · have h := bt h
      have h2 := bt h.2
      have nd := AllN.app nd
      have nd2 := AllN.app nd.2
      have rs := AllR.app rs
      exact (ps_iteX (soT c h.1 nd.1) (soB a h2.1 nd2.1 rs.1) (soB b h2.2 nd2.2 rs.2)).cast fun ρ => by simp only [exS]
    · cases h
  | .fr t it b, st, h, nd, rs => by
    unfold chkS at h
    split at h
    · have h := bt h
      have h2 := bt h.2
      have h3 := bt h2.2
      have h4 := bt h3.2
      have nd := AllN.app nd
      refine (ps_forX h.1 h2.1 (soI it h4.1 (fun q => ?_) nd.1) (soB b h4.2 nd.2 rs)).cast fun ρ => by simp only [exS]
      have := h3.1
      rw [q] at this
      simpa using this
    · cases h
  | .whl n c b, st, h, nd, rs => by
    unfold chkS at h
    split at h
    · have h := bt h
      have nd := AllN.app nd
      exact (ps_whlX n (soT c h.1 nd.1) (soB b h.2 nd.2 rs)).cast fun ρ => by simp only [exS]
    · cases h
  | .app i e, st, h, nd, rs => by
    unfold chkS at h
    split at h
    · have h := bt h
      have e0 := dt h.1; subst e0
      have h1 := bt h.2
      obtain ⟨m1, m2, m3⟩ := mB_ok h1.1
      have h2 := bt h1.2
      have h3 := bt h2.2
      exact (ps_appX m1 m2 m3 h2.1 h3.1 (soE e h3.2 nd)).cast fun ρ => by simp only [exS]
    · cases h
  | .ext i e, st, h, nd, rs => by
    unfold chkS at h
    split at h
    · have h := bt h
      have e0 := dt h.1; subst e0
      have h1 := bt h.2
      obtain ⟨m1, m2, m3⟩ := mB_ok h1.1
      have h2 := bt h1.2
      have h3 := bt h2.2
      exact (ps_extX m1 m2 m3 h2.1 h3.1 (soE e h3.2 nd)).cast fun ρ => by simp only [exS]
    · cases h
  | .spop i j, st, h, nd, rs => by
    unfold chkS at h
    split at h
    · have h := bt h
      have e0 := dt h.1; subst e0
      have h1 := bt h.2
      have h2 := bt h1.2
      have h3 := bt h2.2
      obtain ⟨m1, m2, m3⟩ := mB_ok h3.1
      exact (ps_spopX (dt h1.1) h2.1 m1 m2 m3 h3.2).cast fun ρ => by simp only [exS]
    · cases h
  | .apop i j e, st, h, nd, rs => by
    unfold chkS at h
    split at h
    · have h := bt h
      have e0 := dt h.1; subst e0
      have h0 := bt h.2
      have e0 := dt h0.1; subst e0
      have h1 := bt h0.2
      obtain ⟨m1, m2, m3⟩ := mB_ok h1.1
      have h2 := bt h1.2
      obtain ⟨l1, l2, l3⟩ := mB_ok h2.1
      have h3 := bt h2.2
      have h4 := bt h3.2
      have h5 := bt h4.2
      exact (ps_apopX m1 m2 m3 l1 l2 l3 h3.1 h4.1 h5.1 (soE e h5.2 nd)).cast fun ρ => by simp only [exS]
    · cases h
  | .put i kx e, st, h, nd, rs => by
    unfold chkS at h
    split at h
    · have h := bt h
      obtain ⟨m1, m2, m3⟩ := mB_ok h.1
      have h1 := bt h.2
      have h2 := bt h1.2
      have h3 := bt h2.2
      have h4 := bt h3.2
      have nd := AllN.app nd
      exact (ps_putX m1 m2 m3 h1.1 h2.1 h3.1 (soE e h4.1 nd.2) (soE kx h4.2 nd.1)).cast fun ρ => by simp only [exS]
    · cases h
  | .put2 i kx jx e, st, h, nd, rs => by
    unfold chkS at h
    split at h
    · have h := bt h
      obtain ⟨m1, m2, m3⟩ := mB_ok h.1
      have h1 := bt h.2
      have h2 := bt h1.2
      have h3 := bt h2.2
      have h4 := bt h3.2
      have h5 := bt h4.2
      have h6 := bt h5.2
      have nd := AllN.app nd
      have nd2 := AllN.app nd.2
      exact (ps_put2X m1 m2 m3 h1.1 h2.1 h3.1 h4.1 (soE e h5.1 nd2.2) (soE kx h6.1 nd.1) (soE jx h6.2 nd2.1)).cast fun ρ => by simp only [exS]
    · cases h
  | .dput i kx e, st, h, nd, rs => by
    unfold chkS at h
    split at h
    · have h := bt h
      obtain ⟨m1, m2, m3⟩ := mB_ok h.1
      have h1 := bt h.2
      have h2 := bt h1.2
      have nd := AllN.app nd
      exact (ps_dputX m1 m2 m3 h1.1 (soE e h2.1 nd.2) (soE kx h2.2 nd.1)).cast fun ρ => by simp only [exS]
    · cases h
  | .aug i neg e, st, h, nd, rs => by
    unfold chkS at h
    split at h
    · have h := bt h
      have e0 := dt h.1; subst e0
      have h1 := bt h.2
      have h2 := bt h1.2
      exact (ps_augX (dt h1.1) h2.1 (soE e h2.2 nd)).cast fun ρ => by simp only [exS]
    · cases h
  | .rs0 c, st, h, nd, rs => by
    unfold chkS at h
    split at h
    · have h := bt h
      have e0 := dt h.1; subst e0
      exact (ps_rs0X rs.1 (bt h.2).1 (bt h.2).2).cast fun ρ => by simp only [exS]
    · cases h
  | .rs c [] es, st, h, nd, rs => by
    unfold chkS at h
    cases h
  | .rs c (n0 :: nr) es, st, h, nd, rs => by
    unfold chkS at h
    have h := (bt h).2
    split at h
    · have h := bt h
      have e0 := dt h.1; subst e0
      have h1 := bt h.2
      have h2 := bt h1.2
      have h3 := bt h2.2
      exact (ps_rsX rs.1 h1.1 h2.1 h3.1 (soA es h3.2 nd)).cast fun ρ => by simp only [exS]
    · cases h
theorem soB : ∀ (s : Ss) {st : List Stmt}, chkB N sc s st = true → AllN W k (ndB s) → AllR W k (rsB s) → PBX W k N sc st (exB s)
  | .nil, st, h, nd, rs => by
    unfold chkB at h
    have : st = [] := by cases st <;> first | rfl | cases h
    subst this
    exact pb_nil.cast fun ρ => by simp only [exB]
  | .cons s ss, st, h, nd, rs => by
    unfold chkB at h
    split at h
    · have h := bt h
      have nd := AllN.app nd
      have rs := AllR.app rs
      exact (pb_cons (soS s h.1 nd.1 rs.1) (soB ss h.2 nd.2 rs.2)).cast fun ρ => by simp only [exB]
    · cases h
  | .frz i ss, st, h, nd, rs => by
    unfold chkB at h
    exact (pb_ghost (gh_frz i) (soB ss h nd rs)).cast fun ρ => by simp only [exB]
end
end
/-! ### a def by its body -/
theorem EnvR.nones {W : Wd} {F H : Hp} : ∀ n : Nat, EnvR W F H (List.replicate n Option.none) (List.replicate n Option.none) []
  | 0 => .nil
  | n + 1 => .none (EnvR.nones n)
theorem EnvR.start {W : Wd} {F H : Hp} (n : Nat) : ∀ {vs : List V} {xs : List PV}, Rps W F vs xs → EnvR W F H (vs.map Option.some ++ List.replicate n Option.none) (xs.map Option.some ++ List.replicate n Option.none) []
  | _, _, .nil => EnvR.nones n
  | _, _, .cons h t => EnvR.some (f := []) (.st h) (EnvR.start n t) (fun _ z => by simp at z)
theorem FnS.of {W : Wd} {k n : Nat} {x qual : Str} {params : Arguments} {body : List Stmt} {scope : Scope} {fa : Addr} {fd : FuncData} {N ps : List Str} (F : FunD W.K x qual params body scope [] [] fa fd) (hm : W.mg x = some (.ref fa)) (b : Binds W.K fd ps []) (sc : FnScope N ps scope) (hl : ps.length = n)
    (ss : Ss) (hc : chkB N scope ss body = true) (nd : AllN W k (ndB ss)) (rs : AllR W k (rsB ss)) : FnS W (k + 1) x n (runF N.length n ss) := by
  refine ⟨⟨fa, fd, ps, hm, F.kp, b, hl, ?_⟩⟩
  refine fn_ofG F sc (fun vs H Q E h => ?_) fun cdv A outer s H vs Q E hgd hr h => ?_
  · obtain ⟨_, _, h1, _⟩ := h
    rw [h1, hl]
  · obtain ⟨F0, xs, h1, g, r, h⟩ := h
    let X := cxOf (L2.CX W.P W.w) W.P W.w W.K W.mg W.base N qual scope fa cdv A outer s H E
    have tk : L2.Takes X (fun cls d _ H => E cls d H) := takes_of rfl rfl rfl rfl
    have cx : CxF W k N scope E X := ⟨⟨rfl, rfl, rfl, rfl, rfl, sc.nd, rfl, rfl, rfl, hr, fun pins σ H s e s' I c => passAt tk σ pins H s e s' I c, hgd⟩, passes_of rfl, fun _ => rfl, tk⟩
    refine ⟨_, soB ss hc nd rs X E cx, F0, H, F0, F0, xs.map some ++ List.replicate (N.length - n) none, [], ⟨Ext.refl g, ?_, fun _ z => by simp at z, fun _ _ q => q⟩, Tr.W_imp (fun o ho => ?_) (Tr.W_bind.mp h)⟩
    · show EnvR W F0 H (vs.map some ++ List.replicate (N.length - vs.length) none) _ []
      rw [h1]
      exact EnvR.start _ r
    · cases o with
      | exn c ns xs => exact ho
      | bad => exact ho
      | ok f =>
        cases f with
        | nx ρ => exact fun F1 H1 σ fp a => ho F1 H1 .non [] a.e (.st .non) (fun _ z => by simp at z)
        | rt x => exact fun F1 H1 v fp e r n => ho F1 H1 v fp e r n
        | bk ρ => exact (show False from ho).elim
        | ct ρ => exact (show False from ho).elim
end FS

set_option Elab.async false
set_option linter.all false
set_option maxRecDepth 100000
set_option maxHeartbeats 8000000
namespace FS
open PySem PySem.Spec PyProof.Rows L2

/-! ### the pen -/
abbrev rPl : R2 := rI0 fun i j => .int (i + j)
abbrev rMi : R2 := rI0 fun i j => .int (i - j)
abbrev rMu : R2 := rI CMul fun i j => .int (i * j)
abbrev rMo : R2 := rI (fun _ j => 0 < j) fun i j => .int (i % j)
abbrev rDi : R2 := rI CDivW fun i j => .int (i / j)
abbrev rPw : R2 := rI CPow fun i j => .int (i ^ j.toNat)
abbrev rInt1 : List V → Hp → VK → Prop := fun xs H Q => (∃ i, xs = [.int i] ∧ Q (.int i) H) ∨ ∃ k, xs = [.bl k] ∧ Q (.int (if k then 1 else 0)) H
abbrev tInt (t : TE) : TE := tCB rInt1 (tCons t tNil)
abbrev tG (f : Str) : TE := tDGet (tVar 0) (tC (.str f))
abbrev sP (f : Str) (t : TE) : TS := sDPut (tVar 0) (tC (.str f)) t
abbrev rLen1 (K : PySem.W.Frag) : List V → Hp → VK → Prop := fun xs H Q => ∃ x n, xs = [x] ∧ LenV K x H n ∧ Q (.int n) H
abbrev tN (i : Int) : TE := tC (.int i)
def t_tail : TS :=
  (tSeq (tIfS (tTest (tOp (rI0 fun i j => .bl (decide (j < i))) (tG "digits") (tN 0)))
    (tSeq (tAsg (tOp rMo (tInt (tG "digits")) (tVar 1)) (gName 3))
      (tSeq (sP "digits" (tOp rDi (tG "digits") (tVar 1))) (tRet (tVar 3)))) tNext)
  (tSeq (tAsg (tOp rMo (tInt (tOp rPl (tOp rPl (tOp rMu (tG "fold") (tN 48271)) (tOp rMu (tG "count") (tN 7919))) (tN 13))) (tN 2147483647)) (gName 4))
  (tSeq (tAsg (tOp rMo (tInt (tOp rPl (tOp rPl (tOp rMu (tVar 4) (tVar 4)) (tOp rMu (tN 31) (tVar 4))) (tG "count"))) (tN 2147483629)) (gName 4))
  (tSeq (sP "fold" (tOp rMo (tInt (tOp rPl (tOp rMu (tVar 4) (tN 16807)) (tN 7))) (tN 2147483647)))
  (tRet (tOp rMo (tInt (tOp rDi (tVar 4) (tN 64))) (tVar 1)))))))
def t_draw (K : PySem.W.Frag) : TS :=
  tSeq (sP "count" (tOp rPl (tG "count") (tN 1)))
  (tSeq (tIfS (tAnd (tTest (tOp rEq (tG "digits") (tN 0))) (tTest (tOp (rI0 fun i j => .bl (decide (i < j))) (tG "at") (tCB (rLen1 K) (tCons (tG "cells") tNil)))))
    (tSeq (tAsg (tOp (rIxL K) (tG "cells") (tG "at")) (gName 2))
      (tSeq (sP "at" (tOp rPl (tG "at") (tN 1)))
        (tIfS (tTest (tOp (rI0 fun i j => .bl (decide (j ≤ i))) (tVar 2) (tOp rPw (tN 10) (tN 18))))
          (sP "digits" (tOp rMi (tVar 2) (tOp rPw (tN 10) (tN 18))))
          (sP "fold" (tOp rMo (tInt (tOp rPl (tOp rMu (tG "fold") (tN 69069)) (tVar 2))) (tN 2147483587)))))) tNext) t_tail)
section
variable {H : Hp} {p l : Addr} {at_ dg ct fd x : Int}
theorem g_cells (h : H p = some (.dK (penKvs l at_ dg ct fd))) : DGet H p (.str "cells") (some (.ref l)) := DGet.k (k := .inr "cells") h
theorem g_at (h : H p = some (.dK (penKvs l at_ dg ct fd))) : DGet H p (.str "at") (some (.int at_)) := DGet.k (k := .inr "at") h
theorem g_dg (h : H p = some (.dK (penKvs l at_ dg ct fd))) : DGet H p (.str "digits") (some (.int dg)) := DGet.k (k := .inr "digits") h
theorem g_ct (h : H p = some (.dK (penKvs l at_ dg ct fd))) : DGet H p (.str "count") (some (.int ct)) := DGet.k (k := .inr "count") h
theorem g_fd (h : H p = some (.dK (penKvs l at_ dg ct fd))) : DGet H p (.str "fold") (some (.int fd)) := DGet.k (k := .inr "fold") h
theorem five : 5 < sizeLine := by rw [sizeLine_eq]; decide
theorem p_at (h : H p = some (.dK (penKvs l at_ dg ct fd))) : DPut H p (.str "at") (.int x) (upd H p (.dK (penKvs l x dg ct fd))) := DPut.k (k := .inr "at") h five
theorem p_dg (h : H p = some (.dK (penKvs l at_ dg ct fd))) : DPut H p (.str "digits") (.int x) (upd H p (.dK (penKvs l at_ x ct fd))) := DPut.k (k := .inr "digits") h five
theorem p_ct (h : H p = some (.dK (penKvs l at_ dg ct fd))) : DPut H p (.str "count") (.int x) (upd H p (.dK (penKvs l at_ dg x fd))) := DPut.k (k := .inr "count") h five
theorem p_fd (h : H p = some (.dK (penKvs l at_ dg ct fd))) : DPut H p (.str "fold") (.int x) (upd H p (.dK (penKvs l at_ dg ct x))) := DPut.k (k := .inr "fold") h five
end
theorem upd_upd {H : Hp} {p : Addr} {a b : HO} : upd (upd H p a) p b = upd H p b := by
  funext y
  by_cases h : y = p
  · rw [h, upd_same, upd_same]
  · rw [upd_ne h, upd_ne h, upd_ne h]
theorem pos_a : (0 : Int) < 2147483647 := by decide
theorem pos_b : (0 : Int) < 2147483629 := by decide
theorem pos_c : (0 : Int) < 2147483587 := by decide
theorem cpow18 : CPow 10 18 := ⟨by decide, by decide, by decide⟩
theorem cdiv64 {i n : Int} (h0 : 0 < n) (h : n < 2 ^ 64) : CDivW i n := by
  refine ⟨h0, ?_⟩
  have : n.natAbs < 2 ^ 64 := by omega
  exact Nat.lt_of_lt_of_le (Nat.log2_lt (by omega) |>.mpr this) (by decide)
/-- what a draw does -/
theorem draw_pure {K : PySem.W.Frag} {H : Hp} {p l : Addr} {at_ dg ct fd n : Int} {cells : List Int} {D : L2.Ends} (h : H p = some (.dK (penKvs l at_ dg ct fd))) (hs : ∀ o, SqL K (upd H p o) l (cells.map V.int)) (n0 : 0 < n) (n1 : n < 2 ^ 64)
    (a0 : 0 ≤ at_) (d0 : 0 ≤ dg) (c0 : 0 ≤ ct) (f0 : 0 ≤ fd) (f1 : fd < 2147483647) (a1 : at_ ≤ 63) (cl : cells.length ≤ 63)
    (q : ∀ i at' dg' ct' fd', 0 ≤ i → i < n → 0 ≤ at' → at' ≤ 63 → 0 ≤ dg' → 0 ≤ ct' → 0 ≤ fd' → fd' < 2147483647 → D.rt (.int i) (upd H p (.dK (penKvs l at' dg' ct' fd')))) :
    t_draw K D (L2.start ["pen", "many", "cell", "digit", "blend"] [.ref p, .int n]) H := by
  have bl : ∀ (σ : L2.St) (at' dg' fd' : Int), σ[0]? = some (some (.ref p)) → σ[1]? = some (some (.int n)) → σ.length = 5 → 0 ≤ at' → at' ≤ 63 → 0 ≤ dg' → 0 ≤ fd' → fd' < 2147483647 →
      t_tail D σ (upd H p (.dK (penKvs l at' dg' (ct + 1) fd'))) := by
    intro σ at' dg' fd' s0 s1 sl b0 b1 b2 b3 b4
    have hp : (upd H p (.dK (penKvs l at' dg' (ct + 1) fd'))) p = some (.dK (penKvs l at' dg' (ct + 1) fd')) := upd_same
    refine ⟨.ref p, s0, p, _, rfl, g_dg hp, _, _, rfl, rfl, _, rfl, ?_⟩
    dsimp only
    by_cases hd : 0 < dg'
    · rw [if_pos (by simpa using hd)]
      refine ⟨.ref p, s0, p, _, rfl, g_dg hp, .inl ⟨_, rfl, .int n, s1, _, _, rfl, rfl, n0, ?_⟩⟩
      have t0 : (σ.set 3 (some (.int (dg' % n))))[0]? = some (some (.ref p)) := by rw [List.getElem?_set_ne (by decide)]; exact s0
      have t1 : (σ.set 3 (some (.int (dg' % n))))[1]? = some (some (.int n)) := by rw [List.getElem?_set_ne (by decide)]; exact s1
      refine ⟨.ref p, t0, p, _, rfl, g_dg hp, .int n, t1, _, _, rfl, rfl, cdiv64 n0 n1, .ref p, t0, p, _, rfl, p_dg hp, ?_⟩
      rw [upd_upd]
      refine ⟨.int (dg' % n), by rw [List.getElem?_set_self (by omega)], ?_⟩
      exact q _ _ _ _ _ (Int.emod_nonneg _ (by omega)) (Int.emod_lt_of_pos _ n0) b0 b1 (Int.ediv_nonneg b2 (by omega)) (by omega) b3 b4
    · rw [if_neg (by simpa using hd)]
      refine ⟨.ref p, s0, p, _, rfl, g_fd hp, _, _, rfl, rfl, .inr (by decide), .ref p, s0, p, _, rfl, g_ct hp, _, _, rfl, rfl, .inr (by decide), _, _, rfl, rfl, _, _, rfl, rfl, .inl ⟨_, rfl, _, _, rfl, rfl, pos_a, ?_⟩⟩
      show tSeq _ _ D (σ.set 4 (some (.int ((fd' * 48271 + (ct + 1) * 7919 + 13) % 2147483647)))) _
      generalize hb : (fd' * 48271 + (ct + 1) * 7919 + 13) % 2147483647 = b
      have b5 : 0 ≤ b ∧ b < 2147483647 := by subst hb; exact ⟨Int.emod_nonneg _ (by decide), Int.emod_lt_of_pos _ (by decide)⟩
      have t0 : (σ.set 4 (some (.int b)))[0]? = some (some (.ref p)) := by rw [List.getElem?_set_ne (by decide)]; exact s0
      have t1 : (σ.set 4 (some (.int b)))[1]? = some (some (.int n)) := by rw [List.getElem?_set_ne (by decide)]; exact s1
      have t4 : (σ.set 4 (some (.int b)))[4]? = some (some (.int b)) := by rw [List.getElem?_set_self (by omega)]
      refine ⟨.int b, t4, .int b, t4, _, _, rfl, rfl, .inl ⟨by omega, by omega⟩, .int b, t4, _, _, rfl, rfl, .inl (by decide), _, _, rfl, rfl, .ref p, t0, p, _, rfl, g_ct hp, _, _, rfl, rfl, .inl ⟨_, rfl, _, _, rfl, rfl, pos_b, ?_⟩⟩
      show tSeq _ _ D ((σ.set 4 (some (.int b))).set 4 (some (.int ((b * b + 31 * b + (ct + 1)) % 2147483629)))) _
      generalize hc : (b * b + 31 * b + (ct + 1)) % 2147483629 = c
      have c5 : 0 ≤ c ∧ c < 2147483629 := by subst hc; exact ⟨Int.emod_nonneg _ (by decide), Int.emod_lt_of_pos _ (by decide)⟩
      show tSeq _ _ D ((σ.set 4 (some (.int b))).set 4 (some (.int c))) _
      rw [List.set_set]
      have u0 : (σ.set 4 (some (.int c)))[0]? = some (some (.ref p)) := by rw [List.getElem?_set_ne (by decide)]; exact s0
      have u1 : (σ.set 4 (some (.int c)))[1]? = some (some (.int n)) := by rw [List.getElem?_set_ne (by decide)]; exact s1
      have u4 : (σ.set 4 (some (.int c)))[4]? = some (some (.int c)) := by rw [List.getElem?_set_self (by omega)]
      refine ⟨.int c, u4, _, _, rfl, rfl, .inr (by decide), _, _, rfl, rfl, .inl ⟨_, rfl, _, _, rfl, rfl, pos_a, .ref p, u0, p, _, rfl, p_fd hp, ?_⟩⟩
      rw [upd_upd]
      refine ⟨.int c, u4, _, _, rfl, rfl, cdiv64 (by decide) (by decide), .inl ⟨_, rfl, .int n, u1, _, _, rfl, rfl, n0, ?_⟩⟩
      exact q _ _ _ _ _ (Int.emod_nonneg _ (by omega)) (Int.emod_lt_of_pos _ n0) b0 b1 b2 (by omega) (Int.emod_nonneg _ (by decide)) (Int.emod_lt_of_pos _ (by decide))
  refine ⟨.ref p, rfl, p, _, rfl, g_ct h, _, _, rfl, rfl, .ref p, rfl, p, _, rfl, p_ct h, ?_⟩
  have hp : (upd H p (.dK (penKvs l at_ dg (ct + 1) fd))) p = some (.dK (penKvs l at_ dg (ct + 1) fd)) := upd_same
  refine ⟨.ref p, rfl, p, _, rfl, g_dg hp, rfl, _, rfl, ?_⟩
  dsimp only
  by_cases hd : dg = 0
  · rw [if_pos (by simp [hd])]
    refine ⟨.ref p, rfl, p, _, rfl, g_at hp, .ref p, rfl, p, _, rfl, g_cells hp, _, _, rfl, .inl ⟨_, hs _, rfl⟩, _, _, rfl, rfl, _, rfl, ?_⟩
    dsimp only
    by_cases hl : at_ < ((cells.map V.int).length : Int)
    · rw [if_pos (by simpa using hl)]
      have hl2 : at_ < cells.length := by simpa using hl
      have hx : ∃ cell, atI (cells.map V.int) at_ = some (.int cell) := by
        have hb : at_.toNat < cells.length := by omega
        refine ⟨cells[at_.toNat], ?_⟩
        unfold atI ixN
        rw [if_pos a0, if_pos hl]
        simp [hb]
      obtain ⟨cell, hx⟩ := hx
      refine ⟨.ref p, rfl, p, _, rfl, g_cells hp, .ref p, rfl, p, _, rfl, g_at hp, l, _, at_, _, rfl, rfl, hs _, hx, ?_⟩
      refine ⟨.ref p, rfl, p, _, rfl, g_at hp, _, _, rfl, rfl, .ref p, rfl, p, _, rfl, p_at hp, ?_⟩
      rw [upd_upd]
      have hq : (upd H p (.dK (penKvs l (at_ + 1) dg (ct + 1) fd))) p = some (.dK (penKvs l (at_ + 1) dg (ct + 1) fd)) := upd_same
      refine ⟨.int cell, rfl, _, _, rfl, rfl, cpow18, _, _, rfl, rfl, _, rfl, ?_⟩
      dsimp only
      by_cases hc : (10 : Int) ^ (18 : Int).toNat ≤ cell
      · rw [if_pos (by simpa using hc)]
        refine ⟨.int cell, rfl, _, _, rfl, rfl, cpow18, _, _, rfl, rfl, .ref p, rfl, p, _, rfl, p_dg hq, ?_⟩
        rw [upd_upd]
        exact bl _ _ _ _ rfl rfl rfl (by omega) (by omega) (by omega) f0 f1
      · rw [if_neg (by simpa using hc)]
        refine ⟨.ref p, rfl, p, _, rfl, g_fd hq, _, _, rfl, rfl, .inr (by decide), .int cell, rfl, _, _, rfl, rfl, .inl ⟨_, rfl, _, _, rfl, rfl, pos_c, .ref p, rfl, p, _, rfl, p_fd hq, ?_⟩⟩
        rw [upd_upd]
        exact bl _ _ _ _ rfl rfl rfl (by omega) (by omega) d0 (Int.emod_nonneg _ (by decide)) (Int.lt_trans (Int.emod_lt_of_pos _ (by decide)) (by decide))
    · rw [if_neg (by simpa using hl)]
      exact bl _ _ _ _ rfl rfl rfl a0 a1 d0 f0 f1
  · rw [if_neg (by simp [hd])]
    exact bl _ _ _ _ rfl rfl rfl a0 a1 d0 f0 f1
def drawM : Fn := fun xs => match xs with
  | [.pen, .int n] => if 0 < n ∧ n < 2 ^ 64 then .draw n fun i => .ok (.int i) else .bad
  | _ => .bad
/-- its promise -/
theorem draw_of {W : Wd} {D : L2.Ends} {vs : List V} {H : Hp} {Q : VK} {E : XK} (h : spF W 2 drawM vs H Q E) (hD : D.rt = Q) : t_draw W.K D (L2.start ["pen", "many", "cell", "digit", "blend"] vs) H := by
  obtain ⟨F, xs, h1, g, r, h⟩ := h
  unfold drawM at h
  split at h
  · rename_i n
    by_cases hn : 0 < n ∧ n < 2 ^ 64
    · rw [if_pos hn] at h
      cases r with
      | cons a t => cases t with
        | cons b t => cases t; cases a; cases b; 
                      obtain ⟨⟨l, cells, at_, dg, ct, fd, hp, hs, hc, a0, d0, f0, f1, c0, a1⟩, out⟩ := g.pen
                      have sub : ∀ o, Same F (upd H W.pen o) := fun o a u q => by
                        rw [upd_ne]
                        · exact g.sub a u q
                        · rintro rfl
                          rw [out] at q
                          cases q
                      refine draw_pure hp (fun o => Same.seq (sub o) hs) hn.1 hn.2 a0 d0 c0 f0 f1 a1 hc fun i at' dg' ct' fd' i0 i1 b0 b1 b2 b3 b4 b5 => ?_
                      rw [hD]
                      have gg : Good W F (upd H W.pen (.dK (penKvs l at' dg' ct' fd'))) := ⟨sub _, ⟨⟨l, cells, at', dg', ct', fd', upd_same, hs, hc, b0, b2, b4, b5, b3, b1⟩, out⟩⟩
                      exact h.2 i i0 i1 F _ (.int i) [] ⟨fun _ _ q => q, fun a o n q => by rw [upd_ne n]; exact q, fun _ q => .inl q, gg⟩ (.st .int) (fun _ z => by simp at z)
    · rw [if_neg hn] at h
      exact (show False from h).elim
  · exact (show False from h).elim
end FS

set_option Elab.async false
set_option linter.all false
set_option maxRecDepth 100000
set_option maxHeartbeats 8000000
namespace FS
open PySem PySem.Spec PyProof.Rows L2

abbrev rListOf (K : PySem.W.Frag) : List V → Hp → VK → Prop := fun xs H Q => ∃ p ys, xs = [.ref p] ∧ (SqL K H p ys ∨ SqT K H p ys) ∧ ∀ l, H l = none → Q (.ref l) (upd H l (.lst ys))
def t_pen (K : PySem.W.Frag) : TS :=
  tSeq (tAsg (tN 0) (gName 1))
  (tSeq (tFor (iSeqA K (tVar 0)) (gName 2) (tAsg (tOp rMo (tInt (tOp rPl (tOp rMu (tVar 1) (tN 47)) (tVar 2))) (tN 1000000007)) (gName 1)))
  (tRet (tDisp [(tC (.str "cells"), tCB (rListOf K) (tCons (tVar 0) tNil)), (tC (.str "at"), tN 0), (tC (.str "digits"), tN 0), (tC (.str "count"), tN 0), (tC (.str "fold"), tVar 1)])))
theorem SqL.new {K : PySem.W.Frag} {H : Hp} {a p : Addr} {o : HO} {xs : List V} (h : SqL K H a xs) (n : H p = none) : SqL K (upd H p o) a xs := by
  have s : Same H (upd H p o) := fun b u q => by
    rw [upd_ne (ne_of_none q n)]
    exact q
  exact Same.seq s h
theorem pen_pure {K : PySem.W.Frag} {H : Hp} {a : Addr} {cells : List Int} {D : L2.Ends} (hs : SqL K H a (cells.map V.int))
    (q : ∀ p l fold, H p = none → l ≠ p → H l = none → 0 ≤ fold → fold < 1000000007 → D.rt (.ref p) (upd (upd (upd H p (.dK [])) l (.lst (cells.map V.int))) p (.dK (penKvs l 0 0 0 fold)))) :
    t_pen K D (L2.start ["script", "fold", "cell"] [.ref a]) H := by
  have fin : ∀ (σ : L2.St) (fold : Int), σ[0]? = some (some (.ref a)) → σ[1]? = some (some (.int fold)) → 0 ≤ fold → fold < 1000000007 →
      tRet (tDisp [(tC (.str "cells"), tCB (rListOf K) (tCons (tVar 0) tNil)), (tC (.str "at"), tN 0), (tC (.str "digits"), tN 0), (tC (.str "count"), tN 0), (tC (.str "fold"), tVar 1)]) D σ H := by
    intro σ fold s0 s1 f0 f1 p hp
    refine ⟨.ref a, s0, a, _, rfl, .inl (SqL.new hs hp), fun l hl => ?_⟩
    have nl : l ≠ p := by
      rintro rfl
      rw [upd_same] at hl
      cases hl
    have hl0 : H l = none := by rwa [upd_ne nl] at hl
    refine ⟨.int fold, s1, ?_⟩
    refine ⟨by rw [upd_ne (Ne.symm nl), upd_same], penKvs l 0 0 0 fold, rfl, (show 5 ≤ 15 by decide), ?_⟩
    exact q p l fold hp nl hl0 f0 f1
  refine ⟨.ref a, rfl, a, rfl, .inl ⟨⟨_, hs⟩, ?_⟩⟩
  dsimp only
  refine for_list (xs := cells.map V.int) (D := { D with nx := tRet (tDisp [(tC (.str "cells"), tCB (rListOf K) (tCons (tVar 0) tNil)), (tC (.str "at"), tN 0), (tC (.str "digits"), tN 0), (tC (.str "count"), tN 0), (tC (.str "fold"), tVar 1)]) D }) (fun i σ H' => H' = H ∧ ∃ fold, σ[0]? = some (some (.ref a)) ∧ σ[1]? = some (some (.int fold)) ∧ σ.length = 3 ∧ 0 ≤ fold ∧ fold < 1000000007) ⟨rfl, 0, rfl, rfl, rfl, by decide, by decide⟩ ?_ ?_ ?_
  · rintro i σ H' _ ⟨rfl, _⟩
    exact hs
  · rintro i x σ H' hx ⟨rfl, fold, s0, s1, sl, f0, f1⟩
    obtain ⟨c, hc⟩ : ∃ c, x = .int c := by
      rw [List.getElem?_map] at hx
      obtain ⟨c, _, rfl⟩ := Option.map_eq_some_iff.mp hx
      exact ⟨c, rfl⟩
    subst hc
    have t1 : (σ.set 2 (some (.int c)))[1]? = some (some (.int fold)) := by rw [List.getElem?_set_ne (by decide)]; exact s1
    have t2 : (σ.set 2 (some (.int c)))[2]? = some (some (.int c)) := by rw [List.getElem?_set_self (by omega)]
    refine ⟨.int fold, t1, _, _, rfl, rfl, .inr (by decide), .int c, t2, _, _, rfl, rfl, .inl ⟨_, rfl, _, _, rfl, rfl, (show (0 : Int) < 1000000007 by decide), ?_⟩⟩
    refine ⟨rfl, (fold * 47 + c) % 1000000007, ?_, ?_, by simp [sl], Int.emod_nonneg _ (by decide), Int.emod_lt_of_pos _ (by decide)⟩
    · rw [List.getElem?_set_ne (by decide), List.getElem?_set_ne (by decide)]
      exact s0
    · rw [List.getElem?_set_self (by simp [sl])]
  · rintro σ H' ⟨rfl, fold, s0, s1, sl, f0, f1⟩
    exact fin σ fold s0 s1 f0 f1
def spPen (K : PySem.W.Frag) : Sp := fun vs H Q _ => ∃ (a : Addr) (cells : List Int), vs = [.ref a] ∧ SqL K H a (cells.map V.int) ∧
  ∀ p l fold, H p = none → l ≠ p → H l = none → 0 ≤ fold → fold < 1000000007 → Q (.ref p) (upd (upd (upd H p (.dK [])) l (.lst (cells.map V.int))) p (.dK (penKvs l 0 0 0 fold)))
/-- the law -/
def spLaw (K : PySem.W.Frag) : Sp := fun vs H Q _ => ∃ (a : Addr) (ns : List Int), vs = [.ref a] ∧ ns.length ≤ 63 ∧ SqL K H a (ns.map V.int) ∧ ∀ H', Q (.bl true) H'
theorem EnvR.any {W : Wd} {F H : Hp} : ∀ σ : L2.St, EnvR W F H σ (σ.map fun _ => Option.none) []
  | [] => .nil
  | _ :: σ => .none (EnvR.any σ)
structure Wb where
  P : Program
  w : World
  K : PySem.W.Frag
  mg : Str → Option Value
  base : Heap
def Wb.at_ (B : Wb) (p : Addr) : Wd := ⟨B.P, B.w, B.K, B.mg, B.base, p⟩
def isTrueEnd : Out Fl → Prop
  | .ok (.rt (.bl true)) => True
  | _ => False
theorem law_ok {B : Wb} {k n : Nat} {qual x0 x1 : Str} {params : Arguments} {st0 : Stmt} {body : List Stmt} {scope : Scope} {fa fp : Addr} {fd fdp : FuncData} {N : List Str} {p0 p1 p2 p3 pos : Pos} (F : FunD B.K "law" qual params (.Assign [.Name "pen" p0] (.Call (.Name "_law_pen" p1) [.Name "script" p2] [] p3) pos :: body) scope [] [] fa fd) (sc : FnScope N ["script"] scope)
    (h0 : N[0]? = some ("script" : Str)) (h1 : N[n]? = some ("pen" : Str)) (v0 : visB scope "script" = true) (v1 : locB scope "pen" = true) (g1 : glB scope "_law_pen" = true)
    (FP : FnOk B.P B.w B.K B.mg B.base CX0 k fp fdp ["script"] (spPen B.K)) (mP : B.mg "_law_pen" = some (.ref fp)) (kP : PySem.W.keepIn B.K (.ref fp) = true) (bP : Binds B.K fdp ["script"] [])
    (ss : Ss) (hc : chkB N scope ss body = true) (nd : ∀ p, AllN (B.at_ p) k (ndB ss)) (rs : ∀ p, AllR (B.at_ p) k (rsB ss))
    (hl : (exB ss ((List.replicate N.length none).set n (some .pen))).W isTrueEnd) : FnG B.P B.w B.K B.mg B.base CX0 (k + 1) fa fd ["script"] (spLaw B.K) := by
  refine fn_ofG F sc (fun vs H Q E h => ?_) fun cdv A outer s H vs Q E hgd hr h => ?_
  · obtain ⟨a, ns, rfl, _⟩ := h
    rfl
  · obtain ⟨a, ns, rfl, hn, hS, hQ⟩ := h
    let X := (cxOf CX0 B.P B.w B.K B.mg B.base N qual scope fa cdv A outer s H E).nox
    have cx : ∀ p, CxF (B.at_ p) k N scope (fun _ _ _ => False) X := fun p => ⟨⟨rfl, rfl, rfl, rfl, rfl, sc.nd, rfl, rfl, rfl, hr, passL, hgd⟩, PassesOwn.never, fun _ => rfl, takes0⟩
    have hrest : PSs X body (fun D σ H => ∃ p, tSx (B.at_ p) (fun _ _ _ => False) (exB ss) D σ H) := ⟨fun pins s σ H D I ⟨p, h⟩ => (soB ss hc (nd p) (rs p) X _ (cx p)).run pins s σ H D I h⟩
    have hpen : PS X (.Assign [.Name "pen" p0] (.Call (.Name "_law_pen" p1) [.Name "script" p2] [] p3) pos) (tAsg (tCall (spPen B.K) [] E0 (tCons (tVar 0) tNil)) (gName n)) :=
      ps_set sc.nd h1 (.inl (locB_ok v1)) (pe_call (CX := CX0) FP hr (glB_ok g1) mP kP bP .nil pass0 (pa_cons (pe_var h0 (visB_ok v0)) pa_nil)) (by rfl) (.inr (locB_ok v1))
    refine ⟨_, PSs.nox (pss_cons hpen hrest), ?_⟩
    have hN0 : N.length ≠ 0 := by
      intro z
      rw [List.length_eq_zero_iff.mp z] at h0
      cases h0
    refine ⟨.ref a, rfl, a, ns, rfl, hS, fun p l fold hp nl hl0 f0 f1 => ⟨p, ?_⟩⟩
    let H1 := upd (upd (upd H p (.dK [])) l (.lst (ns.map V.int))) p (.dK (penKvs l 0 0 0 fold))
    let F1 : Hp := fun b => if b = l then H1 b else none
    have e1 : H1 l = some (.lst (ns.map V.int)) := by
      show upd (upd (upd H p (.dK [])) l (.lst (ns.map V.int))) p (.dK (penKvs l 0 0 0 fold)) l = _
      rw [upd_ne nl, upd_same]
    have gs : Same F1 H1 := fun b o q => by
      by_cases z : b = l
      · have e2 : F1 b = H1 b := if_pos z
        rw [← e2]
        exact q
      · have e2 : F1 b = none := if_neg z
        rw [e2] at q
        cases q
    have f1l : F1 l = some (.lst (ns.map V.int)) := (if_pos rfl).trans e1
    have gp : PenOk (B.at_ p) F1 H1 := ⟨⟨l, ns, 0, 0, 0, fold, upd_same, SqL.of f1l, hn, by decide, by decide, f0, by omega, by decide, by decide⟩, if_neg (Ne.symm nl)⟩
    have gd : Good (B.at_ p) F1 H1 := ⟨gs, gp⟩
    have en0 := EnvR.any (W := B.at_ p) (F := F1) (H := H1) (L2.start N [V.ref a])
    obtain ⟨fq, en, sq⟩ := EnvR.put (Ro.st (W := B.at_ p) (F := F1) (H := H1) (v := .ref p) (x := .pen) .pen) n en0 (fun _ z => by simp at z)
    have fqe : ∀ b ∈ fq, H1 b = none := fun b hb => by
      rcases sq b hb with z | z
      · simp at z
      · simp at z
    have eρ : (L2.start N [V.ref a]).map (fun _ => (none : Option PV)) = List.replicate N.length none := by
      rw [List.map_const']
      congr 1
      unfold L2.start
      simp
      omega
    rw [eρ] at en
    refine ⟨F1, H1, F1, F1, _, fq, ⟨Ext.refl gd, en, fqe, fun _ _ q => q⟩, Tr.W_imp (fun o ho => ?_) hl⟩
    cases o with
    | exn c ns xs => exact (show False from ho).elim
    | bad => exact (show False from ho).elim
    | ok f =>
      cases f with
      | rt x =>
        cases x with
        | bl b =>
          cases b with
          | true =>
            intro F2 H2 v fp2 e r n
            have := r.stable rfl
            cases this
            exact hQ H2
          | false => exact (show False from ho).elim
        | _ => exact (show False from ho).elim
      | nx ρ => exact (show False from ho).elim
      | bk ρ => exact (show False from ho).elim
      | ct ρ => exact (show False from ho).elim
end FS

set_option Elab.async false
set_option linter.all false
set_option maxRecDepth 100000
set_option maxHeartbeats 8000000
namespace FS
open PySem PySem.Spec PyProof.Rows L2

/-! ### the law's end -/
theorem gd_caller : Gd callerA := rfl
/-- the abstract heap of the script alone -/
def scriptH (K : PySem.W.Frag) (a : Addr) (vs : List Value) (ns : List Int) : Hp := fun b => if b = a ∧ K.lookup a = none then some (.frz { cls := .type "list", data := .seq vs.toArray } (.lst (ns.map V.int))) else none
section
variable {P : Program} {w : World} {K : PySem.W.Frag} {mg mb : Str → Option Value} {k : Nat} {fa a : Addr} {fd : FuncData} {x : Str} {sp : Sp} {s₁ : Shared} {vs : List Value} {ns : List Int}
theorem scriptH_some {b : Addr} {o : HO} (h : scriptH K a vs ns b = some o) : b = a ∧ K.lookup a = none ∧ o = .frz { cls := .type "list", data := .seq vs.toArray } (.lst (ns.map V.int)) := by
  unfold scriptH at h
  by_cases z : b = a ∧ K.lookup a = none
  · rw [if_pos z] at h
    exact ⟨z.1, z.2, (Option.some.inj h).symm⟩
  · rw [if_neg z] at h
    cases h
theorem scriptH_only : Only (scriptH K a vs ns) := fun b => by
  cases h : scriptH K a vs ns b with
  | none => exact .inl rfl
  | some o => exact .inr ⟨_, _, by rw [(scriptH_some h).2.2]⟩
theorem law_callG (KX : K.In s₁.heap) (hns : s₁.heap.Ns mainGlobals mg) (hb : s₁.heap.Ns builtinsNs mb) (hbb : ∀ x : Str, x ≠ "__name__" → mb x = bootBuiltins x) (hlim : s₁.heap.NoLimit) (hg : s₁.gens = #[])
    (ha : s₁.heap.get? a = some { cls := .type "list", data := .seq vs.toArray }) (hi : IntsAre vs ns) (hl : ns.length ≤ sizeLine) (hr : Room k callerA)
    (F : ∀ base : Heap, K.In base → base.Ns mainGlobals mg → FnG P w K mg base CX0 k fa fd [x] sp) (hbind : ∀ (s : Shared) (u : Value), BindsTo s fd ⟨[u], []⟩ [(x, u)])
    (hsp : ∀ H : Hp, Only H → SqL K H a (ns.map V.int) → sp [.ref a] H (fun v _ => v = .bl true) fun _ _ _ => False) :
    codeAny (model P w) callerA (.call (.ref fa) ⟨[.ref a], []⟩) (fun r s' => r = .ok (.ret (.bool true)) ∧ OldK s₁.heap s'.heap ∧ s'.os = s₁.os ∧ AllBare s'.gens) s₁ := by
  have rv := vals_ints hi
  have hH : ∀ {b : Addr} {o : Obj}, s₁.heap.get? b = some o → (b = a → K.lookup a ≠ none ∨ ∃ es ep, o.data = .dict es ep) → scriptH K a vs ns b = none := fun {b o} e c => by
    cases q : scriptH K a vs ns b with
    | none => rfl
    | some u =>
      obtain ⟨rfl, h2, _⟩ := scriptH_some q
      rcases c rfl with z | ⟨es, ep, z⟩
      · exact absurd h2 z
      · rw [ha] at e
        cases e
        cases z
  have seen : ∀ {b : Addr} {m : Str → Option Value}, s₁.heap.Ns b m → (hidT s₁.heap (scriptH K a vs ns)).Ns b m := fun {b m} ⟨o, es, ep, e, d, r⟩ => ⟨o, es, ep, hidT_get e (hH e fun _ => .inr ⟨es, ep, d⟩), d, r⟩
  have kin : K.In (hidT s₁.heap (scriptH K a vs ns)) := fun b o e => hidT_get (KX b o e) (hH (KX b o e) fun z => .inl (by rw [← z, e]; simp))
  have hok : HOk P w (scriptH K a vs ns) s₁.heap := fun b u z => by
    obtain ⟨rfl, _, rfl⟩ := scriptH_some z
    exact ⟨ha, by rw [List.length_map]; exact hl, vs, _, rv, ha⟩
  have sq : SqL K (scriptH K a vs ns) a (ns.map V.int) := by
    cases hk : K.lookup a with
    | some o =>
      have e := KX a o hk
      rw [ha] at e
      cases e
      exact .inr ⟨_, vs.toArray, _, hk, rfl, rfl, rfl, by rw [List.size_toArray, hi.length]; exact hl, by simpa using rv⟩
    | none => exact .inl (.inr ⟨_, if_pos ⟨rfl, hk⟩⟩)
  have e0 : Env0 P w K mg (hidT s₁.heap (scriptH K a vs ns)) callerA [] s₁ (scriptH K a vs ns) :=
    ⟨rfl, ⟨kin, seen hns, ⟨mb, seen hb, hbb⟩, let ⟨mc, h1, h2⟩ := hlim; ⟨mc, seen h1, h2⟩⟩, fun b o e => of_hidT e, Nat.le_of_eq (hidT_size _ _), trivial, fun b z => absurd (show b ∈ ([] : List Addr) from z) (by simp), hok, .of_eq hg⟩
  refine codeAny_mono ((F _ kin (seen hns)).run callerA [] s₁ _ ⟨[.ref a], []⟩ [.ref a] [.ref a] _ _ gd_caller hr e0 (hbind s₁ (.ref a)) (.cons rfl .nil) (hsp _ scriptH_only sq)) fun r s' h => ?_
  cases r with
  | error e => exact False.elim h
  | ok fl => cases fl with
    | ret u =>
      obtain ⟨v, H', os, bare, un, hok', r', q⟩ := h
      have q' : v = .bl true := q
      subst q'
      obtain rfl : u = Value.bool true := r'
      refine ⟨rfl, OldK.of_keep fun b o e => ?_, os, bare⟩
      cases q : scriptH K a vs ns b with
      | none => exact un.keep b o e q (fun z => absurd (show b ∈ ([] : List Addr) from z) (by simp)) (by simp)
      | some u =>
        obtain ⟨rfl, _, rfl⟩ := scriptH_some q
        have e1 := (hok b _ q).1
        have e2 := (hok' b _ (un.frzs b _ _ q)).1
        rw [e] at e1
        cases e1
        exact e2
    | _ => exact False.elim h
/-- a law: F gives the written part, the function object, the promise over every base -/
theorem walk_ofG {l : PySem.W.OpenLaw} {n k : Nat} {q : Program} {loose : List Str} {XP : (Str → Option Value) → Heap → Prop} {YP : World → Heap → Prop} {d : DefRec} {x : Str}
    (hn : l.most = some n) (hn2 : n ≤ sizeLine) (hdf : d.params.defaults = []) (hr : Room k callerA)
    (F : ∀ (w : World) (mg : Str → Option Value) (fa : Addr) (h : Heap), YP w h → h.Ns mainGlobals mg → mg d.name = some (.ref fa) →
      ∃ (K : PySem.W.Frag) (fd : FuncData) (sp : Sp), K.In h ∧ (∀ (s : Shared) (u : Value), BindsTo s fd ⟨[u], []⟩ [(x, u)]) ∧
        (∀ (H : Hp) (a : Addr) (ns : List Int), ns.length ≤ n → Only H → SqL K H a (ns.map V.int) → sp [.ref a] H (fun v _ => v = .bl true) fun _ _ _ => False) ∧
        ∀ base : Heap, K.In base → base.Ns mainGlobals mg → FnG l.prog w K mg base CX0 k fa fd [x] sp) :
    PySem.W.WalkO q loose XP YP l.row.toRowW d [] (fun f vs => PySem.call f vs) := by
  refine Att.attach_call hn hdf fun w s₀ s₁ mg mb fa o pm cd doc a vs ns G Y ho hd hcd hmg hobj hints hlen hg => ?_
  obtain ⟨K, fd, sp, KX, hb, hsp, hF⟩ := F w mg fa _ Y G.T.g hmg
  exact law_callG KX G.T.g G.T.b G.T.builtins G.T.nolimit hg hobj hints (Nat.le_trans hlen hn2) hr hF hb fun H hO hS => hsp H a ns hlen hO hS
end
end FS

set_option Elab.async false
set_option linter.all false
set_option maxRecDepth 100000
set_option maxHeartbeats 8000000
namespace FS
open PySem PySem.Spec PyProof.Rows L2

/-! ### repr -/
mutual
def PV.rd : PV → Option PyData
  | .non => some .none
  | .bl b => some (.bool b)
  | .int i => some (.int i)
  | .str s => some (.str s)
  | .tup xs => (PV.rds xs).map .tuple
  | .lst _ xs => (PV.rds xs).map .list
  | .dct _ false ks vs => match PV.rds ks, PV.rds vs with
    | some a, some b => if a.length = b.length then some (.dict (a.zip b)) else none
    | _, _ => none
  | _ => none
def PV.rds : List PV → Option (List PyData)
  | [] => some []
  | x :: xs => match PV.rd x, PV.rds xs with
    | some d, some ds => some (d :: ds)
    | _, _ => none
end
def reprS (x : PV) : Option PV := match x.rd with
  | some d => if d.showable = true ∧ d.depth ≤ 100 ∧ d.shown.length ≤ 1000000 then some (.str d.shown) else none
  | none => none
def keyD : Key → PyData
  | .inl i => .int i
  | .inr x => .str x
theorem rds_keys : ∀ {ks : List Key} {a : List PyData}, PV.rds (ks.map kP) = some a → a = ks.map keyD
  | [], a, h => by
    simp only [List.map_nil, PV.rds, Option.some.injEq] at h
    exact h.symm
  | k :: ks, a, h => by
    simp only [List.map_cons, PV.rds] at h
    cases hs : PV.rds (ks.map kP) with
    | none => rw [hs] at h; cases k <;> simp [kP, PV.rd] at h
    | some ds =>
      rw [hs] at h
      rw [List.map_cons, ← rds_keys hs]
      cases k <;> simp [kP, PV.rd] at h <;> exact h.symm
theorem dict_vals {P : Program} {w : World} : ∀ {es : List DictEntry} {vs : List (Key × Value)} {kvs : List (Key × V)}, Pairs (mixKind P w) es vs → KV kvs vs → Vals (kvs.map (·.2)) (es.map (·.val))
  | _, _, _, .nil, h => by
    cases h
    exact .nil
  | _, _, _, .cons hk hv t, h => by
    cases h with
    | cons a b =>
      refine .cons ?_ (dict_vals t b)
      dsimp only
      rw [hv]
      exact a.2
theorem dict_keys {P : Program} {w : World} {h0 : Heap} : ∀ {es : List DictEntry} {vs : List (Key × Value)} {kvs : List (Key × V)}, Pairs (mixKind P w) es vs → KV kvs vs → ReadsAll h0 (es.map (·.key)) (kvs.map fun p => keyD p.1) []
  | _, _, _, .nil, h => by
    cases h
    exact .nil
  | _, _, _, .cons (e := e) (kv := kv) hk hv t, h => by
    cases h with
    | cons a b =>
      have r : Reads h0 e.key (keyD kv.1) [] := by
        rcases keyIs_shape (show keyIs kv.1 e.key = true from hk) with ⟨i, t, e1, e2⟩ | ⟨x, t, e1, e2⟩
        · rw [e1, e2]
          exact .int i t
        · rw [e1, e2]
          exact .str x t
      have := ReadsAll.cons r (dict_keys (h0 := h0) t b)
      rw [← a.1] at this
      exact this
mutual
theorem Rp.reads {W : Wd} {X : Cx} {pins : List (Addr × Obj)} {σ : L2.St} {H S : Hp} {s : Shared} (I : Inv X pins σ H s) (hy : ∀ a o, H a = some o → a ≠ sysModules) (e : Same S H) : ∀ {v : V} {x : PV} {d : PyData} {u : Value}, Rp W S v x → x.rd = some d → RelV v u → ∃ as, Reads s.heap u d as ∧ sysModules ∉ as
  | _, _, d, u, .non, h, r => by
    cases h; cases r
    exact ⟨_, .none, by simp⟩
  | _, _, d, u, .bl, h, r => by
    cases h; cases r
    exact ⟨_, .bool _, by simp⟩
  | _, _, d, u, .int, h, r => by
    cases h
    obtain ⟨t, rfl⟩ := r
    exact ⟨_, .int _ t, by simp⟩
  | _, _, d, u, .str, h, r => by
    cases h
    obtain ⟨t, rfl⟩ := r
    exact ⟨_, .str _ t, by simp⟩
  | _, _, d, u, .tup a t, h, r => by
    simp only [PV.rd, Option.map_eq_some_iff] at h
    obtain ⟨ds, h, rfl⟩ := h
    cases r
    obtain ⟨its, rv, ⟨o, ho, hc, n, hd⟩, _⟩ := I.tuple (.inl (.inl (e _ _ a)))
    obtain ⟨as, q1, q2⟩ := t.reads I hy e h rv
    exact ⟨_, .tuple ho hc hd q1, q2⟩
  | _, _, d, u, .lst a t, h, r => by
    simp only [PV.rd, Option.map_eq_some_iff] at h
    obtain ⟨ds, h, rfl⟩ := h
    cases r
    obtain ⟨its, rv, ⟨o, n, ho, hc, _, hd⟩, _⟩ := I.list (.inl (.inl (e _ _ a)))
    obtain ⟨as, q1, q2⟩ := t.reads I hy e h rv
    exact ⟨_, .list ho hc hd q1, by simp [q2, Ne.symm (hy _ _ (e _ _ a))]⟩
  | _, _, d, u, .dK (kvs := kvs) (xs := xs) a t, h, r => by
    simp only [PV.rd] at h
    cases hk : PV.rds (kvs.map fun p => kP p.1) with
    | none => rw [hk] at h; simp at h
    | some ka =>
      cases hv : PV.rds xs with
      | none => rw [hk, hv] at h; simp at h
      | some va =>
        rw [hk, hv] at h
        dsimp only at h
        by_cases hl : ka.length = va.length
        · rw [if_pos hl] at h
          cases h
          cases r
          obtain ⟨_, _, vs, kv, o, es, ep, ho, hx, hd, _, hp, _⟩ := I.hok _ _ (e _ _ a)
          have hk2 : ka = kvs.map fun p => keyD p.1 := by
            have := rds_keys (ks := kvs.map (·.1)) (a := ka) (by rw [List.map_map]; exact hk)
            rw [this, List.map_map]
            rfl
          have r1 := dict_keys (h0 := s.heap) hp kv
          obtain ⟨bs, r2, q2⟩ := t.reads I hy e hv (dict_vals hp kv)
          have z1 : (ka.zip va).map (·.1) = ka := List.map_fst_zip (by omega)
          have z2 : (ka.zip va).map (·.2) = va := List.map_snd_zip (by omega)
          refine ⟨_, Reads.dict (as := []) (bs := bs) ho hx.1 hd ?_ ?_, ?_⟩
          · rw [z1, hk2]
            exact r1
          · rw [z2]
            exact r2
          · simp [q2, Ne.symm (hy _ _ (e _ _ a))]
        · rw [if_neg hl] at h
          cases h
  | _, _, d, u, .dT a t, h, r => by simp [PV.rd] at h
  | _, _, d, u, .ins _ _ _, h, r => by simp [PV.rd] at h
  | _, _, d, u, .gl _, h, r => by simp [PV.rd] at h
  | _, _, d, u, .ty, h, r => by simp [PV.rd] at h
  | _, _, d, u, .pen, h, r => by simp [PV.rd] at h
theorem Rps.reads {W : Wd} {X : Cx} {pins : List (Addr × Obj)} {σ : L2.St} {H S : Hp} {s : Shared} (I : Inv X pins σ H s) (hy : ∀ a o, H a = some o → a ≠ sysModules) (e : Same S H) : ∀ {vs : List V} {xs : List PV} {ds : List PyData} {us : List Value}, Rps W S vs xs → PV.rds xs = some ds → Vals vs us → ∃ as, ReadsAll s.heap us ds as ∧ sysModules ∉ as
  | _, _, ds, us, .nil, h, r => by
    simp only [PV.rds, Option.some.injEq] at h
    subst h
    cases r
    exact ⟨_, .nil, by simp⟩
  | _, _, ds, us, .cons (x := x) (xs := xs) a t, h, r => by
    simp only [PV.rds] at h
    cases hx : PV.rd x with
    | none => rw [hx] at h; simp at h
    | some d =>
      cases hs : PV.rds xs with
      | none => rw [hx, hs] at h; simp at h
      | some ds' =>
        rw [hx, hs] at h
        cases h
        cases r with
        | cons r1 r2 =>
          obtain ⟨as, q1, q2⟩ := a.reads I hy e hx r1
          obtain ⟨bs, q3, q4⟩ := t.reads I hy e hs r2
          exact ⟨_, .cons q1 q3, by simp [q2, q4]⟩
end
/-- sys.modules is known, so nothing tracked stands there -/
theorem not_sys {X : Cx} {pins : List (Addr × Obj)} {σ : L2.St} {H : Hp} {s : Shared} (I : Inv X pins σ H s) (h : (X.K.lookup sysModules).isSome = true) : ∀ a o, H a = some o → a ≠ sysModules := by
  rintro a o ha rfl
  obtain ⟨oo, hk⟩ := Option.isSome_iff_exists.mp h
  have hb := I.ok.mod.kin _ _ hk
  have := I.bs _ _ hb
  rw [this.2] at ha
  cases ha
def rRepr (W : Wd) : List V → Hp → VK → Prop := fun xs H Q => ∃ v x y, xs = [v] ∧ Rp W (np W H) v x ∧ reprS x = some (.str y) ∧ Q (.str y) H
theorem call_reprX {W : Wd} {X : Cx} {k : Nat} (gd : Gd X.A) (hr : X.A.units + 150 < cLine) (hs : (X.K.lookup sysModules).isSome = true) : CallR X (.builtin "repr") (rRepr W) := by
  intro pins s σ H xs us Q I r h
  obtain ⟨v, x, y, rfl, rx, hy, q⟩ := h
  obtain ⟨u, rfl, ru⟩ := vals1 r
  unfold reprS at hy
  cases hd : x.rd with
  | none => rw [hd] at hy; cases hy
  | some d =>
    rw [hd] at hy
    dsimp only at hy
    by_cases hz : d.showable = true ∧ d.depth ≤ 100 ∧ d.shown.length ≤ 1000000
    · rw [if_pos hz] at hy
      have ey : d.shown = y := by simpa using hy
      subst ey
      obtain ⟨h1, h2, h3⟩ := hz
      have h4 : d.shown.length ≤ sizeLine := Nat.le_trans h3 (Nat.le_of_lt big_line)
      obtain ⟨as, hreads, hno⟩ := rx.reads I (not_sys I hs) np_sub hd ru
      cases hreads with
      | none => exact P.repr_of_none ⟨.str "None", H, I.tok _, ⟨_, rfl⟩, q⟩
      | bool b => exact P.repr_of_bool ⟨.str (if b then "True" else "False"), H, I.tok _, ⟨_, rfl⟩, q⟩
      | int i t => exact P.repr_of_int (by simpa [PyData.showable] using h1) ⟨.str (toString i), H, I.tok _, ⟨_, rfl⟩, q⟩
      | str z t => exact P.repr_of_str ⟨.str (reprText z), H, I.tok _, ⟨_, rfl⟩, q⟩ h4
      | list a b c dd => exact repr_of_reads' (.list a b c dd) h1 (fun _ => hno) gd (by omega) (fun _ _ z => z) (fun h' t tk k => ⟨.str _, H, I.kept (t' := tk) k, ⟨_, rfl⟩, q⟩) h4
      | tuple a b c dd => exact repr_of_reads' (.tuple a b c dd) h1 (fun _ => hno) gd (by omega) (fun _ _ z => z) (fun h' t tk k => ⟨.str _, H, I.kept (t' := tk) k, ⟨_, rfl⟩, q⟩) h4
      | dict a b c dd ee => exact repr_of_reads' (.dict a b c dd ee) h1 (fun _ => hno) gd (by omega) (fun _ _ z => z) (fun h' t tk k => ⟨.str _, H, I.kept (t' := tk) k, ⟨_, rfl⟩, q⟩) h4
    · rw [if_neg hz] at hy
      cases hy
def reprPrim : Prim where
  chk := fun sc x => match x with
    | .Call (.Name y _) [e] [] _ => if (decide (y = "repr") && (glB sc y && plainB e)) = true then some [(sc, e)] else none
    | _ => none
  m := fun ms ρ => match ms with
    | [me] => (me ρ).bind fun r => ofV (reprS r.2.fz)
    | _ => .bad
theorem repr_boot : bootBuiltins "repr" = some (.builtin "repr") := by decide +kernel
theorem reprS_str {x y : PV} (h : reprS x = some y) : ∃ z, y = .str z := by
  unfold reprS at h
  split at h
  · split at h
    · exact ⟨_, (Option.some.inj h).symm⟩
    · cases h
  · cases h
theorem repr_need {W : Wd} {k : Nat} (hm : W.mg "repr" = none) (hs : (W.K.lookup sysModules).isSome = true) : Need.holds W k (.prim reprPrim) := by
  intro N sc x ss ms hc hp
  unfold reprPrim at hc ⊢
  dsimp only at hc
  split at hc
  · rename_i y p e pos
    split at hc
    · rename_i hb
      have hb := bt hb
      have e0 := dt hb.1
      subst e0
      have hb2 := bt hb.2
      cases hc
      cases hp with
      | cons pl he t =>
        cases t
        intro X E c
        refine PE.imp (pe_callB (call_reprX (W := W) (k := k) c.gd (by have := c.room.un; omega) (by rw [c.K]; exact hs)) (c.gl hb2.1) (c.fr hm) repr_boot (pa_cons (he X E c) pa_nil (star_cons pl)) (by decide) (by decide) (star_cons pl) (by rfl)) fun σ H Q h => ?_
        refine (op1 h).imp fun v H1 ⟨fe, F0, H0, F', r, e, q, z⟩ => ?_
        cases hr : reprS r.2.fz with
        | none => rw [hr] at z; exact (show False from z).elim
        | some y =>
          rw [hr] at z
          obtain ⟨s, rfl⟩ := reprS_str hr
          exact ⟨v, _, s, rfl, q.read e.g, hr, giveS z e .str⟩
    · cases hc
  · cases hc
end FS

set_option Elab.async false
set_option linter.all false
set_option maxRecDepth 100000
set_option maxHeartbeats 8000000
namespace FS
open PySem PySem.Spec PyProof.Rows L2

/-! ### defs called with the caught error -/
structure FnE (P : Program) (w : World) (K : PySem.W.Frag) (mg : Str → Option Value) (base : Heap) (k : Nat) (f : Addr) (fd : FuncData) (ps : List Str) (sp : Addr × Obj → Sp) : Prop where
  len : ∀ p vs H Q E, sp p vs H Q E → vs.length = ps.length
  run : ∀ (A : Around) (outer : List Env) (s : Shared) (H : Hp) (args : Args) (us : List Value) (vs : List V) (Q : VK) (E : XK) (p : Addr × Obj), Gd A → L2H.RoomH k A → L2H.PinOk outer H s p → Env0 P w K mg base A outer s H → BindsTo s fd args (ps.zip us) → Vals vs us → sp p vs H Q E →
    codeAny (model P w) A (.call (.ref f) args) (CR CX0 outer P w H s Q E) s
abbrev cxE (P : Program) (w : World) (K : PySem.W.Frag) (mg : Str → Option Value) (base : Heap) (N : List Str) (qual : Str) (scope : Scope) (f : Addr) (cd : Value) (A : Around) (outer : List Env) (s : Shared) (H : Hp) (E : XK) (p : Addr × Obj) : Cx :=
  L2H.cxH CX0 P w K mg base N qual scope f cd A outer s H E p
theorem fn_ofE {P : Program} {w : World} {K : PySem.W.Frag} {mg : Str → Option Value} {base : Heap} {k : Nat} {f : Addr} {x qual : Str} {params : Arguments} {body : List Stmt} {scope : Scope} {fd : FuncData} {N ps : List Str} {sp : Addr × Obj → Sp} (F : FunD K x qual params body scope [] [] f fd) (S : FnScope N ps scope)
    (len : ∀ p vs H Q E, sp p vs H Q E → vs.length = ps.length)
    (hbody : ∀ (cdv : Value) (A : Around) (outer : List Env) (s : Shared) (H : Hp) (vs : List V) (Q : VK) (E : XK) (p : Addr × Obj), Gd (A.deeper (envOfC qual scope s.heap.objs.size f cdv)) → L2H.RoomH k (A.deeper (envOfC qual scope s.heap.objs.size f cdv)) → sp p vs H Q E →
      ∃ t, PSs (cxE P w K mg base N qual scope f cdv A outer s H E p).nox body t ∧ t { nx := fun _ H' => Q .non H', rt := Q } (L2.start N vs) H) : FnE P w K mg base (k + 1) f fd ps sp := by
  obtain ⟨oc, od, dV, kV, doc, pm, an, cdv, ct, osl, rfl, lk, hcd, _, _⟩ := F.ex
  refine ⟨len, fun A outer s H args us vs Q E p hg hr hpin e0 hb r hsp => ?_⟩
  have hl := len _ _ _ _ _ hsp
  have old : ∀ b o, base.get? b = some o → s.heap.get? b = some o := fun b o e => (e0.bs b o e).1
  have kin : K.In s.heap := e0.mod.kin.keeps old
  have hkind : ∀ y ∈ ps.zip us, scope.names.lookup y.1 = some .local ∨ (scope.names.lookup y.1 = some .cell ∧ ((cellsFrom (s.heap.objs.size + 1) scope.names []).lookup y.1).isSome = true) := by
    rintro ⟨n, v⟩ hy
    exact (S.par n (List.of_mem_zip hy).1).imp id fun q => ⟨q, PySem.W.cellsFrom_some _ _ _ (.inl q)⟩
  refine codeAny_call_function hr.depth (kin _ _ lk) rfl S.co S.gen rfl (PySem.W.codeRec_of kin hcd) (hb _ _ _ _ (wpAny_newFunctionEnv_cells S.kind hkind fun env he s1 z => ?_))
  subst he
  obtain ⟨t, ht, hq⟩ := hbody cdv A outer s H vs Q E p hg (hr.deeper _) hsp
  have ht := PSs.nox ht
  refine ⟨(e0.mod.nolimit.keeps old).keeps z.toInCall.keep, codeAny_func (wpAny_mono (ht.run [] s1 (L2.start N vs) H _ (L2H.inv_startH S hpin e0 hl r z) hq) (fun fl s' hs => ?_) fun e s' hs => hs)⟩
  cases fl with
  | ret u => exact let ⟨v, σ', H', J, rv, q⟩ := hs; ⟨v, H', J.os, J.bare, J.base, J.hok, rv, q⟩
  | next => exact let ⟨σ', H', J, q⟩ := hs; ⟨V.non, H', J.os, J.bare, J.base, J.hok, rfl, q⟩
  | brk => exact let ⟨_, _, _, q⟩ := hs; False.elim q
  | cont => exact let ⟨_, _, _, q⟩ := hs; False.elim q
section
variable {X : Cx} {k : Nat} {f : Addr} {fd : FuncData} {ps : List Str} {sp : Addr × Obj → Sp} {x : Str} {q pos : Pos} {e : Expr} {es : List Expr} {t : TA}
theorem pe_callE {E : XK} {p : Addr × Obj} (hp : p ∈ X.pn) (F : FnE X.prog X.w X.K X.mg X.base k f fd ps sp) (gd : Gd X.A) (hr : L2H.RoomH k X.A) (hg : Gl X x) (hm : X.mg x = some (.ref f)) (hk : PySem.W.keepIn X.K (.ref f) = true) (hb : Binds X.K fd ps [])
    (ha : PA X (e :: es) t) (hdb : (x == ("__debug__" : Str)) = false := by decide) (he : starEach (e :: es) X.env = (false, eval e X.env) :: starEach es X.env := by rfl) (hpl : (backTo pos (starEach es X.env)).any (·.1) = false := by rfl) :
    PE X (.Call (.Name x q) (e :: es) [] pos) (fun σ H Q => t σ H fun vs H1 => sp p vs H1 Q E) := by
  refine ⟨fun pins s σ H Q I h => wpAny_Call_Name_kw (ld_glob I hg hm (PySem.W.callWith_K (h₀ := X.base) I.ok.mod.kin hk (thn (ha.run pos pins s σ H _ I h) fun us s1 ⟨vs, H1, I1, r, z⟩ => ⟨I1.kIn, ?_⟩) he hpl) hdb)⟩
  have hl : us.length = ps.length := by rw [← r.length]; exact F.len _ _ _ _ _ z
  have b := hb s1 us I1.kIn (by rw [List.append_nil]; exact hl)
  rw [List.append_nil] at b
  have P1 := I1.pin p (List.mem_append_left _ hp)
  have hpin : L2H.PinOk X.stack H1 s1 p := ⟨P1.1, P1.2.1, fun hm => (List.mem_cons.mp (I1.stkSub p.1 hm)).elim P1.2.2.1 P1.2.2.2.1, P1.2.2.2.2⟩
  refine wpAny_call (codeAny_mono (F.run X.A X.stack s1 H1 ⟨us, []⟩ us vs Q E p gd hr hpin I1.env0 b r z) fun r s' hq => ?_)
  cases r with
  | error e => exact False.elim hq
  | ok fl => cases fl with
    | ret u => exact I1.after hq
    | _ => exact False.elim hq
/-- isinstance(e, c), e the caught error -/
def rIsP (K : PySem.W.Frag) (D a : Addr) (d : Option Addr) : List V → Hp → VK → Prop := fun xs H Q => ∃ (c : V) (cv : Value) (b : Bool), xs = [.ref a, c] ∧ (∀ u, RelV c u → u = cv) ∧ PySem.W.kitOne K (.ref D) cv = some b ∧ (∀ dd, d = some dd → ∃ fs, H dd = some (.xd fs)) ∧ Q (.bl b) H
theorem call_isP {a D : Addr} {oe : Obj} {d : Option Addr} (hp : (a, oe) ∈ X.pn) (C : ExcC X.K D) (hz : Zc (.ref D) d oe) (hf : ∃ vs, oe.data = .fields vs) : CallR X (.builtin "isinstance") (rIsP X.K D a d) := by
  intro pins s σ H xs us Q I r h
  obtain ⟨c, cv, b, rfl, hcv, e, hd, q⟩ := h
  cases r with
  | cons rx rr =>
    cases rr with
    | cons rt rr =>
      cases rr
      cases rx
      have ec := hcv _ rt
      subst ec
      obtain ⟨hget, _⟩ := I.pin (a, oe) (List.mem_append_left _ hp)
      obtain ⟨vs, hv⟩ := hf
      obtain ⟨od, J⟩ : ∃ od, PySem.W.InstAt s.heap a oe D od := by
        obtain ⟨oc, odd, oda, osl⟩ := oe
        obtain ⟨h1, h2⟩ := hz
        dsimp only at h1 h2 hv
        subst h1 h2 hv
        cases odd with
        | none => exact ⟨none, hget, rfl, rfl, trivial⟩
        | some dd =>
          obtain ⟨fs, hdd⟩ := hd dd rfl
          obtain ⟨mA, hns, _⟩ : ObjOk X.prog X.w H s.heap dd (.xd fs) := I.hok dd _ hdd
          obtain ⟨od, ho, _⟩ := lookIn_ns hns
          exact ⟨some od, hget, rfl, rfl, ho⟩
      have hcl : (PySem.W.clsIn X.K D).isSome = true := by
        have := C.hd
        unfold PySem.W.hasDictIn at this
        cases hc : PySem.W.clsIn X.K D with
        | none => rw [hc] at this; cases this
        | some _ => rfl
      exact PySem.W.kia_one (PySem.W.kitx_exc hcl C.hg C.hk C.hs C.ha C.hn C.ht C.hm) I.kIn J e (fun z => nomatch z) fun tk => ⟨.bl b, H, I.kept (t' := tk) fun _ _ z => z, rfl, q⟩
/-- e.f, e the caught error -/
theorem pe_xfP {a C dd : Addr} {oe : Obj} {e : Expr} {te : TE} {pos : Pos} {n : Str} (hp : (a, oe) ∈ X.pn) (T : XfC X.K C) (hno : PySem.W.findIn X.K (.ref C) n = some none)
    (hz : Zc (.ref C) (some dd) oe) (hf : ∃ vs, oe.data = .fields vs) (he : PE X e te) (hb : attributeBase e n X.env (eval e X.env) = eval e X.env := by rfl) :
    PE X (.Attribute e n pos) (fun σ H Q => te σ H fun x H1 => x = .ref a ∧ ∃ (fs : List (Str × V)) (v : V), H1 dd = some (.xd fs) ∧ fs.lookup n = some v ∧ Q v H1) := by
  refine ⟨fun pins s σ H Q I h => ?_⟩
  refine attr_of hb (thn (he.run pins s σ H _ I h) fun u s1 hh => ?_)
  obtain ⟨x, H1, I1, rx, ex, fs, v, ea, l, q⟩ := hh
  subst ex
  obtain rfl : u = Value.ref a := rx
  obtain ⟨ha, _⟩ := I1.pin (a, oe) (List.mem_append_left _ hp)
  obtain ⟨vs, hd⟩ := hf
  obtain ⟨mA, hns, hr⟩ : ObjOk X.prog X.w H1 s1.heap dd (.xd fs) := I1.hok dd _ ea
  obtain ⟨od, ho, hl⟩ := lookIn_ns hns
  obtain ⟨u, hu, ru⟩ := RelO.some_of (v := v) (o := mA n) (by rw [← l]; exact hr n)
  have J : PySem.W.InstAt s1.heap a oe C (some od) := ⟨ha, hz.1, by unfold PySem.W.notCls; rw [hd] <;> rfl, by rw [hz.2]; exact ho⟩
  exact HandSPX.exc_get I1.kIn J T.ga T.gg T.exC (PySem.W.findObj_own T.hdC hno rfl (by rw [hl, hu])) (handed_of ru) ⟨v, H1, I1.tok _, ru, q⟩
end
end FS

set_option Elab.async false
set_option linter.all false
set_option maxRecDepth 100000
set_option maxHeartbeats 8000000
namespace FS
open PySem PySem.Spec PyProof.Rows L2

/-! ### what is told of an error: class by class -/
/-- class, word, fields (and whether shown) -/
abbrev KE := Str × Str × List (Str × Bool)
def kField (ns : List Str) (xs : List PV) (p : Str × Bool) : Option PV := match (ns.zip xs).lookup p.1 with
  | some v => if p.2 then reprS v else some v
  | none => none
def kFields (ns : List Str) (xs : List PV) : List (Str × Bool) → Option (List PV)
  | [] => some []
  | p :: r => match kField ns xs p, kFields ns xs r with
    | some v, some vs => some (v :: vs)
    | _, _ => none
def kStep (c : Str) (ns : List Str) (xs : List PV) (e : KE) (ys : List PV) : Option (List PV) :=
  if e.1 = c then (match kFields ns xs e.2.2 with
    | some vs => if ys.length < 1000 ∧ vs.length < 1000 then some (ys ++ [.tup (.str e.2.1 :: vs)]) else none
    | none => none) else some ys
def kRun (c : Str) (ns : List Str) (xs : List PV) : List KE → List PV → Option (List PV)
  | [], ys => some ys
  | e :: r, ys => (kStep c ns xs e ys).bind (kRun c ns xs r)
structure CxE (W : Wd) (k : Nat) (N : List Str) (sc : Scope) (X : Cx) (a : Addr) (oe : Obj) : Prop where
  prog : X.prog = W.P
  w : X.w = W.w
  K : X.K = W.K
  mg : X.mg = W.mg
  base : X.base = W.base
  nd : N.Nodup
  N : X.N = N
  sc : X.env.scope = sc
  gd : Gd X.A
  room : L2H.RoomH k X.A
  pn : (a, oe) ∈ X.pn
  fl : ∃ vs, oe.data = .fields vs
/-- the class of the error, as the written part tells it -/
structure EcS (W : Wd) (C : Addr) (c : Str) : Prop where
  mg : W.mg c = some (.ref C)
  is : ExcC W.K C
  xf : XfC W.K C
  sys : (W.K.lookup sysModules).isSome = true
  frR : W.mg "repr" = none
  frI : W.mg "isinstance" = none
structure EntS (W : Wd) (C : Addr) (c : Str) (e : KE) : Prop where
  is : ∃ C', W.mg e.1 = some (.ref C') ∧ PySem.W.kitOne W.K (.ref C) (.ref C') = some (decide (e.1 = c))
  fs : e.1 = c → ∀ p ∈ e.2.2, PySem.W.findIn W.K (.ref C) p.1 = some none
def KI (W : Wd) (d : Option Addr) (ns : List Str) (xs : List PV) (F0 H0 : Hp) : Prop := match d with
  | none => ns = [] ∧ xs = []
  | some dd => dd ≠ W.pen ∧ ∃ fs : List (Str × V), H0 dd = some (.xd fs) ∧ fs.map (·.1) = ns ∧ Rps W F0 (fs.map (·.2)) xs
def fldB (N : List Str) (sc : Scope) (p : Str × Bool) (e : Expr) : Bool := match p.2, e with
  | false, .Attribute (.Name s _) f _ => decide (N[0]? = some s) && (visB sc s && (nmB s && decide (f = p.1)))
  | true, .Call (.Name r _) [.Attribute (.Name s _) f _] [] _ => decide (r = "repr") && (glB sc r && (decide (N[0]? = some s) && (visB sc s && (nmB s && decide (f = p.1)))))
  | _, _ => false
def fldsB (N : List Str) (sc : Scope) : List (Str × Bool) → List Expr → Bool
  | [], es => es.isEmpty
  | p :: r, es => (match es with | e :: es => plainB e && (fldB N sc p e && fldsB N sc r es) | [] => false)
section
variable {W : Wd} {k : Nat} {N : List Str} {sc : Scope} {X : Cx} {a : Addr} {oe : Obj} {C dd : Addr} {c : Str}
def tFd (W : Wd) (a dd : Addr) (p : Str × Bool) : TE :=
  let t : TE := fun σ H Q => tVar 0 σ H fun x H1 => x = .ref a ∧ ∃ (fs : List (Str × V)) (v : V), H1 dd = some (.xd fs) ∧ fs.lookup p.1 = some v ∧ Q v H1
  if p.2 then tCB (rRepr W) (tCons t tNil) else t
def tFds (W : Wd) (a dd : Addr) : List (Str × Bool) → TA
  | [] => tNil
  | p :: r => tCons (tFd W a dd p) (tFds W a dd r)
theorem pe_fd (x : CxE W k N sc X a oe) (ec : EcS W C c) (hz : Zc (.ref C) (some dd) oe) {p : Str × Bool} {e : Expr} (hn : PySem.W.findIn W.K (.ref C) p.1 = some none) (h : fldB N sc p e = true) : PE X e (tFd W a dd p) := by
  have go : ∀ {s : Str} {f : Str} {p1 pos : Pos}, N[0]? = some s → visB sc s = true → nmB s = true → f = p.1 → PE X (.Attribute (.Name s p1) f pos) (fun σ H Q => tVar 0 σ H fun x H1 => x = .ref a ∧ ∃ (fs : List (Str × V)) (v : V), H1 dd = some (.xd fs) ∧ fs.lookup p.1 = some v ∧ Q v H1) := by
    rintro s f p1 pos h1 h2 h3 rfl
    exact pe_xfP x.pn (by rw [x.K]; exact ec.xf) (by rw [x.K]; exact hn) hz x.fl (pe_var (by rw [x.N]; exact h1) (by rw [x.sc]; exact visB_ok h2) (nmB_ok h3).1 (nmB_ok h3).2.1) (by rfl)
  obtain ⟨f, b⟩ := p
  unfold fldB at h
  cases b with
  | false =>
    dsimp only at h
    split at h
    · simp only [Bool.and_eq_true, decide_eq_true_eq] at h
      exact go h.1 h.2.1 h.2.2.1 h.2.2.2
    · rename_i q
      cases q
    · cases h
  | true =>
    dsimp only at h
    split at h
    · rename_i q
      cases q
    · simp only [Bool.and_eq_true, decide_eq_true_eq] at h
      obtain ⟨rfl, h1, h2, h3, h4, h5⟩ := h
      exact pe_callB (call_reprX (k := k) x.gd (by have := x.room.un; omega) (by rw [x.K]; exact ec.sys)) (by show X.env.scope.names.lookup _ = _; rw [x.sc]; exact glB_ok h1) (by rw [x.mg]; exact ec.frR) repr_boot (pa_cons (go h2 h3 h4 h5) pa_nil (by rfl)) (by decide) (by decide) (by rfl) (by rfl)
    · cases h
theorem pa_fds (x : CxE W k N sc X a oe) (ec : EcS W C c) (hz : Zc (.ref C) (some dd) oe) : ∀ {ps : List (Str × Bool)} {es : List Expr}, (∀ p ∈ ps, PySem.W.findIn W.K (.ref C) p.1 = some none) → fldsB N sc ps es = true → PA X es (tFds W a dd ps)
  | [], [], _, _ => pa_nil
  | [], _ :: _, _, h => by simp [fldsB] at h
  | p :: r, [], _, h => by simp [fldsB] at h
  | p :: r, e :: es, hn, h => by
    unfold fldsB at h
    have h := bt h
    have h2 := bt h.2
    exact pa_cons (pe_fd x ec hz (hn p (by simp)) h2.1) (pa_fds x ec hz (fun q hq => hn q (by simp [hq])) h2.2) (star_cons h.1)
theorem lookup_zip {F : Hp} : ∀ {fs : List (Str × V)} {xs : List PV} {f : Str} {x : PV}, Rps W F (fs.map (·.2)) xs → ((fs.map (·.1)).zip xs).lookup f = some x → ∃ v, fs.lookup f = some v ∧ Rp W F v x
  | [], _, _, _, r, h => by cases r; simp at h
  | (g, v) :: fs, _, f, x, r, h => by
    cases r with
    | @cons _ _ y ys a t =>
      simp only [List.map_cons, List.zip_cons_cons, List.lookup_cons] at h ⊢
      cases e : (f == g) with
      | true =>
        rw [e] at h
        cases h
        exact ⟨v, by simp [e], a⟩
      | false =>
        rw [e] at h
        obtain ⟨w, h1, h2⟩ := lookup_zip t h
        exact ⟨w, by simp [e, h1], h2⟩
/-- the fields, read -/
theorem fds_ok {σ : L2.St} {H F : Hp} {fs : List (Str × V)} {xs : List PV} (g : Good W F H) (h0 : σ[0]? = some (some (.ref a))) (hd : H dd = some (.xd fs)) (r : Rps W F (fs.map (·.2)) xs) : ∀ {ps : List (Str × Bool)} {ys : List PV} {Q : List V → Hp → Prop},
    kFields (fs.map (·.1)) xs ps = some ys → (∀ vs, Rps W F vs ys → Q vs H) → tFds W a dd ps σ H Q
  | [], ys, Q, h, q => by
    cases h
    exact q [] .nil
  | p :: ps, ys, Q, h, q => by
    simp only [kFields] at h
    cases h1 : kField (fs.map (·.1)) xs p with
    | none => rw [h1] at h; simp at h
    | some y =>
      cases h2 : kFields (fs.map (·.1)) xs ps with
      | none => rw [h1, h2] at h; simp at h
      | some ys' =>
        rw [h1, h2] at h
        cases h
        unfold kField at h1
        cases hl : ((fs.map (·.1)).zip xs).lookup p.1 with
        | none => rw [hl] at h1; cases h1
        | some x =>
          rw [hl] at h1
          dsimp only at h1
          obtain ⟨v, l1, l2⟩ := lookup_zip r hl
          have rest : ∀ w, Rp W F w y → tFds W a dd ps σ H (fun vs H' => Q (w :: vs) H') := fun w rw_ => fds_ok g h0 hd r h2 fun vs rv => q (w :: vs) (.cons rw_ rv)
          obtain ⟨f, b⟩ := p
          cases b with
          | false =>
            have e : x = y := by simpa using h1
            subst e
            exact ⟨.ref a, h0, rfl, fs, v, hd, l1, rest v l2⟩
          | true =>
            have h1 : reprS x = some y := by simpa using h1
            obtain ⟨z, rfl⟩ := reprS_str h1
            exact ⟨.ref a, h0, rfl, fs, v, hd, l1, v, x, z, rfl, l2.mono g.np, h1, rest (.str z) .str⟩
/-- if isinstance(e, class): found.append((word, ..)) -/
def kStB (N : List Str) (sc : Scope) (e : KE) (st : Stmt) : Bool := match st with
  | .If (.Call (.Name i _) [.Name s _, .Name cl _] [] _) [.Expr (.Call (.Attribute (.Name fnd _) m p2) [.Tuple (.Constant (.str w) _ _ :: fs) _ _] [] p3) _] [] _ =>
    decide (i = "isinstance") && (glB sc i && (decide (N[0]? = some s) && (visB sc s && (nmB s && (decide (cl = e.1) && (glB sc cl && (nmB cl && (mB N sc 1 fnd && (decide (m = "append") && ((p2.endLine == p3.line) && (decide (w = e.2.1) && fldsB N sc e.2.2 fs)))))))))))
  | _ => false
def kStsB (N : List Str) (sc : Scope) : List KE → List Stmt → Bool
  | [], ss => ss.isEmpty
  | e :: r, ss => (match ss with | s :: ss => kStB N sc e s && kStsB N sc r ss | [] => false)
abbrev kρ (ys : List PV) : Loc := [none, some (.lst true ys)]
/-- behind some of them -/
def tKs (W : Wd) (a : Addr) (d : Option Addr) (c : Str) (tbl : List KE) : TS := fun D σ H => ∃ F0 H0 Fb F fp ns xs ys ys', At W F0 H0 Fb F H σ (kρ ys) fp ∧ KI W d ns xs F0 H0 ∧ σ[0]? = some (some (.ref a)) ∧ kRun c ns xs tbl ys = some ys' ∧
  ∀ F H σ fp, At W F0 H0 Fb F H σ (kρ ys') fp → σ[0]? = some (some (.ref a)) → D.nx σ H
def tK1 (W : Wd) (a : Addr) (d : Option Addr) (c : Str) (e : KE) : TS := fun D σ H => ∃ F0 H0 Fb F fp ns xs ys ys', At W F0 H0 Fb F H σ (kρ ys) fp ∧ KI W d ns xs F0 H0 ∧ σ[0]? = some (some (.ref a)) ∧ kStep c ns xs e ys = some ys' ∧
  ∀ F H σ fp, At W F0 H0 Fb F H σ (kρ ys') fp → σ[0]? = some (some (.ref a)) → D.nx σ H
/-- the error's dict stands -/
theorem KI.at_ {F0 H0 F H : Hp} {d : Option Addr} {ns : List Str} {xs : List PV} (e : Ext W F0 H0 F H) (k : KI W d ns xs F0 H0) : ∀ dd, d = some dd → ∃ fs : List (Str × V), H dd = some (.xd fs) ∧ fs.map (·.1) = ns ∧ Rps W F (fs.map (·.2)) xs := by
  rintro dd rfl
  obtain ⟨h1, fs, h2, h3, h4⟩ := k
  exact ⟨fs, e.h _ _ h1 h2, h3, h4.mono e.f⟩
theorem kFields_none {p : Str × Bool} {r : List (Str × Bool)} : kFields [] [] (p :: r) = none := by
  simp [kFields, kField]
theorem ps_k1 (x : CxE W k N sc X a oe) (ec : EcS W C c) {d : Option Addr} (hz : Zc (.ref C) d oe) {e : KE} (es : EntS W C c e) {st : Stmt} (h : kStB N sc e st = true) : PS X st (tK1 W a d c e) := by
  unfold kStB at h
  split at h
  · rename_i i pi s ps cl pc pp fnd pf m p2 w wj wp fs fj fp p3 pe pif
    simp only [Bool.and_eq_true, decide_eq_true_eq] at h
    obtain ⟨rfl, g1, n0, n1, n2, rfl, g2, g3, m0, rfl, l0, rfl, hf⟩ := h
    obtain ⟨m1, m2, m3⟩ := mB_ok m0
    obtain ⟨C', c1, c2⟩ := es.is
    have pv0 : PE X (.Name s ps) (tVar 0) := pe_var (by rw [x.N]; exact n0) (by rw [x.sc]; exact visB_ok n1) (nmB_ok n2).1 (nmB_ok n2).2.1
    have pv1 : PE X (.Name fnd pf) (tVar 1) := pe_var (by rw [x.N]; exact m1) (by rw [x.sc]; exact visB_ok m2) (nmB_ok m3).1 (nmB_ok m3).2.1
    have gl : ∀ {y : Str}, glB sc y = true → Gl X y := fun hy => by
      show X.env.scope.names.lookup _ = _
      rw [x.sc]
      exact glB_ok hy
    have test : PT X (.Call (.Name "isinstance" pi) [.Name s ps, .Name e.1 pc] [] pp) (tB (tCB (rIsP W.K C a d) (tCons (tVar 0) (tCons (tC (.ref C')) tNil)))) := by
      have := call_isP (X := X) (D := C) (d := d) x.pn (by rw [x.K]; exact ec.is) hz x.fl
      rw [x.K] at this
      exact pt_val (pe_callB this (gl g1) (by rw [x.mg]; exact ec.frI) boot_isinstance (pa_cons pv0 (pa_cons (pe_glob (v := .ref C') (gl g2) (by rw [x.mg]; exact c1) rfl (nm1 g3)) pa_nil)) (by decide) (by decide) (by rfl) (by rfl))
    have run : ∀ {σ : L2.St} {H F0 H0 F : Hp} {ns : List Str} {xs : List PV} {Q : Bool → Hp → Prop}, Ext W F0 H0 F H → KI W d ns xs F0 H0 → σ[0]? = some (some (.ref a)) → Q (decide (e.1 = c)) H → tB (tCB (rIsP W.K C a d) (tCons (tVar 0) (tCons (tC (.ref C')) tNil))) σ H Q := fun {σ H F0 H0 F ns xs Q} ee ki h0 q =>
      ⟨.ref a, h0, .ref C', .ref C', decide (e.1 = c), rfl, fun u r => r, c2, fun dd hd => let ⟨fs, z, _⟩ := ki.at_ ee dd hd; ⟨fs, z⟩, _, rfl, q⟩
    by_cases hc : e.1 = c
    · by_cases hd : d = none ∧ e.2.2 ≠ []
      · refine PS.imp (ps_if test pss_never pss_nil) fun D σ H ⟨F0, H0, Fb, F, fq, ns, xs, ys, ys', at_, ki, h0, hk, q⟩ => ?_
        obtain ⟨rfl, hne⟩ := hd
        obtain ⟨rfl, rfl⟩ := ki
        unfold kStep at hk
        rw [if_pos hc] at hk
        cases he : e.2.2 with
        | nil => exact absurd he hne
        | cons p r =>
          rw [he, kFields_none] at hk
          cases hk
      · have pa : PA X fs (tFds W a (d.getD 0) e.2.2) := by
          cases d with
          | some dd => exact pa_fds x ec hz (es.fs hc) hf
          | none =>
            have hn : e.2.2 = [] := by
              cases he : e.2.2 with
              | nil => rfl
              | cons p r => exact absurd ⟨rfl, by rw [he]; simp⟩ hd
            rw [hn] at hf ⊢
            cases fs with
            | nil => exact pa_nil
            | cons _ _ => simp [fldsB] at hf
        refine PS.imp (ps_if test (pss_one (ps_expr (pe_bm PySem.F.plainAttrs_list PySem.F.slot_list_append PySem.F.type_list_append mt_append pv1 (pa_cons (pe_tup (pa_cons pe_str pa (by rfl))) pa_nil (by rfl)) rfl (by rfl) l0 (by rfl) (by rfl)) (by rfl))) pss_nil) fun D σ H ⟨F0, H0, Fb, F, fq, ns, xs, ys, ys', at_, ki, h0, hk, q⟩ => ?_
        refine run at_.e ki h0 ?_
        rw [if_pos (by simp [hc])]
        unfold kStep at hk
        rw [if_pos hc] at hk
        cases hks : kFields ns xs e.2.2 with
        | none => rw [hks] at hk; cases hk
        | some vs =>
          rw [hks] at hk
          dsimp only at hk
          by_cases hl : ys.length < 1000 ∧ vs.length < 1000
          · rw [if_pos hl] at hk
            cases hk
            obtain ⟨v, f, g, k1, k2, k3, k4, k5⟩ := at_.env.split (i := 1) (x := .lst true ys) rfl
            obtain ⟨l, us, f0, rfl, rfl, hp, hF, hn, rs, hnp⟩ := k2.lstI
            refine ⟨.ref l, k1, .inl ⟨rfl, _, SqL.of hp⟩, ?_⟩
            have go : tFds W a (d.getD 0) e.2.2 σ H fun ws H1 => (V.str e.2.1 :: ws).length ≤ sizeLine ∧ ∀ p, H1 p = none → rAppend (.ref l) [.ref p] (upd H1 p (.tup (.str e.2.1 :: ws))) fun _ H2 => D.nx σ H2 := by
              have fin : ∀ ws, Rps W F ws vs → (V.str e.2.1 :: ws).length ≤ sizeLine ∧ ∀ p, H p = none → rAppend (.ref l) [.ref p] (upd H p (.tup (.str e.2.1 :: ws))) fun _ H2 => D.nx σ H2 := fun ws rw_ => by
                have hb := big_line
                refine ⟨by rw [List.length_cons, rw_.length]; omega, fun p hp0 => ?_⟩
                have e2 := at_.e.g.laidF (o := .tup (.str e.2.1 :: ws)) hp0
                have a2 := at_.ext e2
                obtain ⟨l', us', eq, hp', hl', fr, a3⟩ := app_core a2 (i := 1) (xs := ys) rfl k1 (.st (.tup upd_same (.cons .str (rw_.mono e2.f)))) (fun _ z => by simp at z) (fun _ z => by simp at z)
                cases eq
                exact ⟨l, us', .ref p, rfl, rfl, hp', by rw [hl']; omega, q _ _ _ fr a3 h0⟩
              cases d with
              | none =>
                have hn : e.2.2 = [] := by
                  cases he : e.2.2 with
                  | nil => rfl
                  | cons p r => exact absurd ⟨rfl, by rw [he]; simp⟩ hd
                rw [hn] at hks ⊢
                cases hks
                exact fin [] .nil
              | some dd =>
                obtain ⟨fs', z1, z2, z3⟩ := ki.at_ at_.e dd rfl
                subst z2
                exact fds_ok at_.e.g h0 z1 z3 hks fin
            exact go
          · rw [if_neg hl] at hk
            cases hk
    · refine PS.imp (ps_if test pss_never pss_nil) fun D σ H ⟨F0, H0, Fb, F, fq, ns, xs, ys, ys', at_, ki, h0, hk, q⟩ => ?_
      refine run at_.e ki h0 ?_
      rw [if_neg (by simp [hc])]
      unfold kStep at hk
      rw [if_neg hc] at hk
      cases hk
      exact q _ _ _ _ at_ h0
  · cases h
theorem pss_ks (x : CxE W k N sc X a oe) (ec : EcS W C c) {d : Option Addr} (hz : Zc (.ref C) d oe) : ∀ {tbl : List KE} {ss : List Stmt}, (∀ e ∈ tbl, EntS W C c e) → kStsB N sc tbl ss = true → PSs X ss (tKs W a d c tbl)
  | [], [], _, _ => PSs.imp pss_nil fun D σ H ⟨F0, H0, Fb, F, fq, ns, xs, ys, ys', at_, ki, h0, hk, q⟩ => by
    cases hk
    exact q _ _ _ _ at_ h0
  | [], _ :: _, _, h => by simp [kStsB] at h
  | e :: r, [], _, h => by simp [kStsB] at h
  | e :: r, s :: ss, he, h => by
    unfold kStsB at h
    have h := bt h
    refine PSs.imp (pss_cons (ps_k1 x ec hz (he e (by simp)) h.1) (pss_ks x ec hz (fun e' h' => he e' (by simp [h'])) h.2)) fun D σ H ⟨F0, H0, Fb, F, fq, ns, xs, ys, ys', at_, ki, h0, hk, q⟩ => ?_
    unfold kRun at hk
    obtain ⟨y1, k1, k2⟩ := Option.bind_eq_some_iff.mp hk
    exact ⟨F0, H0, Fb, F, fq, ns, xs, ys, y1, at_, ki, h0, k1, fun F H σ fp a2 h2 => ⟨F0, H0, Fb, F, fp, ns, xs, y1, ys', a2, ki, h2, k2, q⟩⟩
end
end FS

set_option Elab.async false
set_option linter.all false
set_option maxRecDepth 100000
set_option maxHeartbeats 8000000
namespace FS
open PySem PySem.Spec PyProof.Rows L2

section
variable {W : Wd} {k : Nat} {N : List Str} {sc : Scope} {X : Cx} {a : Addr} {oe : Obj} {C dd : Addr} {c : Str}
theorem pss_ksT (x : CxE W k N sc X a oe) (ec : EcS W C c) {d : Option Addr} (hz : Zc (.ref C) d oe) {tail : List Stmt} {t : TS} (ht : PSs X tail t) : ∀ {tbl : List KE} {ss : List Stmt}, (∀ e ∈ tbl, EntS W C c e) → kStsB N sc tbl ss = true → PSs X (ss ++ tail) (tSeq (tKs W a d c tbl) t)
  | [], [], _, _ => PSs.imp ht fun D σ H ⟨F0, H0, Fb, F, fq, ns, xs, ys, ys', at_, ki, h0, hk, q⟩ => by
    cases hk
    exact q _ _ _ _ at_ h0
  | [], _ :: _, _, h => by simp [kStsB] at h
  | e :: r, [], _, h => by simp [kStsB] at h
  | e :: r, s :: ss, he, h => by
    unfold kStsB at h
    have h := bt h
    refine PSs.imp (pss_cons (ps_k1 x ec hz (he e (by simp)) h.1) (pss_ksT x ec hz ht (fun e' h' => he e' (by simp [h'])) h.2)) fun D σ H ⟨F0, H0, Fb, F, fq, ns, xs, ys, ys', at_, ki, h0, hk, q⟩ => ?_
    unfold kRun at hk
    obtain ⟨y1, k1, k2⟩ := Option.bind_eq_some_iff.mp hk
    exact ⟨F0, H0, Fb, F, fq, ns, xs, ys, y1, at_, ki, h0, k1, fun F H σ fp a2 h2 => ⟨F0, H0, Fb, F, fp, ns, xs, y1, ys', a2, ki, h2, k2, q⟩⟩
end
theorem kRun_st {c : Str} {ns : List Str} {xs : List PV} : ∀ {tbl : List KE} {ys ys' : List PV}, kRun c ns xs tbl ys = some ys' → ys.all PV.st = true → ys'.all PV.st = true
  | [], ys, ys', h, s => by
    cases h
    exact s
  | e :: r, ys, ys', h, s => by
    unfold kRun at h
    obtain ⟨y1, k1, k2⟩ := Option.bind_eq_some_iff.mp h
    refine kRun_st k2 ?_
    unfold kStep at k1
    split at k1
    · split at k1
      · split at k1
        · cases k1
          simp [s, PV.st]
        · cases k1
      · cases k1
    · cases k1
      exact s
theorem kRun_len {c : Str} {ns : List Str} {xs : List PV} : ∀ {tbl : List KE} {ys ys' : List PV}, kRun c ns xs tbl ys = some ys' → ys'.length ≤ ys.length + tbl.length
  | [], ys, ys', h => by
    cases h
    simp
  | e :: r, ys, ys', h => by
    unfold kRun at h
    obtain ⟨y1, k1, k2⟩ := Option.bind_eq_some_iff.mp h
    have := kRun_len k2
    have : y1.length ≤ ys.length + 1 := by
      unfold kStep at k1
      split at k1
      · split at k1
        · split at k1
          · cases k1
            simp
          · cases k1
        · cases k1
      · cases k1
        omega
    simp
    omega
/-- the promise of the defs that tell of an error -/
def spK (W : Wd) (tbl : List KE) (res : Str → List Str → List PV → Option (List PV)) : Addr × Obj → Sp := fun p vs H Q _ => ∃ F C c d ns xs ys, vs = [.ref p.1] ∧ Good W F H ∧ EcS W C c ∧ Zc (.ref C) d p.2 ∧ (∃ vs, p.2.data = .fields vs) ∧ KI W d ns xs F H ∧ (∀ e ∈ tbl, EntS W C c e) ∧ res c ns xs = some ys ∧
  ∀ F' H' v fp, Ext W F H F' H' → Ro W F' H' v (.lst true ys) fp → (∀ a ∈ fp, H a = none) → Q v H'
def setB (N : List Str) (sc : Scope) (st : Stmt) : Bool := match st with
  | .Assign [.Name f _] (.List [] _) _ => decide (N[1]? = some f) && locB sc f
  | _ => false
def retB (N : List Str) (sc : Scope) (st : Stmt) : Bool := match st with
  | .Return (some (.Name f _)) _ => mB N sc 1 f
  | _ => false
def retMB (N : List Str) (sc : Scope) (st : Stmt) : Bool := match st with
  | .Return (some (.BinOp (.Name f _) .Add (.Call (.Name g _) [.Name s _] [] _) _)) _ => mB N sc 1 f && (decide (g = "_law_more_kinds") && (glB sc g && mB N sc 0 s))
  | _ => false
section
variable {B : Wb} {k : Nat} {N : List Str} {f : Addr} {x qual : Str} {params : Arguments} {body ifs : List Stmt} {s0 sr : Stmt} {scope : Scope} {fd : FuncData} {pe pf : Str}
/-- the context at the entry -/
theorem cxE_ok {W : Wd} {scope : Scope} {N : List Str} {qual : Str} {f : Addr} {cdv : Value} {A : Around} {outer : List Env} {s : Shared} {H : Hp} {E : XK} {p : Addr × Obj} (nd : N.Nodup) (gd : Gd (A.deeper (envOfC qual scope s.heap.objs.size f cdv))) (hr : L2H.RoomH k (A.deeper (envOfC qual scope s.heap.objs.size f cdv))) (hf : ∃ vs, p.2.data = .fields vs) :
    CxE W k N scope (cxE W.P W.w W.K W.mg W.base N qual scope f cdv A outer s H E p).nox p.1 p.2 :=
  ⟨rfl, rfl, rfl, rfl, rfl, nd, rfl, rfl, gd, hr, List.mem_singleton.mpr rfl, hf⟩
/-- found = [] at the entry -/
theorem set_empty {W : Wd} {F H : Hp} {σ : L2.St} {a : Addr} {D : L2.Ends} (g : Good W F H) (hσ : σ = L2.start ["e", "found"] [.ref a]) (q : ∀ p, H p = none → ∃ fp, At W F H F F (upd H p (.lst [])) (σ.set 1 (some (.ref p))) (kρ []) fp → D.nx (σ.set 1 (some (.ref p))) (upd H p (.lst []))) (p : Addr) (hp : H p = none) : ∃ fp, At W F H F F (upd H p (.lst [])) (σ.set 1 (some (.ref p))) (kρ []) fp := by
  subst hσ
  have e := g.laid (o := .lst []) hp
  have r : Ro W F (upd H p (.lst [])) (.ref p) (.lst true []) [p] := .lst upd_same (g.fn hp) (ne_pen g hp) .nil (by simp)
  refine ⟨[p] ++ [], e, ?_, fun b hb => ?_, fun _ _ z => z⟩
  · show EnvR W F _ [some (.ref a), some (.ref p)] [none, some (.lst true [])] _
    exact .none (.some r .nil (fun _ _ z => by simp at z))
  · have : b = p := by simpa using hb
    rw [this]
    exact hp
/-- the def that tells of the rarer ones -/
theorem more_ok {W : Wd} {tbl : List KE} (F : FunD W.K x qual params (s0 :: (ifs ++ [sr])) scope [] [] f fd) (S : FnScope ["e", "found"] ["e"] scope) (h0 : setB ["e", "found"] scope s0 = true) (hi : kStsB ["e", "found"] scope tbl ifs = true) (hr : retB ["e", "found"] scope sr = true) :
    FnE W.P W.w W.K W.mg W.base (k + 1) f fd ["e"] (spK W tbl fun c ns xs => kRun c ns xs tbl []) := by
  refine fn_ofE F S (fun p vs H Q E ⟨_, _, _, _, _, _, _, h, _⟩ => by rw [h]; rfl) fun cdv A outer s H vs Q E p gd hroom h => ?_
  obtain ⟨F1, C, c, d, ns, xs, ys, rfl, g, ec, hz, hf, ki, he, hk, hq⟩ := h
  have x := cxE_ok (W := W) (N := ["e", "found"]) (outer := outer) (H := H) (E := E) (p := p) S.nd gd hroom hf
  unfold setB at h0
  split at h0
  · rename_i fn p1 p2 p3
    have h0 := bt h0
    unfold retB at hr
    split at hr
    · rename_i fn2 p4 p5
      obtain ⟨m1, m2, m3⟩ := mB_ok hr
      have t0 := ps_set (X := (cxE W.P W.w W.K W.mg W.base ["e", "found"] qual scope f cdv A outer s H E p).nox) (i := 1) (pos := p3) (pos' := p1) S.nd (dt h0.1) (.inl (locB_ok h0.2)) (pe_lst (pos := p2) pa_nil) (by rfl) (.inr (locB_ok h0.2))
      have tr := ps_ret (pos := p5) (pe_var (X := (cxE W.P W.w W.K W.mg W.base ["e", "found"] qual scope f cdv A outer s H E p).nox) (i := 1) (pos := p4) m1 (visB_ok m2) (nmB_ok m3).1 (nmB_ok m3).2.1)
      refine ⟨_, pss_cons t0 (pss_ksT x ec hz (pss_one tr) he hi), by decide, fun l hl => ?_⟩
      obtain ⟨fp, at_⟩ := set_empty (D := { nx := fun _ _ => True, rt := fun _ _ => True }) g rfl (fun p hp => ⟨[], fun _ => trivial⟩) l hl
      refine ⟨F1, H, F1, F1, fp, ns, xs, [], ys, at_, ki, rfl, hk, fun F2 H2 σ2 fp2 a2 s2 => ?_⟩
      obtain ⟨v, f1, e1, e2, e3⟩ := a2.env.get (i := 1) (x := .lst true ys) rfl
      exact ⟨v, e1, hq F2 H2 v f1 a2.e e2 fun b hb => a2.fr b (e3 b hb)⟩
    · cases hr
  · cases h0
/-- the def that tells of all -/
theorem kinds_ok {W : Wd} {tblK tblM : List KE} {j : Nat} {g : Addr} {gd' : FuncData} (F : FunD W.K x qual params (s0 :: (ifs ++ [sr])) scope [] [] f fd) (S : FnScope ["e", "found"] ["e"] scope) (h0 : setB ["e", "found"] scope s0 = true) (hi : kStsB ["e", "found"] scope tblK ifs = true) (hr : retMB ["e", "found"] scope sr = true)
    (hM : FnE W.P W.w W.K W.mg W.base j g gd' ["e"] (spK W tblM fun c ns xs => kRun c ns xs tblM [])) (hj : j ≤ k) (mM : W.mg "_law_more_kinds" = some (.ref g)) (kM : PySem.W.keepIn W.K (.ref g) = true) (bM : Binds W.K gd' ["e"] []) (hlen : tblK.length + tblM.length ≤ 1000) :
    FnE W.P W.w W.K W.mg W.base (k + 1) f fd ["e"] (spK W (tblK ++ tblM) fun c ns xs => match kRun c ns xs tblK [], kRun c ns xs tblM [] with | some a, some b => some (a ++ b) | _, _ => none) := by
  refine fn_ofE F S (fun p vs H Q E ⟨_, _, _, _, _, _, _, h, _⟩ => by rw [h]; rfl) fun cdv A outer s H vs Q E p gd hroom h => ?_
  obtain ⟨F1, C, c, d, ns, xs, ys, rfl, g1, ec, hz, hf, ki, he, hk, hq⟩ := h
  have x := cxE_ok (W := W) (N := ["e", "found"]) (outer := outer) (H := H) (E := E) (p := p) S.nd gd hroom hf
  dsimp only at hk
  cases hk1 : kRun c ns xs tblK [] with
  | none => rw [hk1] at hk; cases hk
  | some y1 =>
    cases hk2 : kRun c ns xs tblM [] with
    | none => rw [hk1, hk2] at hk; cases hk
    | some y2 =>
      rw [hk1, hk2] at hk
      cases hk
      unfold setB at h0
      split at h0
      · rename_i fn p1 p2 p3
        have h0 := bt h0
        unfold retMB at hr
        split at hr
        · rename_i fn2 p4 gn p5 sn p6 p7 p8 p9
          have hr := bt hr
          obtain ⟨m1, m2, m3⟩ := mB_ok hr.1
          have hr2 := bt hr.2
          have e0 := dt hr2.1
          subst e0
          have hr3 := bt hr2.2
          obtain ⟨n1, n2, n3⟩ := mB_ok hr3.2
          let X := (cxE W.P W.w W.K W.mg W.base ["e", "found"] qual scope f cdv A outer s H E p).nox
          have t0 := ps_set (X := X) (i := 1) (pos := p3) (pos' := p1) S.nd (dt h0.1) (.inl (locB_ok h0.2)) (pe_lst (pos := p2) pa_nil) (by rfl) (.inr (locB_ok h0.2))
          have tc := pe_callE (X := X) (q := p5) (pos := p7) (E := fun _ _ _ => False) x.pn hM gd (hroom.mono hj) (glB_ok hr3.1) mM kM bM (pa_cons (pe_var (X := X) (i := 0) (pos := p6) n1 (visB_ok n2) (nmB_ok n3).1 (nmB_ok n3).2.1) pa_nil (by rfl)) (by decide) (by rfl) (by rfl)
          have tr := ps_ret (X := X) (pos := p9) (pe_op (pos := p8) op_cat (pe_var (X := X) (i := 1) (pos := p4) m1 (visB_ok m2) (nmB_ok m3).1 (nmB_ok m3).2.1) tc)
          refine ⟨_, pss_cons t0 (pss_ksT x ec hz (pss_one tr) (fun e h => he e (by simp [h])) hi), by decide, fun l hl => ?_⟩
          obtain ⟨fp, at_⟩ := set_empty (D := { nx := fun _ _ => True, rt := fun _ _ => True }) g1 rfl (fun p hp => ⟨[], fun _ => trivial⟩) l hl
          refine ⟨F1, H, F1, F1, fp, ns, xs, [], y1, at_, ki, rfl, hk1, fun F2 H2 σ2 fp2 a2 s2 => ?_⟩
          obtain ⟨v, f1, e1, e2, e3⟩ := a2.env.get (i := 1) (x := .lst true y1) rfl
          obtain ⟨l1, vs1, f0, rfl, rfl, q1, q2, q3, q4, q5⟩ := e2.lstI
          refine ⟨.ref l1, e1, .ref p.1, s2, F2, C, c, d, ns, xs, y2, rfl, a2.e.g, ec, hz, hf, ?_, fun e h => he e (by simp [h]), hk2, fun F3 H3 v3 fp3 e4 r3 n4 => ?_⟩
          · cases d with
            | none => exact ki
            | some dd =>
              obtain ⟨z1, fs, z2, z3, z4⟩ := ki
              exact ⟨z1, fs, a2.e.h _ _ z1 z2, z3, z4.mono a2.e.f⟩
          · obtain ⟨l3, vs3, f3, rfl, rfl, r1, r2, r4, r5, r6⟩ := r3.lstI
            have l1' := (e4.own q1 q2 q3).1.trans q1
            have hb := big_line
            have b1 := kRun_len hk1
            have b2 := kRun_len hk2
            refine ⟨l1, l3, vs1, vs3, rfl, rfl, l1', r1, by rw [q4.length, r5.length]; simp at b1 b2; omega, fun pp hpp => ?_⟩
            have p1 := (q4.ext e4).stable (kRun_st hk1 rfl)
            have p2 := r5.stable (kRun_st hk2 rfl)
            have e5 := e4.g.laid (o := .lst (vs1 ++ vs3)) hpp
            have eT := (a2.e.trans e4).trans e5
            refine hq F3 _ (.ref pp) [pp] eT (.lst upd_same (e4.g.fn hpp) (ne_pen e4.g hpp) (p1.append p2).ros (by simp)) fun b hb => ?_
            have : b = pp := by simpa using hb
            rw [this]
            exact (a2.e.trans e4).free hpp
        · cases hr
      · cases h0
end
end FS

set_option Elab.async false
set_option linter.all false
set_option maxRecDepth 100000
set_option maxHeartbeats 8000000
namespace FS
open PySem PySem.Spec PyProof.Rows L2

/-! ### a try whose suite tells of the error -/
theorem takes_len {X : Cx} {Wx : WX} (t : Takes X Wx) : Takes X (fun cls d σ H => σ.length = X.N.length → Wx cls d σ H) := fun u s' ⟨a, B, sI, pins, σ, H, cls, d, e, I, nb, up, sky, na, os, ag, w⟩ =>
  t u s' ⟨a, B, sI, pins, σ, H, cls, d, e, I, nb, up, sky, na, os, ag, w I.len⟩
structure ClsS (W : Wd) (SE : Addr) (tbl : List KE) (c : Str) (C : Addr) : Prop where
  ec : EcS W C c
  se : PySem.W.exmOne W.K (.ref C) (.ref SE) = some true
  ve : PySem.W.kitOne W.K (.ref C) (.type "ValueError") = some true
  en : ∀ e ∈ tbl, EntS W C c e
def Tr.tell (fi : Nat) (cls : List Str) (res : Str → List Str → List PV → Option (List PV)) : Tr Fl → Tr PV
  | .ret (.ok (.nx ρ)) => (match ρ[fi]? with
    | some (some .non) => .ok .non
    | _ => .bad)
  | .ret (.exn c ns xs) => if c ∈ cls then (match res c ns xs with
    | some ys => .ok (.lst true ys)
    | none => .bad) else .bad
  | .ret _ => .bad
  | .draw n k => .draw n fun i => (k i).tell fi cls res
theorem tell_W {fi : Nat} {cls : List Str} {res : Str → List Str → List PV → Option (List PV)} {P : Out PV → Prop} : ∀ {m : Tr Fl}, (m.tell fi cls res).W P → m.W fun o => (Tr.tell fi cls res (.ret o)).W P
  | .ret o, h => h
  | .draw n k, ⟨a, g⟩ => ⟨a, fun i p q => tell_W (g i p q)⟩
def toldM (l n fi : Nat) (ss : Ss) (cls : List Str) (res : Str → List Str → List PV → Option (List PV)) : Fn := fun xs => (exB ss ((xs.map some ++ List.replicate (l - n) none).set fi (some .non))).tell fi cls res
def toldB (N : List Str) (sc : Scope) (fi ei : Nat) (ss : Ss) (st : List Stmt) : Bool := match st with
  | [.Assign [.Name f _] (.Constant .none _ _) _, .Try body [.ExceptHandler (some (.Name se _)) (some en) [.If (.Call (.Name i _) [.Name e _, .Name v _] [] _) [.Assign [.Name f2 _] (.Call (.Name g _) [.Name e2 _] [] _) _] [] _] _] [] [] _, .Return (some (.Name f3 _)) _] =>
    decide (N[fi]? = some f) && (locB sc f && (decide (f2 = f) && (decide (f3 = f) && (visB sc f && (nmB f && (decide (N[ei]? = some en) && (locB sc en && (decide (e = en) && (decide (e2 = en) && (visB sc en && (nmB en && (decide (se = "ShiftError") && (glB sc se && (decide (i = "isinstance") && (glB sc i && (decide (v = "ValueError") && (glB sc v && (decide (g = "_law_kinds") && (glB sc g && (decide (fi ≠ ei) && chkB N sc ss body))))))))))))))))))))
  | _ => false
theorem boot_ve : bootBuiltins "ValueError" = some (.type "ValueError") := by decide +kernel
section
variable {W : Wd} {k n : Nat} {x qual : Str} {params : Arguments} {body : List Stmt} {scope : Scope} {fa : Addr} {fd : FuncData} {N ps : List Str}
/-- what the suite's reading is -/
def tSuite (W : Wd) (tbl : List KE) (res : Str → List Str → List PV → Option (List PV)) (fi ei : Nat) (a : Addr) (cls : Value) (d : Option Addr) : TS := fun D σ H => ∃ F C c ns xs ys, cls = .ref C ∧ Good W F H ∧ EcS W C c ∧ PySem.W.kitOne W.K (.ref C) (.type "ValueError") = some true ∧ KI W d ns xs F H ∧ (∀ e ∈ tbl, EntS W C c e) ∧ res c ns xs = some ys ∧ σ[ei]? = some (some (.ref a)) ∧
  ∀ F' H' v fp, Ext W F H F' H' → Ro W F' H' v (.lst true ys) fp → (∀ a ∈ fp, H a = none) → D.nx (σ.set fi (some v)) H'
theorem told_ok {fi ei : Nat} {ss : Ss} {cls : List Str} {tbl : List KE} {res : Str → List Str → List PV → Option (List PV)} {SE gk : Addr} {fdk : FuncData} {j : Nat} (F : FunD W.K x qual params body scope [] [] fa fd) (hm : W.mg x = some (.ref fa)) (b : Binds W.K fd ps []) (sc : FnScope N ps scope) (hl : ps.length = n)
    (hc : toldB N scope fi ei ss body = true) (nd : AllN W k (ndB ss)) (rs : AllR W k (rsB ss)) (mSE : W.mg "ShiftError" = some (.ref SE)) (mVE : W.mg "ValueError" = none) (hcls : ∀ c ∈ cls, ∀ C, W.mg c = some (.ref C) → ClsS W SE tbl c C)
    (FK : FnE W.P W.w W.K W.mg W.base j gk fdk ["e"] (spK W tbl res)) (hj : j ≤ k) (mK : W.mg "_law_kinds" = some (.ref gk)) (kK : PySem.W.keepIn W.K (.ref gk) = true) (bK : Binds W.K fdk ["e"] []) : FnS W (k + 1) x n (toldM N.length n fi ss cls res) := by
  refine ⟨⟨fa, fd, ps, hm, F.kp, b, hl, ?_⟩⟩
  refine fn_ofG F sc (fun vs H Q E h => ?_) fun cdv A outer s H vs Q E hgd hr h => ?_
  · obtain ⟨_, _, h1, _⟩ := h
    rw [h1, hl]
  obtain ⟨F0, xs, h1, g, r, h⟩ := h
  unfold toldB at hc
  split at hc
  · rename_i st0 f p1 p4 p2 p3 bd se p5 en i p6 e p7 v p8 p9 f2 p10 gn p11 e2 p12 p13 p14 p15 p16 p17 f3 p18 p19
    simp only [Bool.and_eq_true, decide_eq_true_eq] at hc
    obtain ⟨a1, a2, rfl, rfl, a3, a4, b1, b2, rfl, rfl, b3, b4, rfl, c1, rfl, c2, rfl, c3, rfl, c4, hne, hb⟩ := hc
    let X := (cxOf (L2.CX W.P W.w) W.P W.w W.K W.mg W.base N qual scope fa cdv A outer s H E).nox
    have ts : ∀ (a : Addr) (oe : Obj) (cl : Value) (d : Option Addr) (pn : List (Addr × Obj)), Zc cl d oe → (∃ vs, oe.data = .fields vs) →
        PSs (X.suite a ((a, oe) :: pn)) [.If (.Call (.Name "isinstance" p6) [.Name e2 p7, .Name "ValueError" p8] [] p9) [.Assign [.Name f3 p10] (.Call (.Name "_law_kinds" p11) [.Name e2 p12] [] p13) p14] [] p15] (tSuite W tbl res fi ei a cl d) := by
      intro a oe cl d pn hz hf
      refine ⟨fun pins s σ H D I ⟨F1, C, c, ns, xs, ys, ec, gd, es, kv, ki, en, hres, s5, q⟩ => ?_⟩
      subst ec
      have hp : (a, oe) ∈ (X.suite a ((a, oe) :: pn)).pn := List.mem_cons_self
      have pv : ∀ p, PE (X.suite a ((a, oe) :: pn)) (.Name e2 p) (tVar ei) := fun p => pe_var b1 (visB_ok b3) (nmB_ok b4).1 (nmB_ok b4).2.1
      have test := pt_val (pe_callB (X := X.suite a ((a, oe) :: pn)) (p := p6) (pos := p9) (call_isP (X := X.suite a ((a, oe) :: pn)) (D := C) (d := d) hp es.is hz hf) (glB_ok c2) es.frI boot_isinstance (pa_cons (pv p7) (pa_cons (pe_bltn (X := X.suite a ((a, oe) :: pn)) (pos := p8) (v := .ty "ValueError") (glB_ok c3) mVE boot_ve rfl (by decide) (by decide)) pa_nil (by rfl)) (by rfl)) (by decide) (by decide) (by rfl) (by rfl)) (fun _ => rfl)
      have asg := ps_set (X := X.suite a ((a, oe) :: pn)) (pos := p14) (pos' := p10) sc.nd a1 (.inl (locB_ok a2)) (pe_callE (X := X.suite a ((a, oe) :: pn)) (q := p11) (pos := p13) (E := fun _ _ _ => False) hp FK hgd (L2H.RoomH.mono (show L2H.RoomH k _ from ⟨hr.dp, hr.un⟩) hj) (glB_ok c4) mK kK bK (pa_cons (pv p12) pa_nil (by rfl)) (by decide) (by rfl) (by rfl)) (by rfl) (.inr (locB_ok a2))
      refine (pss_one (ps_if (pos := p15) test (pss_one asg) pss_nil)).run pins s σ H D I ?_
      refine ⟨.ref a, s5, .ty "ValueError", .type "ValueError", true, rfl, fun u r => r, kv, fun dd hd => let ⟨fs, z, _⟩ := ki.at_ (Ext.refl gd) dd hd; ⟨fs, z⟩, true, rfl, ?_⟩
      dsimp only
      rw [if_pos rfl]
      exact ⟨.ref a, s5, F1, C, c, d, ns, xs, ys, rfl, gd, es, hz, hf, ki, en, hres, q⟩
    have t0 := ps_set (X := X) (pos := p3) (pos' := p1) sc.nd a1 (.inl (locB_ok a2)) (pe_non (X := X) (j := p4) (pos := p2)) (by rfl) (.inr (locB_ok a2))
    have tr := ps_ret (X := X) (pos := p19) (pe_var (X := X) (pos := p18) a1 (visB_ok a3) (nmB_ok a4).1 (nmB_ok a4).2.1)
    have nb : Names X "ShiftError" (.ref SE) := ⟨glB_ok c1, by decide, .inl mSE⟩
    have tt := ps_try_as (X := X) (Wout := fun _ _ _ _ => False) (np := p5) (pos' := p16) (pos := p17) (tb := fun Wx => tSx W (fun cl d H => ∀ σ, σ.length = N.length → Wx cl d σ H) (exB ss)) (ts := fun a cl d => tSuite W tbl res fi ei a cl d) rfl rfl sc.nd b1 (locB_ok b2) nb takes0 (fun Wx pn xe tk po => by
        have tk2 : Takes (X.tr pn xe) (fun cl d _ H => ∀ σ, σ.length = N.length → Wx cl d σ H) := (takes_len tk).imp fun c d σ H h hl => h σ hl
        exact soB ss hb nd rs _ _ ⟨⟨rfl, rfl, rfl, rfl, rfl, sc.nd, rfl, rfl, rfl, hr, fun pins σ H s e s' I c => passAt tk2 σ pins H s e s' I c, hgd⟩, po, fun _ => rfl, tk2⟩) ts
    refine ⟨_, PSs.nox (pss_cons t0 (pss_cons tt (pss_one tr))), ?_⟩
    have at0 : At W F0 H F0 F0 H (L2.start N vs) (xs.map some ++ List.replicate (N.length - n) none) [] := ⟨Ext.refl g, by
      show EnvR W F0 H (vs.map some ++ List.replicate (N.length - vs.length) none) _ []
      rw [h1]
      exact EnvR.start _ r, fun _ z => by simp at z, fun _ _ q => q⟩
    obtain ⟨fq, at1⟩ := at0.put (v := .non) (y := .non) (.st .non) (fun _ z => by simp at z) (fun _ z => by simp at z) fi
    have fil : fi < N.length := by
      rw [List.getElem?_eq_some_iff] at a1
      exact a1.1
    have eil : ei < N.length := by
      rw [List.getElem?_eq_some_iff] at b1
      exact b1.1
    refine ⟨F0, H, F0, F0, _, fq, at1, Tr.W_imp (fun o ho => ?_) (tell_W h)⟩
    cases o with
    | bad => exact ho
    | ok fl =>
      cases fl with
      | nx ρ' =>
        intro F1 H1 σ1 fp1 a1'
        have ho : (match ρ'[fi]? with | some (some .non) => Tr.ok PV.non | _ => Tr.bad : Tr PV).W (PostF W E F0 H Q) := ho
        split at ho
        · rename_i hρ
          obtain ⟨v, f1, e1, e2, e3⟩ := a1'.env.get hρ
          exact ⟨v, e1, ho F1 H1 v f1 a1'.e e2 fun b hb => a1'.fr b (e3 b hb)⟩
        · exact (show False from ho).elim
      | rt x => exact (show False from ho).elim
      | bk ρ => exact (show False from ho).elim
      | ct ρ => exact (show False from ho).elim
    | exn c ns xs =>
      have ho : (if c ∈ cls then (match res c ns xs with | some ys => Tr.ok (PV.lst true ys) | none => Tr.bad) else Tr.bad : Tr PV).W (PostF W E F0 H Q) := ho
      by_cases hcc : c ∈ cls
      · rw [if_pos hcc] at ho
        cases hr2 : res c ns xs with
        | none => rw [hr2] at ho; exact (show False from ho).elim
        | some ys =>
          rw [hr2] at ho
          intro F1 H1 C d e1 hC hx σ hl2
          have K := hcls c hcc C hC
          refine ⟨true, K.se, fun _ a ha => ?_, fun z => Bool.noConfusion z⟩
          refine ⟨F1, C, c, ns, xs, ys, rfl, e1.g, K.ec, K.ve, ?_, K.en, hr2, by rw [List.getElem?_set_self (by omega)], fun F2 H2 v fp e2 r2 n2 => ?_⟩
          · cases d with
            | none => exact hx
            | some dd =>
              obtain ⟨z1, fs, z2, z3, z4⟩ := hx
              exact ⟨ne_pen g z1, fs, z2, z3, z4⟩
          · refine ⟨v, ?_, ho F2 H2 v fp (e1.trans e2) r2 fun b hb => e1.free (n2 b hb)⟩
            show ((((σ.set ei (some (.ref a))).set fi (some v)).set ei none)[fi]? = some (some v))
            rw [List.getElem?_set_ne (Ne.symm hne), List.getElem?_set_self (by simp; omega)]
      · rw [if_neg hcc] at ho
        exact (show False from ho).elim
  · cases hc
end
end FS

set_option Elab.async false
set_option linter.all false
set_option maxRecDepth 100000
set_option maxHeartbeats 8000000
namespace FS
open PySem PySem.Spec PyProof.Rows L2

/-! ### {'k': 1} -/
def dictPrim (k : Str) (v : Int) : Prim where
  chk := fun sc x => match x with
    | .Dict [some (.Constant (.str a) _ _)] [.Constant (.int b) _ _] _ => if (decide (a = k) && decide (b = v)) = true then some [] else none
    | _ => none
  m := fun ms ρ => match ms with
    | [] => vB (.dct true false [.str k] [.int v])
    | _ => .bad
theorem upd2 {H : Hp} {p : Addr} {a b : HO} : upd (upd H p a) p b = upd H p b := by
  funext x
  unfold upd
  by_cases h : x = p
  · simp [h]
  · simp [h]
theorem dict_need {W : Wd} {k : Nat} {kk : Str} {v : Int} : Need.holds W k (.prim (dictPrim kk v)) := by
  intro N sc x ss ms hc hp
  unfold dictPrim at hc ⊢
  dsimp only at hc
  split at hc
  · rename_i a j1 p1 b j2 p2 p
    split at hc
    · rename_i hb
      have hb := bt hb
      have e0 := dt hb.1
      have e1 := dt hb.2
      subst e0 e1
      cases hc
      cases hp
      intro X E c
      refine PE.imp (pe_disp (pps_cons pe_str pe_int pps_nil) (by rfl) (by rfl) (by simp) (by simp)) fun σ H Q ⟨F, ρ, fp, g, env, h⟩ => fun d hd => ?_
      have e := g.laid (o := .dK [(.inr a, .int b)]) hd
      refine ⟨upd_same, [(.inr a, .int b)], rfl, by simp, ?_⟩
      rw [upd2]
      exact give h e (fp := [d]) (.dK (kvs := [(.inr a, .int b)]) upd_same (g.fn hd) (ne_pen g hd) (.cons (.st .int) .nil (by simp)) (by simp)) fun a ha => by
        have : a = d := by simpa using ha
        rw [this]; exact hd
    · cases hc
  · cases hc
end FS

set_option Elab.async false
set_option linter.all false
set_option maxRecDepth 100000
set_option maxHeartbeats 8000000
namespace FS
open PySem PySem.Spec PyProof.Rows L2

/-! ### the bodies of _law_draw and _law_pen, wherever they stand -/
abbrev nDraw : List Str := ["pen", "many", "cell", "digit", "blend"]
abbrev nPen : List Str := ["script", "fold", "cell"]
def drawSc (sc : Scope) : Bool := visB sc "pen" && visB sc "many" && visB sc "cell" && visB sc "digit" && visB sc "blend" && locB sc "cell" && locB sc "digit" && locB sc "blend" && glB sc "len" && glB sc "int"
def penSc (sc : Scope) : Bool := visB sc "script" && visB sc "fold" && visB sc "cell" && locB sc "fold" && locB sc "cell" && glB sc "int" && glB sc "list"
theorem boot_int : bootBuiltins "int" = some (.type "int") := by decide +kernel
theorem boot_list : bootBuiltins "list" = some (.type "list") := by decide +kernel
section
variable {p1 p2 p3 p4 p5 p6 p7 p8 p9 p10 p11 p12 p13 p14 p15 p16 p17 p18 p19 p20 p21 p22 p23 p24 p25 p26 p27 p28 p29 p30 p31 p32 p33 p34 p35 p36 p37 p38 p39 p40 p41 p42 p43 p44 p45 p46 p47 p48 p49 p50 p51 p52 p53 p54 p55 p56 p57 p58 p59 p60 p61 p62 p63 p64 p65 p66 p67 p68 p69 p70 p71 p72 p73 p74 p75 p76 p77 p78 p79 p80 p81 p82 p83 p84 p85 p86 p87 p88 p89 p90 p91 p92 p93 p94 p95 p96 p97 p98 p99 p100 p101 p102 p103 p104 p105 p106 p107 p108 p109 p110 p111 p112 p113 p114 p115 p116 p117 p118 p119 p120 p121 p122 p123 p124 p125 p126 p127 p128 p129 p130 p131 p132 p133 p134 p135 p136 p137 p138 p139 p140 p141 p142 p143 p144 p145 p146 p147 p148 p149 p150 p151 p152 p153 p154 p155 p156 : Pos}
abbrev bDraw (p1 p2 p3 p4 p5 p6 p7 p8 p9 p10 p11 p12 p13 p14 p15 p16 p17 p18 p19 p20 p21 p22 p23 p24 p25 p26 p27 p28 p29 p30 p31 p32 p33 p34 p35 p36 p37 p38 p39 p40 p41 p42 p43 p44 p45 p46 p47 p48 p49 p50 p51 p52 p53 p54 p55 p56 p57 p58 p59 p60 p61 p62 p63 p64 p65 p66 p67 p68 p69 p70 p71 p72 p73 p74 p75 p76 p77 p78 p79 p80 p81 p82 p83 p84 p85 p86 p87 p88 p89 p90 p91 p92 p93 p94 p95 p96 p97 p98 p99 p100 p101 p102 p103 p104 p105 p106 p107 p108 p109 p110 p111 p112 p113 p114 p115 p116 p117 p118 p119 p120 p121 p122 p123 p124 p125 p126 p127 p128 p129 p130 p131 p132 p133 p134 p135 p136 p137 p138 p139 p140 p141 p142 p143 p144 p145 p146 p147 p148 p149 p150 p151 p152 p153 p154 p155 p156 : Pos) : List Stmt := [(.Assign [.Subscript (.Name "pen" p6) (.Constant (.str "count") 0 p7) p8] (.BinOp (.Subscript (.Name "pen" p1) (.Constant (.str "count") 0 p2) p3) .Add (.Constant (.int 1) 0 p4) p5) p9),
    (.If (.BoolOp .And [(.Compare (.Subscript (.Name "pen" p10) (.Constant (.str "digits") 0 p11) p12) [.Eq] [(.Constant (.int 0) 0 p13)] p14), (.Compare (.Subscript (.Name "pen" p15) (.Constant (.str "at") 0 p16) p17) [.Lt] [(.Call (.Name "len" p21) [(.Subscript (.Name "pen" p18) (.Constant (.str "cells") 0 p19) p20)] [] p22)] p23)] p24) [(.Assign [.Name "cell" p32] (.Subscript (.Subscript (.Name "pen" p25) (.Constant (.str "cells") 0 p26) p27) (.Subscript (.Name "pen" p28) (.Constant (.str "at") 0 p29) p30) p31) p33),
    (.Assign [.Subscript (.Name "pen" p39) (.Constant (.str "at") 0 p40) p41] (.BinOp (.Subscript (.Name "pen" p34) (.Constant (.str "at") 0 p35) p36) .Add (.Constant (.int 1) 0 p37) p38) p42),
    (.If (.Compare (.Name "cell" p43) [.GtE] [(.BinOp (.Constant (.int 10) 0 p44) .Pow (.Constant (.int 18) 0 p45) p46)] p47) [(.Assign [.Subscript (.Name "pen" p53) (.Constant (.str "digits") 0 p54) p55] (.BinOp (.Name "cell" p48) .Sub (.BinOp (.Constant (.int 10) 0 p49) .Pow (.Constant (.int 18) 0 p50) p51) p52) p56)] [(.Assign [.Subscript (.Name "pen" p68) (.Constant (.str "fold") 0 p69) p70] (.BinOp (.Call (.Name "int" p64) [(.BinOp (.BinOp (.Subscript (.Name "pen" p57) (.Constant (.str "fold") 0 p58) p59) .Mult (.Constant (.int 69069) 0 p60) p61) .Add (.Name "cell" p62) p63)] [] p65) .Mod (.Constant (.int 2147483587) 0 p66) p67) p71)] p72)] [] p73),
    (.If (.Compare (.Subscript (.Name "pen" p74) (.Constant (.str "digits") 0 p75) p76) [.Gt] [(.Constant (.int 0) 0 p77)] p78) [(.Assign [.Name "digit" p86] (.BinOp (.Call (.Name "int" p82) [(.Subscript (.Name "pen" p79) (.Constant (.str "digits") 0 p80) p81)] [] p83) .Mod (.Name "many" p84) p85) p87),
    (.Assign [.Subscript (.Name "pen" p93) (.Constant (.str "digits") 0 p94) p95] (.BinOp (.Subscript (.Name "pen" p88) (.Constant (.str "digits") 0 p89) p90) .FloorDiv (.Name "many" p91) p92) p96),
    (.Return (some (.Name "digit" p97)) p98)] [] p99),
    (.Assign [.Name "blend" p117] (.BinOp (.Call (.Name "int" p113) [(.BinOp (.BinOp (.BinOp (.Subscript (.Name "pen" p100) (.Constant (.str "fold") 0 p101) p102) .Mult (.Constant (.int 48271) 0 p103) p104) .Add (.BinOp (.Subscript (.Name "pen" p105) (.Constant (.str "count") 0 p106) p107) .Mult (.Constant (.int 7919) 0 p108) p109) p110) .Add (.Constant (.int 13) 0 p111) p112)] [] p114) .Mod (.Constant (.int 2147483647) 0 p115) p116) p118),
    (.Assign [.Name "blend" p134] (.BinOp (.Call (.Name "int" p130) [(.BinOp (.BinOp (.BinOp (.Name "blend" p119) .Mult (.Name "blend" p120) p121) .Add (.BinOp (.Constant (.int 31) 0 p122) .Mult (.Name "blend" p123) p124) p125) .Add (.Subscript (.Name "pen" p126) (.Constant (.str "count") 0 p127) p128) p129)] [] p131) .Mod (.Constant (.int 2147483629) 0 p132) p133) p135),
    (.Assign [.Subscript (.Name "pen" p145) (.Constant (.str "fold") 0 p146) p147] (.BinOp (.Call (.Name "int" p141) [(.BinOp (.BinOp (.Name "blend" p136) .Mult (.Constant (.int 16807) 0 p137) p138) .Add (.Constant (.int 7) 0 p139) p140)] [] p142) .Mod (.Constant (.int 2147483647) 0 p143) p144) p148),
    (.Return (some (.BinOp (.Call (.Name "int" p152) [(.BinOp (.Name "blend" p149) .FloorDiv (.Constant (.int 64) 0 p150) p151)] [] p153) .Mod (.Name "many" p154) p155)) p156)]
theorem pss_draw {X : Cx} {sc : Scope} (eN : X.N = nDraw) (eS : X.env.scope = sc) (h : drawSc sc = true) (nd : X.N.Nodup) (hu : X.A.units + 1 < cLine) (mL : X.mg "len" = none) (mI : X.mg "int" = none) : PSs X (bDraw p1 p2 p3 p4 p5 p6 p7 p8 p9 p10 p11 p12 p13 p14 p15 p16 p17 p18 p19 p20 p21 p22 p23 p24 p25 p26 p27 p28 p29 p30 p31 p32 p33 p34 p35 p36 p37 p38 p39 p40 p41 p42 p43 p44 p45 p46 p47 p48 p49 p50 p51 p52 p53 p54 p55 p56 p57 p58 p59 p60 p61 p62 p63 p64 p65 p66 p67 p68 p69 p70 p71 p72 p73 p74 p75 p76 p77 p78 p79 p80 p81 p82 p83 p84 p85 p86 p87 p88 p89 p90 p91 p92 p93 p94 p95 p96 p97 p98 p99 p100 p101 p102 p103 p104 p105 p106 p107 p108 p109 p110 p111 p112 p113 p114 p115 p116 p117 p118 p119 p120 p121 p122 p123 p124 p125 p126 p127 p128 p129 p130 p131 p132 p133 p134 p135 p136 p137 p138 p139 p140 p141 p142 p143 p144 p145 p146 p147 p148 p149 p150 p151 p152 p153 p154 p155 p156) (t_draw X.K) := by
  unfold drawSc at h
  simp only [Bool.and_eq_true] at h
  obtain ⟨⟨⟨⟨⟨⟨⟨⟨⟨h0, h1⟩, h2⟩, h3⟩, h4⟩, c2⟩, c3⟩, c4⟩, gl⟩, gi⟩ := h
  have n0 : X.N[0]? = some ("pen" : Str) := by rw [eN]; rfl
  have n1 : X.N[1]? = some ("many" : Str) := by rw [eN]; rfl
  have n2 : X.N[2]? = some ("cell" : Str) := by rw [eN]; rfl
  have n3 : X.N[3]? = some ("digit" : Str) := by rw [eN]; rfl
  have n4 : X.N[4]? = some ("blend" : Str) := by rw [eN]; rfl
  have v0 : ∀ p, PE X (.Name "pen" p) (tVar 0) := fun p => pe_var n0 (by rw [eS]; exact visB_ok h0) (by decide) (by decide)
  have v1 : ∀ p, PE X (.Name "many" p) (tVar 1) := fun p => pe_var n1 (by rw [eS]; exact visB_ok h1) (by decide) (by decide)
  have v2 : ∀ p, PE X (.Name "cell" p) (tVar 2) := fun p => pe_var n2 (by rw [eS]; exact visB_ok h2) (by decide) (by decide)
  have v3 : ∀ p, PE X (.Name "digit" p) (tVar 3) := fun p => pe_var n3 (by rw [eS]; exact visB_ok h3) (by decide) (by decide)
  have v4 : ∀ p, PE X (.Name "blend" p) (tVar 4) := fun p => pe_var n4 (by rw [eS]; exact visB_ok h4) (by decide) (by decide)
  have l2 : L2.Loc X.env.scope "cell" := by rw [eS]; exact .inl (locB_ok c2)
  have lc2 : X.env.scope.names.lookup ("cell" : Str) = some .local := by rw [eS]; exact locB_ok c2
  have l3 : L2.Loc X.env.scope "digit" := by rw [eS]; exact .inl (locB_ok c3)
  have lc3 : X.env.scope.names.lookup ("digit" : Str) = some .local := by rw [eS]; exact locB_ok c3
  have l4 : L2.Loc X.env.scope "blend" := by rw [eS]; exact .inl (locB_ok c4)
  have lc4 : X.env.scope.names.lookup ("blend" : Str) = some .local := by rw [eS]; exact locB_ok c4
  have gL : Gl X "len" := by show X.env.scope.names.lookup _ = _; rw [eS]; exact glB_ok gl
  have gI : Gl X "int" := by show X.env.scope.names.lookup _ = _; rw [eS]; exact glB_ok gi
  exact (pss_cons (ps_dput hu (v0 _) pe_str (pe_op op_add (pe_dget hu (v0 _) pe_str (fun _ _ => rfl)) pe_int) (by rfl)) (pss_cons (ps_if (PW.pt (pw_and (pt_cmpR op_eq (pe_dget hu (v0 _) pe_str (fun _ _ => rfl)) pe_int (nomark _)) (pw_and1 (pos := p24) (pt_cmpR op_lt (pe_dget hu (v0 _) pe_str (fun _ _ => rfl)) (pe_callB call_len gL mL boot_len (pa_cons (pe_dget hu (v0 _) pe_str (fun _ _ => rfl)) pa_nil) (by decide) (by decide) (by rfl) (by rfl)) (nomark _))))) (pss_cons (ps_set nd n2 l2 (pe_ix ix_list (pe_dget hu (v0 _) pe_str (fun _ _ => rfl)) (pe_dget hu (v0 _) pe_str (fun _ _ => rfl)) (fun _ _ => rfl)) (by rfl) (.inr lc2)) (pss_cons (ps_dput hu (v0 _) pe_str (pe_op op_add (pe_dget hu (v0 _) pe_str (fun _ _ => rfl)) pe_int) (by rfl)) (pss_one (ps_if (pt_cmpR op_ge (v2 _) (pe_op op_pow pe_int pe_int) (nomark _)) (pss_one (ps_dput hu (v0 _) pe_str (pe_op op_sub (v2 _) (pe_op op_pow pe_int pe_int)) (by rfl))) (pss_one (ps_dput hu (v0 _) pe_str (pe_op op_mod (pe_callTy call_int1 gI mI boot_int (pa_cons (pe_op op_add (pe_op op_mul (pe_dget hu (v0 _) pe_str (fun _ _ => rfl)) pe_int) (v2 _)) pa_nil) (by decide) (by decide) (by rfl) (by rfl)) pe_int) (by rfl))))))) pss_nil) (pss_cons (ps_if (pt_cmpR op_gt (pe_dget hu (v0 _) pe_str (fun _ _ => rfl)) pe_int (nomark _)) (pss_cons (ps_set nd n3 l3 (pe_op op_mod (pe_callTy call_int1 gI mI boot_int (pa_cons (pe_dget hu (v0 _) pe_str (fun _ _ => rfl)) pa_nil) (by decide) (by decide) (by rfl) (by rfl)) (v1 _)) (by rfl) (.inr lc3)) (pss_cons (ps_dput hu (v0 _) pe_str (pe_op op_fdivW (pe_dget hu (v0 _) pe_str (fun _ _ => rfl)) (v1 _)) (by rfl)) (pss_one (ps_ret (v3 _))))) pss_nil) (pss_cons (ps_set nd n4 l4 (pe_op op_mod (pe_callTy call_int1 gI mI boot_int (pa_cons (pe_op op_add (pe_op op_add (pe_op op_mul (pe_dget hu (v0 _) pe_str (fun _ _ => rfl)) pe_int) (pe_op op_mul (pe_dget hu (v0 _) pe_str (fun _ _ => rfl)) pe_int)) pe_int) pa_nil) (by decide) (by decide) (by rfl) (by rfl)) pe_int) (by rfl) (.inr lc4)) (pss_cons (ps_set nd n4 l4 (pe_op op_mod (pe_callTy call_int1 gI mI boot_int (pa_cons (pe_op op_add (pe_op op_add (pe_op op_mul (v4 _) (v4 _)) (pe_op op_mul pe_int (v4 _))) (pe_dget hu (v0 _) pe_str (fun _ _ => rfl))) pa_nil) (by decide) (by decide) (by rfl) (by rfl)) pe_int) (by rfl) (.inr lc4)) (pss_cons (ps_dput hu (v0 _) pe_str (pe_op op_mod (pe_callTy call_int1 gI mI boot_int (pa_cons (pe_op op_add (pe_op op_mul (v4 _) pe_int) pe_int) pa_nil) (by decide) (by decide) (by rfl) (by rfl)) pe_int) (by rfl)) (pss_one (ps_ret (pe_op op_mod (pe_callTy call_int1 gI mI boot_int (pa_cons (pe_op op_fdivW (v4 _) pe_int) pa_nil) (by decide) (by decide) (by rfl) (by rfl)) (v1 _))))))))))
end
section
variable {p1 p2 p3 p4 p5 p6 p7 p8 p9 p10 p11 p12 p13 p14 p15 p16 p17 p18 p19 p20 p21 p22 p23 p24 p25 p26 p27 p28 p29 p30 p31 : Pos}
abbrev bPen (p1 p2 p3 p4 p5 p6 p7 p8 p9 p10 p11 p12 p13 p14 p15 p16 p17 p18 p19 p20 p21 p22 p23 p24 p25 p26 p27 p28 p29 p30 p31 : Pos) : List Stmt := [(.Assign [.Name "fold" p2] (.Constant (.int 0) 0 p1) p3),
    (.For (.Name "cell" p16) (.Name "script" p4) [(.Assign [.Name "fold" p14] (.BinOp (.Call (.Name "int" p10) [(.BinOp (.BinOp (.Name "fold" p5) .Mult (.Constant (.int 47) 0 p6) p7) .Add (.Name "cell" p8) p9)] [] p11) .Mod (.Constant (.int 1000000007) 0 p12) p13) p15)] [] p17),
    (.Return (some (.Dict [some (.Constant (.str "cells") 0 p18), some (.Constant (.str "at") 0 p19), some (.Constant (.str "digits") 0 p20), some (.Constant (.str "count") 0 p21), some (.Constant (.str "fold") 0 p22)] [(.Call (.Name "list" p24) [(.Name "script" p23)] [] p25), (.Constant (.int 0) 0 p26), (.Constant (.int 0) 0 p27), (.Constant (.int 0) 0 p28), (.Name "fold" p29)] p30)) p31)]
theorem pss_pen {X : Cx} {sc : Scope} (eN : X.N = nPen) (eS : X.env.scope = sc) (h : penSc sc = true) (nd : X.N.Nodup) (hp : PassesOwn (model X.prog X.w) X.A X.env X.xe) (hc : X.calm = true) (mI : X.mg "int" = none) (mT : X.mg "list" = none) : PSs X (bPen p1 p2 p3 p4 p5 p6 p7 p8 p9 p10 p11 p12 p13 p14 p15 p16 p17 p18 p19 p20 p21 p22 p23 p24 p25 p26 p27 p28 p29 p30 p31) (t_pen X.K) := by
  unfold penSc at h
  simp only [Bool.and_eq_true] at h
  obtain ⟨⟨⟨⟨⟨⟨h0, h1⟩, h2⟩, c1⟩, c2⟩, gi⟩, gt⟩ := h
  have n0 : X.N[0]? = some ("script" : Str) := by rw [eN]; rfl
  have n1 : X.N[1]? = some ("fold" : Str) := by rw [eN]; rfl
  have n2 : X.N[2]? = some ("cell" : Str) := by rw [eN]; rfl
  have v0 : ∀ p, PE X (.Name "script" p) (tVar 0) := fun p => pe_var n0 (by rw [eS]; exact visB_ok h0) (by decide) (by decide)
  have v1 : ∀ p, PE X (.Name "fold" p) (tVar 1) := fun p => pe_var n1 (by rw [eS]; exact visB_ok h1) (by decide) (by decide)
  have v2 : ∀ p, PE X (.Name "cell" p) (tVar 2) := fun p => pe_var n2 (by rw [eS]; exact visB_ok h2) (by decide) (by decide)
  have l1 : L2.Loc X.env.scope "fold" := by rw [eS]; exact .inl (locB_ok c1)
  have lc1 : X.env.scope.names.lookup ("fold" : Str) = some .local := by rw [eS]; exact locB_ok c1
  have l2 : L2.Loc X.env.scope "cell" := by rw [eS]; exact .inl (locB_ok c2)
  have lc2 : X.env.scope.names.lookup ("cell" : Str) = some .local := by rw [eS]; exact locB_ok c2
  have gI : Gl X "int" := by show X.env.scope.names.lookup _ = _; rw [eS]; exact glB_ok gi
  have gT : Gl X "list" := by show X.env.scope.names.lookup _ = _; rw [eS]; exact glB_ok gt
  exact (pss_cons (ps_set nd n1 l1 pe_int (by rfl) (.inr lc1)) (pss_cons (ps_for hp hc (pi_seqA (v0 _)) (pg_name nd n2 l2 (.inr lc2)) (pss_one (ps_set nd n1 l1 (pe_op op_mod (pe_callTy call_int1 gI mI boot_int (pa_cons (pe_op op_add (pe_op op_mul (v1 _) pe_int) (v2 _)) pa_nil) (by decide) (by decide) (by rfl) (by rfl)) pe_int) (by rfl) (.inr lc1)))) (pss_one (ps_ret (pe_disp (pps_cons pe_str (pe_callTy call_list_of gT mT boot_list (pa_cons (v0 _) pa_nil) (by decide) (by decide) (by rfl) (by rfl)) (pps_cons pe_str pe_int (pps_cons pe_str pe_int (pps_cons pe_str pe_int (pps_cons pe_str (v1 _) pps_nil))))) rfl rfl (by simp) (show 5 ≤ 15 by decide))))))
end
theorem draw_fn {W : Wd} {fa : Addr} {fd : FuncData} {scope : Scope} {x qual : Str} {params : Arguments} {p1 p2 p3 p4 p5 p6 p7 p8 p9 p10 p11 p12 p13 p14 p15 p16 p17 p18 p19 p20 p21 p22 p23 p24 p25 p26 p27 p28 p29 p30 p31 p32 p33 p34 p35 p36 p37 p38 p39 p40 p41 p42 p43 p44 p45 p46 p47 p48 p49 p50 p51 p52 p53 p54 p55 p56 p57 p58 p59 p60 p61 p62 p63 p64 p65 p66 p67 p68 p69 p70 p71 p72 p73 p74 p75 p76 p77 p78 p79 p80 p81 p82 p83 p84 p85 p86 p87 p88 p89 p90 p91 p92 p93 p94 p95 p96 p97 p98 p99 p100 p101 p102 p103 p104 p105 p106 p107 p108 p109 p110 p111 p112 p113 p114 p115 p116 p117 p118 p119 p120 p121 p122 p123 p124 p125 p126 p127 p128 p129 p130 p131 p132 p133 p134 p135 p136 p137 p138 p139 p140 p141 p142 p143 p144 p145 p146 p147 p148 p149 p150 p151 p152 p153 p154 p155 p156 : Pos} (F : FunD W.K x qual params (bDraw p1 p2 p3 p4 p5 p6 p7 p8 p9 p10 p11 p12 p13 p14 p15 p16 p17 p18 p19 p20 p21 p22 p23 p24 p25 p26 p27 p28 p29 p30 p31 p32 p33 p34 p35 p36 p37 p38 p39 p40 p41 p42 p43 p44 p45 p46 p47 p48 p49 p50 p51 p52 p53 p54 p55 p56 p57 p58 p59 p60 p61 p62 p63 p64 p65 p66 p67 p68 p69 p70 p71 p72 p73 p74 p75 p76 p77 p78 p79 p80 p81 p82 p83 p84 p85 p86 p87 p88 p89 p90 p91 p92 p93 p94 p95 p96 p97 p98 p99 p100 p101 p102 p103 p104 p105 p106 p107 p108 p109 p110 p111 p112 p113 p114 p115 p116 p117 p118 p119 p120 p121 p122 p123 p124 p125 p126 p127 p128 p129 p130 p131 p132 p133 p134 p135 p136 p137 p138 p139 p140 p141 p142 p143 p144 p145 p146 p147 p148 p149 p150 p151 p152 p153 p154 p155 p156) scope [] [] fa fd) (sc : FnScope nDraw ["pen", "many"] scope) (h : drawSc scope = true)
    (hm : W.mg x = some (.ref fa)) (b : Binds W.K fd ["pen", "many"] []) (mL : W.mg "len" = none) (mI : W.mg "int" = none) : FnS W 1 x 2 drawM := by
  refine ⟨⟨fa, fd, ["pen", "many"], hm, F.kp, b, rfl, ?_⟩⟩
  refine fn_ofG F sc (fun vs H Q E h => ?_) fun cdv A outer s H vs Q E hgd hr h' => ?_
  · obtain ⟨_, _, h1, _⟩ := h
    exact h1
  · exact ⟨_, PSs.nox (pss_draw rfl rfl h sc.nd (show (A.deeper (envOfC qual scope s.heap.objs.size fa cdv)).units + 1 < cLine from by have := hr.un; omega) mL mI), draw_of h' rfl⟩
theorem pen_fn {P : Program} {w : World} {K : PySem.W.Frag} {mg : Str → Option Value} {base : Heap} {C : CXT} {fa : Addr} {fd : FuncData} {scope : Scope} {x qual : Str} {params : Arguments} {p1 p2 p3 p4 p5 p6 p7 p8 p9 p10 p11 p12 p13 p14 p15 p16 p17 p18 p19 p20 p21 p22 p23 p24 p25 p26 p27 p28 p29 p30 p31 : Pos} (F : FunD K x qual params (bPen p1 p2 p3 p4 p5 p6 p7 p8 p9 p10 p11 p12 p13 p14 p15 p16 p17 p18 p19 p20 p21 p22 p23 p24 p25 p26 p27 p28 p29 p30 p31) scope [] [] fa fd) (sc : FnScope nPen ["script"] scope) (h : penSc scope = true)
    (mI : mg "int" = none) (mT : mg "list" = none) : FnOk P w K mg base C 1 fa fd ["script"] (spPen K) := by
  refine F.ok sc (fun vs H Q E h => ?_) fun cdv A outer s H vs Q E hr h' => ?_
  · obtain ⟨_, _, rfl, _⟩ := h
    rfl
  · refine ⟨_, PSs.nox (pss_pen rfl rfl h sc.nd PassesOwn.never rfl mI mT), ?_⟩
    obtain ⟨a, cells, rfl, hs, q⟩ := h'
    exact pen_pure hs q
end FS

set_option Elab.async false
set_option linter.all false
set_option maxRecDepth 100000
set_option maxHeartbeats 8000000
namespace FS
open PySem PySem.Spec PyProof.Rows L2

/-! ### what the head tells of error classes -/
def isV (o : Option (Option Value)) (v : Value) : Bool := He.eqO o (some (some v))
def oexB (K : PySem.W.Frag) (C : Addr) : Bool := (match K.lookup C with
  | some ⟨.type t, _, .cls cd, sl⟩ => (match cd.mro, sl.toList with
    | .ref C' :: bm, [_, _, _, _, some (.builtin n), _] => decide (t = "type") && (decide (C' = C) && (decide (n = "ValueError.__new__") && (!cd.hasDel && (cd.hasDict && PySem.HandSPX.refsVE bm))))
    | _, _ => false)
  | _ => false) && (isV (PySem.W.findIn K (.ref C) "__setattr__") (.builtin "object.__setattr__") && (decide (PySem.W.subIn K (.ref C) (.type "BaseException") = some true) && (decide (PySem.W.typeIn K (.ref C) = some (.type "type")) && PySem.W.keepIn K (.ref C))))
theorem oexB_ok {K : PySem.W.Frag} {C : Addr} (h : oexB K C = true) : OexC K C := by
  unfold oexB at h
  obtain ⟨h1, h⟩ := bt h
  obtain ⟨h2, h⟩ := bt h
  obtain ⟨h3, h⟩ := bt h
  obtain ⟨h4, h5⟩ := bt h
  refine ⟨?_, of_decide_eq_true h2, of_decide_eq_true h3, of_decide_eq_true h4, h5⟩
  split at h1
  · rename_i t dd cd sl ho
    split at h1
    · rename_i C' bm k0 k1 k2 k3 n k5 hm hs
      obtain ⟨g0, h1⟩ := bt h1
      obtain ⟨g1, h1⟩ := bt h1
      obtain ⟨g2, h1⟩ := bt h1
      obtain ⟨g3, h1⟩ := bt h1
      obtain ⟨g4, g5⟩ := bt h1
      have e0 : t = "type" := of_decide_eq_true g0
      have e1 : C' = C := of_decide_eq_true g1
      have e2 : n = "ValueError.__new__" := of_decide_eq_true g2
      have e3 : cd.hasDel = false := by simpa using g3
      obtain ⟨nm, bs, mro, ns, qn, hd, sn, sub, ab, col, del⟩ := cd
      dsimp only at hm e3 g4
      subst hm e3 g4 e0 e1 e2
      have hsl : sl = #[k0, k1, k2, k3, some (.builtin "ValueError.__new__"), k5] := by
        obtain ⟨l⟩ := sl
        simp only at hs
        rw [hs]
      subst hsl
      exact ⟨nm, qn, ns, bs, bm, sn, sub, ab, col, dd, k0, k1, k2, k3, k5, ho, g5⟩
    · cases h1
  · cases h1
def excB (K : PySem.W.Frag) (D : Addr) : Bool := isV (PySem.W.findIn K (.ref D) "__getattribute__") (.builtin "BaseException.__getattribute__") && (He.eqO (PySem.W.findIn K (.ref D) "__getattr__") (some none) && (decide (PySem.W.subIn K (.ref D) (.type "BaseException") = some true) && (PySem.W.hasDictIn K D &&
  (isV (PySem.W.findIn K (.ref D) "__class__") (.builtin "object.__class__") && (isV (PySem.W.specialIn K (.builtin "object.__class__") "__get__") (.builtin "getset_descriptor.__get__") && (decide (PySem.W.takesIn K (.builtin "object.__class__") = some true) && decide (PySem.W.mroIn K D (.type "object") = some true)))))))
theorem excB_ok {K : PySem.W.Frag} {D : Addr} (h : excB K D = true) : ExcC K D ∧ XfC K D := by
  unfold excB at h
  obtain ⟨h1, h⟩ := bt h
  obtain ⟨h2, h⟩ := bt h
  obtain ⟨h3, h⟩ := bt h
  obtain ⟨h4, h⟩ := bt h
  obtain ⟨h5, h⟩ := bt h
  obtain ⟨h6, h⟩ := bt h
  obtain ⟨h7, h8⟩ := bt h
  have a1 := of_decide_eq_true h1
  have a2 := of_decide_eq_true h2
  have a3 := of_decide_eq_true h3
  exact ⟨⟨a1, a2, a3, h4, of_decide_eq_true h5, of_decide_eq_true h6, of_decide_eq_true h7, of_decide_eq_true h8⟩, ⟨a1, a2, a3, h4⟩⟩
/-- all that is asked of the class c by a suite over the table -/
def clsB (K : PySem.W.Frag) (SE : Str) (tbl : List KE) (c : Str) : Bool := excB K (He.ga K c) && (decide (PySem.W.exmOne K (.ref (He.ga K c)) (.ref (He.ga K SE)) = some true) && (decide (PySem.W.kitOne K (.ref (He.ga K c)) (.type "ValueError") = some true) &&
  tbl.all fun e => isV (PySem.W.nsIn K mainGlobals e.1) (.ref (He.ga K e.1)) && (decide (PySem.W.kitOne K (.ref (He.ga K c)) (.ref (He.ga K e.1)) = some (decide (e.1 = c))) && (!decide (e.1 = c) || e.2.2.all fun p => He.eqO (PySem.W.findIn K (.ref (He.ga K c)) p.1) (some none)))))
theorem clsB_ok {W : Wd} {h : Heap} {SE c : Str} {tbl : List KE} (X : W.K.In h) (G : h.Ns mainGlobals W.mg) (sys : (W.K.lookup sysModules).isSome = true) (fR : W.mg "repr" = none) (fI : W.mg "isinstance" = none) (mc : W.mg c = some (.ref (He.ga W.K c))) (b : clsB W.K SE tbl c = true) :
    ∀ C, W.mg c = some (.ref C) → ClsS W (He.ga W.K SE) tbl c C := by
  intro C hC
  rw [mc] at hC
  cases hC
  unfold clsB at b
  obtain ⟨b1, b⟩ := bt b
  obtain ⟨b2, b⟩ := bt b
  obtain ⟨b3, b4⟩ := bt b
  obtain ⟨e1, e2⟩ := excB_ok b1
  refine ⟨⟨mc, e1, e2, sys, fR, fI⟩, of_decide_eq_true b2, of_decide_eq_true b3, fun e he => ?_⟩
  obtain ⟨c1, c2⟩ := bt (List.all_eq_true.mp b4 e he)
  obtain ⟨c3, c4⟩ := bt c2
  refine ⟨⟨He.ga W.K e.1, PySem.W.mg_of X G (He.eqO_ok c1), of_decide_eq_true c3⟩, fun ee p hp => ?_⟩
  rw [Bool.or_eq_true] at c4
  rcases c4 with c4 | c4
  · rw [ee] at c4
    simp at c4
  · exact He.eqO_ok (List.all_eq_true.mp c4 p hp)
/-- a class with an __init__ -/
def mkB (K : PySem.W.Frag) (c : Str) (fs : List Str) : Bool := oexB K (He.ga K c) && (isV (PySem.W.findIn K (.ref (He.ga K c)) "__init__") (.ref (He.ma K (He.ga K c) "__init__")) && (decide (PySem.W.typeIn K (.ref (He.ma K (He.ga K c) "__init__")) = some (.type "function")) && fs.all fun f => He.eqO (PySem.W.findIn K (.ref (He.ga K c)) f) (some none)))
/-- fields and their places -/
def idx : List Str → Nat → List (Str × Nat)
  | [], _ => []
  | f :: r, i => (f, i) :: idx r (i + 1)
def idxV : List Str → List V → Nat → List (Str × Nat × V)
  | f :: r, u :: us, i => (f, i, u) :: idxV r us (i + 1)
  | _, _, _ => []
theorem idxV_idx : ∀ {fs : List Str} {us : List V} {i : Nat}, us.length = fs.length → (idxV fs us i).map (fun t => (t.1, t.2.1)) = idx fs i
  | [], us, i, h => by cases us <;> rfl
  | f :: r, [], i, h => by simp at h
  | f :: r, u :: us, i, h => by
    simp only [idxV, idx, List.map_cons]
    rw [idxV_idx (by simpa using h)]
theorem idxV_zip : ∀ {fs : List Str} {us : List V} {i : Nat}, (idxV fs us i).map (fun t => (t.1, t.2.2)) = fs.zip us
  | [], us, i => by cases us <;> rfl
  | f :: r, [], i => rfl
  | f :: r, u :: us, i => by
    simp only [idxV, List.map_cons, List.zip_cons_cons]
    rw [idxV_zip]
theorem idxV_len : ∀ {fs : List Str} {us : List V} {i : Nat}, (idxV fs us i).length ≤ fs.length
  | [], us, i => by cases us <;> simp [idxV]
  | f :: r, [], i => by simp [idxV]
  | f :: r, u :: us, i => by
    simp only [idxV, List.length_cons]
    have := idxV_len (fs := r) (us := us) (i := i + 1)
    omega
theorem idxV_at : ∀ {fs : List Str} {us : List V} {i : Nat} {t : Str × Nat × V}, t ∈ idxV fs us i → t.1 ∈ fs ∧ i ≤ t.2.1 ∧ us[t.2.1 - i]? = some t.2.2
  | [], us, i, t, h => by cases us <;> simp [idxV] at h
  | f :: r, [], i, t, h => by simp [idxV] at h
  | f :: r, u :: us, i, t, h => by
    simp only [idxV, List.mem_cons] at h
    rcases h with rfl | h
    · exact ⟨List.mem_cons_self, Nat.le_refl _, by simp⟩
    · obtain ⟨a, b, c⟩ := idxV_at h
      refine ⟨List.mem_cons_of_mem _ a, by omega, ?_⟩
      rw [show t.2.1 - i = (t.2.1 - (i + 1)) + 1 by omega, List.getElem?_cons_succ]
      exact c
theorem rs_ok {W : Wd} {c qual : Str} {params : Arguments} {body : List Stmt} {scope : Scope} {fd : FuncData} {N : List Str} {f0 : Str} {fr : List Str} (mc : W.mg c = some (.ref (He.ga W.K c))) (b : mkB W.K c (f0 :: fr) = true)
    (F : FunD W.K "__init__" qual params body scope [] [] (He.ma W.K (He.ga W.K c) "__init__") fd) (sc : FnScope N N scope) (hN : N.length = fr.length + 2) (hb : initB N scope (idx (f0 :: fr) 1) body = true) (bd : Binds W.K fd N []) (hl : fr.length ≤ 700) : RsS W 2 c (f0 :: fr).reverse := by
  unfold mkB at b
  obtain ⟨b1, b⟩ := bt b
  obtain ⟨b2, b⟩ := bt b
  obtain ⟨b3, b4⟩ := bt b
  have T := oexB_ok b1
  refine ⟨⟨He.ga W.K c, He.ma W.K (He.ga W.K c) "__init__", fd, N, 1, mc, T, He.eqO_ok b2, of_decide_eq_true b3, ?_, Nat.le_refl _, bd, by simp; omega⟩⟩
  refine F.ok sc (fun vs H Q E h => ?_) fun cdv A outer s H vs Q E hr h => ?_
  · obtain ⟨a, us, rfl, h1, _⟩ := h
    rw [hN]
    simp at h1 ⊢
    omega
  · obtain ⟨a, us, rfl, h1, h2, q⟩ := h
    refine ⟨_, pss_init rfl rfl hb, ?_⟩
    cases us with
    | nil => simp at h1
    | cons u ur =>
      have h1' : ur.length = fr.length := by simpa using h1
      have e0 : idx (f0 :: fr) 1 = (((f0, 1, u) :: idxV fr ur 2)).map fun t => (t.1, t.2.1) := by
        rw [List.map_cons, idxV_idx h1']
        rfl
      have st : ∀ i y, (u :: ur)[i]? = some y → (L2.start N (V.ref a :: u :: ur))[i + 1]? = some (some y) := fun i y hy => by
        unfold L2.start
        rw [List.map_cons, List.cons_append, List.getElem?_cons_succ, List.getElem?_append_left (by
          rw [List.length_map]
          exact (List.getElem?_eq_some_iff.mp hy).1), List.getElem?_map, hy]
        rfl
      show tInit W.K (idx (f0 :: fr) 1) _ _ H
      rw [e0]
      refine init_ok T (a := a) (by rfl) h2 (Nat.le_trans idxV_len (by omega)) (fun t ht => ?_) fun d H' hd da k1 k2 k3 => ?_
      · have ht' : t ∈ idxV (f0 :: fr) (u :: ur) 1 := ht
        obtain ⟨a1, a2, a3⟩ := idxV_at ht'
        refine ⟨He.eqO_ok (List.all_eq_true.mp b4 t.1 a1), ?_⟩
        have := st _ _ a3
        rwa [show t.2.1 - 1 + 1 = t.2.1 by omega] at this
      · refine q d H' hd da k1 ?_ k3
        rw [k2]
        have e1 : ((f0, 1, u) :: idxV fr ur 2).map (fun t => (t.1, t.2.2)) = (f0 :: fr).zip (u :: ur) := idxV_zip (i := 1) (fs := f0 :: fr) (us := u :: ur)
        rw [e1, List.zip_eq_zipWith, List.zip_eq_zipWith, List.reverse_zipWith (by simpa using h1'.symm)]
def rs0B (K : PySem.W.Frag) (c : Str) : Bool := PySem.W.excIn K (He.ga K c) He.veBase "ValueError.__new__" && (PySem.W.keepIn K (.ref (He.ga K c)) && (decide (PySem.W.subIn K (.ref (He.ga K c)) (.type "BaseException") = some true) && decide (PySem.W.typeIn K (.ref (He.ga K c)) = some (.type "type"))))
theorem rs0_ok {W : Wd} {c : Str} (mc : W.mg c = some (.ref (He.ga W.K c))) (b : rs0B W.K c = true) : Rs0 W c := by
  unfold rs0B at b
  obtain ⟨b1, b⟩ := bt b
  obtain ⟨b2, b⟩ := bt b
  obtain ⟨b3, b4⟩ := bt b
  exact ⟨⟨_, mc, b1, b2, of_decide_eq_true b3, of_decide_eq_true b4⟩⟩

/-! ### the hook -/
def asF (g : Addr → Option Obj) (n : Nat) : List Addr := sysModules :: He.asD g n
def obsF (n : Nat) (fn : List He.DefD) (ex : PySem.W.Frag → Bool) (g : Addr → Option Obj) : He.AlD := (ex (He.frG g (asF g n)) && fn.all fun d => d.ok (He.frG g (asF g n)), fn.map fun d => He.fnW (He.frG g (asF g n)) d.at_)
structure SaysF (fn : List He.DefD) (ex : PySem.W.Frag → Bool) (K : PySem.W.Frag) : Prop where
  ex : ex K = true
  ok : (fn.all fun d => d.ok K) = true
  fn : (fn.map fun d => He.fnW K d.at_) = fn.map He.DefD.val
def hookF (n : Nat) (fn : List He.DefD) (ex : PySem.W.Frag → Bool) : PySem.W.Hook where
  α := He.AlD
  obs := fun s => obsF n fn ex s.heap.get?
  val := fun _ => He.valD fn
  says := fun _ h => ∃ K : PySem.W.Frag, K.In h ∧ SaysF fn ex K
  of := fun _ _ e => ⟨_, He.frG_in, by
    have e1 := congrArg (fun z : He.AlD => z.1) e
    obtain ⟨e2, e3⟩ := bt (show (_ && _) = true from e1)
    exact ⟨e2, e3, congrArg (fun z : He.AlD => z.2) e⟩⟩
  keeps := fun _ _ _ ⟨K, hK, c⟩ k => ⟨K, PySem.W.Frag.In.keeps hK k, c⟩
theorem obsF_eq {n : Nat} {fn : List He.DefD} {ex : PySem.W.Frag → Bool} {g : Addr → Option Obj} {s : Shared} (h : ∀ a, g a = s.heap.get? a) : obsF n fn ex g = (hookF n fn ex).obs s := by
  have e : g = s.heap.get? := funext h
  rw [e] <;> rfl
theorem SaysF.def_ {fn : List He.DefD} {ex : PySem.W.Frag → Bool} {K : PySem.W.Frag} (c : SaysF fn ex K) (i : Nat) {d : He.DefD} (h : fn[i]? = some d := by rfl) : ∃ fd, FunD K d.name d.qual d.params d.body d.scope (d.dvs K) (d.kws K) (He.fAd K d.at_) fd := by
  have e2 : (fn.map fun d => He.fnW K d.at_)[i]? = (fn.map He.DefD.val)[i]? := by rw [c.fn]
  rw [List.getElem?_map, List.getElem?_map, h] at e2
  exact He.DefD.funD (Option.some.inj e2) (List.all_eq_true.mp c.ok d (List.mem_of_getElem? h))
/-- names of the module: those bound to an object, those free -/
def gloB (K : PySem.W.Frag) (xs : List Str) : Bool := xs.all fun x => isV (PySem.W.nsIn K mainGlobals x) (.ref (He.ga K x))
def freeB (K : PySem.W.Frag) (xs : List Str) : Bool := xs.all fun x => He.eqO (PySem.W.nsIn K mainGlobals x) (some none)
theorem gloB_ok {K : PySem.W.Frag} {h : Heap} {mg : Str → Option Value} {xs : List Str} (X : K.In h) (G : h.Ns mainGlobals mg) (b : gloB K xs = true) {x : Str} (hx : x ∈ xs) : mg x = some (.ref (He.ga K x)) := PySem.W.mg_of X G (He.eqO_ok (List.all_eq_true.mp b x hx))
theorem freeB_ok {K : PySem.W.Frag} {h : Heap} {mg : Str → Option Value} {xs : List Str} (X : K.In h) (G : h.Ns mainGlobals mg) (b : freeB K xs = true) {x : Str} (hx : x ∈ xs) : mg x = none := PySem.W.mg_none_of X G (He.eqO_ok (List.all_eq_true.mp b x hx))
end FS

set_option Elab.async false
set_option linter.all false
set_option maxRecDepth 100000
set_option maxHeartbeats 8000000
namespace K01
open PySem PySem.Spec PyProof.Rows L2 FS
def top (i : Nat) : Stmt := PySem.Challenge.pw_flowshifts_k01_errors.main.body.getD i (.Pass ⟨0, 0, 0, 0⟩)
def m__law_draw : Fn := drawM
def N__law_pick : List Str := ["pen", "some"]
def ss__law_pick : Ss := (.cons (.ret (.sub (.var 1) (.call "_law_draw" 2 m__law_draw (.cons (.var 0) (.cons (.blt .len (.cons (.var 1) .nil)) .nil)))))
  .nil)
def m__law_pick : Fn := runF 2 2 ss__law_pick
def N__law_any_field : List Str := ["pen", "way"]
def ss__law_any_field : Ss := (.cons (.set 1 (.call "_law_draw" 2 m__law_draw (.cons (.var 0) (.cons (.int 8) .nil))))
  (.cons (.ite (.cmp .eq (.var 1) (.int 0)) (.cons (.ret (.lst (.cons (.call "_law_draw" 2 m__law_draw (.cons (.var 0) (.cons (.int 100) .nil))) (.cons (.lst .nil) .nil))))
  .nil) .nil)
  (.cons (.ite (.cmp .eq (.var 1) (.int 1)) (.cons (.ret (.tup (.cons (.str "a") (.cons (.tup (.cons (.call "_law_draw" 2 m__law_draw (.cons (.var 0) (.cons (.bin .pow (.int 10) (.int 6)) .nil))) .nil)) .nil))))
  .nil) .nil)
  (.cons (.ret (.call "_law_pick" 2 m__law_pick (.cons (.var 0) (.cons (.lst (.cons .non (.cons (.bl true) (.cons (.bl false) (.cons (.int 0) (.cons (.neg (.int 1)) (.cons (.str "x") (.cons (.str "") (.cons (.bin .pow (.int 10) (.int 40)) (.cons (.prim (dictPrim "k" 1) .nil) .nil)))))))))) .nil))))
  .nil))))
def m__law_any_field : Fn := runF 2 1 ss__law_any_field
def N__law_raised : List Str := ["kind", "one", "two", "three"]
def ss__law_raised : Ss := (.cons (.ite (.cmp .eq (.var 0) (.int 0)) (.cons (.rs "BadNumber" ["number", "what"] (.cons (.var 1) (.cons (.var 2) .nil)))
  .nil) .nil)
  (.cons (.ite (.cmp .eq (.var 0) (.int 1)) (.cons (.rs "BadRow" ["row", "what"] (.cons (.var 1) (.cons (.var 2) .nil)))
  .nil) .nil)
  (.cons (.ite (.cmp .eq (.var 0) (.int 2)) (.cons (.rs "BadWord" ["word", "what"] (.cons (.var 1) (.cons (.var 2) .nil)))
  .nil) .nil)
  (.cons (.ite (.cmp .eq (.var 0) (.int 3)) (.cons (.rs "NoPlace" ["index", "what"] (.cons (.var 1) (.cons (.var 2) .nil)))
  .nil) .nil)
  (.cons (.ite (.cmp .eq (.var 0) (.int 4)) (.cons (.rs "BadTable" ["what"] (.cons (.var 1) .nil))
  .nil) .nil)
  (.cons (.ite (.cmp .eq (.var 0) (.int 5)) (.cons (.rs "BadBook" ["what"] (.cons (.var 1) .nil))
  .nil) .nil)
  (.cons (.ite (.cmp .eq (.var 0) (.int 6)) (.cons (.rs "Unlike" ["what"] (.cons (.var 1) .nil))
  .nil) .nil)
  (.cons (.ite (.cmp .eq (.var 0) (.int 7)) (.cons (.rs "NotThere" ["paper"] (.cons (.var 1) .nil))
  .nil) .nil)
  .nil))))))))
def m__law_raised : Fn := runF 4 4 ss__law_raised
def N__law_raised_too : List Str := ["kind", "one", "two", "three"]
def ss__law_raised_too : Ss := (.cons (.ite (.cmp .eq (.var 0) (.int 8)) (.cons (.rs "BadName" ["name"] (.cons (.var 1) .nil))
  .nil) .nil)
  (.cons (.ite (.cmp .eq (.var 0) (.int 9)) (.cons (.rs "NoName" ["name"] (.cons (.var 1) .nil))
  .nil) .nil)
  (.cons (.ite (.cmp .eq (.var 0) (.int 10)) (.cons (.rs "TakenName" ["name"] (.cons (.var 1) .nil))
  .nil) .nil)
  (.cons (.ite (.cmp .eq (.var 0) (.int 11)) (.cons (.rs "BadText" ["token", "line"] (.cons (.var 1) (.cons (.var 2) .nil)))
  .nil) .nil)
  (.cons (.ite (.cmp .eq (.var 0) (.int 12)) (.cons (.rs "NotKept" ["witness", "promise"] (.cons (.var 1) (.cons (.var 2) .nil)))
  .nil) .nil)
  (.cons (.ite (.cmp .eq (.var 0) (.int 13)) (.cons (.rs "TooMany" ["limit", "many", "what"] (.cons (.var 1) (.cons (.var 2) (.cons (.var 3) .nil))))
  .nil) .nil)
  (.cons (.ite (.cmp .eq (.var 0) (.int 14)) (.cons (.rs0 "NothingToUndo")
  .nil) .nil)
  (.cons (.ite (.cmp .eq (.var 0) (.int 15)) (.cons (.rs0 "NothingToRedo")
  .nil) .nil)
  .nil))))))))
def m__law_raised_too : Fn := runF 4 4 ss__law_raised_too
def N__law_due_fields : List Str := ["kind", "one", "two", "three", "words"]
def ss__law_due_fields : Ss := (.cons (.set 4 (.lst (.cons (.str "number") (.cons (.str "row") (.cons (.str "word") (.cons (.str "place") (.cons (.str "table") (.cons (.str "book") (.cons (.str "unlike") (.cons (.str "notthere") (.cons (.str "badname") (.cons (.str "noname") (.cons (.str "taken") .nil)))))))))))))
  (.cons (.set 4 (.bin .add (.var 4) (.lst (.cons (.str "text") (.cons (.str "kept") (.cons (.str "many") (.cons (.str "undo") (.cons (.str "redo") .nil))))))))
  (.cons (.ite (.cmp .lt (.var 0) (.int 4)) (.cons (.ret (.tup (.cons (.sub (.var 4) (.var 0)) (.cons (.var 1) (.cons (.prim reprPrim (.cons (.var 2) .nil)) .nil)))))
  .nil) .nil)
  (.cons (.ite (.cmp .lt (.var 0) (.int 8)) (.cons (.ret (.tup (.cons (.sub (.var 4) (.var 0)) (.cons (.var 1) .nil))))
  .nil) .nil)
  (.cons (.ite (.cmp .lt (.var 0) (.int 11)) (.cons (.ret (.tup (.cons (.sub (.var 4) (.var 0)) (.cons (.prim reprPrim (.cons (.var 1) .nil)) .nil))))
  .nil) .nil)
  (.cons (.ite (.cmp .lt (.var 0) (.int 13)) (.cons (.ret (.tup (.cons (.sub (.var 4) (.var 0)) (.cons (.var 1) (.cons (.var 2) .nil)))))
  .nil) .nil)
  (.cons (.ret (.ife (.cmp .eq (.var 0) (.int 13)) (.tup (.cons (.sub (.var 4) (.var 0)) (.cons (.var 1) (.cons (.var 2) (.cons (.var 3) .nil))))) (.tup (.cons (.sub (.var 4) (.var 0)) .nil))))
  .nil)))))))
def m__law_due_fields : Fn := runF 5 4 ss__law_due_fields
def tblK : List KE := [("BadNumber", "number", [("what", false), ("number", true)]),
  ("BadRow", "row", [("what", false), ("row", true)]),
  ("BadWord", "word", [("what", false), ("word", true)]),
  ("BadTable", "table", [("what", false)]),
  ("BadBook", "book", [("what", false)]),
  ("BadName", "badname", [("name", true)]),
  ("BadText", "text", [("line", false), ("token", false)])]
def tblM : List KE := [("NoPlace", "place", [("what", false), ("index", true)]),
  ("NoName", "noname", [("name", true)]),
  ("TakenName", "taken", [("name", true)]),
  ("Unlike", "unlike", [("what", false)]),
  ("NotThere", "notthere", [("paper", false)]),
  ("TooMany", "many", [("what", false), ("many", false), ("limit", false)]),
  ("NotKept", "kept", [("promise", false), ("witness", false)]),
  ("NothingToUndo", "undo", []),
  ("NothingToRedo", "redo", [])]
def res (c : Str) (ns : List Str) (xs : List PV) : Option (List PV) := match kRun c ns xs tblK [], kRun c ns xs tblM [] with | some a, some b => some (a ++ b) | _, _ => none
def tbl : List KE := tblK ++ tblM
def cls : List Str := ["BadNumber", "BadRow", "BadWord", "BadTable", "BadBook", "BadName", "BadText", "NoPlace", "NoName", "TakenName", "Unlike", "NotThere", "TooMany", "NotKept", "NothingToUndo", "NothingToRedo"]
def N__law_told : List Str := ["kind", "one", "two", "three", "found", "e"]
def ss__law_told : Ss := (.cons (.ex (.call "_law_raised" 4 m__law_raised (.cons (.var 0) (.cons (.var 1) (.cons (.var 2) (.cons (.var 3) .nil))))))
  (.cons (.ex (.call "_law_raised_too" 4 m__law_raised_too (.cons (.var 0) (.cons (.var 1) (.cons (.var 2) (.cons (.var 3) .nil))))))
  .nil))
def m__law_told : Fn := toldM 6 4 4 ss__law_told cls res
def N_law : List Str := ["script", "pen", "kind", "one", "two", "three", "told"]
def ss_law : Ss := (.cons (.fr (.v 2) (.rng (.int 16)) (.cons (.par3 3 4 5 (.cons (.call "_law_any_field" 1 m__law_any_field (.cons (.var 1) .nil)) (.cons (.call "_law_any_field" 1 m__law_any_field (.cons (.var 1) .nil)) (.cons (.call "_law_any_field" 1 m__law_any_field (.cons (.var 1) .nil)) .nil))))
  (.frz 3 (.frz 4 (.frz 5 (.cons (.set 6 (.call "_law_told" 4 m__law_told (.cons (.var 2) (.cons (.var 3) (.cons (.var 4) (.cons (.var 5) .nil))))))
  (.frz 3 (.frz 4 (.frz 5 (.cons (.ite (.orr (.isN false (.var 6)) (.orr (.cmp .ne (.blt .len (.cons (.var 6) .nil)) (.int 1)) (.one (.cmp .ne (.prim reprPrim (.cons (.sub (.var 6) (.int 0)) .nil)) (.prim reprPrim (.cons (.call "_law_due_fields" 4 m__law_due_fields (.cons (.var 2) (.cons (.var 3) (.cons (.var 4) (.cons (.var 5) .nil))))) .nil)))))) (.cons (.ret (.bl false))
  .nil) .nil)
  .nil))))))))))
  (.cons (.ret (.bl true))
  .nil))
theorem sc__law_pick : FnScope N__law_pick ["pen", "some"] (defScope (top 21)) := C8.fnScope_by (by decide +kernel)
theorem ck__law_pick : chkB N__law_pick (defScope (top 21)) ss__law_pick (defBody (top 21)) = true := by decide +kernel
theorem sc__law_any_field : FnScope N__law_any_field ["pen"] (defScope (top 24)) := C8.fnScope_by (by decide +kernel)
theorem ck__law_any_field : chkB N__law_any_field (defScope (top 24)) ss__law_any_field (defBody (top 24)) = true := by decide +kernel
theorem sc__law_raised : FnScope N__law_raised ["kind", "one", "two", "three"] (defScope (top 25)) := C8.fnScope_by (by decide +kernel)
theorem ck__law_raised : chkB N__law_raised (defScope (top 25)) ss__law_raised (defBody (top 25)) = true := by decide +kernel
theorem sc__law_raised_too : FnScope N__law_raised_too ["kind", "one", "two", "three"] (defScope (top 26)) := C8.fnScope_by (by decide +kernel)
theorem ck__law_raised_too : chkB N__law_raised_too (defScope (top 26)) ss__law_raised_too (defBody (top 26)) = true := by decide +kernel
theorem sc__law_due_fields : FnScope N__law_due_fields ["kind", "one", "two", "three"] (defScope (top 28)) := C8.fnScope_by (by decide +kernel)
theorem ck__law_due_fields : chkB N__law_due_fields (defScope (top 28)) ss__law_due_fields (defBody (top 28)) = true := by decide +kernel
theorem sc__law_told : FnScope N__law_told ["kind", "one", "two", "three"] (defScope (top 27)) := C8.fnScope_by (by decide +kernel)
theorem ck__law_told : toldB N__law_told (defScope (top 27)) 4 5 ss__law_told (defBody (top 27)) = true := by decide +kernel
theorem sc_law : FnScope N_law ["script"] (defScope (top 29)) := C8.fnScope_by (by decide +kernel)
theorem ck_law : chkB N_law (defScope (top 29)) ss_law ((defBody (top 29)).drop 1) = true := by decide +kernel
theorem sc__law_kinds : FnScope ["e", "found"] ["e"] (defScope (top 22)) := C8.fnScope_by (by decide +kernel)
theorem ck0__law_kinds : setB ["e", "found"] (defScope (top 22)) ((defBody (top 22)).getD 0 (.Pass ⟨0, 0, 0, 0⟩)) = true := by decide +kernel
theorem cki__law_kinds : kStsB ["e", "found"] (defScope (top 22)) tblK (((defBody (top 22)).drop 1).take 7) = true := by decide +kernel
theorem ckr__law_kinds : retMB ["e", "found"] (defScope (top 22)) ((defBody (top 22)).getD 8 (.Pass ⟨0, 0, 0, 0⟩)) = true := by decide +kernel
theorem bd__law_kinds : defBody (top 22) = (defBody (top 22)).getD 0 (.Pass ⟨0, 0, 0, 0⟩) :: (((defBody (top 22)).drop 1).take 7 ++ [(defBody (top 22)).getD 8 (.Pass ⟨0, 0, 0, 0⟩)]) := by rfl
theorem sc__law_more_kinds : FnScope ["e", "found"] ["e"] (defScope (top 23)) := C8.fnScope_by (by decide +kernel)
theorem ck0__law_more_kinds : setB ["e", "found"] (defScope (top 23)) ((defBody (top 23)).getD 0 (.Pass ⟨0, 0, 0, 0⟩)) = true := by decide +kernel
theorem cki__law_more_kinds : kStsB ["e", "found"] (defScope (top 23)) tblM (((defBody (top 23)).drop 1).take 9) = true := by decide +kernel
theorem ckr__law_more_kinds : retB ["e", "found"] (defScope (top 23)) ((defBody (top 23)).getD 10 (.Pass ⟨0, 0, 0, 0⟩)) = true := by decide +kernel
theorem bd__law_more_kinds : defBody (top 23) = (defBody (top 23)).getD 0 (.Pass ⟨0, 0, 0, 0⟩) :: (((defBody (top 23)).drop 1).take 9 ++ [(defBody (top 23)).getD 10 (.Pass ⟨0, 0, 0, 0⟩)]) := by rfl
end K01

set_option Elab.async false
set_option linter.all false
set_option maxRecDepth 100000
set_option maxHeartbeats 8000000
namespace K01
open PySem PySem.Spec PyProof.Rows L2 FS

/-! ### texts of small signs -/
def okS (x : Str) : Prop := ∀ c ∈ x.cps.toList, c < 16 ^ 8
theorem cps_app (x y : Str) : (x ++ y).cps.toList = x.cps.toList ++ y.cps.toList := by
  show (Str.append x y).cps.toList = _
  unfold Str.append
  simp
theorem okS.app {x y : Str} (h : okS x) (g : okS y) : okS (x ++ y) := fun c hc => by
  rw [cps_app] at hc
  rcases List.mem_append.mp hc with z | z
  · exact h c z
  · exact g c z
theorem okS.of (s : String) : okS (Str.ofString s) := fun c hc => by
  rw [Str.ofString_eq_toList] at hc
  simp only [List.mem_map] at hc
  obtain ⟨ch, _, rfl⟩ := hc
  have : ch.toNat < 1114112 := by
    have := ch.valid
    unfold UInt32.isValidChar Nat.isValidChar at this
    show ch.val.toNat < _
    omega
  omega
theorem len_app (x y : Str) : (x ++ y).length = x.length + y.length := strLen_append x y

structure Fd (x : PV) (d : PyData) : Prop where
  st : x.st = true
  fz : x.fz = x
  rd : x.rd = some d
  sh : d.showable = true
  dp : d.depth ≤ 3
  len : d.shown.length ≤ 200
  ok : okS d.shown
theorem Fd.repr {x : PV} {d : PyData} (h : Fd x d) : reprS x = some (.str d.shown) := by
  unfold reprS
  rw [h.rd]
  dsimp only
  rw [if_pos ⟨h.sh, Nat.le_trans h.dp (by decide), Nat.le_trans h.len (by decide)⟩]
theorem Fd.text {x : PV} {d : PyData} (h : Fd x d) : (reprText d.shown).length ≤ 2002 := by
  have := PySem.StrLaws.reprText_len d.shown h.ok
  have := h.len
  omega

/-! ### the fields -/
theorem int_sh {i : Int} {k : Nat} (h0 : 0 ≤ i) (hk : 0 < k) (h : i < 10 ^ k) (hk2 : k ≤ 100) : (PyData.int i).showable = true ∧ (PyData.int i).shown.length ≤ k ∧ okS (PyData.int i).shown := by
  refine ⟨?_, ?_, ?_⟩
  · simp only [PyData.showable, decide_eq_true_eq]
    by_cases z : i.natAbs = 0
    · rw [z]; decide
    · rw [Nat.log2_lt z]
      have h1 : i.natAbs < 10 ^ k := by
        have : (i.natAbs : Int) < ((10 ^ k : Nat) : Int) := by
          rw [Int.natAbs_of_nonneg h0]
          simpa using h
        exact Int.ofNat_lt.mp this
      have h2 : (10 : Nat) ^ k ≤ 10 ^ 100 := Nat.pow_le_pow_right (by decide) hk2
      have h3 : (10 : Nat) ^ 100 < 2 ^ 1920 := by decide +kernel
      omega
  · simp only [PyData.shown]
    exact toString_length_le h0 hk h
  · simp only [PyData.shown]
    exact okS.of _
theorem fd_int {i : Int} {k : Nat} (h0 : 0 ≤ i) (hk : 0 < k) (h : i < 10 ^ k) (hk2 : k ≤ 100) : Fd (.int i) (.int i) := by
  obtain ⟨a, b, c⟩ := int_sh h0 hk h hk2
  exact ⟨rfl, rfl, rfl, a, by simp only [PyData.depth]; decide, by omega, c⟩
theorem fd_non : Fd .non .none := ⟨rfl, rfl, rfl, rfl, by decide +kernel, by decide +kernel, by unfold okS; decide +kernel⟩
theorem fd_tt : Fd (.bl true) (.bool true) := ⟨rfl, rfl, rfl, rfl, by decide +kernel, by decide +kernel, by unfold okS; decide +kernel⟩
theorem fd_ff : Fd (.bl false) (.bool false) := ⟨rfl, rfl, rfl, rfl, by decide +kernel, by decide +kernel, by unfold okS; decide +kernel⟩
theorem fd_m1 : Fd (.int (-1)) (.int (-1)) := ⟨rfl, rfl, rfl, by decide +kernel, by decide +kernel, by decide +kernel, by unfold okS; decide +kernel⟩
theorem fd_x : Fd (.str "x") (.str "x") := ⟨rfl, rfl, rfl, by decide +kernel, by decide +kernel, by decide +kernel, by unfold okS; decide +kernel⟩
theorem fd_e : Fd (.str "") (.str "") := ⟨rfl, rfl, rfl, by decide +kernel, by decide +kernel, by decide +kernel, by unfold okS; decide +kernel⟩
theorem fd_d : Fd (.dct false false [.str "k"] [.int 1]) (.dict [(.str "k", .int 1)]) := ⟨rfl, rfl, rfl, by decide +kernel, by decide +kernel, by decide +kernel, by unfold okS; decide +kernel⟩
theorem fd_l {i : Int} (h0 : 0 ≤ i) (h : i < 100) : Fd (.lst false [.int i, .lst false []]) (.list [.int i, .list []]) := by
  obtain ⟨a, b, c⟩ := int_sh (k := 2) h0 (by decide) (by simpa using h) (by decide)
  have e : (PyData.list [.int i, .list []]).shown = ("[" : Str) ++ "" ++ (PyData.int i).shown ++ ", " ++ (listText []) ++ "]" := by
    simp only [PyData.shown, PyData.shownAll]
    rfl
  refine ⟨rfl, rfl, rfl, ?_, by simp [PyData.depth, PyData.depthAll], ?_, ?_⟩
  · simp only [PyData.showable, PyData.showableAll, Bool.and_true] at a ⊢
    exact a
  · rw [e]
    simp only [len_app]
    have : (listText []).length = 2 := by decide +kernel
    have : (("[" : String) : Str).length = 1 := by decide +kernel
    have : (("]" : String) : Str).length = 1 := by decide +kernel
    have : ((", " : String) : Str).length = 2 := by decide +kernel
    have : (("" : String) : Str).length = 0 := by decide +kernel
    omega
  · rw [e]
    exact (((((okS.of _).app (okS.of _)).app c).app (okS.of _)).app (by unfold okS; decide +kernel)).app (okS.of _)
theorem fd_t {i : Int} (h0 : 0 ≤ i) (h : i < 1000000) : Fd (.tup [.str "a", .tup [.int i]]) (.tuple [.str "a", .tuple [.int i]]) := by
  obtain ⟨a, b, c⟩ := int_sh (k := 6) h0 (by decide) (by simpa using h) (by decide)
  have e : (PyData.tuple [.str "a", .tuple [.int i]]).shown = ("(" : Str) ++ (reprText "a" ++ ", " ++ (("(" : Str) ++ (PyData.int i).shown ++ ",)")) ++ ")" := by
    simp only [PyData.shown, PyData.shownAll]
    rfl
  refine ⟨rfl, rfl, rfl, ?_, by simp [PyData.depth, PyData.depthAll], ?_, ?_⟩
  · simp only [PyData.showable, PyData.showableAll, Bool.and_true, Bool.true_and] at a ⊢
    exact a
  · rw [e]
    simp only [len_app]
    have : (reprText "a").length = 3 := by decide +kernel
    have : (("(" : String) : Str).length = 1 := by decide +kernel
    have : ((")" : String) : Str).length = 1 := by decide +kernel
    have : ((", " : String) : Str).length = 2 := by decide +kernel
    have : ((",)" : String) : Str).length = 2 := by decide +kernel
    omega
  · rw [e]
    exact ((okS.of _).app (((by unfold okS; decide +kernel : okS (reprText "a")).app (okS.of _)).app (((okS.of _).app c).app (okS.of _)))).app (okS.of _)
end K01

set_option Elab.async false
set_option linter.all false
set_option maxRecDepth 100000
set_option maxHeartbeats 8000000
namespace K01
open PySem PySem.Spec PyProof.Rows L2 FS
theorem dm {n : Int} (h0 : 0 < n) (h1 : n < 2 ^ 64) : drawM [.pen, .int n] = .draw n fun i => .ok (.int i) := by
  unfold drawM
  dsimp only
  rw [if_pos ⟨h0, h1⟩]
theorem pick_eq {xs : List PV} (hl : 0 < xs.length) (h2 : xs.length < 2 ^ 64) : m__law_pick [.pen, .lst false xs] = .draw xs.length fun i => match atI xs i with | some x => .ok x | none => .bad := by
  have e := dm (n := xs.length) (by omega) (by omega)
  unfold m__law_pick runF ss__law_pick
  simp [exB, exS, evE, evs, sqF, Tr.bind, takes, FS.take, PV.st, PV.fz, bltS, ofV, vB, m__law_draw, e, subS]
  funext i
  cases h : atI xs i <;> simp [Tr.bind]
theorem ceq {i j : Int} : cmpS .eq (.int i) (.int j) = some (decide (i = j)) := by
  simp [cmpS, PV.sdata, PV.data, PyData.depth, PyData.eqv]
  try rfl
theorem any_W {P : Out PV → Prop} (h : ∀ x y d, Fd y d → x.fz = y → P (.ok x)) : (m__law_any_field [.pen]).W P := by
  unfold m__law_any_field runF ss__law_any_field
  simp [exB, exS, evE, evs, evl, evT, sqF, setF, FS.iteF, Tr.bind, Tr.ofO, takes, movs, FS.take, FS.mov, shal, PV.st, PV.fz, PV.fzs, bltS, ofV, vB, m__law_draw, dm, subS, ceq, binS, dictPrim]
  refine ⟨by decide, fun i h0 h1 => ?_⟩
  by_cases e0 : i = 0
  · subst e0
    simp [Tr.bind]
    exact ⟨by decide, fun i h0 h1 => h _ _ _ (fd_l h0 h1) (by simp [PV.fz, PV.fzs])⟩
  by_cases e1 : i = 1
  · subst e1
    simp [exB, exS, evE, evs, evl, evT, sqF, setF, FS.iteF, Tr.bind, Tr.ofO, takes, movs, FS.take, FS.mov, shal, PV.st, PV.fz, PV.fzs, bltS, ofV, vB, m__law_draw, dm, subS, ceq, binS, dictPrim]
    exact ⟨by decide, fun i h0 h1 => h _ _ _ (fd_t h0 h1) (by simp [PV.fz, PV.fzs])⟩
  simp [e0, e1, exB, exS, evE, evs, evl, evT, sqF, setF, FS.iteF, Tr.bind, Tr.ofO, takes, movs, FS.take, FS.mov, shal, PV.st, PV.fz, PV.fzs, bltS, ofV, vB, m__law_draw, dm, subS, ceq, binS, dictPrim, pick_eq]
  refine ⟨by decide, fun j h2 h3 => ?_⟩
  have hj : j = 0 ∨ j = 1 ∨ j = 2 ∨ j = 3 ∨ j = 4 ∨ j = 5 ∨ j = 6 ∨ j = 7 ∨ j = 8 := by omega
  rcases hj with rfl | rfl | rfl | rfl | rfl | rfl | rfl | rfl | rfl
  · exact h _ _ _ fd_non rfl
  · exact h _ _ _ fd_tt rfl
  · exact h _ _ _ fd_ff rfl
  · exact h _ _ _ (fd_int (i := 0) (k := 1) (by decide) (by decide) (by decide) (by decide)) rfl
  · exact h _ _ _ fd_m1 rfl
  · exact h _ _ _ fd_x rfl
  · exact h _ _ _ fd_e rfl
  · exact h _ _ _ (fd_int (i := 10 ^ 40) (k := 41) (by decide) (by decide) (by decide) (by decide)) rfl
  · exact h _ _ _ fd_d rfl
end K01

set_option Elab.async false
set_option linter.all false
set_option maxRecDepth 100000
set_option maxHeartbeats 400000
namespace K01
open PySem PySem.Spec PyProof.Rows L2 FS
theorem kRun_filter {c : Str} {ns : List Str} {xs : List PV} : ∀ {tbl : List KE} {ys : List PV}, kRun c ns xs tbl ys = kRun c ns xs (tbl.filter fun e => decide (e.1 = c)) ys
  | [], ys => rfl
  | e :: r, ys => by
    by_cases h : e.1 = c
    · rw [List.filter_cons_of_pos (by simpa using h)]
      unfold kRun
      cases kStep c ns xs e ys with
      | none => rfl
      | some zs => exact kRun_filter
    · rw [List.filter_cons_of_neg (by simpa using h)]
      have : kStep c ns xs e ys = some ys := by
        unfold kStep
        rw [if_neg h]
      show (kStep c ns xs e ys).bind _ = _
      rw [this]
      exact kRun_filter
theorem clt {i j : Int} : cmpS .lt (.int i) (.int j) = some (decide (i < j)) := rfl
theorem tk {x : PV} {d : PyData} (h : Fd x d) : FS.take (true, x) = some x := by
  simp [FS.take, h.st, h.fz]
theorem take0 {i : Int} : FS.take (true, .int i) = some (.int i) := rfl
section
variable {a b c : PV} {da db dc : PyData} (ha : Fd a da) (hb : Fd b db) (hc : Fd c dc)
include ha hb hc
theorem res_0 : res "BadNumber" ["number", "what"] [b, a] = some [.tup [.str "number", a, .str db.shown]] := by
  unfold res
  rw [kRun_filter (tbl := tblK), kRun_filter (tbl := tblM), (by decide +kernel : tblK.filter (fun e => decide (e.1 = ("BadNumber" : Str))) = ([("BadNumber", "number", [("what", false), ("number", true)])] : List KE)), (by decide +kernel : tblM.filter (fun e => decide (e.1 = ("BadNumber" : Str))) = ([] : List KE))]
  simp only [kRun, kStep, kFields, kField, if_pos, ha.repr, hb.repr, hc.repr, (by kernel_rfl : (List.zip (["number", "what"] : List Str) ([b, a] : List PV)).lookup ("what" : Str) = some a), (by kernel_rfl : (List.zip (["number", "what"] : List Str) ([b, a] : List PV)).lookup ("number" : Str) = some b)]
  simp
theorem told_0 : m__law_told [.int 0, a, b, c] = .ok (.lst true [.tup [.str "number", a, .str db.shown]]) := by
  have e : exB ss__law_told ((([PV.int 0, a, b, c] : List PV).map some ++ List.replicate 2 none).set 4 (some .non)) = .ret (.exn "BadNumber" ["number", "what"] [b, a]) := by
    unfold ss__law_told
    simp [m__law_raised, ss__law_raised, m__law_raised_too, ss__law_raised_too, runF, exB, exS, evE, evs, evT, sqF, setF, FS.iteF, rsF, Tr.bind, Tr.ofO, takes, ofV, vB, ceq, PV.fz, tk ha, tk hb, tk hc, take0]
  unfold m__law_told toldM
  show (exB ss__law_told ((([PV.int 0, a, b, c] : List PV).map some ++ List.replicate 2 none).set 4 (some .non))).tell _ _ _ = _
  rw [e]
  unfold Tr.tell
  rw [if_pos (by decide +kernel), res_0 ha hb hc]
end
section
variable {a b c : PV} {da db dc : PyData} (ha : Fd a da) (hb : Fd b db) (hc : Fd c dc)
include ha hb hc
theorem res_1 : res "BadRow" ["row", "what"] [b, a] = some [.tup [.str "row", a, .str db.shown]] := by
  unfold res
  rw [kRun_filter (tbl := tblK), kRun_filter (tbl := tblM), (by decide +kernel : tblK.filter (fun e => decide (e.1 = ("BadRow" : Str))) = ([("BadRow", "row", [("what", false), ("row", true)])] : List KE)), (by decide +kernel : tblM.filter (fun e => decide (e.1 = ("BadRow" : Str))) = ([] : List KE))]
  simp only [kRun, kStep, kFields, kField, if_pos, ha.repr, hb.repr, hc.repr, (by kernel_rfl : (List.zip (["row", "what"] : List Str) ([b, a] : List PV)).lookup ("what" : Str) = some a), (by kernel_rfl : (List.zip (["row", "what"] : List Str) ([b, a] : List PV)).lookup ("row" : Str) = some b)]
  simp
theorem told_1 : m__law_told [.int 1, a, b, c] = .ok (.lst true [.tup [.str "row", a, .str db.shown]]) := by
  have e : exB ss__law_told ((([PV.int 1, a, b, c] : List PV).map some ++ List.replicate 2 none).set 4 (some .non)) = .ret (.exn "BadRow" ["row", "what"] [b, a]) := by
    unfold ss__law_told
    simp [m__law_raised, ss__law_raised, m__law_raised_too, ss__law_raised_too, runF, exB, exS, evE, evs, evT, sqF, setF, FS.iteF, rsF, Tr.bind, Tr.ofO, takes, ofV, vB, ceq, PV.fz, tk ha, tk hb, tk hc, take0]
  unfold m__law_told toldM
  show (exB ss__law_told ((([PV.int 1, a, b, c] : List PV).map some ++ List.replicate 2 none).set 4 (some .non))).tell _ _ _ = _
  rw [e]
  unfold Tr.tell
  rw [if_pos (by decide +kernel), res_1 ha hb hc]
end
section
variable {a b c : PV} {da db dc : PyData} (ha : Fd a da) (hb : Fd b db) (hc : Fd c dc)
include ha hb hc
theorem res_2 : res "BadWord" ["word", "what"] [b, a] = some [.tup [.str "word", a, .str db.shown]] := by
  unfold res
  rw [kRun_filter (tbl := tblK), kRun_filter (tbl := tblM), (by decide +kernel : tblK.filter (fun e => decide (e.1 = ("BadWord" : Str))) = ([("BadWord", "word", [("what", false), ("word", true)])] : List KE)), (by decide +kernel : tblM.filter (fun e => decide (e.1 = ("BadWord" : Str))) = ([] : List KE))]
  simp only [kRun, kStep, kFields, kField, if_pos, ha.repr, hb.repr, hc.repr, (by kernel_rfl : (List.zip (["word", "what"] : List Str) ([b, a] : List PV)).lookup ("what" : Str) = some a), (by kernel_rfl : (List.zip (["word", "what"] : List Str) ([b, a] : List PV)).lookup ("word" : Str) = some b)]
  simp
theorem told_2 : m__law_told [.int 2, a, b, c] = .ok (.lst true [.tup [.str "word", a, .str db.shown]]) := by
  have e : exB ss__law_told ((([PV.int 2, a, b, c] : List PV).map some ++ List.replicate 2 none).set 4 (some .non)) = .ret (.exn "BadWord" ["word", "what"] [b, a]) := by
    unfold ss__law_told
    simp [m__law_raised, ss__law_raised, m__law_raised_too, ss__law_raised_too, runF, exB, exS, evE, evs, evT, sqF, setF, FS.iteF, rsF, Tr.bind, Tr.ofO, takes, ofV, vB, ceq, PV.fz, tk ha, tk hb, tk hc, take0]
  unfold m__law_told toldM
  show (exB ss__law_told ((([PV.int 2, a, b, c] : List PV).map some ++ List.replicate 2 none).set 4 (some .non))).tell _ _ _ = _
  rw [e]
  unfold Tr.tell
  rw [if_pos (by decide +kernel), res_2 ha hb hc]
end
section
variable {a b c : PV} {da db dc : PyData} (ha : Fd a da) (hb : Fd b db) (hc : Fd c dc)
include ha hb hc
theorem res_3 : res "NoPlace" ["index", "what"] [b, a] = some [.tup [.str "place", a, .str db.shown]] := by
  unfold res
  rw [kRun_filter (tbl := tblK), kRun_filter (tbl := tblM), (by decide +kernel : tblK.filter (fun e => decide (e.1 = ("NoPlace" : Str))) = ([] : List KE)), (by decide +kernel : tblM.filter (fun e => decide (e.1 = ("NoPlace" : Str))) = ([("NoPlace", "place", [("what", false), ("index", true)])] : List KE))]
  simp only [kRun, kStep, kFields, kField, if_pos, ha.repr, hb.repr, hc.repr, (by kernel_rfl : (List.zip (["index", "what"] : List Str) ([b, a] : List PV)).lookup ("what" : Str) = some a), (by kernel_rfl : (List.zip (["index", "what"] : List Str) ([b, a] : List PV)).lookup ("index" : Str) = some b)]
  simp
theorem told_3 : m__law_told [.int 3, a, b, c] = .ok (.lst true [.tup [.str "place", a, .str db.shown]]) := by
  have e : exB ss__law_told ((([PV.int 3, a, b, c] : List PV).map some ++ List.replicate 2 none).set 4 (some .non)) = .ret (.exn "NoPlace" ["index", "what"] [b, a]) := by
    unfold ss__law_told
    simp [m__law_raised, ss__law_raised, m__law_raised_too, ss__law_raised_too, runF, exB, exS, evE, evs, evT, sqF, setF, FS.iteF, rsF, Tr.bind, Tr.ofO, takes, ofV, vB, ceq, PV.fz, tk ha, tk hb, tk hc, take0]
  unfold m__law_told toldM
  show (exB ss__law_told ((([PV.int 3, a, b, c] : List PV).map some ++ List.replicate 2 none).set 4 (some .non))).tell _ _ _ = _
  rw [e]
  unfold Tr.tell
  rw [if_pos (by decide +kernel), res_3 ha hb hc]
end
section
variable {a b c : PV} {da db dc : PyData} (ha : Fd a da) (hb : Fd b db) (hc : Fd c dc)
include ha hb hc
theorem res_4 : res "BadTable" ["what"] [a] = some [.tup [.str "table", a]] := by
  unfold res
  rw [kRun_filter (tbl := tblK), kRun_filter (tbl := tblM), (by decide +kernel : tblK.filter (fun e => decide (e.1 = ("BadTable" : Str))) = ([("BadTable", "table", [("what", false)])] : List KE)), (by decide +kernel : tblM.filter (fun e => decide (e.1 = ("BadTable" : Str))) = ([] : List KE))]
  simp only [kRun, kStep, kFields, kField, if_pos, ha.repr, hb.repr, hc.repr, (by kernel_rfl : (List.zip (["what"] : List Str) ([a] : List PV)).lookup ("what" : Str) = some a)]
  simp
theorem told_4 : m__law_told [.int 4, a, b, c] = .ok (.lst true [.tup [.str "table", a]]) := by
  have e : exB ss__law_told ((([PV.int 4, a, b, c] : List PV).map some ++ List.replicate 2 none).set 4 (some .non)) = .ret (.exn "BadTable" ["what"] [a]) := by
    unfold ss__law_told
    simp [m__law_raised, ss__law_raised, m__law_raised_too, ss__law_raised_too, runF, exB, exS, evE, evs, evT, sqF, setF, FS.iteF, rsF, Tr.bind, Tr.ofO, takes, ofV, vB, ceq, PV.fz, tk ha, tk hb, tk hc, take0]
  unfold m__law_told toldM
  show (exB ss__law_told ((([PV.int 4, a, b, c] : List PV).map some ++ List.replicate 2 none).set 4 (some .non))).tell _ _ _ = _
  rw [e]
  unfold Tr.tell
  rw [if_pos (by decide +kernel), res_4 ha hb hc]
end
section
variable {a b c : PV} {da db dc : PyData} (ha : Fd a da) (hb : Fd b db) (hc : Fd c dc)
include ha hb hc
theorem res_5 : res "BadBook" ["what"] [a] = some [.tup [.str "book", a]] := by
  unfold res
  rw [kRun_filter (tbl := tblK), kRun_filter (tbl := tblM), (by decide +kernel : tblK.filter (fun e => decide (e.1 = ("BadBook" : Str))) = ([("BadBook", "book", [("what", false)])] : List KE)), (by decide +kernel : tblM.filter (fun e => decide (e.1 = ("BadBook" : Str))) = ([] : List KE))]
  simp only [kRun, kStep, kFields, kField, if_pos, ha.repr, hb.repr, hc.repr, (by kernel_rfl : (List.zip (["what"] : List Str) ([a] : List PV)).lookup ("what" : Str) = some a)]
  simp
theorem told_5 : m__law_told [.int 5, a, b, c] = .ok (.lst true [.tup [.str "book", a]]) := by
  have e : exB ss__law_told ((([PV.int 5, a, b, c] : List PV).map some ++ List.replicate 2 none).set 4 (some .non)) = .ret (.exn "BadBook" ["what"] [a]) := by
    unfold ss__law_told
    simp [m__law_raised, ss__law_raised, m__law_raised_too, ss__law_raised_too, runF, exB, exS, evE, evs, evT, sqF, setF, FS.iteF, rsF, Tr.bind, Tr.ofO, takes, ofV, vB, ceq, PV.fz, tk ha, tk hb, tk hc, take0]
  unfold m__law_told toldM
  show (exB ss__law_told ((([PV.int 5, a, b, c] : List PV).map some ++ List.replicate 2 none).set 4 (some .non))).tell _ _ _ = _
  rw [e]
  unfold Tr.tell
  rw [if_pos (by decide +kernel), res_5 ha hb hc]
end
section
variable {a b c : PV} {da db dc : PyData} (ha : Fd a da) (hb : Fd b db) (hc : Fd c dc)
include ha hb hc
theorem res_6 : res "Unlike" ["what"] [a] = some [.tup [.str "unlike", a]] := by
  unfold res
  rw [kRun_filter (tbl := tblK), kRun_filter (tbl := tblM), (by decide +kernel : tblK.filter (fun e => decide (e.1 = ("Unlike" : Str))) = ([] : List KE)), (by decide +kernel : tblM.filter (fun e => decide (e.1 = ("Unlike" : Str))) = ([("Unlike", "unlike", [("what", false)])] : List KE))]
  simp only [kRun, kStep, kFields, kField, if_pos, ha.repr, hb.repr, hc.repr, (by kernel_rfl : (List.zip (["what"] : List Str) ([a] : List PV)).lookup ("what" : Str) = some a)]
  simp
theorem told_6 : m__law_told [.int 6, a, b, c] = .ok (.lst true [.tup [.str "unlike", a]]) := by
  have e : exB ss__law_told ((([PV.int 6, a, b, c] : List PV).map some ++ List.replicate 2 none).set 4 (some .non)) = .ret (.exn "Unlike" ["what"] [a]) := by
    unfold ss__law_told
    simp [m__law_raised, ss__law_raised, m__law_raised_too, ss__law_raised_too, runF, exB, exS, evE, evs, evT, sqF, setF, FS.iteF, rsF, Tr.bind, Tr.ofO, takes, ofV, vB, ceq, PV.fz, tk ha, tk hb, tk hc, take0]
  unfold m__law_told toldM
  show (exB ss__law_told ((([PV.int 6, a, b, c] : List PV).map some ++ List.replicate 2 none).set 4 (some .non))).tell _ _ _ = _
  rw [e]
  unfold Tr.tell
  rw [if_pos (by decide +kernel), res_6 ha hb hc]
end
section
variable {a b c : PV} {da db dc : PyData} (ha : Fd a da) (hb : Fd b db) (hc : Fd c dc)
include ha hb hc
theorem res_7 : res "NotThere" ["paper"] [a] = some [.tup [.str "notthere", a]] := by
  unfold res
  rw [kRun_filter (tbl := tblK), kRun_filter (tbl := tblM), (by decide +kernel : tblK.filter (fun e => decide (e.1 = ("NotThere" : Str))) = ([] : List KE)), (by decide +kernel : tblM.filter (fun e => decide (e.1 = ("NotThere" : Str))) = ([("NotThere", "notthere", [("paper", false)])] : List KE))]
  simp only [kRun, kStep, kFields, kField, if_pos, ha.repr, hb.repr, hc.repr, (by kernel_rfl : (List.zip (["paper"] : List Str) ([a] : List PV)).lookup ("paper" : Str) = some a)]
  simp
theorem told_7 : m__law_told [.int 7, a, b, c] = .ok (.lst true [.tup [.str "notthere", a]]) := by
  have e : exB ss__law_told ((([PV.int 7, a, b, c] : List PV).map some ++ List.replicate 2 none).set 4 (some .non)) = .ret (.exn "NotThere" ["paper"] [a]) := by
    unfold ss__law_told
    simp [m__law_raised, ss__law_raised, m__law_raised_too, ss__law_raised_too, runF, exB, exS, evE, evs, evT, sqF, setF, FS.iteF, rsF, Tr.bind, Tr.ofO, takes, ofV, vB, ceq, PV.fz, tk ha, tk hb, tk hc, take0]
  unfold m__law_told toldM
  show (exB ss__law_told ((([PV.int 7, a, b, c] : List PV).map some ++ List.replicate 2 none).set 4 (some .non))).tell _ _ _ = _
  rw [e]
  unfold Tr.tell
  rw [if_pos (by decide +kernel), res_7 ha hb hc]
end
section
variable {a b c : PV} {da db dc : PyData} (ha : Fd a da) (hb : Fd b db) (hc : Fd c dc)
include ha hb hc
theorem res_8 : res "BadName" ["name"] [a] = some [.tup [.str "badname", .str da.shown]] := by
  unfold res
  rw [kRun_filter (tbl := tblK), kRun_filter (tbl := tblM), (by decide +kernel : tblK.filter (fun e => decide (e.1 = ("BadName" : Str))) = ([("BadName", "badname", [("name", true)])] : List KE)), (by decide +kernel : tblM.filter (fun e => decide (e.1 = ("BadName" : Str))) = ([] : List KE))]
  simp only [kRun, kStep, kFields, kField, if_pos, ha.repr, hb.repr, hc.repr, (by kernel_rfl : (List.zip (["name"] : List Str) ([a] : List PV)).lookup ("name" : Str) = some a)]
  simp
theorem told_8 : m__law_told [.int 8, a, b, c] = .ok (.lst true [.tup [.str "badname", .str da.shown]]) := by
  have e : exB ss__law_told ((([PV.int 8, a, b, c] : List PV).map some ++ List.replicate 2 none).set 4 (some .non)) = .ret (.exn "BadName" ["name"] [a]) := by
    unfold ss__law_told
    simp [m__law_raised, ss__law_raised, m__law_raised_too, ss__law_raised_too, runF, exB, exS, evE, evs, evT, sqF, setF, FS.iteF, rsF, Tr.bind, Tr.ofO, takes, ofV, vB, ceq, PV.fz, tk ha, tk hb, tk hc, take0]
  unfold m__law_told toldM
  show (exB ss__law_told ((([PV.int 8, a, b, c] : List PV).map some ++ List.replicate 2 none).set 4 (some .non))).tell _ _ _ = _
  rw [e]
  unfold Tr.tell
  rw [if_pos (by decide +kernel), res_8 ha hb hc]
end
section
variable {a b c : PV} {da db dc : PyData} (ha : Fd a da) (hb : Fd b db) (hc : Fd c dc)
include ha hb hc
theorem res_9 : res "NoName" ["name"] [a] = some [.tup [.str "noname", .str da.shown]] := by
  unfold res
  rw [kRun_filter (tbl := tblK), kRun_filter (tbl := tblM), (by decide +kernel : tblK.filter (fun e => decide (e.1 = ("NoName" : Str))) = ([] : List KE)), (by decide +kernel : tblM.filter (fun e => decide (e.1 = ("NoName" : Str))) = ([("NoName", "noname", [("name", true)])] : List KE))]
  simp only [kRun, kStep, kFields, kField, if_pos, ha.repr, hb.repr, hc.repr, (by kernel_rfl : (List.zip (["name"] : List Str) ([a] : List PV)).lookup ("name" : Str) = some a)]
  simp
theorem told_9 : m__law_told [.int 9, a, b, c] = .ok (.lst true [.tup [.str "noname", .str da.shown]]) := by
  have e : exB ss__law_told ((([PV.int 9, a, b, c] : List PV).map some ++ List.replicate 2 none).set 4 (some .non)) = .ret (.exn "NoName" ["name"] [a]) := by
    unfold ss__law_told
    simp [m__law_raised, ss__law_raised, m__law_raised_too, ss__law_raised_too, runF, exB, exS, evE, evs, evT, sqF, setF, FS.iteF, rsF, Tr.bind, Tr.ofO, takes, ofV, vB, ceq, PV.fz, tk ha, tk hb, tk hc, take0]
  unfold m__law_told toldM
  show (exB ss__law_told ((([PV.int 9, a, b, c] : List PV).map some ++ List.replicate 2 none).set 4 (some .non))).tell _ _ _ = _
  rw [e]
  unfold Tr.tell
  rw [if_pos (by decide +kernel), res_9 ha hb hc]
end
section
variable {a b c : PV} {da db dc : PyData} (ha : Fd a da) (hb : Fd b db) (hc : Fd c dc)
include ha hb hc
theorem res_10 : res "TakenName" ["name"] [a] = some [.tup [.str "taken", .str da.shown]] := by
  unfold res
  rw [kRun_filter (tbl := tblK), kRun_filter (tbl := tblM), (by decide +kernel : tblK.filter (fun e => decide (e.1 = ("TakenName" : Str))) = ([] : List KE)), (by decide +kernel : tblM.filter (fun e => decide (e.1 = ("TakenName" : Str))) = ([("TakenName", "taken", [("name", true)])] : List KE))]
  simp only [kRun, kStep, kFields, kField, if_pos, ha.repr, hb.repr, hc.repr, (by kernel_rfl : (List.zip (["name"] : List Str) ([a] : List PV)).lookup ("name" : Str) = some a)]
  simp
theorem told_10 : m__law_told [.int 10, a, b, c] = .ok (.lst true [.tup [.str "taken", .str da.shown]]) := by
  have e : exB ss__law_told ((([PV.int 10, a, b, c] : List PV).map some ++ List.replicate 2 none).set 4 (some .non)) = .ret (.exn "TakenName" ["name"] [a]) := by
    unfold ss__law_told
    simp [m__law_raised, ss__law_raised, m__law_raised_too, ss__law_raised_too, runF, exB, exS, evE, evs, evT, sqF, setF, FS.iteF, rsF, Tr.bind, Tr.ofO, takes, ofV, vB, ceq, PV.fz, tk ha, tk hb, tk hc, take0]
  unfold m__law_told toldM
  show (exB ss__law_told ((([PV.int 10, a, b, c] : List PV).map some ++ List.replicate 2 none).set 4 (some .non))).tell _ _ _ = _
  rw [e]
  unfold Tr.tell
  rw [if_pos (by decide +kernel), res_10 ha hb hc]
end
section
variable {a b c : PV} {da db dc : PyData} (ha : Fd a da) (hb : Fd b db) (hc : Fd c dc)
include ha hb hc
theorem res_11 : res "BadText" ["token", "line"] [b, a] = some [.tup [.str "text", a, b]] := by
  unfold res
  rw [kRun_filter (tbl := tblK), kRun_filter (tbl := tblM), (by decide +kernel : tblK.filter (fun e => decide (e.1 = ("BadText" : Str))) = ([("BadText", "text", [("line", false), ("token", false)])] : List KE)), (by decide +kernel : tblM.filter (fun e => decide (e.1 = ("BadText" : Str))) = ([] : List KE))]
  simp only [kRun, kStep, kFields, kField, if_pos, ha.repr, hb.repr, hc.repr, (by kernel_rfl : (List.zip (["token", "line"] : List Str) ([b, a] : List PV)).lookup ("line" : Str) = some a), (by kernel_rfl : (List.zip (["token", "line"] : List Str) ([b, a] : List PV)).lookup ("token" : Str) = some b)]
  simp
theorem told_11 : m__law_told [.int 11, a, b, c] = .ok (.lst true [.tup [.str "text", a, b]]) := by
  have e : exB ss__law_told ((([PV.int 11, a, b, c] : List PV).map some ++ List.replicate 2 none).set 4 (some .non)) = .ret (.exn "BadText" ["token", "line"] [b, a]) := by
    unfold ss__law_told
    simp [m__law_raised, ss__law_raised, m__law_raised_too, ss__law_raised_too, runF, exB, exS, evE, evs, evT, sqF, setF, FS.iteF, rsF, Tr.bind, Tr.ofO, takes, ofV, vB, ceq, PV.fz, tk ha, tk hb, tk hc, take0]
  unfold m__law_told toldM
  show (exB ss__law_told ((([PV.int 11, a, b, c] : List PV).map some ++ List.replicate 2 none).set 4 (some .non))).tell _ _ _ = _
  rw [e]
  unfold Tr.tell
  rw [if_pos (by decide +kernel), res_11 ha hb hc]
end
section
variable {a b c : PV} {da db dc : PyData} (ha : Fd a da) (hb : Fd b db) (hc : Fd c dc)
include ha hb hc
theorem res_12 : res "NotKept" ["witness", "promise"] [b, a] = some [.tup [.str "kept", a, b]] := by
  unfold res
  rw [kRun_filter (tbl := tblK), kRun_filter (tbl := tblM), (by decide +kernel : tblK.filter (fun e => decide (e.1 = ("NotKept" : Str))) = ([] : List KE)), (by decide +kernel : tblM.filter (fun e => decide (e.1 = ("NotKept" : Str))) = ([("NotKept", "kept", [("promise", false), ("witness", false)])] : List KE))]
  simp only [kRun, kStep, kFields, kField, if_pos, ha.repr, hb.repr, hc.repr, (by kernel_rfl : (List.zip (["witness", "promise"] : List Str) ([b, a] : List PV)).lookup ("promise" : Str) = some a), (by kernel_rfl : (List.zip (["witness", "promise"] : List Str) ([b, a] : List PV)).lookup ("witness" : Str) = some b)]
  simp
theorem told_12 : m__law_told [.int 12, a, b, c] = .ok (.lst true [.tup [.str "kept", a, b]]) := by
  have e : exB ss__law_told ((([PV.int 12, a, b, c] : List PV).map some ++ List.replicate 2 none).set 4 (some .non)) = .ret (.exn "NotKept" ["witness", "promise"] [b, a]) := by
    unfold ss__law_told
    simp [m__law_raised, ss__law_raised, m__law_raised_too, ss__law_raised_too, runF, exB, exS, evE, evs, evT, sqF, setF, FS.iteF, rsF, Tr.bind, Tr.ofO, takes, ofV, vB, ceq, PV.fz, tk ha, tk hb, tk hc, take0]
  unfold m__law_told toldM
  show (exB ss__law_told ((([PV.int 12, a, b, c] : List PV).map some ++ List.replicate 2 none).set 4 (some .non))).tell _ _ _ = _
  rw [e]
  unfold Tr.tell
  rw [if_pos (by decide +kernel), res_12 ha hb hc]
end
section
variable {a b c : PV} {da db dc : PyData} (ha : Fd a da) (hb : Fd b db) (hc : Fd c dc)
include ha hb hc
theorem res_13 : res "TooMany" ["limit", "many", "what"] [c, b, a] = some [.tup [.str "many", a, b, c]] := by
  unfold res
  rw [kRun_filter (tbl := tblK), kRun_filter (tbl := tblM), (by decide +kernel : tblK.filter (fun e => decide (e.1 = ("TooMany" : Str))) = ([] : List KE)), (by decide +kernel : tblM.filter (fun e => decide (e.1 = ("TooMany" : Str))) = ([("TooMany", "many", [("what", false), ("many", false), ("limit", false)])] : List KE))]
  simp only [kRun, kStep, kFields, kField, if_pos, ha.repr, hb.repr, hc.repr, (by kernel_rfl : (List.zip (["limit", "many", "what"] : List Str) ([c, b, a] : List PV)).lookup ("what" : Str) = some a), (by kernel_rfl : (List.zip (["limit", "many", "what"] : List Str) ([c, b, a] : List PV)).lookup ("many" : Str) = some b), (by kernel_rfl : (List.zip (["limit", "many", "what"] : List Str) ([c, b, a] : List PV)).lookup ("limit" : Str) = some c)]
  simp
theorem told_13 : m__law_told [.int 13, a, b, c] = .ok (.lst true [.tup [.str "many", a, b, c]]) := by
  have e : exB ss__law_told ((([PV.int 13, a, b, c] : List PV).map some ++ List.replicate 2 none).set 4 (some .non)) = .ret (.exn "TooMany" ["limit", "many", "what"] [c, b, a]) := by
    unfold ss__law_told
    simp [m__law_raised, ss__law_raised, m__law_raised_too, ss__law_raised_too, runF, exB, exS, evE, evs, evT, sqF, setF, FS.iteF, rsF, Tr.bind, Tr.ofO, takes, ofV, vB, ceq, PV.fz, tk ha, tk hb, tk hc, take0]
  unfold m__law_told toldM
  show (exB ss__law_told ((([PV.int 13, a, b, c] : List PV).map some ++ List.replicate 2 none).set 4 (some .non))).tell _ _ _ = _
  rw [e]
  unfold Tr.tell
  rw [if_pos (by decide +kernel), res_13 ha hb hc]
end
section
variable {a b c : PV} {da db dc : PyData} (ha : Fd a da) (hb : Fd b db) (hc : Fd c dc)
include ha hb hc
theorem res_14 : res "NothingToUndo" [] [] = some [.tup [.str "undo"]] := by
  unfold res
  rw [kRun_filter (tbl := tblK), kRun_filter (tbl := tblM), (by decide +kernel : tblK.filter (fun e => decide (e.1 = ("NothingToUndo" : Str))) = ([] : List KE)), (by decide +kernel : tblM.filter (fun e => decide (e.1 = ("NothingToUndo" : Str))) = ([("NothingToUndo", "undo", [])] : List KE))]
  simp only [kRun, kStep, kFields, kField, if_pos, ha.repr, hb.repr, hc.repr]
  simp
theorem told_14 : m__law_told [.int 14, a, b, c] = .ok (.lst true [.tup [.str "undo"]]) := by
  have e : exB ss__law_told ((([PV.int 14, a, b, c] : List PV).map some ++ List.replicate 2 none).set 4 (some .non)) = .ret (.exn "NothingToUndo" [] []) := by
    unfold ss__law_told
    simp [m__law_raised, ss__law_raised, m__law_raised_too, ss__law_raised_too, runF, exB, exS, evE, evs, evT, sqF, setF, FS.iteF, rsF, Tr.bind, Tr.ofO, takes, ofV, vB, ceq, PV.fz, tk ha, tk hb, tk hc, take0]
  unfold m__law_told toldM
  show (exB ss__law_told ((([PV.int 14, a, b, c] : List PV).map some ++ List.replicate 2 none).set 4 (some .non))).tell _ _ _ = _
  rw [e]
  unfold Tr.tell
  rw [if_pos (by decide +kernel), res_14 ha hb hc]
end
section
variable {a b c : PV} {da db dc : PyData} (ha : Fd a da) (hb : Fd b db) (hc : Fd c dc)
include ha hb hc
theorem res_15 : res "NothingToRedo" [] [] = some [.tup [.str "redo"]] := by
  unfold res
  rw [kRun_filter (tbl := tblK), kRun_filter (tbl := tblM), (by decide +kernel : tblK.filter (fun e => decide (e.1 = ("NothingToRedo" : Str))) = ([] : List KE)), (by decide +kernel : tblM.filter (fun e => decide (e.1 = ("NothingToRedo" : Str))) = ([("NothingToRedo", "redo", [])] : List KE))]
  simp only [kRun, kStep, kFields, kField, if_pos, ha.repr, hb.repr, hc.repr]
  simp
theorem told_15 : m__law_told [.int 15, a, b, c] = .ok (.lst true [.tup [.str "redo"]]) := by
  have e : exB ss__law_told ((([PV.int 15, a, b, c] : List PV).map some ++ List.replicate 2 none).set 4 (some .non)) = .ret (.exn "NothingToRedo" [] []) := by
    unfold ss__law_told
    simp [m__law_raised, ss__law_raised, m__law_raised_too, ss__law_raised_too, runF, exB, exS, evE, evs, evT, sqF, setF, FS.iteF, rsF, Tr.bind, Tr.ofO, takes, ofV, vB, ceq, PV.fz, tk ha, tk hb, tk hc, take0]
  unfold m__law_told toldM
  show (exB ss__law_told ((([PV.int 15, a, b, c] : List PV).map some ++ List.replicate 2 none).set 4 (some .non))).tell _ _ _ = _
  rw [e]
  unfold Tr.tell
  rw [if_pos (by decide +kernel), res_15 ha hb hc]
end
end K01

set_option Elab.async false
set_option linter.all false
set_option maxRecDepth 100000
set_option maxHeartbeats 400000
namespace K01
open PySem PySem.Spec PyProof.Rows L2 FS
theorem sz : 16 ≤ sizeLine := by rw [sizeLine_eq]; decide
theorem taS {s : Str} : FS.take (true, .str s) = some (.str s) := rfl
theorem tkF {x : PV} : FS.take (false, x) = some x.fz := rfl
section
variable {a b c : PV} {da db dc : PyData} (ha : Fd a da) (hb : Fd b db) (hc : Fd c dc)
include ha hb hc
theorem due_0 : m__law_due_fields [.int 0, a, b, c] = .ok (.tup [.str "number", a, .str db.shown]) := by
  simp [m__law_due_fields, runF, ss__law_due_fields, exB, exS, evE, evs, evl, evT, sqF, setF, FS.iteF, Tr.bind, Tr.ofO, takes, movs, FS.mov, ofV, vB, ceq, clt, shal, binS, subS, PV.fz, PV.fzs, PV.st, tk ha, tk hb, tk hc, take0, taS, tkF, reprPrim, ha.fz, hb.fz, hc.fz, ha.st, hb.st, hc.st, ha.repr, hb.repr, hc.repr, atI, ixN, sz]
end
section
variable {a b c : PV} {da db dc : PyData} (ha : Fd a da) (hb : Fd b db) (hc : Fd c dc)
include ha hb hc
theorem due_1 : m__law_due_fields [.int 1, a, b, c] = .ok (.tup [.str "row", a, .str db.shown]) := by
  simp [m__law_due_fields, runF, ss__law_due_fields, exB, exS, evE, evs, evl, evT, sqF, setF, FS.iteF, Tr.bind, Tr.ofO, takes, movs, FS.mov, ofV, vB, ceq, clt, shal, binS, subS, PV.fz, PV.fzs, PV.st, tk ha, tk hb, tk hc, take0, taS, tkF, reprPrim, ha.fz, hb.fz, hc.fz, ha.st, hb.st, hc.st, ha.repr, hb.repr, hc.repr, atI, ixN, sz]
end
section
variable {a b c : PV} {da db dc : PyData} (ha : Fd a da) (hb : Fd b db) (hc : Fd c dc)
include ha hb hc
theorem due_2 : m__law_due_fields [.int 2, a, b, c] = .ok (.tup [.str "word", a, .str db.shown]) := by
  simp [m__law_due_fields, runF, ss__law_due_fields, exB, exS, evE, evs, evl, evT, sqF, setF, FS.iteF, Tr.bind, Tr.ofO, takes, movs, FS.mov, ofV, vB, ceq, clt, shal, binS, subS, PV.fz, PV.fzs, PV.st, tk ha, tk hb, tk hc, take0, taS, tkF, reprPrim, ha.fz, hb.fz, hc.fz, ha.st, hb.st, hc.st, ha.repr, hb.repr, hc.repr, atI, ixN, sz]
end
section
variable {a b c : PV} {da db dc : PyData} (ha : Fd a da) (hb : Fd b db) (hc : Fd c dc)
include ha hb hc
theorem due_3 : m__law_due_fields [.int 3, a, b, c] = .ok (.tup [.str "place", a, .str db.shown]) := by
  simp [m__law_due_fields, runF, ss__law_due_fields, exB, exS, evE, evs, evl, evT, sqF, setF, FS.iteF, Tr.bind, Tr.ofO, takes, movs, FS.mov, ofV, vB, ceq, clt, shal, binS, subS, PV.fz, PV.fzs, PV.st, tk ha, tk hb, tk hc, take0, taS, tkF, reprPrim, ha.fz, hb.fz, hc.fz, ha.st, hb.st, hc.st, ha.repr, hb.repr, hc.repr, atI, ixN, sz]
end
section
variable {a b c : PV} {da db dc : PyData} (ha : Fd a da) (hb : Fd b db) (hc : Fd c dc)
include ha hb hc
theorem due_4 : m__law_due_fields [.int 4, a, b, c] = .ok (.tup [.str "table", a]) := by
  simp [m__law_due_fields, runF, ss__law_due_fields, exB, exS, evE, evs, evl, evT, sqF, setF, FS.iteF, Tr.bind, Tr.ofO, takes, movs, FS.mov, ofV, vB, ceq, clt, shal, binS, subS, PV.fz, PV.fzs, PV.st, tk ha, tk hb, tk hc, take0, taS, tkF, reprPrim, ha.fz, hb.fz, hc.fz, ha.st, hb.st, hc.st, ha.repr, hb.repr, hc.repr, atI, ixN, sz]
end
section
variable {a b c : PV} {da db dc : PyData} (ha : Fd a da) (hb : Fd b db) (hc : Fd c dc)
include ha hb hc
theorem due_5 : m__law_due_fields [.int 5, a, b, c] = .ok (.tup [.str "book", a]) := by
  simp [m__law_due_fields, runF, ss__law_due_fields, exB, exS, evE, evs, evl, evT, sqF, setF, FS.iteF, Tr.bind, Tr.ofO, takes, movs, FS.mov, ofV, vB, ceq, clt, shal, binS, subS, PV.fz, PV.fzs, PV.st, tk ha, tk hb, tk hc, take0, taS, tkF, reprPrim, ha.fz, hb.fz, hc.fz, ha.st, hb.st, hc.st, ha.repr, hb.repr, hc.repr, atI, ixN, sz]
end
section
variable {a b c : PV} {da db dc : PyData} (ha : Fd a da) (hb : Fd b db) (hc : Fd c dc)
include ha hb hc
theorem due_6 : m__law_due_fields [.int 6, a, b, c] = .ok (.tup [.str "unlike", a]) := by
  simp [m__law_due_fields, runF, ss__law_due_fields, exB, exS, evE, evs, evl, evT, sqF, setF, FS.iteF, Tr.bind, Tr.ofO, takes, movs, FS.mov, ofV, vB, ceq, clt, shal, binS, subS, PV.fz, PV.fzs, PV.st, tk ha, tk hb, tk hc, take0, taS, tkF, reprPrim, ha.fz, hb.fz, hc.fz, ha.st, hb.st, hc.st, ha.repr, hb.repr, hc.repr, atI, ixN, sz]
end
section
variable {a b c : PV} {da db dc : PyData} (ha : Fd a da) (hb : Fd b db) (hc : Fd c dc)
include ha hb hc
theorem due_7 : m__law_due_fields [.int 7, a, b, c] = .ok (.tup [.str "notthere", a]) := by
  simp [m__law_due_fields, runF, ss__law_due_fields, exB, exS, evE, evs, evl, evT, sqF, setF, FS.iteF, Tr.bind, Tr.ofO, takes, movs, FS.mov, ofV, vB, ceq, clt, shal, binS, subS, PV.fz, PV.fzs, PV.st, tk ha, tk hb, tk hc, take0, taS, tkF, reprPrim, ha.fz, hb.fz, hc.fz, ha.st, hb.st, hc.st, ha.repr, hb.repr, hc.repr, atI, ixN, sz]
end
section
variable {a b c : PV} {da db dc : PyData} (ha : Fd a da) (hb : Fd b db) (hc : Fd c dc)
include ha hb hc
theorem due_8 : m__law_due_fields [.int 8, a, b, c] = .ok (.tup [.str "badname", .str da.shown]) := by
  simp [m__law_due_fields, runF, ss__law_due_fields, exB, exS, evE, evs, evl, evT, sqF, setF, FS.iteF, Tr.bind, Tr.ofO, takes, movs, FS.mov, ofV, vB, ceq, clt, shal, binS, subS, PV.fz, PV.fzs, PV.st, tk ha, tk hb, tk hc, take0, taS, tkF, reprPrim, ha.fz, hb.fz, hc.fz, ha.st, hb.st, hc.st, ha.repr, hb.repr, hc.repr, atI, ixN, sz]
end
section
variable {a b c : PV} {da db dc : PyData} (ha : Fd a da) (hb : Fd b db) (hc : Fd c dc)
include ha hb hc
theorem due_9 : m__law_due_fields [.int 9, a, b, c] = .ok (.tup [.str "noname", .str da.shown]) := by
  simp [m__law_due_fields, runF, ss__law_due_fields, exB, exS, evE, evs, evl, evT, sqF, setF, FS.iteF, Tr.bind, Tr.ofO, takes, movs, FS.mov, ofV, vB, ceq, clt, shal, binS, subS, PV.fz, PV.fzs, PV.st, tk ha, tk hb, tk hc, take0, taS, tkF, reprPrim, ha.fz, hb.fz, hc.fz, ha.st, hb.st, hc.st, ha.repr, hb.repr, hc.repr, atI, ixN, sz]
end
section
variable {a b c : PV} {da db dc : PyData} (ha : Fd a da) (hb : Fd b db) (hc : Fd c dc)
include ha hb hc
theorem due_10 : m__law_due_fields [.int 10, a, b, c] = .ok (.tup [.str "taken", .str da.shown]) := by
  simp [m__law_due_fields, runF, ss__law_due_fields, exB, exS, evE, evs, evl, evT, sqF, setF, FS.iteF, Tr.bind, Tr.ofO, takes, movs, FS.mov, ofV, vB, ceq, clt, shal, binS, subS, PV.fz, PV.fzs, PV.st, tk ha, tk hb, tk hc, take0, taS, tkF, reprPrim, ha.fz, hb.fz, hc.fz, ha.st, hb.st, hc.st, ha.repr, hb.repr, hc.repr, atI, ixN, sz]
end
section
variable {a b c : PV} {da db dc : PyData} (ha : Fd a da) (hb : Fd b db) (hc : Fd c dc)
include ha hb hc
theorem due_11 : m__law_due_fields [.int 11, a, b, c] = .ok (.tup [.str "text", a, b]) := by
  simp [m__law_due_fields, runF, ss__law_due_fields, exB, exS, evE, evs, evl, evT, sqF, setF, FS.iteF, Tr.bind, Tr.ofO, takes, movs, FS.mov, ofV, vB, ceq, clt, shal, binS, subS, PV.fz, PV.fzs, PV.st, tk ha, tk hb, tk hc, take0, taS, tkF, reprPrim, ha.fz, hb.fz, hc.fz, ha.st, hb.st, hc.st, ha.repr, hb.repr, hc.repr, atI, ixN, sz]
end
section
variable {a b c : PV} {da db dc : PyData} (ha : Fd a da) (hb : Fd b db) (hc : Fd c dc)
include ha hb hc
theorem due_12 : m__law_due_fields [.int 12, a, b, c] = .ok (.tup [.str "kept", a, b]) := by
  simp [m__law_due_fields, runF, ss__law_due_fields, exB, exS, evE, evs, evl, evT, sqF, setF, FS.iteF, Tr.bind, Tr.ofO, takes, movs, FS.mov, ofV, vB, ceq, clt, shal, binS, subS, PV.fz, PV.fzs, PV.st, tk ha, tk hb, tk hc, take0, taS, tkF, reprPrim, ha.fz, hb.fz, hc.fz, ha.st, hb.st, hc.st, ha.repr, hb.repr, hc.repr, atI, ixN, sz]
end
section
variable {a b c : PV} {da db dc : PyData} (ha : Fd a da) (hb : Fd b db) (hc : Fd c dc)
include ha hb hc
theorem due_13 : m__law_due_fields [.int 13, a, b, c] = .ok (.tup [.str "many", a, b, c]) := by
  simp [m__law_due_fields, runF, ss__law_due_fields, exB, exS, evE, evs, evl, evT, sqF, setF, FS.iteF, Tr.bind, Tr.ofO, takes, movs, FS.mov, ofV, vB, ceq, clt, shal, binS, subS, PV.fz, PV.fzs, PV.st, tk ha, tk hb, tk hc, take0, taS, tkF, reprPrim, ha.fz, hb.fz, hc.fz, ha.st, hb.st, hc.st, ha.repr, hb.repr, hc.repr, atI, ixN, sz]
end
section
variable {a b c : PV} {da db dc : PyData} (ha : Fd a da) (hb : Fd b db) (hc : Fd c dc)
include ha hb hc
theorem due_14 : m__law_due_fields [.int 14, a, b, c] = .ok (.tup [.str "undo"]) := by
  simp [m__law_due_fields, runF, ss__law_due_fields, exB, exS, evE, evs, evl, evT, sqF, setF, FS.iteF, Tr.bind, Tr.ofO, takes, movs, FS.mov, ofV, vB, ceq, clt, shal, binS, subS, PV.fz, PV.fzs, PV.st, tk ha, tk hb, tk hc, take0, taS, tkF, reprPrim, ha.fz, hb.fz, hc.fz, ha.st, hb.st, hc.st, ha.repr, hb.repr, hc.repr, atI, ixN, sz]
end
section
variable {a b c : PV} {da db dc : PyData} (ha : Fd a da) (hb : Fd b db) (hc : Fd c dc)
include ha hb hc
theorem due_15 : m__law_due_fields [.int 15, a, b, c] = .ok (.tup [.str "redo"]) := by
  simp [m__law_due_fields, runF, ss__law_due_fields, exB, exS, evE, evs, evl, evT, sqF, setF, FS.iteF, Tr.bind, Tr.ofO, takes, movs, FS.mov, ofV, vB, ceq, clt, shal, binS, subS, PV.fz, PV.fzs, PV.st, tk ha, tk hb, tk hc, take0, taS, tkF, reprPrim, ha.fz, hb.fz, hc.fz, ha.st, hb.st, hc.st, ha.repr, hb.repr, hc.repr, atI, ixN, sz]
end
end K01

set_option Elab.async false
set_option linter.all false
set_option maxRecDepth 100000
set_option maxHeartbeats 400000
namespace K01
open PySem PySem.Spec PyProof.Rows L2 FS
/-- a part of what is told: its reading, its size -/
structure Pt (x : PV) (d : PyData) : Prop where
  st : x.st = true
  fz : x.fz = x
  rd : x.rd = some d
  sh : d.showable = true
  dp : d.depth ≤ 3
  len : d.shown.length ≤ 3000
theorem Fd.pt {x : PV} {d : PyData} (h : Fd x d) : Pt x d := ⟨h.st, h.fz, h.rd, h.sh, h.dp, Nat.le_trans h.len (by decide)⟩
theorem Fd.ps {x : PV} {d : PyData} (h : Fd x d) : Pt (.str d.shown) (.str d.shown) := ⟨rfl, rfl, rfl, rfl, by simp [PyData.depth], by
  have := h.text
  simp only [PyData.shown]
  omega⟩
theorem w_str (w : String) (h : (reprText w).length ≤ 100) : Pt (.str w) (.str w) := ⟨rfl, rfl, rfl, rfl, by simp [PyData.depth], by simp only [PyData.shown]; omega⟩
theorem tup_repr {xs : List PV} {ds : List PyData} (hr : PV.rds xs = some ds) (hs : PyData.showableAll ds = true) (hd : PyData.depthAll ds ≤ 3) (hl : (tupleText (PyData.shownAll ds)).length ≤ 1000000) : ∃ s, reprS (.tup xs) = some (.str s) := by
  have e1 : (PyData.tuple ds).shown = tupleText (PyData.shownAll ds) := by simp only [PyData.shown]
  have e2 : (PyData.tuple ds).depth = PyData.depthAll ds + 1 := by simp only [PyData.depth]
  have e3 : (PyData.tuple ds).showable = PyData.showableAll ds := by simp only [PyData.showable]
  have e4 : PV.rd (.tup xs) = some (.tuple ds) := by simp only [PV.rd, hr, Option.map_some]
  refine ⟨(PyData.tuple ds).shown, ?_⟩
  unfold reprS
  rw [e4]
  dsimp only
  rw [if_pos ⟨by rw [e3]; exact hs, by rw [e2]; omega, by rw [e1]; exact hl⟩]
theorem tlen1 {a : Str} : (tupleText [a]).length ≤ a.length + 3 := by
  have h1 : (("(" : String) : Str).length = 1 := by decide +kernel
  have h2 : ((",)" : String) : Str).length = 2 := by decide +kernel
  show (("(" : Str) ++ a ++ ((",)" : String) : Str)).length ≤ _
  simp only [len_app]
  omega
theorem tlen2 {a b : Str} : (tupleText [a, b]).length ≤ a.length + b.length + 10 := by
  have h1 : (("(" : String) : Str).length = 1 := by decide +kernel
  have h2 : ((")" : String) : Str).length = 1 := by decide +kernel
  have h3 : ((", " : String) : Str).length = 2 := by decide +kernel
  show (("(" : Str) ++ (a ++ ((", " : String) : Str) ++ b) ++ ((")" : String) : Str)).length ≤ _
  simp only [len_app]
  omega
theorem tlen3 {a b c : Str} : (tupleText [a, b, c]).length ≤ a.length + b.length + c.length + 10 := by
  have h1 : (("(" : String) : Str).length = 1 := by decide +kernel
  have h2 : ((")" : String) : Str).length = 1 := by decide +kernel
  have h3 : ((", " : String) : Str).length = 2 := by decide +kernel
  show (("(" : Str) ++ (a ++ ((", " : String) : Str) ++ (b ++ ((", " : String) : Str) ++ c)) ++ ((")" : String) : Str)).length ≤ _
  simp only [len_app]
  omega
theorem tlen4 {a b c d : Str} : (tupleText [a, b, c, d]).length ≤ a.length + b.length + c.length + d.length + 10 := by
  have h1 : (("(" : String) : Str).length = 1 := by decide +kernel
  have h2 : ((")" : String) : Str).length = 1 := by decide +kernel
  have h3 : ((", " : String) : Str).length = 2 := by decide +kernel
  show (("(" : Str) ++ (a ++ ((", " : String) : Str) ++ (b ++ ((", " : String) : Str) ++ (c ++ ((", " : String) : Str) ++ d))) ++ ((")" : String) : Str)).length ≤ _
  simp only [len_app]
  omega
theorem rp1 {x : PV} {dx : PyData} (hx : Pt x dx) : ∃ s, reprS (.tup [x]) = some (.str s) := by
  refine tup_repr (ds := [dx]) (by simp [PV.rds, hx.rd]) (by simp [PyData.showableAll, hx.sh]) (by simp [PyData.depthAll]; have := hx.dp; omega) ?_
  simp only [PyData.shownAll]
  refine Nat.le_trans tlen1 ?_
  have := hx.len
  omega
theorem rp2 {x y : PV} {dx dy : PyData} (hx : Pt x dx) (hy : Pt y dy) : ∃ s, reprS (.tup [x, y]) = some (.str s) := by
  refine tup_repr (ds := [dx, dy]) (by simp [PV.rds, hx.rd, hy.rd]) (by simp [PyData.showableAll, hx.sh, hy.sh]) (by simp [PyData.depthAll]; have := hx.dp; have := hy.dp; omega) ?_
  simp only [PyData.shownAll]
  refine Nat.le_trans tlen2 ?_
  have := hx.len
  have := hy.len
  omega
theorem rp3 {x y z : PV} {dx dy dz : PyData} (hx : Pt x dx) (hy : Pt y dy) (hz : Pt z dz) : ∃ s, reprS (.tup [x, y, z]) = some (.str s) := by
  refine tup_repr (ds := [dx, dy, dz]) (by simp [PV.rds, hx.rd, hy.rd, hz.rd]) (by simp [PyData.showableAll, hx.sh, hy.sh, hz.sh]) (by simp [PyData.depthAll]; have := hx.dp; have := hy.dp; have := hz.dp; omega) ?_
  simp only [PyData.shownAll]
  refine Nat.le_trans tlen3 ?_
  have := hx.len
  have := hy.len
  have := hz.len
  omega
theorem rp4 {x y z u : PV} {dx dy dz du : PyData} (hx : Pt x dx) (hy : Pt y dy) (hz : Pt z dz) (hu : Pt u du) : ∃ s, reprS (.tup [x, y, z, u]) = some (.str s) := by
  refine tup_repr (ds := [dx, dy, dz, du]) (by simp [PV.rds, hx.rd, hy.rd, hz.rd, hu.rd]) (by simp [PyData.showableAll, hx.sh, hy.sh, hz.sh, hu.sh]) (by simp [PyData.depthAll]; have := hx.dp; have := hy.dp; have := hz.dp; have := hu.dp; omega) ?_
  simp only [PyData.shownAll]
  refine Nat.le_trans tlen4 ?_
  have := hx.len
  have := hy.len
  have := hz.len
  have := hu.len
  omega
end K01

set_option Elab.async false
set_option linter.all false
set_option maxRecDepth 100000
set_option maxHeartbeats 400000
namespace K01
open PySem PySem.Spec PyProof.Rows L2 FS
structure Good1 (i : Int) (a b c : PV) : Prop where
  ex : ∃ t s, m__law_told [.int i, a, b, c] = .ok (.lst true [.tup t]) ∧ m__law_due_fields [.int i, a, b, c] = .ok (.tup t) ∧ reprS (.tup t) = some (.str s) ∧ PV.fzs t = t
section
variable {a b c : PV} {da db dc : PyData} (ha : Fd a da) (hb : Fd b db) (hc : Fd c dc)
include ha hb hc
theorem good_0 : Good1 0 a b c := by
  obtain ⟨s, hs⟩ := rp3 (w_str "number" (by decide +kernel)) ha.pt hb.ps
  exact ⟨_, s, told_0 ha hb hc, due_0 ha hb hc, hs, by simp [PV.fzs, PV.fz, ha.fz, hb.fz, hc.fz]⟩
theorem good_1 : Good1 1 a b c := by
  obtain ⟨s, hs⟩ := rp3 (w_str "row" (by decide +kernel)) ha.pt hb.ps
  exact ⟨_, s, told_1 ha hb hc, due_1 ha hb hc, hs, by simp [PV.fzs, PV.fz, ha.fz, hb.fz, hc.fz]⟩
theorem good_2 : Good1 2 a b c := by
  obtain ⟨s, hs⟩ := rp3 (w_str "word" (by decide +kernel)) ha.pt hb.ps
  exact ⟨_, s, told_2 ha hb hc, due_2 ha hb hc, hs, by simp [PV.fzs, PV.fz, ha.fz, hb.fz, hc.fz]⟩
theorem good_3 : Good1 3 a b c := by
  obtain ⟨s, hs⟩ := rp3 (w_str "place" (by decide +kernel)) ha.pt hb.ps
  exact ⟨_, s, told_3 ha hb hc, due_3 ha hb hc, hs, by simp [PV.fzs, PV.fz, ha.fz, hb.fz, hc.fz]⟩
theorem good_4 : Good1 4 a b c := by
  obtain ⟨s, hs⟩ := rp2 (w_str "table" (by decide +kernel)) ha.pt
  exact ⟨_, s, told_4 ha hb hc, due_4 ha hb hc, hs, by simp [PV.fzs, PV.fz, ha.fz, hb.fz, hc.fz]⟩
theorem good_5 : Good1 5 a b c := by
  obtain ⟨s, hs⟩ := rp2 (w_str "book" (by decide +kernel)) ha.pt
  exact ⟨_, s, told_5 ha hb hc, due_5 ha hb hc, hs, by simp [PV.fzs, PV.fz, ha.fz, hb.fz, hc.fz]⟩
theorem good_6 : Good1 6 a b c := by
  obtain ⟨s, hs⟩ := rp2 (w_str "unlike" (by decide +kernel)) ha.pt
  exact ⟨_, s, told_6 ha hb hc, due_6 ha hb hc, hs, by simp [PV.fzs, PV.fz, ha.fz, hb.fz, hc.fz]⟩
theorem good_7 : Good1 7 a b c := by
  obtain ⟨s, hs⟩ := rp2 (w_str "notthere" (by decide +kernel)) ha.pt
  exact ⟨_, s, told_7 ha hb hc, due_7 ha hb hc, hs, by simp [PV.fzs, PV.fz, ha.fz, hb.fz, hc.fz]⟩
theorem good_8 : Good1 8 a b c := by
  obtain ⟨s, hs⟩ := rp2 (w_str "badname" (by decide +kernel)) ha.ps
  exact ⟨_, s, told_8 ha hb hc, due_8 ha hb hc, hs, by simp [PV.fzs, PV.fz, ha.fz, hb.fz, hc.fz]⟩
theorem good_9 : Good1 9 a b c := by
  obtain ⟨s, hs⟩ := rp2 (w_str "noname" (by decide +kernel)) ha.ps
  exact ⟨_, s, told_9 ha hb hc, due_9 ha hb hc, hs, by simp [PV.fzs, PV.fz, ha.fz, hb.fz, hc.fz]⟩
theorem good_10 : Good1 10 a b c := by
  obtain ⟨s, hs⟩ := rp2 (w_str "taken" (by decide +kernel)) ha.ps
  exact ⟨_, s, told_10 ha hb hc, due_10 ha hb hc, hs, by simp [PV.fzs, PV.fz, ha.fz, hb.fz, hc.fz]⟩
theorem good_11 : Good1 11 a b c := by
  obtain ⟨s, hs⟩ := rp3 (w_str "text" (by decide +kernel)) ha.pt hb.pt
  exact ⟨_, s, told_11 ha hb hc, due_11 ha hb hc, hs, by simp [PV.fzs, PV.fz, ha.fz, hb.fz, hc.fz]⟩
theorem good_12 : Good1 12 a b c := by
  obtain ⟨s, hs⟩ := rp3 (w_str "kept" (by decide +kernel)) ha.pt hb.pt
  exact ⟨_, s, told_12 ha hb hc, due_12 ha hb hc, hs, by simp [PV.fzs, PV.fz, ha.fz, hb.fz, hc.fz]⟩
theorem good_13 : Good1 13 a b c := by
  obtain ⟨s, hs⟩ := rp4 (w_str "many" (by decide +kernel)) ha.pt hb.pt hc.pt
  exact ⟨_, s, told_13 ha hb hc, due_13 ha hb hc, hs, by simp [PV.fzs, PV.fz, ha.fz, hb.fz, hc.fz]⟩
theorem good_14 : Good1 14 a b c := by
  obtain ⟨s, hs⟩ := rp1 (w_str "undo" (by decide +kernel))
  exact ⟨_, s, told_14 ha hb hc, due_14 ha hb hc, hs, by simp [PV.fzs, PV.fz, ha.fz, hb.fz, hc.fz]⟩
theorem good_15 : Good1 15 a b c := by
  obtain ⟨s, hs⟩ := rp1 (w_str "redo" (by decide +kernel))
  exact ⟨_, s, told_15 ha hb hc, due_15 ha hb hc, hs, by simp [PV.fzs, PV.fz, ha.fz, hb.fz, hc.fz]⟩
end
end K01

set_option Elab.async false
set_option linter.all false
set_option maxRecDepth 100000
set_option maxHeartbeats 400000
namespace K01
open PySem PySem.Spec PyProof.Rows L2 FS
theorem good {i : Int} (h0 : 0 ≤ i) (h1 : i < 16) {a b c : PV} {da db dc : PyData} (ha : Fd a da) (hb : Fd b db) (hc : Fd c dc) : Good1 i a b c := by
  have h : i = 0 ∨ i = 1 ∨ i = 2 ∨ i = 3 ∨ i = 4 ∨ i = 5 ∨ i = 6 ∨ i = 7 ∨ i = 8 ∨ i = 9 ∨ i = 10 ∨ i = 11 ∨ i = 12 ∨ i = 13 ∨ i = 14 ∨ i = 15 := by omega
  rcases h with rfl | rfl | rfl | rfl | rfl | rfl | rfl | rfl | rfl | rfl | rfl | rfl | rfl | rfl | rfl | rfl
  · exact good_0 ha hb hc
  · exact good_1 ha hb hc
  · exact good_2 ha hb hc
  · exact good_3 ha hb hc
  · exact good_4 ha hb hc
  · exact good_5 ha hb hc
  · exact good_6 ha hb hc
  · exact good_7 ha hb hc
  · exact good_8 ha hb hc
  · exact good_9 ha hb hc
  · exact good_10 ha hb hc
  · exact good_11 ha hb hc
  · exact good_12 ha hb hc
  · exact good_13 ha hb hc
  · exact good_14 ha hb hc
  · exact good_15 ha hb hc
end K01

set_option Elab.async false
set_option linter.all false
set_option maxRecDepth 100000
set_option maxHeartbeats 4000000
namespace K01
open PySem PySem.Spec PyProof.Rows L2 FS
def ssBody : Ss := match ss_law with
  | .cons (.fr _ _ b) _ => b
  | _ => .nil
theorem eqv_str (s : Str) : cmpS .ne (.str s) (.str s) = some false := by
  have e : (PyData.str s).eqv (.str s) = true := by simp [PyData.eqv]
  simp [cmpS, PV.sdata, PV.data, PyData.depth, e]
theorem stI (i : Int) : (PV.int i).st = true := rfl
theorem fzI (i : Int) : (PV.int i).fz = .int i := rfl
theorem stP : PV.pen.st = true := rfl
theorem fzP : PV.pen.fz = .pen := rfl
theorem body_W {P : Out Fl → Prop} {i : Int} (h0 : 0 ≤ i) (h1 : i < 16) {s k o t th td : Option PV} (h : ∀ a b c d, P (.ok (.nx [s, some .pen, some (.int i), a, b, c, d]))) : (exB ssBody [s, some .pen, some (.int i), o, t, th, td]).W P := by
  unfold ssBody ss_law
  simp [exB, exS, evE, evs, sqF, par3F, Tr.bind, takes, FS.take, stI, stP, fzP, fzI, vB, movs, FS.mov]
  simp only [Tr.W_bind]
  refine any_W fun x y d hx ex => ?_
  simp only [Out.K, Tr.W, Tr.W_bind]
  refine any_W fun x2 y2 d2 hx2 ex2 => ?_
  simp only [Out.K, Tr.W, Tr.W_bind]
  refine any_W fun x3 y3 d3 hx3 ex3 => ?_
  obtain ⟨tt, ss, e1, e2, e3, e4⟩ := (good h0 h1 hx hx2 hx3).ex
  simp [Out.K, Tr.W, Tr.W_bind, Tr.bind, movs, FS.mov, frzL, ex, ex2, ex3, sqF, setF, FS.iteF, FS.take, takes, hx.st, hx2.st, hx3.st, hx.fz, hx2.fz, hx3.fz, stI, fzI, e1, vB]
  have ha : ∀ x : PV, atI [x] 0 = some x := fun _ => rfl
  have fzT : ∀ x : List PV, (PV.tup x).fz = .tup x := fun _ => rfl
  have fzS : ∀ x : Str, (PV.str x).fz = .str x := fun _ => rfl
  have hl : cmpS .ne (.int 1) (.int 1) = some false := by simp [cmpS, PV.sdata, PV.data, PyData.depth, PyData.eqv]
  simp [evT, evE, evs, evl, bltS, reprPrim, hx.fz, hx2.fz, hx3.fz, ha, fzT, fzS, Tr.ofO, Tr.bind, takes, FS.take, stI, fzI, hx.st, hx2.st, hx3.st, hl, e2, e3, e4, subS, vB, ofV, movs, FS.mov, Out.K, Tr.W, eqv_str]
  exact h _ _ _ _
def Inv (ρ : FS.Loc) : Prop := ∃ s k o t th td : Option PV, ρ = [s, some .pen, k, o, t, th, td]
theorem loop_W {P : Out Fl → Prop} : ∀ (js : List Int) (hj : ∀ j ∈ js, 0 ≤ j ∧ j < 16) (ρ : FS.Loc), Inv ρ → (∀ ρ', Inv ρ' → P (.ok (.nx ρ'))) → (forL (.v 2) (exB ssBody) (js.map PV.int) ρ).W P
  | [], _, ρ, i, h => h ρ i
  | j :: js, hj, ρ, ⟨s, k, o, t, th, td, e⟩, h => by
    subst e
    simp only [List.map_cons, forL, bindTg, List.set]
    rw [Tr.W_bind]
    obtain ⟨a, b⟩ := hj j List.mem_cons_self
    refine body_W (k := none) a b fun x y z u => ?_
    exact loop_W js (fun q hq => hj q (List.mem_cons_of_mem _ hq)) _ ⟨_, _, _, _, _, _, rfl⟩ h
theorem rg16 : rangeL 0 16 = ((List.range 16).map fun i => ((i : Nat) : Int)).map PV.int := by
  simp [rangeL, Function.comp_def]
theorem law_W : (exB ss_law ((List.replicate N_law.length none).set 1 (some .pen))).W isTrueEnd := by
  have e : exB ss_law = sqF (forF (.v 2) (evI (.rng (.int 16))) (exB ssBody)) (exB (.cons (.ret (.bl true)) .nil)) := by
    unfold ss_law ssBody
    simp only [exB, exS]
    rfl
  rw [e]
  unfold sqF
  rw [Tr.W_bind]
  unfold forF
  have e2 : ∀ ρ, evI (.rng (.int 16)) ρ = .ok (true, rangeL 0 16) := fun ρ => by simp [evI, evE, vB, Tr.bind, rngOk]
  rw [e2]
  show (forL _ _ _ _).W _
  rw [rg16]
  refine loop_W _ (fun j hj => ?_) _ ⟨_, _, _, _, _, _, rfl⟩ fun ρ hρ => ?_
  · simp only [List.mem_map, List.mem_range] at hj
    obtain ⟨n, hn, rfl⟩ := hj
    omega
  · show (exB _ ρ).W isTrueEnd
    simp [exB, exS, evE, vB, Tr.bind, sqF, Tr.W, isTrueEnd]
end K01

set_option Elab.async false
set_option linter.all false
set_option maxRecDepth 100000
set_option maxHeartbeats 8000000
namespace K01
open PySem PySem.Spec PyProof.Rows L2 FS
def mkD (x : Str) (i : Nat) : He.DefD := ⟨(x, none), x, x, defArgs (top i), defBody (top i), defScope (top i), [], []⟩
def ini (i : Nat) : Stmt := (C8.clsBody (top i)).getD 0 (.Pass ⟨0, 0, 0, 0⟩)
def mkM (x qn : Str) (i : Nat) : He.DefD := ⟨(x, some "__init__"), "__init__", qn, defArgs (ini i), defBody (ini i), defScope (ini i), [], []⟩
def fn : List He.DefD := [mkD "_law_pen" 19, mkD "_law_draw" 20, mkD "_law_pick" 21, mkD "_law_kinds" 22, mkD "_law_more_kinds" 23, mkD "_law_any_field" 24, mkD "_law_raised" 25, mkD "_law_raised_too" 26, mkD "_law_told" 27, mkD "_law_due_fields" 28, mkD "law" 29, mkM "BadNumber" "BadNumber.__init__" 2, mkM "BadRow" "BadRow.__init__" 3, mkM "BadWord" "BadWord.__init__" 4, mkM "BadTable" "BadTable.__init__" 5, mkM "BadBook" "BadBook.__init__" 6, mkM "BadName" "BadName.__init__" 7, mkM "BadText" "BadText.__init__" 8, mkM "NoPlace" "NoPlace.__init__" 9, mkM "NoName" "NoName.__init__" 10, mkM "TakenName" "TakenName.__init__" 11, mkM "Unlike" "Unlike.__init__" 12, mkM "NotThere" "NotThere.__init__" 13, mkM "TooMany" "TooMany.__init__" 14, mkM "NotKept" "NotKept.__init__" 15]
def names : List Str := ["ShiftError", "BadNumber", "BadRow", "BadWord", "BadTable", "BadBook", "BadName", "BadText", "NoPlace", "NoName", "TakenName", "Unlike", "NotThere", "TooMany", "NotKept", "NothingToUndo", "NothingToRedo", "_law_pen", "_law_draw", "_law_pick", "_law_kinds", "_law_more_kinds", "_law_any_field", "_law_raised", "_law_raised_too", "_law_told", "_law_due_fields", "law"]
def frees : List Str := ["len", "range", "int", "list", "repr", "isinstance", "ValueError"]
def mks : List (Str × List Str) := [("BadNumber", ["what", "number"]), ("BadRow", ["what", "row"]), ("BadWord", ["what", "word"]), ("BadTable", ["what"]), ("BadBook", ["what"]), ("BadName", ["name"]), ("BadText", ["line", "token"]), ("NoPlace", ["what", "index"]), ("NoName", ["name"]), ("TakenName", ["name"]), ("Unlike", ["what"]), ("NotThere", ["paper"]), ("TooMany", ["what", "many", "limit"]), ("NotKept", ["promise", "witness"])]
def zer : List Str := ["NothingToUndo", "NothingToRedo"]
def ex (K : PySem.W.Frag) : Bool := gloB K names && (freeB K frees && ((K.lookup sysModules).isSome && (cls.all (clsB K "ShiftError" tbl) && (mks.all (fun p => mkB K p.1 p.2) && zer.all (rs0B K)))))
section
variable {W : Wd} {h : Heap} (X : W.K.In h) (G : h.Ns mainGlobals W.mg) (c : SaysF fn ex W.K)
include X G c
theorem gl_ {x : Str} (hx : x ∈ names) : W.mg x = some (.ref (He.ga W.K x)) := gloB_ok X G (bt c.ex).1 hx
theorem fr_ {x : Str} (hx : x ∈ frees) : W.mg x = none := freeB_ok X G (bt (bt c.ex).2).1 hx
theorem sys_ : (W.K.lookup sysModules).isSome = true := (bt (bt (bt c.ex).2).2).1
theorem cls_ {x : Str} (hx : x ∈ cls) (hn : x ∈ names) : ∀ C, W.mg x = some (.ref C) → ClsS W (He.ga W.K "ShiftError") tbl x C := clsB_ok X G (sys_ X G c) (fr_ X G c (by decide +kernel)) (fr_ X G c (by decide +kernel)) (gl_ X G c hn) (List.all_eq_true.mp (bt (bt (bt (bt c.ex).2).2).2).1 x hx)
theorem mk_ {p : Str × List Str} (hp : p ∈ mks) : mkB W.K p.1 p.2 = true := List.all_eq_true.mp (bt (bt (bt (bt (bt c.ex).2).2).2).2).1 p hp
theorem zr_ {x : Str} (hx : x ∈ zer) : rs0B W.K x = true := List.all_eq_true.mp (bt (bt (bt (bt (bt c.ex).2).2).2).2).2 x hx
theorem rs_BadNumber : RsS W 2 "BadNumber" ["number", "what"] := by
  obtain ⟨fd, F⟩ := c.def_ 11 (d := mkM "BadNumber" "BadNumber.__init__" 2) rfl
  exact rs_ok (f0 := "what") (fr := ["number"]) (N := ["self", "what", "number"]) (gl_ X G c (by decide +kernel)) (mk_ X G c (p := ("BadNumber", ["what", "number"])) (by decide +kernel)) F (C8.fnScope_by (by decide +kernel)) rfl (by decide +kernel) (FunD.bindsN F fun _ _ _ _ _ _ us hl => match us, hl with | [_, _, _], _ => rfl) (by decide)
theorem rs_BadRow : RsS W 2 "BadRow" ["row", "what"] := by
  obtain ⟨fd, F⟩ := c.def_ 12 (d := mkM "BadRow" "BadRow.__init__" 3) rfl
  exact rs_ok (f0 := "what") (fr := ["row"]) (N := ["self", "what", "row"]) (gl_ X G c (by decide +kernel)) (mk_ X G c (p := ("BadRow", ["what", "row"])) (by decide +kernel)) F (C8.fnScope_by (by decide +kernel)) rfl (by decide +kernel) (FunD.bindsN F fun _ _ _ _ _ _ us hl => match us, hl with | [_, _, _], _ => rfl) (by decide)
theorem rs_BadWord : RsS W 2 "BadWord" ["word", "what"] := by
  obtain ⟨fd, F⟩ := c.def_ 13 (d := mkM "BadWord" "BadWord.__init__" 4) rfl
  exact rs_ok (f0 := "what") (fr := ["word"]) (N := ["self", "what", "word"]) (gl_ X G c (by decide +kernel)) (mk_ X G c (p := ("BadWord", ["what", "word"])) (by decide +kernel)) F (C8.fnScope_by (by decide +kernel)) rfl (by decide +kernel) (FunD.bindsN F fun _ _ _ _ _ _ us hl => match us, hl with | [_, _, _], _ => rfl) (by decide)
theorem rs_BadTable : RsS W 2 "BadTable" ["what"] := by
  obtain ⟨fd, F⟩ := c.def_ 14 (d := mkM "BadTable" "BadTable.__init__" 5) rfl
  exact rs_ok (f0 := "what") (fr := []) (N := ["self", "what"]) (gl_ X G c (by decide +kernel)) (mk_ X G c (p := ("BadTable", ["what"])) (by decide +kernel)) F (C8.fnScope_by (by decide +kernel)) rfl (by decide +kernel) (FunD.bindsN F fun _ _ _ _ _ _ us hl => match us, hl with | [_, _], _ => rfl) (by decide)
theorem rs_BadBook : RsS W 2 "BadBook" ["what"] := by
  obtain ⟨fd, F⟩ := c.def_ 15 (d := mkM "BadBook" "BadBook.__init__" 6) rfl
  exact rs_ok (f0 := "what") (fr := []) (N := ["self", "what"]) (gl_ X G c (by decide +kernel)) (mk_ X G c (p := ("BadBook", ["what"])) (by decide +kernel)) F (C8.fnScope_by (by decide +kernel)) rfl (by decide +kernel) (FunD.bindsN F fun _ _ _ _ _ _ us hl => match us, hl with | [_, _], _ => rfl) (by decide)
theorem rs_BadName : RsS W 2 "BadName" ["name"] := by
  obtain ⟨fd, F⟩ := c.def_ 16 (d := mkM "BadName" "BadName.__init__" 7) rfl
  exact rs_ok (f0 := "name") (fr := []) (N := ["self", "name"]) (gl_ X G c (by decide +kernel)) (mk_ X G c (p := ("BadName", ["name"])) (by decide +kernel)) F (C8.fnScope_by (by decide +kernel)) rfl (by decide +kernel) (FunD.bindsN F fun _ _ _ _ _ _ us hl => match us, hl with | [_, _], _ => rfl) (by decide)
theorem rs_BadText : RsS W 2 "BadText" ["token", "line"] := by
  obtain ⟨fd, F⟩ := c.def_ 17 (d := mkM "BadText" "BadText.__init__" 8) rfl
  exact rs_ok (f0 := "line") (fr := ["token"]) (N := ["self", "line", "token"]) (gl_ X G c (by decide +kernel)) (mk_ X G c (p := ("BadText", ["line", "token"])) (by decide +kernel)) F (C8.fnScope_by (by decide +kernel)) rfl (by decide +kernel) (FunD.bindsN F fun _ _ _ _ _ _ us hl => match us, hl with | [_, _, _], _ => rfl) (by decide)
theorem rs_NoPlace : RsS W 2 "NoPlace" ["index", "what"] := by
  obtain ⟨fd, F⟩ := c.def_ 18 (d := mkM "NoPlace" "NoPlace.__init__" 9) rfl
  exact rs_ok (f0 := "what") (fr := ["index"]) (N := ["self", "what", "index"]) (gl_ X G c (by decide +kernel)) (mk_ X G c (p := ("NoPlace", ["what", "index"])) (by decide +kernel)) F (C8.fnScope_by (by decide +kernel)) rfl (by decide +kernel) (FunD.bindsN F fun _ _ _ _ _ _ us hl => match us, hl with | [_, _, _], _ => rfl) (by decide)
theorem rs_NoName : RsS W 2 "NoName" ["name"] := by
  obtain ⟨fd, F⟩ := c.def_ 19 (d := mkM "NoName" "NoName.__init__" 10) rfl
  exact rs_ok (f0 := "name") (fr := []) (N := ["self", "name"]) (gl_ X G c (by decide +kernel)) (mk_ X G c (p := ("NoName", ["name"])) (by decide +kernel)) F (C8.fnScope_by (by decide +kernel)) rfl (by decide +kernel) (FunD.bindsN F fun _ _ _ _ _ _ us hl => match us, hl with | [_, _], _ => rfl) (by decide)
theorem rs_TakenName : RsS W 2 "TakenName" ["name"] := by
  obtain ⟨fd, F⟩ := c.def_ 20 (d := mkM "TakenName" "TakenName.__init__" 11) rfl
  exact rs_ok (f0 := "name") (fr := []) (N := ["self", "name"]) (gl_ X G c (by decide +kernel)) (mk_ X G c (p := ("TakenName", ["name"])) (by decide +kernel)) F (C8.fnScope_by (by decide +kernel)) rfl (by decide +kernel) (FunD.bindsN F fun _ _ _ _ _ _ us hl => match us, hl with | [_, _], _ => rfl) (by decide)
theorem rs_Unlike : RsS W 2 "Unlike" ["what"] := by
  obtain ⟨fd, F⟩ := c.def_ 21 (d := mkM "Unlike" "Unlike.__init__" 12) rfl
  exact rs_ok (f0 := "what") (fr := []) (N := ["self", "what"]) (gl_ X G c (by decide +kernel)) (mk_ X G c (p := ("Unlike", ["what"])) (by decide +kernel)) F (C8.fnScope_by (by decide +kernel)) rfl (by decide +kernel) (FunD.bindsN F fun _ _ _ _ _ _ us hl => match us, hl with | [_, _], _ => rfl) (by decide)
theorem rs_NotThere : RsS W 2 "NotThere" ["paper"] := by
  obtain ⟨fd, F⟩ := c.def_ 22 (d := mkM "NotThere" "NotThere.__init__" 13) rfl
  exact rs_ok (f0 := "paper") (fr := []) (N := ["self", "paper"]) (gl_ X G c (by decide +kernel)) (mk_ X G c (p := ("NotThere", ["paper"])) (by decide +kernel)) F (C8.fnScope_by (by decide +kernel)) rfl (by decide +kernel) (FunD.bindsN F fun _ _ _ _ _ _ us hl => match us, hl with | [_, _], _ => rfl) (by decide)
theorem rs_TooMany : RsS W 2 "TooMany" ["limit", "many", "what"] := by
  obtain ⟨fd, F⟩ := c.def_ 23 (d := mkM "TooMany" "TooMany.__init__" 14) rfl
  exact rs_ok (f0 := "what") (fr := ["many", "limit"]) (N := ["self", "what", "many", "limit"]) (gl_ X G c (by decide +kernel)) (mk_ X G c (p := ("TooMany", ["what", "many", "limit"])) (by decide +kernel)) F (C8.fnScope_by (by decide +kernel)) rfl (by decide +kernel) (FunD.bindsN F fun _ _ _ _ _ _ us hl => match us, hl with | [_, _, _, _], _ => rfl) (by decide)
theorem rs_NotKept : RsS W 2 "NotKept" ["witness", "promise"] := by
  obtain ⟨fd, F⟩ := c.def_ 24 (d := mkM "NotKept" "NotKept.__init__" 15) rfl
  exact rs_ok (f0 := "promise") (fr := ["witness"]) (N := ["self", "promise", "witness"]) (gl_ X G c (by decide +kernel)) (mk_ X G c (p := ("NotKept", ["promise", "witness"])) (by decide +kernel)) F (C8.fnScope_by (by decide +kernel)) rfl (by decide +kernel) (FunD.bindsN F fun _ _ _ _ _ _ us hl => match us, hl with | [_, _, _], _ => rfl) (by decide)
theorem rs_NothingToUndo : Rs0 W "NothingToUndo" := rs0_ok (gl_ X G c (by decide +kernel)) (zr_ X G c (by decide +kernel))
theorem rs_NothingToRedo : Rs0 W "NothingToRedo" := rs0_ok (gl_ X G c (by decide +kernel)) (zr_ X G c (by decide +kernel))
theorem fs__law_draw : FnS W 1 "_law_draw" 2 drawM := by
  obtain ⟨fd, F⟩ := c.def_ 1 (d := mkD "_law_draw" 20) rfl
  exact draw_fn F (C8.fnScope_by (by decide +kernel)) (by decide +kernel) (gl_ X G c (by decide +kernel)) (FunD.bindsN (ps := ["pen", "many"]) F fun _ _ _ _ _ _ us hl => match us, hl with | [_, _], _ => rfl) (fr_ X G c (by decide +kernel)) (fr_ X G c (by decide +kernel))
theorem fs__law_pick : FnS W 2 "_law_pick" 2 m__law_pick := by
  obtain ⟨fd, F⟩ := c.def_ 2 (d := mkD "_law_pick" 21) rfl
  have nd : AllN W 1 (ndB ss__law_pick) := (by repeat (first | exact trivial | exact (fs__law_draw X G c).mono (by decide) | exact fr_ X G c (by decide +kernel) | exact repr_need (fr_ X G c (by decide +kernel)) (sys_ X G c) | exact dict_need | refine And.intro ?_ ?_))
  have rs : AllR W 1 (rsB ss__law_pick) := (by repeat (first | exact trivial | refine And.intro ?_ ?_))
  exact FnS.of F (gl_ X G c (by decide +kernel)) (FunD.bindsN (ps := ["pen", "some"]) F fun _ _ _ _ _ _ us hl => match us, hl with | [_, _], _ => rfl) sc__law_pick rfl ss__law_pick ck__law_pick nd rs
theorem fs__law_any_field : FnS W 3 "_law_any_field" 1 m__law_any_field := by
  obtain ⟨fd, F⟩ := c.def_ 5 (d := mkD "_law_any_field" 24) rfl
  have nd : AllN W 2 (ndB ss__law_any_field) := (by repeat (first | exact trivial | exact (fs__law_draw X G c).mono (by decide) | exact (fs__law_pick X G c).mono (by decide) | exact fr_ X G c (by decide +kernel) | exact repr_need (fr_ X G c (by decide +kernel)) (sys_ X G c) | exact dict_need | refine And.intro ?_ ?_))
  have rs : AllR W 2 (rsB ss__law_any_field) := (by repeat (first | exact trivial | refine And.intro ?_ ?_))
  exact FnS.of F (gl_ X G c (by decide +kernel)) (FunD.bindsN (ps := ["pen"]) F fun _ _ _ _ _ _ us hl => match us, hl with | [_], _ => rfl) sc__law_any_field rfl ss__law_any_field ck__law_any_field nd rs
theorem fs__law_raised : FnS W 3 "_law_raised" 4 m__law_raised := by
  obtain ⟨fd, F⟩ := c.def_ 6 (d := mkD "_law_raised" 25) rfl
  have nd : AllN W 2 (ndB ss__law_raised) := (by repeat (first | exact trivial | exact fr_ X G c (by decide +kernel) | exact repr_need (fr_ X G c (by decide +kernel)) (sys_ X G c) | exact dict_need | refine And.intro ?_ ?_))
  have rs : AllR W 2 (rsB ss__law_raised) := (by repeat (first | exact trivial | exact rs_BadNumber X G c | exact rs_BadRow X G c | exact rs_BadWord X G c | exact rs_NoPlace X G c | exact rs_BadTable X G c | exact rs_BadBook X G c | exact rs_Unlike X G c | exact rs_NotThere X G c | refine And.intro ?_ ?_))
  exact FnS.of F (gl_ X G c (by decide +kernel)) (FunD.bindsN (ps := ["kind", "one", "two", "three"]) F fun _ _ _ _ _ _ us hl => match us, hl with | [_, _, _, _], _ => rfl) sc__law_raised rfl ss__law_raised ck__law_raised nd rs
theorem fs__law_raised_too : FnS W 3 "_law_raised_too" 4 m__law_raised_too := by
  obtain ⟨fd, F⟩ := c.def_ 7 (d := mkD "_law_raised_too" 26) rfl
  have nd : AllN W 2 (ndB ss__law_raised_too) := (by repeat (first | exact trivial | exact fr_ X G c (by decide +kernel) | exact repr_need (fr_ X G c (by decide +kernel)) (sys_ X G c) | exact dict_need | refine And.intro ?_ ?_))
  have rs : AllR W 2 (rsB ss__law_raised_too) := (by repeat (first | exact trivial | exact rs_BadName X G c | exact rs_NoName X G c | exact rs_TakenName X G c | exact rs_BadText X G c | exact rs_NotKept X G c | exact rs_TooMany X G c | exact rs_NothingToUndo X G c | exact rs_NothingToRedo X G c | refine And.intro ?_ ?_))
  exact FnS.of F (gl_ X G c (by decide +kernel)) (FunD.bindsN (ps := ["kind", "one", "two", "three"]) F fun _ _ _ _ _ _ us hl => match us, hl with | [_, _, _, _], _ => rfl) sc__law_raised_too rfl ss__law_raised_too ck__law_raised_too nd rs
theorem fs__law_due_fields : FnS W 2 "_law_due_fields" 4 m__law_due_fields := by
  obtain ⟨fd, F⟩ := c.def_ 9 (d := mkD "_law_due_fields" 28) rfl
  have nd : AllN W 1 (ndB ss__law_due_fields) := (by repeat (first | exact trivial | exact fr_ X G c (by decide +kernel) | exact repr_need (fr_ X G c (by decide +kernel)) (sys_ X G c) | exact dict_need | refine And.intro ?_ ?_))
  have rs : AllR W 1 (rsB ss__law_due_fields) := (by repeat (first | exact trivial | refine And.intro ?_ ?_))
  exact FnS.of F (gl_ X G c (by decide +kernel)) (FunD.bindsN (ps := ["kind", "one", "two", "three"]) F fun _ _ _ _ _ _ us hl => match us, hl with | [_, _, _, _], _ => rfl) sc__law_due_fields rfl ss__law_due_fields ck__law_due_fields nd rs
theorem fe_more : ∃ fd, FunD W.K "_law_more_kinds" "_law_more_kinds" (defArgs (top 23)) (defBody (top 23)) (defScope (top 23)) [] [] (He.ga W.K "_law_more_kinds") fd ∧ FnE W.P W.w W.K W.mg W.base 1 (He.ga W.K "_law_more_kinds") fd ["e"] (spK W tblM fun c ns xs => kRun c ns xs tblM []) := by
  obtain ⟨fd, F⟩ := c.def_ 4 (d := mkD "_law_more_kinds" 23) rfl
  refine ⟨fd, F, ?_⟩
  have F2 : FunD W.K "_law_more_kinds" "_law_more_kinds" (defArgs (top 23)) (defBody (top 23)) (defScope (top 23)) [] [] (He.ga W.K "_law_more_kinds") fd := F
  rw [bd__law_more_kinds] at F2
  exact more_ok F2 sc__law_more_kinds ck0__law_more_kinds cki__law_more_kinds ckr__law_more_kinds
theorem fe_kinds : ∃ fd, FunD W.K "_law_kinds" "_law_kinds" (defArgs (top 22)) (defBody (top 22)) (defScope (top 22)) [] [] (He.ga W.K "_law_kinds") fd ∧ FnE W.P W.w W.K W.mg W.base 2 (He.ga W.K "_law_kinds") fd ["e"] (spK W tbl res) := by
  obtain ⟨fd, F⟩ := c.def_ 3 (d := mkD "_law_kinds" 22) rfl
  obtain ⟨fdM, FM, hM⟩ := fe_more X G c
  refine ⟨fd, F, ?_⟩
  have F2 : FunD W.K "_law_kinds" "_law_kinds" (defArgs (top 22)) (defBody (top 22)) (defScope (top 22)) [] [] (He.ga W.K "_law_kinds") fd := F
  rw [bd__law_kinds] at F2
  exact kinds_ok F2 sc__law_kinds ck0__law_kinds cki__law_kinds ckr__law_kinds hM (Nat.le_refl 1) (gl_ X G c (by decide +kernel)) FM.kp (FunD.bindsN FM fun _ _ _ _ _ _ us hl => match us, hl with | [_], _ => rfl) (by decide)
theorem fs__law_told : FnS W 4 "_law_told" 4 m__law_told := by
  obtain ⟨fd, F⟩ := c.def_ 8 (d := mkD "_law_told" 27) rfl
  obtain ⟨fdK, FK, hK⟩ := fe_kinds X G c
  have nd : AllN W 3 (ndB ss__law_told) := (by repeat (first | exact trivial | exact (fs__law_raised X G c).mono (by decide) | exact (fs__law_raised_too X G c).mono (by decide) | refine And.intro ?_ ?_))
  have rs : AllR W 3 (rsB ss__law_told) := (by repeat (first | exact trivial | refine And.intro ?_ ?_))
  have hcls : ∀ x ∈ cls, ∀ C, W.mg x = some (.ref C) → ClsS W (He.ga W.K "ShiftError") tbl x C := fun x hx => cls_ X G c hx (by
    have e : ∀ y ∈ cls, y ∈ names := by decide +kernel
    exact e x hx)
  exact told_ok F (gl_ X G c (by decide +kernel)) (FunD.bindsN (ps := ["kind", "one", "two", "three"]) F fun _ _ _ _ _ _ us hl => match us, hl with | [_, _, _, _], _ => rfl) sc__law_told rfl ck__law_told nd rs (gl_ X G c (by decide +kernel)) (fr_ X G c (by decide +kernel)) hcls hK (by decide) (gl_ X G c (by decide +kernel)) FK.kp (FunD.bindsN FK fun _ _ _ _ _ _ us hl => match us, hl with | [_], _ => rfl)
theorem nd_law : AllN W 4 (ndB ss_law) := (by repeat (first | exact trivial | exact (fs__law_any_field X G c).mono (by decide) | exact (fs__law_told X G c).mono (by decide) | exact (fs__law_due_fields X G c).mono (by decide) | exact fr_ X G c (by decide +kernel) | exact repr_need (fr_ X G c (by decide +kernel)) (sys_ X G c) | refine And.intro ?_ ?_))
end
theorem bd_law : ∃ p0 p1 p2 p3 pos, defBody (top 29) = .Assign [.Name "pen" p0] (.Call (.Name "_law_pen" p1) [.Name "script" p2] [] p3) pos :: (defBody (top 29)).drop 1 := ⟨_, _, _, _, _, rfl⟩
theorem fact {B : Wb} {h : Heap} (X : B.K.In h) (G : h.Ns mainGlobals B.mg) (c : SaysF fn ex B.K) :
    ∃ fd : FuncData, (∀ (s : Shared) (v : Value), BindsTo s fd ⟨[v], []⟩ [("script", v)]) ∧ ∀ b : Heap, FnG B.P B.w B.K B.mg b CX0 5 (He.ga B.K "law") fd ["script"] (spLaw B.K) := by
  obtain ⟨fdP, FP⟩ := c.def_ 0 (d := mkD "_law_pen" 19) rfl
  obtain ⟨fd, F⟩ := c.def_ 10 (d := mkD "law" 29) rfl
  have bb := FunD.bindsA (ps := ["script"]) F fun _ _ _ _ _ _ us hl => match us, hl with | [_], _ => rfl
  refine ⟨fd, fun s v => bb s [v] rfl, fun b => ?_⟩
  have hp : FnOk B.P B.w B.K B.mg b CX0 1 _ fdP ["script"] (spPen B.K) := pen_fn FP (C8.fnScope_by (by decide +kernel)) (by decide +kernel) (fr_ (W := B.at_ 0) X G c (by decide +kernel)) (fr_ (W := B.at_ 0) X G c (by decide +kernel))
  have F2 : FunD B.K "law" "law" (defArgs (top 29)) (defBody (top 29)) (defScope (top 29)) [] [] (He.ga B.K "law") fd := F
  obtain ⟨p0, p1, p2, p3, pos, e⟩ := bd_law
  rw [e] at F2
  let B' : Wb := ⟨B.P, B.w, B.K, B.mg, b⟩
  exact law_ok (B := B') (k := 4) (n := 1) (x0 := "law") (x1 := "law") (st0 := .Pass pos) F2 sc_law rfl rfl (by decide +kernel) (by decide +kernel) (by decide +kernel) (hp.mono (by decide)) (gl_ (W := B.at_ 0) X G c (by decide +kernel)) FP.kp (FunD.bindsN FP fun _ _ _ _ _ _ us hl => match us, hl with | [_], _ => rfl) ss_law ck_law (fun p => nd_law (W := B'.at_ p) X G c) (fun p => trivial) law_W
abbrev R : PySem.W.OpenRow := PySem.W.OpenLaw.row PySem.Challenge.rw_flowshifts_k01_errors
abbrev hk : PySem.W.Hook := hookF 4 fn ex
def ob (s : PySem.W.SharedT) : He.AlD := obsF 4 fn ex (HandSHeadRun.getT s)
theorem ob_eq (s : PySem.W.SharedT) : ob s = hk.obs s.abs := obsF_eq (HandSHeadRun.getT_eq s)
def loose : List Str := ["ShiftError", "BadNumber", "BadRow", "BadWord", "BadTable", "BadBook", "BadName", "BadText", "NoPlace", "NoName", "TakenName", "Unlike", "NotThere", "TooMany", "NotKept", "NothingToUndo", "NothingToRedo", "_law_pen", "_law_draw", "_law_pick", "_law_kinds", "_law_more_kinds", "_law_any_field", "_law_raised", "_law_raised_too", "_law_told", "_law_due_fields"]
theorem run (w : World) : HandSHeadRun.RunEq R (PySem.W.view R.prog [29]) hk ob 20000 loose w := by
  intro os
  kernel_rfl
end K01
open PySem PySem.W PySem.Calls PyProof.Rows
theorem PySem.Challenge.cw_flowshifts_k01_errors_holds : PySem.Challenge.rw_flowshifts_k01_errors.Holds := by
  w_on; o_law
  refine HandSHeadRun.head_any (r := OpenLaw.row PySem.Challenge.rw_flowshifts_k01_errors) (q := view (OpenLaw.row PySem.Challenge.rw_flowshifts_k01_errors).prog [29]) (H := K01.hk) (ob := K01.ob) (M := 20000) (loose := K01.loose) (d := HandSHeadRun.topDef (OpenLaw.row PySem.Challenge.rw_flowshifts_k01_errors).prog 29) (kwd := []) K01.ob_eq
    (by kernel_rfl) (fun s => by kernel_rfl) K01.run (by kernel_rfl) (by kernel_rfl) (by kernel_rfl) (by rfl) (by first | assumption | decide +kernel) (by decide +kernel) ⟨rfl, rfl, rfl, rfl, rfl, by decide +kernel⟩ ?hw ?hc
  case hw => w_witness2
  case hc =>
    refine FS.walk_ofG (l := PySem.Challenge.rw_flowshifts_k01_errors) (n := 63) (k := 5) (x := "script") rfl (by decide) (by kernel_rfl) ⟨rfl, by decide, by decide⟩ ?F
    intro w mg fa h Y G hmg0
    obtain ⟨K, KX, c⟩ := Y
    have hmg : mg ("law" : PySem.Str) = some (.ref fa) := by
      have e : (HandSHeadRun.topDef (OpenLaw.row PySem.Challenge.rw_flowshifts_k01_errors).prog 29).name = ("law" : PySem.Str) := by kernel_rfl
      rw [← e]
      exact hmg0
    obtain ⟨fd, hb, hF⟩ := K01.fact (B := ⟨(PySem.Challenge.rw_flowshifts_k01_errors).prog, w, K, mg, h⟩) KX G c
    have e := hmg.symm.trans (K01.gl_ (W := ⟨(PySem.Challenge.rw_flowshifts_k01_errors).prog, w, K, mg, h, 0⟩) KX G c (by decide +kernel))
    cases e
    exact ⟨K, fd, FS.spLaw K, KX, hb, fun H a ns hl _ hS => ⟨a, ns, rfl, hl, hS, fun _ => rfl⟩, fun base _ _ => hF base⟩

