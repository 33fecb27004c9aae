import PyProof.Rows.All
import Wide.All
import OpenK.AllK
import Wide.FinOn
import HandS.Base
import HandS.Call
import HandS.List
import HandS.Comp
import HandS.Ends
import HandS.Dict
import HandS.Iter
import HandS.Exc
import HandS.Words
import HandS.WordsExc
import HandS.IsInst
import HandS.Conv
import HandS.Wide
import KE.DataEq
import HandS.Lambda
import HandS.Defaults
import HandS.TupAny
import HandS.TupMul
import HandS.Deep
import HandS.Style
import HandS.SortInts
import HandS.Walk
import HandS.Zip
import HandS.Flow
import KE.GoesEnum
import HandS.ExcOwn
import HandS.Small
import HandS.ExcInit
import HandS.EndTab
import HandS.HeadEnd
import PyProof.ReprRoads
import HandS.HotCalls
import HandS.ExcField
import HandS.ExcIs
import HandS.ExcCtx
import KE.KExcIs
import HandS.Codes
import HandS.HeadHook2
import HandS.More
import HandS.HeadHook4
import HandS.Head0
import HandS.Head1
import HandS.Head2
import KE.KStateDown
import PySem.Challenge.RW_flowshifts_k06_whole_rooms
set_option Elab.async false
set_option linter.all false
set_option maxRecDepth 100000
set_option maxHeartbeats 4000000
namespace FS
open PySem PySem.Spec PyProof.Rows L2

/-! ### plain values -/
inductive PV where
  | non
  | bl (b : Bool)
  | int (i : Int)
  | str (s : Str)
  | tup (xs : List PV)
  | lst (o : Bool) (xs : List PV)
  | dct (o : Bool) (T : Bool) (ks vs : List PV)
  | ins (c : Str) (ns : List Str) (vs : List PV)
  | gl (x : Str)
  | ty (n : String)
  | pen

/-- not owned at its top -/
def PV.st : PV → Bool
  | .lst o _ => !o
  | .dct o _ _ _ => !o
  | _ => true
mutual
/-- as it is read -/
def PV.fz : PV → PV
  | .lst _ xs => .lst false (PV.fzs xs)
  | .dct _ T ks vs => .dct false T ks (PV.fzs vs)
  | v => v
def PV.fzs : List PV → List PV
  | [] => []
  | x :: xs => PV.fz x :: PV.fzs xs
end

/-! ### runs with draws -/
inductive Out (α : Type) where
  | ok (a : α)
  | exn (c : Str) (ns : List Str) (vs : List PV)
  | bad
inductive Tr (α : Type) where
  | ret (o : Out α)
  | draw (n : Int) (k : Int → Tr α)
def Tr.bind {α β : Type} : Tr α → (α → Tr β) → Tr β
  | .ret (.ok a), f => f a
  | .ret (.exn c ns vs), _ => .ret (.exn c ns vs)
  | .ret .bad, _ => .ret .bad
  | .draw n k, f => .draw n fun i => (k i).bind f
instance : Monad Tr where
  pure a := .ret (.ok a)
  bind := Tr.bind
abbrev Tr.bad {α : Type} : Tr α := .ret .bad
abbrev Tr.ok {α : Type} (a : α) : Tr α := .ret (.ok a)
/-- whatever is drawn -/
def Tr.W {α : Type} (P : Out α → Prop) : Tr α → Prop
  | .ret o => P o
  | .draw n k => 0 < n ∧ ∀ i, 0 ≤ i → i < n → (k i).W P
def Out.K {α β : Type} (P : Out β → Prop) (f : α → Tr β) : Out α → Prop
  | .ok a => (f a).W P
  | .exn c ns vs => P (.exn c ns vs)
  | .bad => P .bad
theorem Tr.W_bind {α β : Type} {P : Out β → Prop} {f : α → Tr β} : ∀ {m : Tr α}, (m.bind f).W P ↔ m.W (Out.K P f)
  | .ret (.ok a) => Iff.rfl
  | .ret (.exn c ns vs) => Iff.rfl
  | .ret .bad => Iff.rfl
  | .draw n k => by
    show (0 < n ∧ ∀ i, 0 ≤ i → i < n → ((k i).bind f).W P) ↔ _
    exact ⟨fun ⟨h, g⟩ => ⟨h, fun i a b => (Tr.W_bind (m := k i)).mp (g i a b)⟩, fun ⟨h, g⟩ => ⟨h, fun i a b => (Tr.W_bind (m := k i)).mpr (g i a b)⟩⟩
theorem Tr.W_imp {α : Type} {P P' : Out α → Prop} (h : ∀ o, P o → P' o) : ∀ {m : Tr α}, m.W P → m.W P'
  | .ret o, x => h o x
  | .draw n k, ⟨a, g⟩ => ⟨a, fun i p q => Tr.W_imp h (g i p q)⟩

/-! ### values in the heap -/
structure Wd where
  P : Program
  w : World
  K : PySem.W.Frag
  mg : Str → Option Value
  base : Heap
  pen : Addr
  T : List (Addr × Str) := []

def kP : Key → PV
  | .inl i => .int i
  | .inr x => .str x
def tP (k : List Key) : PV := .tup (k.map kP)

theorem Same.seqT {K : PySem.W.Frag} {H H' : Hp} {a : Addr} {xs : List V} (e : Same H H') (h : SqT K H a xs) : SqT K H' a xs := by
  rcases h with (h | ⟨o, h⟩) | h
  · exact .inl (.inl (e _ _ h))
  · exact .inl (.inr ⟨o, e _ _ h⟩)
  · exact .inr h
theorem Same.rd {H H' : Hp} {a : Addr} {u : HO} (e : Same H H') (h : Rd H a u) : Rd H' a u := by
  rcases h with h | ⟨o, h⟩
  · exact .inl (e _ _ h)
  · exact .inr ⟨o, e _ _ h⟩

mutual
inductive Rp (W : Wd) (F : Hp) : V → PV → Prop
  | non : Rp W F .non .non
  | bl {b : Bool} : Rp W F (.bl b) (.bl b)
  | int {i : Int} : Rp W F (.int i) (.int i)
  | str {s : Str} : Rp W F (.str s) (.str s)
  | tup {a : Addr} {vs : List V} {xs : List PV} : F a = some (.tup vs) → Rps W F vs xs → Rp W F (.ref a) (.tup xs)
  | lst {a : Addr} {vs : List V} {xs : List PV} : F a = some (.lst vs) → Rps W F vs xs → Rp W F (.ref a) (.lst false xs)
  | dK {a : Addr} {kvs : List (Key × V)} {xs : List PV} : F a = some (.dK kvs) → Rps W F (kvs.map (·.2)) xs → Rp W F (.ref a) (.dct false false (kvs.map fun p => kP p.1) xs)
  | dT {a : Addr} {kvs : List (List Key × V)} {xs : List PV} : F a = some (.dT kvs) → Rps W F (kvs.map (·.2)) xs → Rp W F (.ref a) (.dct false true (kvs.map fun p => tP p.1) xs)
  | ins {a C dx : Addr} {fs : List (Str × V)} {c : Str} {xs : List PV} : F a = some (.ins C dx fs) → W.mg c = some (.ref C) → Rps W F (fs.map (·.2)) xs → Rp W F (.ref a) (.ins c (fs.map (·.1)) xs)
  | gl {x : Str} {a : Addr} : W.mg x = some (.ref a) → Rp W F (.ref a) (.gl x)
  | ty {n : String} : Rp W F (.ty n) (.ty n)
  | pen : Rp W F (.ref W.pen) .pen
inductive Rps (W : Wd) (F : Hp) : List V → List PV → Prop
  | nil : Rps W F [] []
  | cons {v : V} {vs : List V} {x : PV} {xs : List PV} : Rp W F v x → Rps W F vs xs → Rps W F (v :: vs) (x :: xs)
end
mutual
theorem Rp.mono {W : Wd} {F F' : Hp} (e : Same F F') : ∀ {v : V} {x : PV}, Rp W F v x → Rp W F' v x
  | _, _, .non => .non
  | _, _, .bl => .bl
  | _, _, .int => .int
  | _, _, .str => .str
  | _, _, .tup h r => .tup (e _ _ h) (r.mono e)
  | _, _, .lst h r => .lst (e _ _ h) (r.mono e)
  | _, _, .dK h r => .dK (e _ _ h) (r.mono e)
  | _, _, .dT h r => .dT (e _ _ h) (r.mono e)
  | _, _, .ins h c r => .ins (e _ _ h) c (r.mono e)
  | _, _, .gl h => .gl h
  | _, _, .ty => .ty
  | _, _, .pen => .pen
theorem Rps.mono {W : Wd} {F F' : Hp} (e : Same F F') : ∀ {vs : List V} {xs : List PV}, Rps W F vs xs → Rps W F' vs xs
  | _, _, .nil => .nil
  | _, _, .cons h t => .cons (h.mono e) (t.mono e)
end
mutual
theorem Rp.fz {W : Wd} {F : Hp} : ∀ {v : V} {x : PV}, Rp W F v x → x.fz = x
  | _, _, .non => rfl
  | _, _, .bl => rfl
  | _, _, .int => rfl
  | _, _, .str => rfl
  | _, _, .tup _ _ => rfl
  | _, _, .lst _ r => by simp only [PV.fz, r.fzs]
  | _, _, .dK _ r => by simp only [PV.fz, r.fzs]
  | _, _, .dT _ r => by simp only [PV.fz, r.fzs]
  | _, _, .ins _ _ _ => rfl
  | _, _, .gl _ => rfl
  | _, _, .ty => rfl
  | _, _, .pen => rfl
theorem Rps.fzs {W : Wd} {F : Hp} : ∀ {vs : List V} {xs : List PV}, Rps W F vs xs → PV.fzs xs = xs
  | _, _, .nil => rfl
  | _, _, .cons h t => by simp only [PV.fzs, h.fz, t.fzs]
end
theorem Rp.st {W : Wd} {F : Hp} {v : V} {x : PV} (h : Rp W F v x) : x.st = true := by cases h <;> rfl
theorem Rps.length {W : Wd} {F : Hp} : ∀ {vs : List V} {xs : List PV}, Rps W F vs xs → vs.length = xs.length
  | _, _, .nil => rfl
  | _, _, .cons _ t => by simp [t.length]
theorem Rps.get {W : Wd} {F : Hp} : ∀ {vs : List V} {xs : List PV} {i : Nat} {x : PV}, Rps W F vs xs → xs[i]? = some x → ∃ v, vs[i]? = some v ∧ Rp W F v x
  | _, _, _, _, .nil, e => by simp at e
  | _, _, 0, _, .cons h _, e => by simp at e; subst e; exact ⟨_, rfl, h⟩
  | _, _, i + 1, x, .cons _ t, e => by
    obtain ⟨v, h1, h2⟩ := Rps.get (i := i) (x := x) t (by simpa using e)
    exact ⟨v, by simpa using h1, h2⟩
theorem Rps.getV {W : Wd} {F : Hp} : ∀ {vs : List V} {xs : List PV} {i : Nat} {v : V}, Rps W F vs xs → vs[i]? = some v → ∃ x, xs[i]? = some x ∧ Rp W F v x
  | _, _, _, _, .nil, e => by simp at e
  | _, _, 0, _, .cons h _, e => by simp at e; subst e; exact ⟨_, rfl, h⟩
  | _, _, i + 1, v, .cons _ t, e => by
    obtain ⟨x, h1, h2⟩ := Rps.getV (i := i) (v := v) t (by simpa using e)
    exact ⟨x, by simpa using h1, h2⟩
theorem Rps.append {W : Wd} {F : Hp} : ∀ {vs ws : List V} {xs ys : List PV}, Rps W F vs xs → Rps W F ws ys → Rps W F (vs ++ ws) (xs ++ ys)
  | _, _, _, _, .nil, s => s
  | _, _, _, _, .cons h t, s => .cons h (t.append s)
theorem Rps.take {W : Wd} {F : Hp} : ∀ {vs : List V} {xs : List PV} (n : Nat), Rps W F vs xs → Rps W F (vs.take n) (xs.take n)
  | _, _, 0, _ => by simp; exact .nil
  | _, _, _ + 1, .nil => .nil
  | _, _, n + 1, .cons h t => .cons h (t.take n)
theorem Rps.drop {W : Wd} {F : Hp} : ∀ {vs : List V} {xs : List PV} (n : Nat), Rps W F vs xs → Rps W F (vs.drop n) (xs.drop n)
  | _, _, 0, r => r
  | _, _, _ + 1, .nil => .nil
  | _, _, n + 1, .cons _ t => t.drop n

/-- neither a table of code objects nor a code object -/
def PlO (o : HO) : Prop := (∀ ps, o ≠ .tbl ps) ∧ ∀ c q, o ≠ LamX.CodeO c q
/-- the heap but the pen and the tables of code objects -/
def noT : Option HO → Option HO
  | some (.tbl _) => none
  | o => o
theorem noT_some {o : Option HO} {u : HO} (h : noT o = some u) : o = some u ∧ ∀ ps, u ≠ .tbl ps := by
  cases o with
  | none => cases h
  | some x => cases x <;> cases h <;> exact ⟨rfl, fun _ z => by cases z⟩
theorem noT_of {o : Option HO} {u : HO} (h : o = some u) (n : ∀ ps, u ≠ .tbl ps) : noT o = some u := by
  subst h
  cases u <;> first | rfl | exact absurd rfl (n _)
def np (W : Wd) (H : Hp) : Hp := fun a => if a = W.pen then none else noT (H a)
theorem np_ne {W : Wd} {H : Hp} {a : Addr} {o : HO} (h : a ≠ W.pen) (e : H a = some o) (n : ∀ ps, o ≠ .tbl ps) : np W H a = some o := by
  unfold np
  rw [if_neg h]
  exact noT_of e n
theorem np_some {W : Wd} {H : Hp} {a : Addr} {o : HO} (h : np W H a = some o) : a ≠ W.pen ∧ H a = some o ∧ ∀ ps, o ≠ .tbl ps := by
  unfold np at h
  by_cases z : a = W.pen
  · rw [if_pos z] at h
    cases h
  · rw [if_neg z] at h
    exact ⟨z, noT_some h⟩
theorem np_none {W : Wd} {H : Hp} {a : Addr} (h : H a = none) : np W H a = none := by
  unfold np
  rw [h]
  by_cases z : a = W.pen
  · rw [if_pos z]
  · rw [if_neg z]
    rfl

mutual
/-- a value that may own lists and dicts: those at the addresses fp -/
inductive Ro (W : Wd) (F H : Hp) : V → PV → List Addr → Prop
  | st {v : V} {x : PV} : Rp W F v x → Ro W F H v x []
  | lst {a : Addr} {vs : List V} {xs : List PV} {fp : List Addr} : H a = some (.lst vs) → F a = none → a ≠ W.pen → Ros W F H vs xs fp → a ∉ fp → Ro W F H (.ref a) (.lst true xs) (a :: fp)
  | dK {a : Addr} {kvs : List (Key × V)} {xs : List PV} {fp : List Addr} : H a = some (.dK kvs) → F a = none → a ≠ W.pen → Ros W F H (kvs.map (·.2)) xs fp → a ∉ fp → Ro W F H (.ref a) (.dct true false (kvs.map fun p => kP p.1) xs) (a :: fp)
  | dT {a : Addr} {kvs : List (List Key × V)} {xs : List PV} {fp : List Addr} : H a = some (.dT kvs) → F a = none → a ≠ W.pen → Ros W F H (kvs.map (·.2)) xs fp → a ∉ fp → Ro W F H (.ref a) (.dct true true (kvs.map fun p => tP p.1) xs) (a :: fp)
inductive Ros (W : Wd) (F H : Hp) : List V → List PV → List Addr → Prop
  | nil : Ros W F H [] [] []
  | cons {v : V} {vs : List V} {x : PV} {xs : List PV} {f g : List Addr} : Ro W F H v x f → Ros W F H vs xs g → (∀ a ∈ f, a ∉ g) → Ros W F H (v :: vs) (x :: xs) (f ++ g)
end
theorem Rps.ros {W : Wd} {F H : Hp} : ∀ {vs : List V} {xs : List PV}, Rps W F vs xs → Ros W F H vs xs []
  | _, _, .nil => .nil
  | _, _, .cons h t => .cons (.st h) t.ros (fun _ z => by simp at z)
theorem Ro.stable {W : Wd} {F H : Hp} {v : V} {x : PV} {fp : List Addr} (r : Ro W F H v x fp) (h : x.st = true) : Rp W F v x := by
  cases r with
  | st r => exact r
  | lst => cases h
  | dK => cases h
  | dT => cases h
theorem Ros.length {W : Wd} {F H : Hp} : ∀ {vs : List V} {xs : List PV} {fp : List Addr}, Ros W F H vs xs fp → vs.length = xs.length
  | _, _, _, .nil => rfl
  | _, _, _, .cons _ t _ => by simp [t.length]
theorem Ros.stable {W : Wd} {F H : Hp} : ∀ {vs : List V} {xs : List PV} {fp : List Addr}, Ros W F H vs xs fp → xs.all PV.st = true → Rps W F vs xs
  | _, _, _, .nil, _ => .nil
  | _, _, _, .cons h t _, e => by
    simp only [List.all_cons, Bool.and_eq_true] at e
    exact .cons (h.stable e.1) (t.stable e.2)
mutual
/-- what it owns is in the heap, free in F, no pen -/
theorem Ro.own {W : Wd} {F H : Hp} : ∀ {v : V} {x : PV} {fp : List Addr}, Ro W F H v x fp → ∀ a ∈ fp, (∃ o, H a = some o ∧ PlO o) ∧ F a = none ∧ a ≠ W.pen
  | _, _, _, .st _, a, h => by simp at h
  | _, _, _, .lst e f n r _, b, h => by
    rcases List.mem_cons.mp h with rfl | h
    · exact ⟨⟨_, e, (fun _ z => by cases z), fun _ _ z => by unfold LamX.CodeO at z; cases z⟩, f, n⟩
    · exact r.own b h
  | _, _, _, .dK e f n r _, b, h => by
    rcases List.mem_cons.mp h with rfl | h
    · exact ⟨⟨_, e, (fun _ z => by cases z), fun _ _ z => by unfold LamX.CodeO at z; cases z⟩, f, n⟩
    · exact r.own b h
  | _, _, _, .dT e f n r _, b, h => by
    rcases List.mem_cons.mp h with rfl | h
    · exact ⟨⟨_, e, (fun _ z => by cases z), fun _ _ z => by unfold LamX.CodeO at z; cases z⟩, f, n⟩
    · exact r.own b h
theorem Ros.own {W : Wd} {F H : Hp} : ∀ {vs : List V} {xs : List PV} {fp : List Addr}, Ros W F H vs xs fp → ∀ a ∈ fp, (∃ o, H a = some o ∧ PlO o) ∧ F a = none ∧ a ≠ W.pen
  | _, _, _, .nil, a, h => by simp at h
  | _, _, _, .cons r t _, a, h => by
    rcases List.mem_append.mp h with h | h
    · exact r.own a h
    · exact t.own a h
end
theorem own_nt {W : Wd} {F H : Hp} {a : Addr} (h : (∃ o, H a = some o ∧ PlO o) ∧ F a = none ∧ a ≠ W.pen) : ∀ ps, H a ≠ some (.tbl ps) := fun ps q => by
  obtain ⟨⟨o, e, n⟩, _⟩ := h
  rw [e] at q
  exact n.1 ps (Option.some.inj q)
theorem own_ex {H : Hp} {a : Addr} (h : ∃ o, H a = some o ∧ PlO o) : ∃ o, H a = some o := let ⟨o, e, _⟩ := h; ⟨o, e⟩
mutual
/-- carried to other heaps that agree on what is owned -/
theorem Ro.carry {W : Wd} {F H F' H' : Hp} (e : Same F F') : ∀ {v : V} {x : PV} {fp : List Addr}, Ro W F H v x fp → (∀ a ∈ fp, H' a = H a ∧ F' a = none) → Ro W F' H' v x fp
  | _, _, _, .st r, _ => .st (r.mono e)
  | _, _, _, .lst (a := a) h f n r na, k => .lst ((k a (by simp)).1.trans h) (k a (by simp)).2 n (r.carry e fun b hb => k b (by simp [hb])) na
  | _, _, _, .dK (a := a) h f n r na, k => .dK ((k a (by simp)).1.trans h) (k a (by simp)).2 n (r.carry e fun b hb => k b (by simp [hb])) na
  | _, _, _, .dT (a := a) h f n r na, k => .dT ((k a (by simp)).1.trans h) (k a (by simp)).2 n (r.carry e fun b hb => k b (by simp [hb])) na
theorem Ros.carry {W : Wd} {F H F' H' : Hp} (e : Same F F') : ∀ {vs : List V} {xs : List PV} {fp : List Addr}, Ros W F H vs xs fp → (∀ a ∈ fp, H' a = H a ∧ F' a = none) → Ros W F' H' vs xs fp
  | _, _, _, .nil, _ => .nil
  | _, _, _, .cons r t d, k => .cons (r.carry e fun b hb => k b (by simp [hb])) (t.carry e fun b hb => k b (by simp [hb])) d
end
/-- F with what H has at fp -/
def adj (F H : Hp) (fp : List Addr) : Hp := fun a => if a ∈ fp then H a else F a
theorem adj_in {F H : Hp} {fp : List Addr} {a : Addr} (h : a ∈ fp) : adj F H fp a = H a := if_pos h
theorem adj_out {F H : Hp} {fp : List Addr} {a : Addr} (h : a ∉ fp) : adj F H fp a = F a := if_neg h
theorem adj_same {F H : Hp} {fp : List Addr} (h : ∀ a ∈ fp, F a = none) : Same F (adj F H fp) := fun a o e => by
  rw [adj_out]
  · exact e
  · intro z
    rw [h a z] at e
    cases e
theorem adj_mono {F H : Hp} {fp fq : List Addr} (h : ∀ a ∈ fp, a ∈ fq) (k : ∀ a ∈ fq, F a = none) : Same (adj F H fp) (adj F H fq) := fun a o e => by
  by_cases z : a ∈ fp
  · rw [adj_in (h a z)]
    rwa [adj_in z] at e
  · rw [adj_out z] at e
    by_cases y : a ∈ fq
    · rw [k a y] at e
      cases e
    · rw [adj_out y]
      exact e
mutual
theorem Ro.frozen {W : Wd} {F H : Hp} : ∀ {v : V} {x : PV} {fp : List Addr}, Ro W F H v x fp → Rp W (adj F H fp) v x.fz
  | _, _, _, .st r => by
    rw [r.fz]
    exact r.mono (adj_same fun _ z => by simp at z)
  | _, _, _, .lst (a := a) (fp := fp) h f n r na => by
    have k : ∀ b ∈ a :: fp, F b = none := fun b hb => by
      rcases List.mem_cons.mp hb with rfl | hb
      · exact f
      · exact (r.own b hb).2.1
    simp only [PV.fz]
    exact .lst ((adj_in (by simp)).trans h) (r.frozen.mono (adj_mono (fun b hb => by simp [hb]) k))
  | _, _, _, .dK (a := a) (fp := fp) h f n r na => by
    have k : ∀ b ∈ a :: fp, F b = none := fun b hb => by
      rcases List.mem_cons.mp hb with rfl | hb
      · exact f
      · exact (r.own b hb).2.1
    simp only [PV.fz]
    exact .dK ((adj_in (by simp)).trans h) (r.frozen.mono (adj_mono (fun b hb => by simp [hb]) k))
  | _, _, _, .dT (a := a) (fp := fp) h f n r na => by
    have k : ∀ b ∈ a :: fp, F b = none := fun b hb => by
      rcases List.mem_cons.mp hb with rfl | hb
      · exact f
      · exact (r.own b hb).2.1
    simp only [PV.fz]
    exact .dT ((adj_in (by simp)).trans h) (r.frozen.mono (adj_mono (fun b hb => by simp [hb]) k))
theorem Ros.frozen {W : Wd} {F H : Hp} : ∀ {vs : List V} {xs : List PV} {fp : List Addr}, Ros W F H vs xs fp → Rps W (adj F H fp) vs (PV.fzs xs)
  | _, _, _, .nil => .nil
  | _, _, _, .cons (f := f) (g := g) r t d => by
    have k : ∀ b ∈ f ++ g, F b = none := fun b hb => by
      rcases List.mem_append.mp hb with hb | hb
      · exact (r.own b hb).2.1
      · exact (t.own b hb).2.1
    simp only [PV.fzs]
    exact .cons (r.frozen.mono (adj_mono (fun b hb => by simp [hb]) k)) (t.frozen.mono (adj_mono (fun b hb => by simp [hb]) k))
end
theorem adj_np {W : Wd} {F H : Hp} {fp : List Addr} (s : Same F H) (p : F W.pen = none) (nt : ∀ a ps, F a ≠ some (.tbl ps)) (h : ∀ a ∈ fp, a ≠ W.pen ∧ ∀ ps, H a ≠ some (.tbl ps)) : Same (adj F H fp) (np W H) := fun a o e => by
  by_cases z : a ∈ fp
  · rw [adj_in z] at e
    exact np_ne (h a z).1 e fun ps q => (h a z).2 ps (q ▸ e)
  · rw [adj_out z] at e
    refine np_ne (fun z => ?_) (s a o e) fun ps q => nt a ps (q ▸ e)
    rw [z, p] at e
    cases e
/-- read where it stands -/
theorem Ro.read {W : Wd} {F H : Hp} {v : V} {x : PV} {fp : List Addr} (r : Ro W F H v x fp) (s : Same F H) (p : F W.pen = none) (nt : ∀ a ps, F a ≠ some (.tbl ps)) : Rp W (np W H) v x.fz :=
  r.frozen.mono (adj_np s p nt fun a h => ⟨(r.own a h).2.2, fun ps q => by
    obtain ⟨⟨o, e, n⟩, _⟩ := r.own a h
    rw [e] at q
    exact n.1 ps (Option.some.inj q)⟩)

/-! ### the pen -/
def penKvs (l : Addr) (at_ digits count fold : Int) : List (Key × V) :=
  [(.inr "cells", .ref l), (.inr "at", .int at_), (.inr "digits", .int digits), (.inr "count", .int count), (.inr "fold", .int fold)]
/-- the pen stands, its cells frozen -/
structure PenOk (W : Wd) (F H : Hp) : Prop where
  ex : ∃ (l : Addr) (cells : List Int) (at_ digits count fold : Int), H W.pen = some (.dK (penKvs l at_ digits count fold)) ∧ SqL W.K F l (cells.map V.int) ∧ cells.length ≤ 63 ∧ 0 ≤ at_ ∧ 0 ≤ digits ∧ 0 ≤ fold ∧ fold < 2147483647 ∧ 0 ≤ count ∧ at_ ≤ 63
  out : F W.pen = none

/-- the base of all: F the frozen, H all that is tracked -/
structure Good (W : Wd) (F H : Hp) : Prop where
  sub : Same F H
  pen : PenOk W F H
  nt : ∀ a ps, F a ≠ some (.tbl ps)
  tab : LamX.Tabs W.T H
  tin : ∀ a ps, H a = some (.tbl ps) → ∃ q, (a, q) ∈ W.T
structure Ext (W : Wd) (F H F' H' : Hp) : Prop where
  f : Same F F'
  h : ∀ a o, a ≠ W.pen → H a = some o → (∀ ps, o ≠ .tbl ps) → H' a = some o
  t : ∀ a ps, H a = some (.tbl ps) → ∃ qs, H' a = some (.tbl qs)
  n : ∀ a, F' a ≠ none → F a ≠ none ∨ H a = none
  g : Good W F' H'
theorem PenOk.there {W : Wd} {F H : Hp} (p : PenOk W F H) : ∃ o, H W.pen = some o := let ⟨_, _, _, _, _, _, h, _⟩ := p.ex; ⟨_, h⟩
theorem Ext.refl {W : Wd} {F H : Hp} (g : Good W F H) : Ext W F H F H := ⟨fun _ _ e => e, fun _ _ _ e _ => e, fun _ ps e => ⟨ps, e⟩, fun _ h => .inl h, g⟩
/-- all but the pen and the tables stay, so what is there stays there -/
theorem Ext.there {W : Wd} {F H F' H' : Hp} (e : Ext W F H F' H') {a : Addr} {o : HO} (h : H a = some o) : ∃ u, H' a = some u := by
  by_cases z : a = W.pen
  · obtain ⟨u, hu⟩ := e.g.pen.there
    exact ⟨u, z ▸ hu⟩
  · by_cases t : ∃ ps, o = .tbl ps
    · obtain ⟨ps, rfl⟩ := t
      obtain ⟨qs, hq⟩ := e.t a ps h
      exact ⟨_, hq⟩
    · exact ⟨o, e.h a o z h fun ps q => t ⟨ps, q⟩⟩
/-- fresh behind is fresh ahead -/
theorem Ext.free {W : Wd} {F H F' H' : Hp} (e : Ext W F H F' H') {a : Addr} (h : H' a = none) : H a = none := by
  cases q : H a with
  | none => rfl
  | some o =>
    obtain ⟨u, hu⟩ := e.there q
    rw [hu] at h
    cases h
theorem Ext.trans {W : Wd} {F H F1 H1 F2 H2 : Hp} (a : Ext W F H F1 H1) (b : Ext W F1 H1 F2 H2) : Ext W F H F2 H2 where
  f := fun x o e => b.f x o (a.f x o e)
  h := fun x o n e t => b.h x o n (a.h x o n e t) t
  t := fun x ps e => let ⟨qs, h⟩ := a.t x ps e; b.t x qs h
  n := fun x h => by
    rcases b.n x h with h | h
    · exact a.n x h
    · exact .inr (a.free h)
  g := b.g
theorem Ext.own {W : Wd} {F H F' H' : Hp} (e : Ext W F H F' H') {a : Addr} {o : HO} (h : H a = some o) (f : F a = none) (n : a ≠ W.pen) (t : ∀ ps, o ≠ .tbl ps := by intro _ z; cases z) : H' a = H a ∧ F' a = none := by
  refine ⟨(e.h a o n h t).trans h.symm, ?_⟩
  cases q : F' a with
  | none => rfl
  | some u =>
    rcases e.n a (by rw [q]; simp) with z | z
    · exact absurd f z
    · rw [h] at z
      cases z
theorem Ro.ext {W : Wd} {F H F' H' : Hp} (e : Ext W F H F' H') {v : V} {x : PV} {fp : List Addr} (r : Ro W F H v x fp) : Ro W F' H' v x fp :=
  r.carry e.f fun a h => let ⟨⟨o, q, t⟩, f, n⟩ := r.own a h; e.own q f n t.1
theorem Ros.ext {W : Wd} {F H F' H' : Hp} (e : Ext W F H F' H') {v : List V} {x : List PV} {fp : List Addr} (r : Ros W F H v x fp) : Ros W F' H' v x fp :=
  r.carry e.f fun a h => let ⟨⟨o, q, t⟩, f, n⟩ := r.own a h; e.own q f n t.1
theorem Ext.np {W : Wd} {F H F' H' : Hp} (e : Ext W F H F' H') : Same (np W H) (np W H') := fun a o q => by
  obtain ⟨z, h, t⟩ := np_some q
  exact np_ne z (e.h a o z h t) t
theorem Good.np {W : Wd} {F H : Hp} (g : Good W F H) : Same F (np W H) := fun a o q => by
  refine np_ne (fun z => ?_) (g.sub a o q) fun ps z => g.nt a ps (z ▸ q)
  rw [z, g.pen.out] at q
  cases q
/-- the tables stay: all stays but at p, where something else stands -/
theorem tabs_keep {T : List (Addr × Str)} {H H' : Hp} {p : Addr} {o : HO} (t : LamX.Tabs T H) (hp : H p = some o) (n : ∀ ps, o ≠ .tbl ps) (m : ∀ c q, o ≠ LamX.CodeO c q) (k : ∀ b u, b ≠ p → H b = some u → H' b = some u) : LamX.Tabs T H' := fun x hx => by
  obtain ⟨ps, h1, h2, h3⟩ := t x hx
  refine ⟨ps, k _ _ (fun z => ?_) h1, h2, fun pos cv hc => ?_⟩
  · rw [z, hp] at h1
    exact n ps (Option.some.inj h1)
  · obtain ⟨c, e1, e2⟩ := h3 pos cv hc
    refine ⟨c, e1, k _ _ (fun z => ?_) e2⟩
    rw [z, hp] at e2
    exact m _ _ (Option.some.inj e2)
/-- what is written is no table -/
theorem tin_upd {T : List (Addr × Str)} {H : Hp} {a : Addr} {o : HO} (t : ∀ a ps, H a = some (.tbl ps) → ∃ q, (a, q) ∈ T) (no : ∀ ps, o ≠ .tbl ps) : ∀ b ps, upd H a o b = some (.tbl ps) → ∃ q, (b, q) ∈ T := fun b ps e => by
  by_cases z : b = a
  · rw [z, upd_same] at e
    exact absurd (Option.some.inj e) (no ps)
  · rw [upd_ne z] at e
    exact t b ps e
/-- an object is laid: of a new address -/
theorem Good.laid {W : Wd} {F H : Hp} (g : Good W F H) {a : Addr} {o : HO} (h : H a = none) (no : ∀ ps, o ≠ .tbl ps := by intro _ z; cases z) : Ext W F H F (upd H a o) := by
  have k : ∀ b u, H b = some u → upd H a o b = some u := fun b u e => by
    rw [upd_ne (ne_of_none e h)]
    exact e
  refine ⟨fun _ _ e => e, fun b u _ e _ => k b u e, fun b ps e => ⟨ps, k b _ e⟩, fun _ h => .inl h, ⟨fun b u e => k b u (g.sub b u e), ?_, g.nt, g.tab.ext k, fun b ps e => tin_upd g.tin no b ps e⟩⟩
  obtain ⟨⟨l, cs, x1, x2, x3, x4, q, r⟩, out⟩ := g.pen
  exact ⟨⟨l, cs, x1, x2, x3, x4, k _ _ q, r⟩, out⟩
theorem PenOk.mono {W : Wd} {F F' H : Hp} (p : PenOk W F H) (e : Same F F') (h : F' W.pen = none) : PenOk W F' H := by
  obtain ⟨⟨l, cs, x1, x2, x3, x4, q, r, k⟩, out⟩ := p
  exact ⟨⟨l, cs, x1, x2, x3, x4, q, Same.seq e r, k⟩, h⟩
/-- .. and frozen -/
theorem Good.laidF {W : Wd} {F H : Hp} (g : Good W F H) {a : Addr} {o : HO} (h : H a = none) (no : ∀ ps, o ≠ .tbl ps := by intro _ z; cases z) : Ext W F H (upd F a o) (upd H a o) := by
  have fa : F a = none := by
    cases q : F a with
    | none => rfl
    | some u =>
      rw [g.sub a u q] at h
      cases h
  have e := g.laid (o := o) h no
  have s : Same F (upd F a o) := fun b u q => by
    rw [upd_ne (ne_of_none q fa)]
    exact q
  have np : W.pen ≠ a := by
    intro z
    obtain ⟨u, hu⟩ := g.pen.there
    rw [z, h] at hu
    cases hu
  refine ⟨s, e.h, e.t, fun b hb => ?_, ⟨fun b u q => ?_, e.g.pen.mono s ?_, fun b ps q => ?_, e.g.tab, e.g.tin⟩⟩
  · by_cases z : b = a
    · exact .inr (z ▸ h)
    · rw [upd_ne z] at hb
      exact .inl hb
  · by_cases z : b = a
    · subst z
      rw [upd_same] at q ⊢
      exact q
    · rw [upd_ne z] at q ⊢
      exact g.sub b u q
  · rw [upd_ne np]
    exact g.pen.out
  · by_cases z : b = a
    · rw [z, upd_same] at q
      exact no ps (Option.some.inj q)
    · rw [upd_ne z] at q
      exact g.nt b ps q
/-- what is owned is frozen -/
theorem Good.freeze {W : Wd} {F H : Hp} (g : Good W F H) {fp : List Addr} (h : ∀ a ∈ fp, F a = none ∧ a ≠ W.pen) (t : ∀ a ∈ fp, ∀ ps, H a ≠ some (.tbl ps)) : Good W (adj F H fp) H := by
  have s : Same F (adj F H fp) := adj_same fun a z => (h a z).1
  refine ⟨fun b u q => ?_, g.pen.mono s ?_, fun b ps q => ?_, g.tab, g.tin⟩
  · by_cases z : b ∈ fp
    · rwa [adj_in z] at q
    · rw [adj_out z] at q
      exact g.sub b u q
  · rw [adj_out (fun z => (h _ z).2 rfl)]
    exact g.pen.out
  · by_cases z : b ∈ fp
    · rw [adj_in z] at q
      exact t b z ps q
    · rw [adj_out z] at q
      exact g.nt b ps q
/-- frozen: F0, H0 ahead of its making -/
theorem Ext.freeze {W : Wd} {F0 H0 F H : Hp} (e : Ext W F0 H0 F H) {fp : List Addr} (h : ∀ a ∈ fp, F a = none ∧ a ≠ W.pen) (n : ∀ a ∈ fp, H0 a = none) (t : ∀ a ∈ fp, ∀ ps, H a ≠ some (.tbl ps)) : Ext W F0 H0 (adj F H fp) H where
  f := fun a o q => adj_same (fun a z => (h a z).1) a o (e.f a o q)
  h := e.h
  t := e.t
  n := fun a q => by
    by_cases z : a ∈ fp
    · exact .inr (n a z)
    · rw [adj_out z] at q
      exact e.n a q
  g := e.g.freeze h t

/-! ### the slots -/
abbrev Loc := List (Option PV)
inductive EnvR (W : Wd) (F H : Hp) : L2.St → Loc → List Addr → Prop
  | nil : EnvR W F H [] [] []
  | none {o : Option V} {σ : L2.St} {ρ : Loc} {fp : List Addr} : EnvR W F H σ ρ fp → EnvR W F H (o :: σ) (.none :: ρ) fp
  | some {v : V} {x : PV} {σ : L2.St} {ρ : Loc} {f g : List Addr} : Ro W F H v x f → EnvR W F H σ ρ g → (∀ a ∈ f, a ∉ g) → EnvR W F H (.some v :: σ) (.some x :: ρ) (f ++ g)
theorem EnvR.length {W : Wd} {F H : Hp} : ∀ {σ : L2.St} {ρ : Loc} {fp : List Addr}, EnvR W F H σ ρ fp → σ.length = ρ.length
  | _, _, _, .nil => rfl
  | _, _, _, .none t => by simp [t.length]
  | _, _, _, .some _ t _ => by simp [t.length]
theorem EnvR.own {W : Wd} {F H : Hp} : ∀ {σ : L2.St} {ρ : Loc} {fp : List Addr}, EnvR W F H σ ρ fp → ∀ a ∈ fp, (∃ o, H a = .some o ∧ PlO o) ∧ F a = .none ∧ a ≠ W.pen
  | _, _, _, .nil, a, h => by simp at h
  | _, _, _, .none t, a, h => t.own a h
  | _, _, _, .some r t _, a, h => by
    rcases List.mem_append.mp h with h | h
    · exact r.own a h
    · exact t.own a h
theorem EnvR.carry {W : Wd} {F H F' H' : Hp} (e : Same F F') : ∀ {σ : L2.St} {ρ : Loc} {fp : List Addr}, EnvR W F H σ ρ fp → (∀ a ∈ fp, H' a = H a ∧ F' a = .none) → EnvR W F' H' σ ρ fp
  | _, _, _, .nil, _ => .nil
  | _, _, _, .none t, k => .none (t.carry e k)
  | _, _, _, .some r t d, k => .some (r.carry e fun b hb => k b (by simp [hb])) (t.carry e fun b hb => k b (by simp [hb])) d
theorem EnvR.ext {W : Wd} {F H F' H' : Hp} (e : Ext W F H F' H') {σ : L2.St} {ρ : Loc} {fp : List Addr} (r : EnvR W F H σ ρ fp) : EnvR W F' H' σ ρ fp :=
  r.carry e.f fun a h => let ⟨⟨o, q, t⟩, f, n⟩ := r.own a h; e.own q f n t.1
theorem EnvR.get {W : Wd} {F H : Hp} : ∀ {σ : L2.St} {ρ : Loc} {fp : List Addr} {i : Nat} {x : PV}, EnvR W F H σ ρ fp → ρ[i]? = .some (.some x) → ∃ v f, σ[i]? = .some (.some v) ∧ Ro W F H v x f ∧ ∀ a ∈ f, a ∈ fp
  | _, _, _, _, _, .nil, e => by simp at e
  | _, _, _, 0, _, .none _, e => by simp at e
  | _, _, _, 0, _, .some r _ _, e => by
    simp at e
    subst e
    exact ⟨_, _, rfl, r, fun a h => by simp [h]⟩
  | _, _, _, i + 1, x, .none t, e => by
    obtain ⟨v, f, h1, h2, h3⟩ := EnvR.get (i := i) (x := x) t (by simpa using e)
    exact ⟨v, f, by simpa using h1, h2, h3⟩
  | _, _, _, i + 1, x, .some _ t _, e => by
    obtain ⟨v, f, h1, h2, h3⟩ := EnvR.get (i := i) (x := x) t (by simpa using e)
    exact ⟨v, f, by simpa using h1, h2, fun a h => by simp [h3 a h]⟩

theorem EnvR.nodes {W : Wd} {F H : Hp} {σ : L2.St} {ρ : Loc} {fp : List Addr} (r : EnvR W F H σ ρ fp) {i : Nat} (h : ρ[i]? = .some .none) : i < σ.length := by
  rw [r.length]
  exact (List.getElem?_eq_some_iff.mp h).1
/-- a slot forgotten -/
theorem EnvR.drop {W : Wd} {F H : Hp} : ∀ {σ : L2.St} {ρ : Loc} {fp : List Addr} (i : Nat) (o : Option V), EnvR W F H σ ρ fp → ∃ fq, EnvR W F H (σ.set i o) (ρ.set i .none) fq ∧ ∀ a ∈ fq, a ∈ fp
  | _, _, _, _, _, .nil => ⟨[], .nil, fun _ h => h⟩
  | _, _, _, 0, _, .none t => ⟨_, .none t, fun _ h => h⟩
  | _, _, _, 0, _, .some _ t _ => ⟨_, .none t, fun a h => by simp [h]⟩
  | _, _, _, i + 1, o, .none t => by
    obtain ⟨fq, h, k⟩ := t.drop i o
    exact ⟨fq, .none h, k⟩
  | _, _, _, i + 1, o, .some r t d => by
    obtain ⟨fq, h, k⟩ := t.drop i o
    exact ⟨_, .some r h (fun a z y => d a z (k a y)), fun a z => by
      rcases List.mem_append.mp z with z | z
      · simp [z]
      · simp [k a z]⟩
/-- a slot stored: a fresh value -/
theorem EnvR.put {W : Wd} {F H : Hp} {v : V} {x : PV} {f : List Addr} (r : Ro W F H v x f) : ∀ {σ : L2.St} {ρ : Loc} {fp : List Addr} (i : Nat), EnvR W F H σ ρ fp → (∀ a ∈ f, a ∉ fp) → ∃ fq, EnvR W F H (σ.set i (.some v)) (ρ.set i (.some x)) fq ∧ ∀ a ∈ fq, a ∈ f ∨ a ∈ fp
  | _, _, _, _, .nil, _ => ⟨[], .nil, fun _ h => by simp at h⟩
  | _, _, _, 0, .none t, d => ⟨_, .some r t d, fun a h => List.mem_append.mp h⟩
  | _, _, _, 0, .some _ t _, d => ⟨_, .some r t (fun a h z => d a h (by simp [z])), fun a h => by
      rcases List.mem_append.mp h with h | h
      · exact .inl h
      · exact .inr (by simp [h])⟩
  | _, _, _, i + 1, .none t, d => by
    obtain ⟨fq, h, k⟩ := EnvR.put r i t d
    exact ⟨fq, .none h, k⟩
  | _, _, _, i + 1, .some q t e, d => by
    obtain ⟨fq, h, k⟩ := EnvR.put r i t (fun a z y => d a z (by simp [y]))
    refine ⟨_, .some q h (fun a z y => ?_), fun a z => ?_⟩
    · rcases k a y with y | y
      · exact d a y (by simp [z])
      · exact e a z y
    · rcases List.mem_append.mp z with z | z
      · exact .inr (by simp [z])
      · rcases k a z with z | z
        · exact .inl z
        · exact .inr (by simp [z])
/-- a slot taken out: its value's own, the others' -/
theorem EnvR.split {W : Wd} {F H : Hp} : ∀ {σ : L2.St} {ρ : Loc} {fp : List Addr} {i : Nat} {x : PV}, EnvR W F H σ ρ fp → ρ[i]? = .some (.some x) →
    ∃ v f g, σ[i]? = .some (.some v) ∧ Ro W F H v x f ∧ (∀ o, EnvR W F H (σ.set i o) (ρ.set i .none) g) ∧ (∀ a ∈ f, a ∉ g) ∧ ∀ a, a ∈ fp ↔ a ∈ f ∨ a ∈ g
  | _, _, _, _, _, .nil, e => by simp at e
  | _, _, _, 0, _, .none _, e => by simp at e
  | _, _, _, 0, _, .some r t d, e => by
    simp at e
    subst e
    exact ⟨_, _, _, rfl, r, fun _ => .none t, d, fun a => List.mem_append⟩
  | _, _, _, i + 1, x, .none t, e => by
    obtain ⟨v, f, g, h1, h2, h3, h4, h5⟩ := EnvR.split (i := i) (x := x) t (by simpa using e)
    exact ⟨v, f, g, by simpa using h1, h2, fun o => .none (h3 o), h4, h5⟩
  | _, _, _, i + 1, x, .some (f := q) r t d, e => by
    obtain ⟨v, f, g, h1, h2, h3, h4, h5⟩ := EnvR.split (i := i) (x := x) t (by simpa using e)
    refine ⟨v, f, q ++ g, by simpa using h1, h2, fun o => .some r (h3 o) (fun a z y => d a z ((h5 a).mpr (.inr y))), fun a z y => ?_, fun a => ?_⟩
    · rcases List.mem_append.mp y with y | y
      · exact d a y ((h5 a).mpr (.inl z))
      · exact h4 a z y
    · rw [List.mem_append, List.mem_append, h5 a]
      constructor
      · rintro (h | h | h)
        · exact .inr (.inl h)
        · exact .inl h
        · exact .inr (.inr h)
      · rintro (h | h | h)
        · exact .inr (.inl h)
        · exact .inl h
        · exact .inr (.inr h)
end FS

set_option Elab.async false
set_option linter.all false
set_option maxRecDepth 100000
set_option maxHeartbeats 8000000
namespace FS
open PySem PySem.Spec PyProof.Rows L2

/-! ### defs that are entered with no guard above them -/
def Gd (A : Around) : Prop := A.guards = some []
structure FnG (P : Program) (w : World) (K : PySem.W.Frag) (mg : Str → Option Value) (base : Heap) (C : CXT) (k : Nat) (f : Addr) (fd : FuncData) (ps : List Str) (sp : Sp) : Prop where
  len : ∀ vs H Q E, sp vs H Q E → vs.length = ps.length
  run : ∀ (A : Around) (outer : List Env) (s : Shared) (H : Hp) (args : Args) (us : List Value) (vs : List V) (Q : VK) (E : XK), Gd A → Room k A → Env0 P w K mg base A outer s H → BindsTo s fd args (ps.zip us) → Vals vs us → sp vs H Q E →
    codeAny (model P w) A (.call (.ref f) args) (CR C outer P w H s Q E) s
section
variable {P : Program} {w : World} {K : PySem.W.Frag} {mg : Str → Option Value} {base : Heap} {C : CXT} {j k : Nat} {f : Addr} {fd : FuncData} {ps : List Str} {sp sp' : Sp}
theorem FnG.ofOk (F : FnOk P w K mg base C k f fd ps sp) : FnG P w K mg base C k f fd ps sp := ⟨F.len, fun A outer s H args us vs Q E _ hr => F.run A outer s H args us vs Q E hr⟩
theorem FnG.mono (F : FnG P w K mg base C j f fd ps sp) (h : j ≤ k) : FnG P w K mg base C k f fd ps sp := ⟨F.len, fun A outer s H args us vs Q E hg hr => F.run A outer s H args us vs Q E hg (hr.mono h)⟩
theorem FnG.imp (F : FnG P w K mg base C k f fd ps sp) (h : ∀ vs H Q E, sp' vs H Q E → sp vs H Q E) : FnG P w K mg base C k f fd ps sp' :=
  ⟨fun vs H Q E q => F.len vs H Q E (h _ _ _ _ q), fun A outer s H args us vs Q E hg hr he hb hv hs => F.run A outer s H args us vs Q E hg hr he hb hv (h _ _ _ _ hs)⟩
end
section
variable {X : Cx} {C : CXT} {k : Nat} {f : Addr} {fd : FuncData} {ps : List Str} {sp : Sp} {E : XK} {x : Str} {p pos : Pos} {e : Expr} {es : List Expr} {t : TA}
theorem run_fnG {pins : List (Addr × Obj)} {σ : L2.St} {H : Hp} {s : Shared} {Q : VK} {us : List Value} {vs : List V} (F : FnG X.prog X.w X.K X.mg X.base (L2.CX X.prog X.w) k f fd ps sp) (gd : Gd X.A) (hr : Room k X.A) (hb : Binds X.K fd ps []) (hx : Passes (L2.CX X.prog X.w) X E)
    (I : Inv X pins σ H s) (r : Vals vs us) (h : sp vs H Q E) : wpAny (model X.prog X.w) X.A (call (.ref f) us) (EP X pins σ Q) X.xe s := by
  have hl : (us ++ []).length = ps.length := by
    rw [List.append_nil, ← r.length]
    exact F.len _ _ _ _ h
  have bb := hb s us I.kIn hl
  rw [List.append_nil] at bb
  refine wpAny_call (codeAny_mono (F.run X.A X.stack s H ⟨us, []⟩ us vs Q E gd hr I.env0 bb r h) fun r s' hq => ?_)
  cases r with
  | error er => exact hx pins σ H s er s' I hq
  | ok fl => cases fl with
    | ret u => exact I.after hq
    | _ => exact False.elim hq
theorem pe_callG (F : FnG X.prog X.w X.K X.mg X.base (L2.CX X.prog X.w) k f fd ps sp) (gd : Gd X.A) (hr : Room k X.A) (hg : Gl X x) (hm : X.mg x = some (.ref f)) (hk : PySem.W.keepIn X.K (.ref f) = true) (hb : Binds X.K fd ps []) (hx : Passes (L2.CX X.prog X.w) X E)
    (ha : PA X (e :: es) t) (hdb : (x == ("__debug__" : Str)) = false) (he : starEach (e :: es) X.env = (false, eval e X.env) :: starEach es X.env) (hpl : (backTo pos (starEach es X.env)).any (·.1) = false) :
    PE X (.Call (.Name x p) (e :: es) [] pos) (fun σ H Q => t σ H fun vs H1 => sp vs H1 Q E) :=
  ⟨fun pins s σ H Q I h => wpAny_Call_Name_kw (ld_glob I hg hm (PySem.W.callWith_K (h₀ := X.base) I.ok.mod.kin hk (thn (ha.run pos pins s σ H _ I h) fun us s1 ⟨vs, H1, I1, r, q⟩ => ⟨I1.kIn, run_fnG F gd hr hb hx I1 r q⟩) he hpl) hdb)⟩
theorem pe_call0G (F : FnG X.prog X.w X.K X.mg X.base (L2.CX X.prog X.w) k f fd ps sp) (gd : Gd X.A) (hr : Room k X.A) (hg : Gl X x) (hm : X.mg x = some (.ref f)) (hk : PySem.W.keepIn X.K (.ref f) = true) (hb : Binds X.K fd ps []) (hx : Passes (L2.CX X.prog X.w) X E)
    (hdb : (x == ("__debug__" : Str)) = false) : PE X (.Call (.Name x p) [] [] pos) (fun σ H Q => sp [] H Q E) :=
  ⟨fun pins s σ H Q I h => wpAny_Call_Name_kw (ld_glob I hg hm (PySem.W.callWith_K0 I.kIn hk (run_fnG (us := []) F gd hr hb hx I .nil h)) hdb)⟩
end
/-- a def by its body -/
theorem fn_ofG {C : CXT} {P : Program} {w : World} {K : PySem.W.Frag} {mg : Str → Option Value} {base : Heap} {k : Nat} {f : Addr} {x qual : Str} {params : Arguments} {body : List Stmt} {scope : Scope} {fd : FuncData} {N ps : List Str} {sp : Sp} (F : FunD K x qual params body scope [] [] f fd) (S : FnScope N ps scope)
    (len : ∀ vs H Q E, sp vs H Q E → vs.length = ps.length)
    (hbody : ∀ (cdv : Value), fd.code = cdv → ∀ (A : Around) (outer : List Env) (s : Shared) (H : Hp) (vs : List V) (Q : VK) (E : XK), Gd (A.deeper (envOfC qual scope s.heap.objs.size f cdv)) → Room k (A.deeper (envOfC qual scope s.heap.objs.size f cdv)) → sp vs H Q E →
      ∃ t, PSs (cxOf C P w K mg base N qual scope f cdv A outer s H E) body t ∧ t { nx := fun _ H' => Q .non H', rt := Q } (L2.start N vs) H) : FnG P w K mg base C (k + 1) f fd ps sp := by
  obtain ⟨oc, od, dV, kV, doc, pm, an, cdv, ct, osl, rfl, lk, hcd, _, _⟩ := F.ex
  refine ⟨len, fun A outer s H args us vs Q E hg hr e0 hb r hsp => ?_⟩
  have hl := len _ _ _ _ hsp
  have old : ∀ b o, base.get? b = some o → s.heap.get? b = some o := fun b o e => (e0.bs b o e).1
  have kin : K.In s.heap := e0.mod.kin.keeps old
  have hkind : ∀ y ∈ ps.zip us, scope.names.lookup y.1 = some .local ∨ (scope.names.lookup y.1 = some .cell ∧ ((cellsFrom (s.heap.objs.size + 1) scope.names []).lookup y.1).isSome = true) := by
    rintro ⟨n, v⟩ hy
    exact (S.par n (List.of_mem_zip hy).1).imp id fun q => ⟨q, PySem.W.cellsFrom_some _ _ _ (.inl q)⟩
  refine codeAny_call_function hr.depth (kin _ _ lk) rfl S.co S.gen rfl (PySem.W.codeRec_of kin hcd) (hb _ _ _ _ (wpAny_newFunctionEnv_cells S.kind hkind fun env he s1 z => ?_))
  subst he
  obtain ⟨t, ht, hq⟩ := hbody cdv rfl A outer s H vs Q E hg (hr.deeper _) hsp
  refine ⟨(e0.mod.nolimit.keeps old).keeps z.toInCall.keep, codeAny_func (wpAny_mono (ht.run [] s1 (L2.start N vs) H _ (inv_start S hr.hd e0 hl r z) hq) (fun fl s' hs => ?_) fun e s' hs => hs)⟩
  cases fl with
  | ret u => exact let ⟨v, σ', H', J, rv, q⟩ := hs; ⟨v, H', J.os, J.bare, J.base, J.hok, rv, q⟩
  | next => exact let ⟨σ', H', J, q⟩ := hs; ⟨V.non, H', J.os, J.bare, J.base, J.hok, rfl, q⟩
  | brk => exact let ⟨_, _, _, q⟩ := hs; False.elim q
  | cont => exact let ⟨_, _, _, q⟩ := hs; False.elim q
end FS

set_option Elab.async false
set_option linter.all false
set_option maxRecDepth 100000
set_option maxHeartbeats 4000000
namespace FS
open PySem PySem.Spec PyProof.Rows L2

/-! ### results of expressions: borrowed (a slot's own is in it) or not -/
abbrev Rv := Bool × PV
/-- for storing: stable or one's own -/
def mov (r : Rv) : Option PV := if r.1 && !r.2.st then none else some r.2
/-- frozen for keeping -/
def take (r : Rv) : Option PV := if r.1 && !r.2.st then none else some r.2.fz
/-- read, its items to be kept -/
def shal (r : Rv) : Option PV := match r with
  | (false, x) => some x.fz
  | (true, .lst true xs) => if xs.all PV.st then some (.lst false xs) else none
  | (true, .dct true T ks vs) => if vs.all PV.st then some (.dct false T ks vs) else none
  | (true, x) => some x
def Tr.ofO {α : Type} : Option α → Tr α
  | some a => .ok a
  | none => .bad

mutual
def PV.data : PV → Option PyData
  | .non => some .none
  | .bl b => some (.bool b)
  | .int i => some (.int i)
  | .str s => some (.str s)
  | .tup xs => (PV.datas xs).map .tuple
  | .lst _ xs => (PV.datas xs).map .list
  | _ => none
def PV.datas : List PV → Option (List PyData)
  | [] => some []
  | x :: xs => match PV.data x, PV.datas xs with
    | some d, some ds => some (d :: ds)
    | _, _ => none
end
def PV.sdata (x : PV) : Option PyData := match x.data with
  | some d => if d.depth ≤ 64 then some d else none
  | none => none
def intsP : List PV → Option (List Int)
  | [] => some []
  | .int i :: xs => (intsP xs).map (i :: ·)
  | _ => none
def boolsP : List PV → Option (List Bool)
  | [] => some []
  | .bl b :: xs => (boolsP xs).map (b :: ·)
  | _ => none
def keyOf : PV → Option Key
  | .int i => some (.inl i)
  | .str s => some (.inr s)
  | _ => none
def keysOf : List PV → Option (List Key)
  | [] => some []
  | x :: xs => match keyOf x, keysOf xs with
    | some k, some ks => some (k :: ks)
    | _, _ => none
/-- equal as keys (kinds apart) -/
def PV.keq : PV → PV → Bool
  | .int i, .int j => decide (i = j)
  | .str s, .str t => decide (s = t)
  | .tup xs, .tup ys => (match keysOf xs, keysOf ys with
    | some a, some b => decide (a = b)
    | _, _ => false)
  | _, _ => false
def isKey (T : Bool) (x : PV) : Bool := match T, x with
  | false, .int _ => true
  | false, .str _ => true
  | true, .tup xs => (keysOf xs).isSome
  | _, _ => false
/-- the value at a key -/
def getP : List PV → List PV → PV → Option PV
  | k :: ks, v :: vs, x => if PV.keq k x then some v else getP ks vs x
  | _, _, _ => none
def putV : List PV → List PV → PV → PV → List PV
  | k :: ks, v :: vs, x, y => (if PV.keq k x then y else v) :: putV ks vs x y
  | _, _, _, _ => []
def putP (ks vs : List PV) (x y : PV) : List PV × List PV :=
  if ks.any (PV.keq · x) then (ks, putV ks vs x y) else (ks ++ [x], vs ++ [y])

/-! ### operations -/
inductive BOp where
  | add | sub | mul | fdiv | mod | pow
inductive COp where
  | lt | le | gt | ge | eq | ne | in_ | notin
def mulOk (i j : Int) : Bool := decide (i.natAbs.log2 + j.natAbs.log2 < 1000000)
def binS (op : BOp) (x y : PV) : Option PV := match op, x, y with
  | .add, .int i, .int j => some (.int (i + j))
  | .sub, .int i, .int j => some (.int (i - j))
  | .mul, .int i, .int j => if mulOk i j then some (.int (i * j)) else none
  | .fdiv, .int i, .int j => if 0 < j ∧ j.natAbs.log2 < 9000 then some (.int (i / j)) else none
  | .mod, .int i, .int j => if 0 < j then some (.int (i % j)) else none
  | .pow, .int i, .int j => if 0 ≤ j ∧ j ≤ 1000000 ∧ i.natAbs < 2 ^ 64 then some (.int (i ^ j.toNat)) else none
  | .add, .str s, .str t => if s.length + t.length ≤ sizeLine then some (.str (s ++ t)) else none
  | .add, .tup xs, .tup ys => if xs.length + ys.length ≤ sizeLine then some (.tup (xs ++ ys)) else none
  | .add, .lst _ xs, .lst _ ys => if xs.length + ys.length ≤ sizeLine then some (.lst true (xs ++ ys)) else none
  | .mul, .lst _ xs, .int k => if -(2 ^ 63) ≤ k ∧ k < 2 ^ 63 ∧ xs.length * k.toNat ≤ sizeLine then some (.lst true (List.replicate k.toNat xs).flatten) else none
  | .mul, .tup xs, .int k => if xs ≠ [] ∧ 1 ≤ k ∧ k ≤ 1000 ∧ xs.length ≤ 1000 then some (.tup (List.replicate k.toNat xs).flatten) else none
  | _, _, _ => none
def cmpS (op : COp) (x y : PV) : Option Bool := match op, x, y with
  | .lt, .int i, .int j => some (decide (i < j))
  | .le, .int i, .int j => some (decide (i ≤ j))
  | .gt, .int i, .int j => some (decide (j < i))
  | .ge, .int i, .int j => some (decide (j ≤ i))
  | .in_, x, .dct _ T ks vs => if isKey T x then some (getP ks vs x).isSome else none
  | .notin, x, .dct _ T ks vs => if isKey T x then some (!(getP ks vs x).isSome) else none
  | .eq, x, y => (match x.sdata, y.sdata with
    | some d, some e => some (PyData.eqv d e)
    | _, _ => none)
  | .ne, x, y => (match x.sdata, y.sdata with
    | some d, some e => some (!PyData.eqv d e)
    | _, _ => none)
  | .in_, x, .lst _ ys => (match x.sdata, (PV.lst false ys).sdata with
    | some d, some (.list es) => some (es.any fun z => PyData.eqv z d)
    | _, _ => none)
  | .notin, x, .lst _ ys => (match x.sdata, (PV.lst false ys).sdata with
    | some d, some (.list es) => some (!es.any fun z => PyData.eqv z d)
    | _, _ => none)
  | .in_, x, .tup ys => (match x.sdata, (PV.tup ys).sdata with
    | some d, some (.tuple es) => some (es.any fun z => PyData.eqv z d)
    | _, _ => none)
  | .notin, x, .tup ys => (match x.sdata, (PV.tup ys).sdata with
    | some d, some (.tuple es) => some (!es.any fun z => PyData.eqv z d)
    | _, _ => none)
  | _, _, _ => none
/-- a value's truth -/
def truS : PV → Option Bool
  | .non => some false
  | .bl b => some b
  | .int i => some (i != 0)
  | .lst _ xs => some (!xs.isEmpty)
  | .tup xs => some (!xs.isEmpty)
  | _ => none
def cut {α : Type} (xs : List α) (lo hi : Option Int) : List α := (xs.drop (HT.sIx xs.length 0 lo)).take (HT.sIx xs.length xs.length hi - HT.sIx xs.length 0 lo)
def sliS (x : PV) (lo hi : Option Int) : Option PV := match x with
  | .lst _ xs => some (.lst true (cut xs lo hi))
  | .tup xs => some (.tup (cut xs lo hi))
  | _ => none
/-- an item, as it stands in its container -/
def subS (x i : PV) : Option PV := match x, i with
  | .lst _ xs, .int k => atI xs k
  | .tup xs, .int k => atI xs k
  | .dct _ T ks vs, k => if isKey T k then getP ks vs k else none
  | _, _ => none
inductive Blt where
  | len | int | list | tuple | sum | max | min | abs | sorted | any | all
def bltS (b : Blt) (rs : List Rv) : Option PV := match b, rs with
  | .len, [r] => (match r.2 with
    | .lst _ xs => some (.int xs.length)
    | .tup xs => some (.int xs.length)
    | _ => none)
  | .int, [r] => (match r.2 with
    | .int i => some (.int i)
    | .bl b => some (.int (if b then 1 else 0))
    | _ => none)
  | .list, [r] => (match shal r with
    | some (.lst _ xs) => some (.lst true xs)
    | some (.tup xs) => some (.lst true xs)
    | _ => none)
  | .tuple, [r] => (match shal r with
    | some (.lst _ xs) => some (.tup xs)
    | some (.tup xs) => some (.tup xs)
    | _ => none)
  | .sum, [r] => (match r.2 with
    | .lst _ xs => (intsP xs).map fun ns => .int ns.sum
    | _ => none)
  | .max, [r, q] => (match r.2, q.2 with
    | .int i, .int j => some (.int (if j > i then j else i))
    | _, _ => none)
  | .min, [r, q] => (match r.2, q.2 with
    | .int i, .int j => some (.int (if j < i then j else i))
    | _, _ => none)
  | .abs, [r] => (match r.2 with
    | .int i => some (.int (if i < 0 then -i else i))
    | _ => none)
  | .any, [r] => (match r.2 with
    | .lst _ xs => (boolsP xs).map fun bs => .bl (bs.any id)
    | _ => none)
  | .all, [r] => (match r.2 with
    | .lst _ xs => (boolsP xs).map fun bs => .bl (bs.all id)
    | _ => none)
  | _, _ => none

/-! ### the syntax -/
inductive Tg where
  | v (i : Nat)
  | t (is : List Nat)
def bindTs : List Nat → List PV → Loc → Option Loc
  | [], [], ρ => some ρ
  | i :: is, x :: xs, ρ => bindTs is xs (ρ.set i (some x))
  | _, _, _ => none
def bindTg (t : Tg) (x : PV) (ρ : Loc) : Option Loc := match t with
  | .v i => some (ρ.set i (some x))
  | .t is => (match x with
    | .tup xs => bindTs is xs ρ
    | _ => none)
def wipeL (ρ : Loc) : List Nat → Loc
  | [] => ρ
  | v :: vs => (wipeL ρ vs).set v none
abbrev Fn := List PV → Tr PV
/-- a form of one's own: where its parts stand (each in its scope), what it does with them -/
structure Prim where
  chk : List Str → Scope → Expr → Option (List (Scope × Expr))
  m : List (Loc → Tr Rv) → Loc → Tr Rv
structure PrimI where
  chk : List Str → Scope → Expr → Expr → Option (List (Scope × Expr))
  m : List (Loc → Tr Rv) → Loc → Tr (Bool × List PV)
mutual
inductive Ex where
  | var (i : Nat)
  | gl (x : Str)
  | gi (x : Str) (i : Int)
  | ty (n : String)
  | non
  | bl (b : Bool)
  | int (i : Int)
  | str (s : Str)
  | bin (op : BOp) (a b : Ex)
  | neg (a : Ex)
  | cmp (op : COp) (a b : Ex)
  | chn (o o' : COp) (a b c : Ex)
  | isN (ng : Bool) (a : Ex)
  | isB (ng : Bool) (a b : Ex)
  | nt (a : Ex)
  | an (a r : Ex)
  | orr (a r : Ex)
  | one (a : Ex)
  | ife (c : Te) (a b : Ex)
  | call (f : Str) (n : Nat) (m : Fn) (es : Exs)
  | blt (b : Blt) (es : Exs)
  | listR (a : Ex)
  | isi (a : Ex) (ts : List String)
  | sub (a i : Ex)
  | sli (a : Ex) (lo hi : OEx)
  | tup (es : Exs)
  | lst (es : Exs)
  | dnew (T : Bool)
  | comp (elt : Ex) (tg : Tg) (it : ItX) (cond : Te) (own : List (Str × Nat))
  | prim (q : Prim) (es : Exs)
inductive Exs where
  | nil
  | cons (e : Ex) (es : Exs)
inductive Te where
  | yes
  | tru (e : Ex)
  | cmp (op : COp) (a b : Ex)
  | chn (o o' : COp) (a b c : Ex)
  | isN (ng : Bool) (a : Ex)
  | isB (ng : Bool) (a b : Ex)
  | nt (t : Te)
  | an (t r : Te)
  | orr (t r : Te)
  | one (t : Te)
inductive OEx where
  | none
  | some (e : Ex)
inductive ItX where
  | seq (e : Ex)
  | rng (a : Ex)
  | rng2 (a b : Ex)
  | enum (e : Ex)
  | zip (a b : Ex)
  | prim (q : PrimI) (es : Exs)
end

/-! ### what it does -/
def rangeL (a b : Int) : List PV := (List.range (b - a).toNat).map fun i => .int (a + (i : Nat))
/-- what is walked: its items, and whether it stands however slots change -/
def seqS (r : Rv) : Option (Bool × List PV) := match shal r with
  | some (.lst _ xs) => some (!r.1 || r.2.st, xs)
  | some (.tup xs) => some (true, xs)
  | _ => none
def zipS (r q : Rv) (z : List PV → List PV → List PV) : Option (Bool × List PV) := match shal r, shal q with
  | some (.lst _ xs), some (.lst _ ys) => some ((!r.1 || r.2.st) && (!q.1 || q.2.st), z xs ys)
  | some (.tup xs), some (.tup ys) => some (true, z xs ys)
  | _, _ => none
def zipP : List PV → List PV → List PV
  | x :: xs, y :: ys => .tup [x, y] :: zipP xs ys
  | _, _ => []
def enumP : Nat → List PV → List PV
  | _, [] => []
  | i, x :: xs => .tup [.int i, x] :: enumP (i + 1) xs
/-- the loop of a comprehension -/
def Tr.nx {α : Type} : Tr α → Tr α
  | .ret (.exn _ _ _) => .ret .bad
  | .ret o => .ret o
  | .draw n k => .draw n fun i => (k i).nx
def compL (tg : Tg) (ρ : Loc) (f : Loc → Tr (Option PV)) : List PV → List PV → Tr (List PV)
  | [], acc => .ok acc
  | x :: xs, acc => match bindTg tg x ρ with
    | none => .bad
    | some ρ' => (f ρ').nx.bind fun o => match o with
      | none => compL tg ρ f xs acc
      | some y => compL tg ρ f xs (acc ++ [y])
def rngOk (a b : Int) : Bool := decide (-(2 ^ 62) ≤ a) && decide (a < 2 ^ 62) && (decide (-(2 ^ 62) ≤ b) && decide (b < 2 ^ 62))
def vB (x : PV) : Tr Rv := .ok (false, x)
def ofV (o : Option PV) : Tr Rv := match o with
  | some x => .ok (false, x)
  | none => .bad
def ofB (o : Option Bool) : Tr Rv := match o with
  | some b => .ok (false, .bl b)
  | none => .bad
def takes : List Rv → Option (List PV)
  | [] => some []
  | r :: rs => match take r, takes rs with
    | some x, some xs => some (x :: xs)
    | _, _ => none
def movs : List Rv → Option (List PV)
  | [] => some []
  | r :: rs => match mov r, movs rs with
    | some x, some xs => some (x :: xs)
    | _, _ => none
def tyName : PV → Option String
  | .non => some "NoneType"
  | .bl _ => some "bool"
  | .int _ => some "int"
  | .str _ => some "str"
  | .tup _ => some "tuple"
  | .lst _ _ => some "list"
  | .dct _ _ _ _ => some "dict"
  | _ => none
/-- x is True, x is False -/
def isBS : PV → PV → Option Bool
  | .bl p, .bl q => some (decide (p = q))
  | .int _, .bl _ => some false
  | .str _, .bl _ => some false
  | .non, .bl _ => some false
  | .tup _, .bl _ => some false
  | _, _ => none
def isT (n t : String) : Bool := n == t || (n == "bool" && t == "int")
mutual
def evE : Ex → Loc → Tr Rv
  | .var i, ρ => (match ρ[i]? with
    | some (some x) => .ok (true, x)
    | _ => .bad)
  | .gl x, _ => vB (.gl x)
  | .gi _ i, _ => vB (.int i)
  | .ty n, _ => vB (.ty n)
  | .non, _ => vB .non
  | .bl b, _ => vB (.bl b)
  | .int i, _ => vB (.int i)
  | .str s, _ => vB (.str s)
  | .bin op a b, ρ => (evE a ρ).bind fun ra => (evE b ρ).bind fun rb => match shal ra, shal rb with
    | some x, some y => ofV (binS op x y)
    | _, _ => .bad
  | .neg a, ρ => (evE a ρ).bind fun ra => match ra.2 with
    | .int i => vB (.int (-i))
    | _ => .bad
  | .cmp op a b, ρ => (evE a ρ).bind fun ra => (evE b ρ).bind fun rb => ofB (cmpS op ra.2.fz rb.2.fz)
  | .chn o o' a b c, ρ => (evE a ρ).bind fun ra => (evE b ρ).bind fun rb => match cmpS o ra.2.fz rb.2.fz with
    | some true => (evE c ρ).bind fun rc => ofB (cmpS o' rb.2.fz rc.2.fz)
    | some false => vB (.bl false)
    | none => .bad
  | .isN ng a, ρ => (evE a ρ).bind fun ra => match ra.2 with
    | .non => vB (.bl (!ng))
    | _ => vB (.bl ng)
  | .isB ng a b, ρ => (evE a ρ).bind fun ra => (evE b ρ).bind fun rb => match isBS ra.2 rb.2 with
    | some k => vB (.bl (if ng then !k else k))
    | none => .bad
  | .nt a, ρ => (evE a ρ).bind fun ra => match truS ra.2 with
    | some b => vB (.bl (!b))
    | none => .bad
  | .an a r, ρ => (evE a ρ).bind fun ra => match ra.2 with
    | .bl true => evE r ρ
    | .bl false => vB (.bl false)
    | _ => .bad
  | .orr a r, ρ => (evE a ρ).bind fun ra => match ra.2 with
    | .bl false => evE r ρ
    | .bl true => vB (.bl true)
    | _ => .bad
  | .one a, ρ => evE a ρ
  | .ife c a b, ρ => (evT c ρ).bind fun k => if k then evE a ρ else evE b ρ
  | .call _ n m es, ρ => (evs es ρ).bind fun rs => match takes rs with
    | some xs => if xs.length = n then (m xs).bind fun x => vB x else .bad
    | none => .bad
  | .blt b es, ρ => (evs es ρ).bind fun rs => ofV (bltS b rs)
  | .listR a, ρ => (evE a ρ).bind fun ra => match ra.2 with
    | .int j => if 0 ≤ j ∧ j ≤ 16777216 then vB (.lst true (rangeL 0 j)) else .bad
    | _ => .bad
  | .isi a ts, ρ => (evE a ρ).bind fun ra => match tyName ra.2 with
    | some n => vB (.bl (ts.any (isT n)))
    | none => .bad
  | .sub a i, ρ => (evE a ρ).bind fun ra => (evE i ρ).bind fun ri => match subS ra.2 ri.2.fz with
    | some x => .ok (ra.1, if ra.1 then x else x.fz)
    | none => .bad
  | .sli a lo hi, ρ => (evE a ρ).bind fun ra => (evO lo ρ).bind fun l => (evO hi ρ).bind fun h => match shal ra with
    | some x => ofV (sliS x l h)
    | none => .bad
  | .tup es, ρ => (evs es ρ).bind fun rs => match takes rs with
    | some xs => if xs.length ≤ 100000 then vB (.tup xs) else .bad
    | none => .bad
  | .lst es, ρ => (evs es ρ).bind fun rs => match movs rs with
    | some xs => if xs.length ≤ 100000 then vB (.lst true xs) else .bad
    | none => .bad
  | .dnew T, _ => vB (.dct true T [] [])
  | .comp elt tg it cond own, ρ => (evI it ρ).bind fun p =>
      if p.2.length < sizeLine then
        (compL tg (wipeL ρ (own.map (·.2))) (fun ρ' => (evT cond ρ').bind fun k => if k then (evE elt ρ').bind fun r => (match mov r with | some y => .ok (some y) | none => .bad) else .ok none) p.2 []).bind fun ys => vB (.lst true ys)
      else .bad
  | .prim q es, ρ => q.m (evl es) ρ
def evs : Exs → Loc → Tr (List Rv)
  | .nil, _ => .ok []
  | .cons e es, ρ => (evE e ρ).bind fun r => (evs es ρ).bind fun rs => .ok (r :: rs)
def evl : Exs → List (Loc → Tr Rv)
  | .nil => []
  | .cons e es => (fun ρ => evE e ρ) :: evl es
def evO : OEx → Loc → Tr (Option Int)
  | .none, _ => .ok none
  | .some e, ρ => (evE e ρ).bind fun r => match r.2 with
    | .int i => .ok (some i)
    | _ => .bad
def evI : ItX → Loc → Tr (Bool × List PV)
  | .seq e, ρ => (evE e ρ).bind fun r => Tr.ofO (seqS r)
  | .rng a, ρ => (evE a ρ).bind fun r => match r.2 with
    | .int j => if rngOk 0 j then .ok (true, rangeL 0 j) else .bad
    | _ => .bad
  | .rng2 a b, ρ => (evE a ρ).bind fun r => (evE b ρ).bind fun q => match r.2, q.2 with
    | .int i, .int j => if rngOk i j then .ok (true, rangeL i j) else .bad
    | _, _ => .bad
  | .enum e, ρ => (evE e ρ).bind fun r => match seqS r with
    | some (b, xs) => .ok (b, enumP 0 xs)
    | none => .bad
  | .zip a b, ρ => (evE a ρ).bind fun r => (evE b ρ).bind fun q => Tr.ofO (zipS r q zipP)
  | .prim q es, ρ => q.m (evl es) ρ
/-- a test -/
def evT : Te → Loc → Tr Bool
  | .yes, _ => .ok true
  | .tru e, ρ => (evE e ρ).bind fun r => Tr.ofO (truS r.2)
  | .cmp op a b, ρ => (evE a ρ).bind fun ra => (evE b ρ).bind fun rb => Tr.ofO (cmpS op ra.2.fz rb.2.fz)
  | .chn o o' a b c, ρ => (evE a ρ).bind fun ra => (evE b ρ).bind fun rb => match cmpS o ra.2.fz rb.2.fz with
    | some true => (evE c ρ).bind fun rc => Tr.ofO (cmpS o' rb.2.fz rc.2.fz)
    | some false => .ok false
    | none => .bad
  | .isN ng a, ρ => (evE a ρ).bind fun ra => match ra.2 with
    | .non => .ok (!ng)
    | _ => .ok ng
  | .isB ng a b, ρ => (evE a ρ).bind fun ra => (evE b ρ).bind fun rb => match isBS ra.2 rb.2 with
    | some k => .ok (if ng then !k else k)
    | none => .bad
  | .nt a, ρ => (evT a ρ).bind fun k => .ok (!k)
  | .an a r, ρ => (evT a ρ).bind fun k => if k then evT r ρ else .ok false
  | .orr a r, ρ => (evT a ρ).bind fun k => if k then .ok true else evT r ρ
  | .one a, ρ => evT a ρ
end
end FS

set_option Elab.async false
set_option linter.all false
set_option maxRecDepth 100000
set_option maxHeartbeats 4000000
namespace FS
open PySem PySem.Spec PyProof.Rows L2

/-- a scope that knows _law_fault: its def may make lambdas -/
def hasCell (sc : Scope) : Bool := (sc.names.lookup ("_law_fault" : Str)).isSome
/-- where a lambda's code object goes -/
def LamAt (W : Wd) (code : Value) (q : Str) : Prop := ∃ c P, code = .ref c ∧ LamX.TabB W.base W.mg c P ∧ (P, q ++ "<lambda>") ∈ W.T ∧ ∀ p ∈ W.T, p.1 = P → p.2 = q ++ "<lambda>"
structure CxOk (W : Wd) (k : Nat) (N : List Str) (sc : Scope) (E : XK) (X : Cx) : Prop where
  prog : X.prog = W.P
  w : X.w = W.w
  K : X.K = W.K
  mg : X.mg = W.mg
  base : X.base = W.base
  nd : N.Nodup
  N : X.N = N
  sc : X.env.scope = sc
  calm : X.calm = true
  room : Room k X.A
  pass : Passes (L2.CX X.prog X.w) X E
  gd : Gd X.A
theorem CxOk.ndX {W : Wd} {k : Nat} {N : List Str} {sc : Scope} {E : XK} {X : Cx} (c : CxOk W k N sc E X) : X.N.Nodup := by rw [c.N]; exact c.nd
theorem CxOk.hu {W : Wd} {k : Nat} {N : List Str} {sc : Scope} {E : XK} {X : Cx} (c : CxOk W k N sc E X) : X.A.units + 100 < cLine := by have := c.room.un; omega

/-- how an exception lies: its dict d, new behind H -/
def ExR (W : Wd) (F' H' H : Hp) : Option Addr → List Str → List PV → Prop
  | none, ns, xs => ns = [] ∧ xs = []
  | some d, ns, xs => H d = none ∧ ∃ fs, H' d = some (.xd fs) ∧ fs.map (·.1) = ns ∧ Rps W F' (fs.map (·.2)) xs
def ExP (W : Wd) (E : XK) (F H : Hp) (c : Str) (ns : List Str) (xs : List PV) : Prop :=
  ∀ (F' H' : Hp) (C : Addr) (d : Option Addr), Ext W F H F' H' → W.mg c = some (.ref C) → ExR W F' H' H d ns xs → E (.ref C) d H'
/-- a result as it stands -/
def RR (W : Wd) (fe : List Addr) (F H H0 : Hp) (r : Rv) (v : V) : Prop := ∃ fp, Ro W F H v r.2 fp ∧ (r.1 = false → ∀ a ∈ fp, H0 a = none) ∧ (r.1 = true → ∀ a ∈ fp, a ∈ fe)
def PostE (W : Wd) (E : XK) (fe : List Addr) (F H : Hp) (Q : VK) : Out Rv → Prop
  | .ok r => ∀ (F' H' : Hp) (v : V), Ext W F H F' H' → RR W fe F' H' H r v → Q v H'
  | .exn c ns xs => ExP W E F H c ns xs
  | .bad => False
/-- the reading of an expression that does m -/
def tE (W : Wd) (E : XK) (m : Loc → Tr Rv) : TE := fun σ H Q => ∃ F ρ fp, Good W F H ∧ EnvR W F H σ ρ fp ∧ (m ρ).W (PostE W E fp F H Q)
def PX (W : Wd) (k : Nat) (N : List Str) (sc : Scope) (x : Expr) (m : Loc → Tr Rv) : Prop := ∀ (X : Cx) (E : XK), CxOk W k N sc E X → PE X x (tE W E m)
theorem PE.imp {X : Cx} {e : Expr} {t t' : TE} (h : PE X e t) (i : ∀ σ H Q, t' σ H Q → t σ H Q) : PE X e t' := ⟨fun pins s σ H Q I q => h.run pins s σ H Q I (i _ _ _ q)⟩
theorem PT.imp {X : Cx} {e : Expr} {t t' : TT} (h : PT X e t) (i : ∀ σ H Q, t' σ H Q → t σ H Q) : PT X e t' := ⟨fun pins s σ H Q I q => h.run pins s σ H Q I (i _ _ _ q)⟩
theorem PA.imp {X : Cx} {e : List Expr} {t t' : TA} (h : PA X e t) (i : ∀ σ H Q, t' σ H Q → t σ H Q) : PA X e t' := ⟨fun pos pins s σ H Q I q => h.run pos pins s σ H Q I (i _ _ _ q)⟩

theorem RR.back {W : Wd} {fe : List Addr} {F H H0 H1 F0 F1 : Hp} {r : Rv} {v : V} (e : Ext W F0 H0 F1 H1) (x : RR W fe F H H1 r v) : RR W fe F H H0 r v :=
  let ⟨fp, q, n, m⟩ := x; ⟨fp, q, fun h a ha => e.free (n h a ha), m⟩
theorem ExP.ext {W : Wd} {E : XK} {F H F1 H1 : Hp} {c : Str} {ns : List Str} {xs : List PV} (e : Ext W F H F1 H1) (x : ExP W E F H c ns xs) : ExP W E F1 H1 c ns xs := fun F' H' C d e' hc r => by
  refine x F' H' C d (e.trans e') hc ?_
  cases d with
  | none => exact r
  | some d => exact ⟨e.free r.1, r.2⟩
theorem PostE.ext {W : Wd} {E : XK} {fe : List Addr} {F H F1 H1 : Hp} {Q : VK} (e : Ext W F H F1 H1) {o : Out Rv} (x : PostE W E fe F H Q o) : PostE W E fe F1 H1 Q o := by
  cases o with
  | ok r => exact fun F' H' v e' q => x F' H' v (e.trans e') (q.back e)
  | exn c ns xs => exact ExP.ext e x
  | bad => exact x

/-- behind an operand: frozen where it was one's own -/
def RF (W : Wd) (fe : List Addr) (F H : Hp) (r : Rv) (v : V) : Prop := (r.1 = false ∧ Rp W F v r.2.fz) ∨ (r.1 = true ∧ ∃ fp, Ro W F H v r.2 fp ∧ ∀ a ∈ fp, a ∈ fe)
theorem RF.ext {W : Wd} {fe : List Addr} {F H F' H' : Hp} (e : Ext W F H F' H') {r : Rv} {v : V} (x : RF W fe F H r v) : RF W fe F' H' r v := by
  rcases x with ⟨h, q⟩ | ⟨h, fp, q, m⟩
  · exact .inl ⟨h, q.mono e.f⟩
  · exact .inr ⟨h, fp, q.ext e, m⟩
theorem RF.read {W : Wd} {fe : List Addr} {F H : Hp} (g : Good W F H) {r : Rv} {v : V} (x : RF W fe F H r v) : Rp W (np W H) v r.2.fz := by
  rcases x with ⟨h, q⟩ | ⟨h, fp, q, m⟩
  · exact q.mono g.np
  · exact q.read g.sub g.pen.out g.nt
/-- ONE OPERAND, not frozen -/
theorem step {W : Wd} {E : XK} {F0 H0 F1 H1 : Hp} {σ : L2.St} {ρ : Loc} {fp : List Addr} {m : Loc → Tr Rv} {K : Rv → Tr Rv} {Q : VK} (e : Ext W F0 H0 F1 H1) (env : EnvR W F1 H1 σ ρ fp)
    (h : ((m ρ).bind K).W (PostE W E fp F0 H0 Q)) : tE W E m σ H1 fun x H2 => ∃ r F2, Ext W F1 H1 F2 H2 ∧ RR W fp F2 H2 H1 r x ∧ (K r).W (PostE W E fp F0 H0 Q) := by
  refine ⟨F1, ρ, fp, e.g, env, Tr.W_imp (fun o ho => ?_) (Tr.W_bind.mp h)⟩
  cases o with
  | ok r => exact fun F' H' v e' q => ⟨r, F', e', q, ho⟩
  | exn c ns xs => exact ExP.ext e ho
  | bad => exact ho
theorem tE.imp {W : Wd} {E : XK} {m : Loc → Tr Rv} {σ : L2.St} {H : Hp} {Q Q' : VK} (h : tE W E m σ H Q) (i : ∀ v H', Q v H' → Q' v H') : tE W E m σ H Q' := by
  obtain ⟨F, ρ, fp, g, env, h⟩ := h
  refine ⟨F, ρ, fp, g, env, Tr.W_imp (fun o ho => ?_) h⟩
  cases o with
  | ok r => exact fun F' H' v e' q => i _ _ (ho F' H' v e' q)
  | exn c ns xs => exact ho
  | bad => exact ho
theorem RR.froze {W : Wd} {fe : List Addr} {F H F1 H1 : Hp} {r : Rv} {v : V} (e : Ext W F1 H1 F H) (x : RR W fe F H H1 r v) : ∃ F', Ext W F1 H1 F' H ∧ RF W fe F' H r v := by
  obtain ⟨fp, q, n, m⟩ := x
  obtain ⟨b, y⟩ := r
  cases b with
  | false => exact ⟨adj F H fp, e.freeze (fun a h => ⟨(q.own a h).2.1, (q.own a h).2.2⟩) (n rfl) (fun a h => own_nt (q.own a h)), .inl ⟨rfl, q.frozen⟩⟩
  | true => exact ⟨F, e, .inr ⟨rfl, fp, q, m rfl⟩⟩
/-- ONE OPERAND, frozen -/
theorem stepF {W : Wd} {E : XK} {F0 H0 F1 H1 : Hp} {σ : L2.St} {ρ : Loc} {fp : List Addr} {m : Loc → Tr Rv} {K : Rv → Tr Rv} {Q : VK} (e : Ext W F0 H0 F1 H1) (env : EnvR W F1 H1 σ ρ fp)
    (h : ((m ρ).bind K).W (PostE W E fp F0 H0 Q)) : tE W E m σ H1 fun x H2 => ∃ r F2, Ext W F1 H1 F2 H2 ∧ RF W fp F2 H2 r x ∧ (K r).W (PostE W E fp F0 H0 Q) := by
  refine (step e env h).imp fun v H' ⟨r, F2, e2, q, z⟩ => ?_
  obtain ⟨F3, e3, q3⟩ := q.froze e2
  exact ⟨r, F3, e3, q3, z⟩
theorem op1 {W : Wd} {E : XK} {m : Loc → Tr Rv} {K : Rv → Tr Rv} {σ : L2.St} {H : Hp} {Q : VK} (h : tE W E (fun ρ => (m ρ).bind K) σ H Q) :
    tE W E m σ H fun x H1 => ∃ fe F0 H0 F' r, Ext W F0 H0 F' H1 ∧ RF W fe F' H1 r x ∧ (K r).W (PostE W E fe F0 H0 Q) := by
  obtain ⟨F, ρ, fp, g, env, h⟩ := h
  exact (stepF (Ext.refl g) env h).imp fun v H' ⟨r, F2, e2, q, z⟩ => ⟨fp, F, H, F2, r, e2, q, z⟩
theorem op2 {W : Wd} {E : XK} {ma mb : Loc → Tr Rv} {K : Rv → Rv → Tr Rv} {σ : L2.St} {H : Hp} {Q : VK} (h : tE W E (fun ρ => (ma ρ).bind fun ra => (mb ρ).bind fun rb => K ra rb) σ H Q) :
    tE W E ma σ H fun x H1 => tE W E mb σ H1 fun y H2 => ∃ fe F0 H0 F' ra rb, Ext W F0 H0 F' H2 ∧ RF W fe F' H2 ra x ∧ RF W fe F' H2 rb y ∧ (K ra rb).W (PostE W E fe F0 H0 Q) := by
  obtain ⟨F, ρ, fp, g, env, h⟩ := h
  refine (stepF (Ext.refl g) env h).imp fun v H' ⟨r, F2, e2, q, z⟩ => ?_
  refine (stepF e2 (env.ext e2) z).imp fun v3 H3 ⟨r3, F3, e3, q3, z3⟩ => ?_
  exact ⟨fp, F, H, F3, r, r3, e2.trans e3, q.ext e3, q3, z3⟩

/-! ### giving a value -/
section
variable {W : Wd} {E : XK} {fe : List Addr} {F0 H0 F H : Hp} {Q : VK} {x : PV} {v : V}
theorem give {fp : List Addr} (h : (vB x).W (PostE W E fe F0 H0 Q)) (e : Ext W F0 H0 F H) (r : Ro W F H v x fp) (n : ∀ a ∈ fp, H0 a = none) : Q v H := h F H v e ⟨fp, r, fun _ => n, fun z => Bool.noConfusion z⟩
theorem giveS (h : (vB x).W (PostE W E fe F0 H0 Q)) (e : Ext W F0 H0 F H) (r : Rp W F v x) : Q v H := give h e (.st r) (fun _ z => by simp at z)
theorem giveL {xs : List PV} {vs : List V} {p : Addr} (h : (vB (.lst true xs)).W (PostE W E fe F0 H0 Q)) (e : Ext W F0 H0 F H) (hp : H p = none) (r : Rps W F vs xs) : Q (.ref p) (upd H p (.lst vs)) := by
  have e2 := e.g.laid (o := .lst vs) hp
  have fp : F p = none := by
    cases q : F p with
    | none => rfl
    | some u =>
      rw [e.g.sub p u q] at hp
      cases hp
  have pp : p ≠ W.pen := by
    rintro rfl
    obtain ⟨o, ho⟩ := e.g.pen.there
    rw [hp] at ho
    cases ho
  exact give h (e.trans e2) (.lst upd_same fp pp r.ros (by simp)) fun a ha => by
    have : a = p := by simpa using ha
    rw [this]
    exact e.free hp
theorem giveT {xs : List PV} {vs : List V} {p : Addr} (h : (vB (.tup xs)).W (PostE W E fe F0 H0 Q)) (e : Ext W F0 H0 F H) (hp : H p = none) (r : Rps W F vs xs) : Q (.ref p) (upd H p (.tup vs)) := by
  have e2 := e.g.laidF (o := .tup vs) hp
  exact giveS h (e.trans e2) (.tup upd_same (r.mono e2.f))
end

/-! ### reading what shal gives -/
def Sh (W : Wd) (F H : Hp) (v : V) : PV → Prop
  | .lst _ xs => ∃ a vs, v = .ref a ∧ H a = some (.lst vs) ∧ a ≠ W.pen ∧ Rps W F vs xs
  | .dct _ false ks xs => ∃ a kvs, v = .ref a ∧ H a = some (.dK kvs) ∧ a ≠ W.pen ∧ ks = kvs.map (fun p => kP p.1) ∧ Rps W F (kvs.map (·.2)) xs
  | .dct _ true ks xs => ∃ a kvs, v = .ref a ∧ H a = some (.dT kvs) ∧ a ≠ W.pen ∧ ks = kvs.map (fun p => tP p.1) ∧ Rps W F (kvs.map (·.2)) xs
  | x => Rp W F v x
theorem Good.ne {W : Wd} {F H : Hp} (g : Good W F H) {a : Addr} {o : HO} (h : F a = some o) : a ≠ W.pen := by
  rintro rfl
  rw [g.pen.out] at h
  cases h
theorem Rp.sh {W : Wd} {F H : Hp} (g : Good W F H) {v : V} {x : PV} (r : Rp W F v x) : Sh W F H v x := by
  cases r with
  | lst h r => exact ⟨_, _, rfl, g.sub _ _ h, g.ne h, r⟩
  | dK h r => exact ⟨_, _, rfl, g.sub _ _ h, g.ne h, rfl, r⟩
  | dT h r => exact ⟨_, _, rfl, g.sub _ _ h, g.ne h, rfl, r⟩
  | non => exact .non
  | bl => exact .bl
  | int => exact .int
  | str => exact .str
  | tup h r => exact .tup h r
  | ins h c r => exact .ins h c r
  | gl h => exact .gl h
  | ty => exact .ty
  | pen => exact .pen
theorem RF.sh {W : Wd} {fe : List Addr} {F H : Hp} (g : Good W F H) {r : Rv} {v : V} {y : PV} (x : RF W fe F H r v) (h : shal r = some y) : Sh W F H v y := by
  obtain ⟨b, z⟩ := r
  rcases x with ⟨hb, q⟩ | ⟨hb, fp, q, m⟩
  · cases hb
    have e : z.fz = y := by simpa [shal] using h
    rw [← e]
    exact q.sh g
  · cases hb
    cases q with
    | st q =>
      have e : z = y := by
        cases z with
        | lst o xs => cases q; simpa [shal] using h
        | dct o T ks vs => cases q <;> simpa [shal] using h
        | _ => simpa [shal] using h
      rw [← e]
      exact q.sh g
    | lst ha hf hn r hh =>
      rename_i a vs xs fp
      by_cases z : xs.all PV.st = true
      · have e : PV.lst false xs = y := by simpa [shal, z] using h
        rw [← e]
        exact ⟨_, _, rfl, ha, hn, r.stable z⟩
      · simp [shal, z] at h
    | dK ha hf hn r hh =>
      rename_i a kvs xs fp
      by_cases z : xs.all PV.st = true
      · have e : PV.dct false false (kvs.map fun p => kP p.1) xs = y := by simpa [shal, z] using h
        rw [← e]
        exact ⟨_, _, rfl, ha, hn, rfl, r.stable z⟩
      · simp [shal, z] at h
    | dT ha hf hn r hh =>
      rename_i a kvs xs fp
      by_cases z : xs.all PV.st = true
      · have e : PV.dct false true (kvs.map fun p => tP p.1) xs = y := by simpa [shal, z] using h
        rw [← e]
        exact ⟨_, _, rfl, ha, hn, rfl, r.stable z⟩
      · simp [shal, z] at h
theorem RF.take {W : Wd} {fe : List Addr} {F H : Hp} {r : Rv} {v : V} {y : PV} (x : RF W fe F H r v) (h : FS.take r = some y) : Rp W F v y := by
  obtain ⟨b, z⟩ := r
  rcases x with ⟨hb, q⟩ | ⟨hb, fp, q, m⟩
  · cases hb
    have e : z.fz = y := by simpa [FS.take] using h
    rw [← e]
    exact q
  · cases hb
    by_cases s : z.st = true
    · have e : z.fz = y := by simpa [FS.take, s] using h
      have := q.stable s
      rw [← e, this.fz]
      exact this
    · simp [FS.take, s] at h

/-! ### data -/
mutual
theorem Rp.dp {W : Wd} {S H : Hp} (e : Same S H) : ∀ {v : V} {x : PV} {d : PyData}, Rp W S v x → x.data = some d → Dp W.K H v d
  | _, _, d, .non, h => by cases h; exact .non
  | _, _, d, .bl, h => by cases h; exact .bl _
  | _, _, d, .int, h => by cases h; exact .int _
  | _, _, d, .str, h => by cases h; exact .str _
  | _, _, d, .tup (xs := xs) a r, h => by
    simp only [PV.data, Option.map_eq_some_iff] at h
    obtain ⟨ds, h, rfl⟩ := h
    exact .tup (.inl (.inl (e _ _ a))) (r.dp e h)
  | _, _, d, .lst (xs := xs) a r, h => by
    simp only [PV.data, Option.map_eq_some_iff] at h
    obtain ⟨ds, h, rfl⟩ := h
    exact .lst (.inl (.inl (e _ _ a))) (r.dp e h)
  | _, _, d, .dK _ _, h => by cases h
  | _, _, d, .dT _ _, h => by cases h
  | _, _, d, .ins _ _ _, h => by cases h
  | _, _, d, .gl _, h => by cases h
  | _, _, d, .ty, h => by cases h
  | _, _, d, .pen, h => by cases h
theorem Rps.dp {W : Wd} {S H : Hp} (e : Same S H) : ∀ {vs : List V} {xs : List PV} {ds : List PyData}, Rps W S vs xs → PV.datas xs = some ds → DpAll W.K H vs ds
  | _, _, ds, .nil, h => by cases h; exact .nil
  | _, _, ds, .cons (x := x) (xs := xs) a t, h => by
    simp only [PV.datas] at h
    cases hx : x.data with
    | none => rw [hx] at h; simp at h
    | some d =>
      cases hs : PV.datas xs with
      | none => rw [hx, hs] at h; simp at h
      | some ds' =>
        rw [hx, hs] at h
        cases h
        exact .cons (a.dp e hx) (t.dp e hs)
end
theorem np_sub {W : Wd} {H : Hp} : Same (np W H) H := fun a o h => (np_some h).2.1
mutual
theorem PV.data_plain : ∀ {x : PV} {d : PyData}, x.data = some d → d.plain = true
  | .non, _, h => by cases h; rfl
  | .bl _, _, h => by cases h; rfl
  | .int _, _, h => by cases h; rfl
  | .str _, _, h => by cases h; rfl
  | .tup xs, d, h => by
    simp only [PV.data, Option.map_eq_some_iff] at h
    obtain ⟨ds, h, rfl⟩ := h
    simp only [PyData.plain]
    exact PV.datas_plain h
  | .lst _ xs, d, h => by
    simp only [PV.data, Option.map_eq_some_iff] at h
    obtain ⟨ds, h, rfl⟩ := h
    simp only [PyData.plain]
    exact PV.datas_plain h
  | .dct .., _, h => by simp [PV.data] at h
  | .ins .., _, h => by simp [PV.data] at h
  | .gl .., _, h => by simp [PV.data] at h
  | .ty .., _, h => by simp [PV.data] at h
  | .pen, _, h => by simp [PV.data] at h
theorem PV.datas_plain : ∀ {xs : List PV} {ds : List PyData}, PV.datas xs = some ds → PyData.plainAll ds = true
  | [], _, h => by cases h; rfl
  | x :: xs, ds, h => by
    simp only [PV.datas] at h
    cases hx : x.data with
    | none => rw [hx] at h; simp at h
    | some d =>
      cases hs : PV.datas xs with
      | none => rw [hx, hs] at h; simp at h
      | some ds' =>
        rw [hx, hs] at h
        cases h
        simp only [PyData.plainAll, PV.data_plain hx, PV.datas_plain hs, Bool.and_self]
end
/-- read, without dicts, not too deep -/
def shp (d : PyData) : Prop := d.plain = true ∧ d.depth ≤ 64
theorem sdata_dp {W : Wd} {H : Hp} {v : V} {x : PV} {d : PyData} (r : Rp W (np W H) v x) (h : x.sdata = some d) : Dp W.K H v d ∧ shp d := by
  unfold PV.sdata at h
  cases e : x.data with
  | none => rw [e] at h; cases h
  | some d' =>
    rw [e] at h
    dsimp only at h
    by_cases z : d'.depth ≤ 64
    · rw [if_pos z] at h
      cases h
      exact ⟨r.dp np_sub e, PV.data_plain e, z⟩
    · rw [if_neg z] at h
      cases h
theorem Rps.intsP {W : Wd} {F : Hp} : ∀ {vs : List V} {xs : List PV} {ns : List Int}, Rps W F vs xs → intsP xs = some ns → vs = ns.map V.int
  | _, _, ns, .nil, h => by cases h; rfl
  | _, _, ns, .cons (x := x) (xs := xs) a t, h => by
    cases a with
    | int =>
      simp only [FS.intsP, Option.map_eq_some_iff] at h
      obtain ⟨ms, h, rfl⟩ := h
      rw [t.intsP h]
      rfl
    | _ => simp [FS.intsP] at h
theorem Rps.boolsP {W : Wd} {F : Hp} : ∀ {vs : List V} {xs : List PV} {ns : List Bool}, Rps W F vs xs → boolsP xs = some ns → vs = ns.map V.bl
  | _, _, ns, .nil, h => by cases h; rfl
  | _, _, ns, .cons (x := x) (xs := xs) a t, h => by
    cases a with
    | bl =>
      simp only [FS.boolsP, Option.map_eq_some_iff] at h
      obtain ⟨ms, h, rfl⟩ := h
      rw [t.boolsP h]
      rfl
    | _ => simp [FS.boolsP] at h
end FS

set_option Elab.async false
set_option linter.all false
set_option maxRecDepth 100000
set_option maxHeartbeats 4000000
namespace FS
open PySem PySem.Spec PyProof.Rows L2

def pyB : BOp → Operator
  | .add => .Add | .sub => .Sub | .mul => .Mult | .fdiv => .FloorDiv | .mod => .Mod | .pow => .Pow
def pyC : COp → CmpOp
  | .lt => .Lt | .le => .LtE | .gt => .Gt | .ge => .GtE | .eq => .Eq | .ne => .NotEq | .in_ => .In | .notin => .NotIn
theorem tup_mul1 (l : Addr) (items : Array Value) (n : Nat) (dd : Option Addr) (sl : Array (Option Value)) (u : Tok) :
    Meets (Builtin.«tuple.__mul__» ⟨[.ref l, .int 1 u], []⟩) (fun _ R s => s.heap.get? l = some { cls := .type "tuple", dict := dd, data := .seq items n, slots := sl } ∧ R (.ok (.ret (Value.ref l))) s) :=
  .of_wp fun prog w A R s h => by
    obtain ⟨hp, g, d, tk, os⟩ := s
    obtain ⟨hl, h⟩ := h
    have f1 := AutoSeq1.idx_int
    wp_walk using wpAny_loadPart' hl
    repeat (first
      | (refine wpAny_ite_true (by simp) ?_; wp_walk using wpAny_loadPart' hl)
      | (refine wpAny_ite_false (by decide) ?_; wp_walk using wpAny_loadPart' hl))
    exact ⟨_, rfl, h⟩
/-- a tuple times 1 is itself -/
def rRep1 (K : PySem.W.Frag) : R2 := fun x y H Q => ∃ l xs, x = .ref l ∧ y = .int 1 ∧ SqT K H l xs ∧ Q (.ref l) H
theorem op_rep1 {X : Cx} : OpR X (binaryOp .Mult) (rRep1 X.K) := by
  intro pins s σ H x y v u Q I rx ry h
  obtain ⟨l, xs, rfl, rfl, hT, q⟩ := h
  cases rx
  obtain ⟨t, rfl⟩ := ry
  obtain ⟨its, r, ⟨⟨cls, dd, data, sl⟩, ho, hc, n, hd⟩, hs⟩ := I.tuple hT
  simp only at hc hd
  subst hc hd
  refine wpAny_binaryOp_repeat_ref (T := "tuple") (U := "int") (by decide) ⟨_, ho, rfl⟩ (fun s' => typeIs_int s' 1 t) noFill_tuple_mul F.fills_int_mul F.slot_int_rmul repeat_tuple F.slot_int_index.lookup
    (call_meets F.slot_int_rmul (typeIs_int s 1 t) F.entry_int_rmul (F.args_int_rmul_2 _ _) (int_rmul_tuple 1 t l its.toArray n dd sl)
      ⟨ho, rfl, ⟨_, ho, rfl⟩, call_meets F.slot_tuple_mul ⟨_, ho, rfl⟩ F.entry_tuple_mul (F.args_tuple_mul_2 _ _) (tup_mul1 l its.toArray n dd sl t) ⟨ho, ?_⟩⟩)
  exact ⟨.ref l, H, I, rfl, q⟩
def rBin (K : PySem.W.Frag) : BOp → R2
  | .add => fun x y H Q => (((rI0 (fun i j => .int (i + j)) x y H Q ∨ (∃ i j, x = .str i ∧ y = .str j ∧ i.length + j.length ≤ sizeLine ∧ Q (.str (i ++ j)) H)) ∨ rCatA K x y H Q) ∨ rCat x y H Q)
  | .sub => rI0 fun i j => .int (i - j)
  | .mul => fun x y H Q => (((rI CMulW (fun i j => .int (i * j)) x y H Q ∨ rRep x y H Q) ∨ rRepT K x y H Q) ∨ rRep1 K x y H Q)
  | .fdiv => rI CDivW fun i j => .int (i / j)
  | .mod => rI (fun _ j => 0 < j) fun i j => .int (i % j)
  | .pow => rI CPow fun i j => .int (i ^ j.toNat)
theorem op_bin {X : Cx} : ∀ op : BOp, OpR X (binaryOp (pyB op)) (rBin X.K op)
  | .add => (((op_add.or op_add_str).or op_catA).or op_cat)
  | .sub => op_sub
  | .mul => (((op_mulW.or op_rep).or op_repT).or op_rep1)
  | .fdiv => op_fdivW
  | .mod => op_mod
  | .pow => op_pow
theorem bad_W {α : Type} {P : Out α → Prop} (h : Tr.W P (Tr.bad)) (hb : ¬ P .bad) : False := hb h
section
variable {W : Wd} {E : XK} {fe : List Addr} {F0 H0 F H : Hp} {Q : VK} {x y : PV} {vx vy : V} {rx ry : Rv}
theorem Rps.rep : ∀ {F : Hp} {vs : List V} {xs : List PV} (k : Nat), Rps W F vs xs → Rps W F (List.replicate k vs).flatten (List.replicate k xs).flatten
  | _, _, _, 0, _ => by simp; exact .nil
  | _, _, _, k + 1, r => by
    simp only [List.replicate_succ, List.flatten_cons]
    exact r.append (r.rep k)
theorem bin_ok (op : BOp) (e : Ext W F0 H0 F H) (sx : Sh W F H vx x) (sy : Sh W F H vy y) (h : (ofV (binS op x y)).W (PostE W E fe F0 H0 Q)) : rBin W.K op vx vy H Q := by
  unfold binS at h
  split at h
  · cases sx; cases sy
    exact .inl (.inl (.inl ⟨_, _, rfl, rfl, giveS h e .int⟩))
  · cases sx; cases sy
    exact ⟨_, _, rfl, rfl, giveS h e .int⟩
  · split at h
    · rename_i z
      cases sx; cases sy
      exact .inl (.inl (.inl ⟨_, _, rfl, rfl, (by simpa [mulOk] using z : _ < 1000000), giveS h e .int⟩))
    · exact h.elim
  · split at h
    · rename_i z
      cases sx; cases sy
      exact ⟨_, _, rfl, rfl, z, giveS h e .int⟩
    · exact h.elim
  · split at h
    · rename_i z
      cases sx; cases sy
      exact ⟨_, _, rfl, rfl, z, giveS h e .int⟩
    · exact h.elim
  · split at h
    · rename_i z
      cases sx; cases sy
      exact ⟨_, _, rfl, rfl, z, giveS h e .int⟩
    · exact h.elim
  · split at h
    · rename_i z
      cases sx; cases sy
      exact .inl (.inl (.inr ⟨_, _, rfl, rfl, z, giveS h e .str⟩))
    · exact h.elim
  · split at h
    · rename_i xs ys z
      cases sx with
      | tup a r =>
        rename_i p vs
        cases sy with
        | tup b q =>
          rename_i p2 ws
          refine .inl (.inr ⟨p, p2, vs, ws, rfl, rfl, .inl (.inl (e.g.sub _ _ a)), .inl (.inl (e.g.sub _ _ b)), by rw [r.length, q.length]; exact z, fun k => ?_, fun _ k => ?_, fun _ _ l hl => ?_⟩)
          · subst k
            have : xs = [] := by cases r; rfl
            subst this
            exact giveS h e (.tup b q)
          · subst k
            have : ys = [] := by cases q; rfl
            subst this
            rw [List.append_nil] at h
            exact giveS h e (.tup a r)
          · exact giveT h e hl (r.append q)
    · exact h.elim
  · split at h
    · rename_i o xs o' ys z
      obtain ⟨a, vs, rfl, ha, na, r⟩ := sx
      obtain ⟨b, ws, rfl, hb, nb, q⟩ := sy
      exact .inr ⟨a, b, vs, ws, rfl, rfl, ha, hb, by rw [r.length, q.length]; exact z, fun l hl => giveL h e hl (r.append q)⟩
    · exact h.elim
  · split at h
    · rename_i o xs k z
      obtain ⟨a, vs, rfl, ha, na, r⟩ := sx
      cases sy
      exact .inl (.inl (.inr ⟨a, k, vs, rfl, rfl, ha, z.1, z.2.1, by rw [r.length]; exact z.2.2, fun l hl => giveL h e hl (r.rep _)⟩))
    · exact h.elim
  · split at h
    · rename_i xs k z2
      cases sy
      cases sx with
      | tup a r =>
        rename_i p vs
        by_cases k1 : k = 1
        · subst k1
          refine .inr ⟨p, vs, rfl, rfl, .inl (.inl (e.g.sub _ _ a)), giveS h e ?_⟩
          have e1 : (List.replicate (1 : Int).toNat xs).flatten = xs := by simp
          rw [e1]
          exact .tup a r
        refine .inl (.inr ⟨p, k, vs, rfl, rfl, .inl (.inl (e.g.sub _ _ a)), fun n => ?_, by omega, z2.2.2.1, by rw [r.length]; exact z2.2.2.2, fun l hl => giveT h e hl (r.rep _)⟩)
        subst n
        exact z2.1 (by cases r; rfl)
    · exact h.elim
  · exact h.elim

/-! ### comparisons -/
def rInDict (nb : Bool → Bool) : R2 := fun x y H Q => ∃ a o, y = .ref a ∧ DGet H a x o ∧ Q (.bl (nb o.isSome)) H
theorem op_inDict {X : Cx} (hu : X.A.units + 1 < cLine) : OpR X (compareOp .In) (rInDict id) := by
  intro pins s σ H x y v u Q I rx ry h
  obtain ⟨a, o, rfl, g, q⟩ := h
  cases ry
  exact d_in hu I g rx fun s' I' => ⟨.bl _, _, I', rfl, q⟩
theorem op_notInDict {X : Cx} (hu : X.A.units + 1 < cLine) : OpR X (compareOp .NotIn) (rInDict not) := by
  intro pins s σ H x y v u Q I rx ry h
  obtain ⟨a, o, rfl, g, q⟩ := h
  cases ry
  exact d_notIn hu I g rx fun s' I' => ⟨.bl _, _, I', rfl, q⟩
def rEqP (nb : Bool → Bool) (K : PySem.W.Frag) : R2 := fun x y H Q => ∃ d e, Dp K H x d ∧ Dp K H y e ∧ shp d ∧ shp e ∧ Q (.bl (nb (PyData.eqv d e))) H
theorem op_eqP {X : Cx} (hu : X.A.units + 64 < cLine) : OpR X (compareOp .Eq) (rEqP id X.K) := by
  intro pins s σ H x y v u Q I rx ry h
  obtain ⟨d, e, hd, he, sd, se, q⟩ := h
  obtain ⟨as, r1⟩ := Dp.reads I d x v hd rx
  obtain ⟨bs, r2⟩ := Dp.reads I e y u he ry
  refine SeqAt.eq_plain r1 r2 sd.1 se.1 ?_ ⟨.bl _, H, I, rfl, q⟩
  have := sd.2
  have := Nat.min_le_left d.depth e.depth
  omega
theorem op_neP {X : Cx} (hu : X.A.units + 64 < cLine) : OpR X (compareOp .NotEq) (rEqP not X.K) := by
  intro pins s σ H x y v u Q I rx ry h
  obtain ⟨d, e, hd, he, sd, se, q⟩ := h
  obtain ⟨as, r1⟩ := Dp.reads I d x v hd rx
  obtain ⟨bs, r2⟩ := Dp.reads I e y u he ry
  refine SeqAt.ne_plain r1 r2 sd.1 se.1 ?_ ⟨.bl _, H, I, rfl, q⟩
  have := sd.2
  have := Nat.min_le_left d.depth e.depth
  omega
def rInP (nb : Bool → Bool) (K : PySem.W.Frag) : R2 := fun x y H Q => ∃ d ds, Dp K H x d ∧ (Dp K H y (.list ds) ∨ Dp K H y (.tuple ds)) ∧ shp d ∧ PyData.plainAll ds = true ∧ Q (.bl (nb (ds.any fun z => PyData.eqv z d))) H
theorem op_inP {X : Cx} (hu : X.A.units + 65 < cLine) : OpR X (compareOp .In) (rInP id X.K) := by
  intro pins s σ H x y v u Q I rx ry h
  obtain ⟨d, ds, hd, he, sd, se, q⟩ := h
  obtain ⟨as, r1⟩ := Dp.reads I d x v hd rx
  have hm : X.A.units + 1 + min (PyData.depthAll ds) d.depth < cLine := by
    have := sd.2
    have := Nat.min_le_right (PyData.depthAll ds) d.depth
    omega
  rcases he with he | he
  · obtain ⟨bs, r2⟩ := Dp.reads I (.list ds) y u he ry
    exact SeqAt.in_list_data r2 r1 se sd.1 hm ⟨.bl _, H, I, rfl, q⟩
  · obtain ⟨bs, r2⟩ := Dp.reads I (.tuple ds) y u he ry
    exact SeqAt.in_tuple_data r2 r1 se sd.1 hm ⟨.bl _, H, I, rfl, q⟩
theorem op_notInP {X : Cx} (hu : X.A.units + 65 < cLine) : OpR X (compareOp .NotIn) (rInP not X.K) := by
  intro pins s σ H x y v u Q I rx ry h
  obtain ⟨d, ds, hd, he, sd, se, q⟩ := h
  obtain ⟨as, r1⟩ := Dp.reads I d x v hd rx
  have hm : X.A.units + 1 + min (PyData.depthAll ds) d.depth < cLine := by
    have := sd.2
    have := Nat.min_le_right (PyData.depthAll ds) d.depth
    omega
  rcases he with he | he
  · obtain ⟨bs, r2⟩ := Dp.reads I (.list ds) y u he ry
    exact SeqAt.notIn_list_data r2 r1 se sd.1 hm ⟨.bl _, H, I, rfl, q⟩
  · obtain ⟨bs, r2⟩ := Dp.reads I (.tuple ds) y u he ry
    exact SeqAt.notIn_tuple_data r2 r1 se sd.1 hm ⟨.bl _, H, I, rfl, q⟩
def rCmp (K : PySem.W.Frag) : COp → R2
  | .lt => rI0 fun i j => .bl (decide (i < j))
  | .le => rI0 fun i j => .bl (decide (i ≤ j))
  | .gt => rI0 fun i j => .bl (decide (j < i))
  | .ge => rI0 fun i j => .bl (decide (j ≤ i))
  | .eq => rEqP id K
  | .ne => rEqP not K
  | .in_ => fun x y H Q => rInP id K x y H Q ∨ rInDict id x y H Q
  | .notin => fun x y H Q => rInP not K x y H Q ∨ rInDict not x y H Q
theorem op_cmp {X : Cx} (hu : X.A.units + 100 < cLine) : ∀ op : COp, OpR X (compareOp (pyC op)) (rCmp X.K op)
  | .lt => op_lt
  | .le => op_le
  | .gt => op_gt
  | .ge => op_ge
  | .eq => op_eqP (by omega)
  | .ne => op_neP (by omega)
  | .in_ => (op_inP (by omega)).or (op_inDict (by omega))
  | .notin => (op_notInP (by omega)).or (op_notInDict (by omega))

theorem keyOf_kP {x : PV} {k : Key} (h : keyOf x = some k) : x = kP k := by
  cases x <;> simp [keyOf] at h <;> subst h <;> rfl
theorem keysOf_kP : ∀ {xs : List PV} {ks : List Key}, keysOf xs = some ks → xs = ks.map kP
  | [], ks, h => by cases h; rfl
  | x :: xs, ks, h => by
    simp only [keysOf] at h
    cases hx : keyOf x with
    | none => rw [hx] at h; simp at h
    | some k =>
      cases hs : keysOf xs with
      | none => rw [hx, hs] at h; simp at h
      | some ks' =>
        rw [hx, hs] at h
        cases h
        rw [keyOf_kP hx, keysOf_kP hs]
        rfl
theorem keyOf_of (k : Key) : keyOf (kP k) = some k := by cases k <;> rfl
theorem keysOf_of : ∀ ks : List Key, keysOf (ks.map kP) = some ks
  | [] => rfl
  | k :: ks => by simp only [List.map_cons, keysOf, keyOf_of, keysOf_of ks]
theorem keq_kP (a b : Key) : PV.keq (kP a) (kP b) = decide (a = b) := by
  cases a <;> cases b <;> simp [kP, PV.keq]
theorem keq_tP (a b : List Key) : PV.keq (tP a) (tP b) = decide (a = b) := by
  simp [tP, PV.keq, keysOf_of]
theorem getP_kP {F : Hp} (k : Key) : ∀ {kvs : List (Key × V)} {xs : List PV}, Rps W F (kvs.map (·.2)) xs →
    (match valV kvs k, getP (kvs.map fun p => kP p.1) xs (kP k) with | some v, some x => Rp W F v x | none, none => True | _, _ => False)
  | [], _, r => by cases r; simp [valV, getP]
  | (j, v) :: kvs, _, r => by
    cases r with
    | cons a t =>
      simp only [List.map_cons, getP, keq_kP]
      by_cases e : j = k
      · rw [valV_pos (by exact e), if_pos (by simpa using e)]
        exact a
      · rw [valV_neg (by exact e), if_neg (by simpa using e)]
        exact getP_kP k t
theorem getP_tP {F : Hp} (k : List Key) : ∀ {kvs : List (List Key × V)} {xs : List PV}, Rps W F (kvs.map (·.2)) xs →
    (match valV kvs k, getP (kvs.map fun p => tP p.1) xs (tP k) with | some v, some x => Rp W F v x | none, none => True | _, _ => False)
  | [], _, r => by cases r; simp [valV, getP]
  | (j, v) :: kvs, _, r => by
    cases r with
    | cons a t =>
      simp only [List.map_cons, getP, keq_tP]
      by_cases e : j = k
      · rw [valV_pos (by exact e), if_pos (by simpa using e)]
        exact a
      · rw [valV_neg (by exact e), if_neg (by simpa using e)]
        exact getP_tP k t
theorem Rp.key {S : Hp} {v : V} {x : PV} {k : Key} (r : Rp W S v x) (h : keyOf x = some k) : v = kV k := by
  cases r <;> simp [keyOf] at h <;> subst h <;> rfl
theorem Rps.keys {S : Hp} : ∀ {vs : List V} {xs : List PV} {ks : List Key}, Rps W S vs xs → keysOf xs = some ks → vs = ks.map kV
  | _, _, ks, .nil, h => by cases h; rfl
  | _, _, ks, .cons (x := x) (xs := xs) a t, h => by
    simp only [keysOf] at h
    cases hx : keyOf x with
    | none => rw [hx] at h; simp at h
    | some k =>
      cases hs : keysOf xs with
      | none => rw [hx, hs] at h; simp at h
      | some ks' =>
        rw [hx, hs] at h
        cases h
        rw [a.key hx, t.keys hs]
        rfl
/-- a dict asked -/
theorem dget_ok {S : Hp} {T o : Bool} {ks vs : List PV} (sy : Rp W S vy (.dct o T ks vs)) (sx : Rp W S vx x) (sub : Same S H) (hk : isKey T x = true) :
    ∃ a r, vy = .ref a ∧ DGet H a vx r ∧ (match r, getP ks vs x with | some v, some z => Rp W S v z | none, none => True | _, _ => False) := by
  cases sy with
  | dK ha r =>
    rename_i a kvs
    obtain ⟨k, hx⟩ : ∃ k, keyOf x = some k := by cases x <;> simp [isKey] at hk <;> exact ⟨_, rfl⟩
    have e1 := sx.key hx
    have e2 := keyOf_kP hx
    subst e1 e2
    exact ⟨a, _, rfl, DGet.k (sub _ _ ha), getP_kP k r⟩
  | dT ha r =>
    rename_i a kvs
    cases sx with
    | tup hb q =>
      rename_i b ws xs
      obtain ⟨k, hx⟩ : ∃ k, keysOf xs = some k := Option.isSome_iff_exists.mp hk
      have e1 := q.keys hx
      have e2 := keysOf_kP hx
      subst e1 e2
      exact ⟨a, _, rfl, DGet.t (sub _ _ ha) (sub _ _ hb), getP_tP k r⟩
    | _ => simp [isKey] at hk
theorem cmp_ok (op : COp) {b : Bool} (sx : Rp W (np W H) vx x) (sy : Rp W (np W H) vy y) (hb : cmpS op x y = some b) (q : Q (.bl b) H) : rCmp W.K op vx vy H Q := by
  unfold cmpS at hb
  split at hb
  · cases sx; cases sy; cases hb
    exact ⟨_, _, rfl, rfl, q⟩
  · cases sx; cases sy; cases hb
    exact ⟨_, _, rfl, rfl, q⟩
  · cases sx; cases sy; cases hb
    exact ⟨_, _, rfl, rfl, q⟩
  · cases sx; cases sy; cases hb
    exact ⟨_, _, rfl, rfl, q⟩
  · rename_i o T ks vs
    by_cases hk : isKey T x = true
    · rw [if_pos hk] at hb
      cases hb
      obtain ⟨a, r, rfl, g, m⟩ := dget_ok sy sx np_sub hk
      refine .inr ⟨a, r, rfl, g, ?_⟩
      cases r <;> cases hg : getP ks vs x <;> rw [hg] at m q <;> first | exact q | exact m.elim
    · rw [if_neg hk] at hb
      cases hb
  · rename_i o T ks vs
    by_cases hk : isKey T x = true
    · rw [if_pos hk] at hb
      cases hb
      obtain ⟨a, r, rfl, g, m⟩ := dget_ok sy sx np_sub hk
      refine .inr ⟨a, r, rfl, g, ?_⟩
      cases r <;> cases hg : getP ks vs x <;> rw [hg] at m q <;> first | exact q | exact m.elim
    · rw [if_neg hk] at hb
      cases hb
  · split at hb
    · rename_i d d' hd he
      cases hb
      obtain ⟨a1, a2⟩ := sdata_dp sx hd
      obtain ⟨b1, b2⟩ := sdata_dp sy he
      exact ⟨d, d', a1, b1, a2, b2, q⟩
    · cases hb
  · split at hb
    · rename_i d d' hd he
      cases hb
      obtain ⟨a1, a2⟩ := sdata_dp sx hd
      obtain ⟨b1, b2⟩ := sdata_dp sy he
      exact ⟨d, d', a1, b1, a2, b2, q⟩
    · cases hb
  · rename_i o ys
    have eo : PV.lst o ys = PV.lst false ys := by cases sy; rfl
    rw [eo] at sy
    split at hb
    · rename_i d es hd he
      cases hb
      obtain ⟨a1, a2⟩ := sdata_dp sx hd
      obtain ⟨b1, b2⟩ := sdata_dp sy he
      exact .inl ⟨d, es, a1, .inl b1, a2, by simpa only [PyData.plain] using b2.1, q⟩
    · cases hb
  · rename_i o ys
    have eo : PV.lst o ys = PV.lst false ys := by cases sy; rfl
    rw [eo] at sy
    split at hb
    · rename_i d es hd he
      cases hb
      obtain ⟨a1, a2⟩ := sdata_dp sx hd
      obtain ⟨b1, b2⟩ := sdata_dp sy he
      exact .inl ⟨d, es, a1, .inl b1, a2, by simpa only [PyData.plain] using b2.1, q⟩
    · cases hb
  · rename_i ys
    split at hb
    · rename_i d es hd he
      cases hb
      obtain ⟨a1, a2⟩ := sdata_dp sx hd
      obtain ⟨b1, b2⟩ := sdata_dp sy he
      exact .inl ⟨d, es, a1, .inr b1, a2, by simpa only [PyData.plain] using b2.1, q⟩
    · cases hb
  · rename_i ys
    split at hb
    · rename_i d es hd he
      cases hb
      obtain ⟨a1, a2⟩ := sdata_dp sx hd
      obtain ⟨b1, b2⟩ := sdata_dp sy he
      exact .inl ⟨d, es, a1, .inr b1, a2, by simpa only [PyData.plain] using b2.1, q⟩
    · cases hb
  · cases hb
end
end FS

set_option Elab.async false
set_option linter.all false
set_option maxRecDepth 100000
set_option maxHeartbeats 4000000
namespace FS
open PySem PySem.Spec PyProof.Rows L2

theorem intsP_fzs : ∀ {xs : List PV} {ns : List Int}, intsP xs = some ns → PV.fzs xs = xs
  | [], _, _ => rfl
  | x :: xs, ns, h => by
    cases x with
    | int i =>
      simp only [intsP, Option.map_eq_some_iff] at h
      obtain ⟨ms, h, rfl⟩ := h
      simp only [PV.fzs, PV.fz, intsP_fzs h]
    | _ => simp [intsP] at h
theorem boolsP_fzs : ∀ {xs : List PV} {ns : List Bool}, boolsP xs = some ns → PV.fzs xs = xs
  | [], _, _ => rfl
  | x :: xs, ns, h => by
    cases x with
    | bl i =>
      simp only [boolsP, Option.map_eq_some_iff] at h
      obtain ⟨ms, h, rfl⟩ := h
      simp only [PV.fzs, PV.fz, boolsP_fzs h]
    | _ => simp [boolsP] at h
theorem fzs_length : ∀ xs : List PV, (PV.fzs xs).length = xs.length
  | [] => rfl
  | x :: xs => by simp [PV.fzs, fzs_length xs]
theorem fzs_get : ∀ {xs : List PV} {i : Nat} {x : PV}, xs[i]? = some x → (PV.fzs xs)[i]? = some x.fz
  | [], _, _, h => by simp at h
  | y :: xs, 0, x, h => by simp at h; subst h; simp [PV.fzs]
  | y :: xs, i + 1, x, h => by simpa [PV.fzs] using fzs_get (xs := xs) (i := i) (x := x) (by simpa using h)
section
variable {W : Wd} {fe : List Addr} {F H : Hp}
theorem Ros.intsP : ∀ {vs : List V} {xs : List PV} {fp : List Addr} {ns : List Int}, Ros W F H vs xs fp → intsP xs = some ns → vs = ns.map V.int
  | _, _, _, ns, .nil, h => by cases h; rfl
  | _, _, _, ns, .cons (x := x) (xs := xs) a t _, h => by
    cases x with
    | int i =>
      simp only [FS.intsP, Option.map_eq_some_iff] at h
      obtain ⟨ms, h, rfl⟩ := h
      rw [t.intsP h]
      cases a with
      | st r => cases r; rfl
    | _ => simp [FS.intsP] at h
theorem Ros.boolsP : ∀ {vs : List V} {xs : List PV} {fp : List Addr} {ns : List Bool}, Ros W F H vs xs fp → boolsP xs = some ns → vs = ns.map V.bl
  | _, _, _, ns, .nil, h => by cases h; rfl
  | _, _, _, ns, .cons (x := x) (xs := xs) a t _, h => by
    cases x with
    | bl i =>
      simp only [FS.boolsP, Option.map_eq_some_iff] at h
      obtain ⟨ms, h, rfl⟩ := h
      rw [t.boolsP h]
      cases a with
      | st r => cases r; rfl
    | _ => simp [FS.boolsP] at h
theorem Ros.get : ∀ {vs : List V} {xs : List PV} {fp : List Addr} {i : Nat} {x : PV}, Ros W F H vs xs fp → xs[i]? = some x → ∃ v f, vs[i]? = some v ∧ Ro W F H v x f ∧ ∀ a ∈ f, a ∈ fp
  | _, _, _, _, _, .nil, e => by simp at e
  | _, _, _, 0, _, .cons r _ _, e => by
    simp at e
    subst e
    exact ⟨_, _, rfl, r, fun a h => by simp [h]⟩
  | _, _, _, i + 1, x, .cons _ t _, e => by
    obtain ⟨v, f, h1, h2, h3⟩ := Ros.get (i := i) (x := x) t (by simpa using e)
    exact ⟨v, f, by simpa using h1, h2, fun a h => by simp [h3 a h]⟩
/-- a list as it stands -/
theorem RF.lst (g : Good W F H) {r : Rv} {v : V} {o : Bool} {xs : List PV} (x : RF W fe F H r v) (h : r.2 = .lst o xs) :
    ∃ a vs, v = .ref a ∧ H a = some (.lst vs) ∧ vs.length = xs.length ∧ (∀ ns, intsP xs = some ns → vs = ns.map V.int) ∧ (∀ bs, boolsP xs = some bs → vs = bs.map V.bl) ∧
      ∀ (i : Nat) (z : PV), xs[i]? = some z → ∃ w : V, vs[i]? = some w ∧ RF W fe F H (r.1, z) w := by
  obtain ⟨b, y⟩ := r
  dsimp only at h
  subst h
  rcases x with ⟨hb, q⟩ | ⟨hb, fp, q, m⟩
  · cases hb
    cases q with
    | lst ha t =>
      refine ⟨_, _, rfl, g.sub _ _ ha, by rw [t.length, fzs_length], fun ns e => t.intsP (by rw [intsP_fzs e]; exact e), fun ns e => t.boolsP (by rw [boolsP_fzs e]; exact e), fun i z hz => ?_⟩
      obtain ⟨w, h1, h2⟩ := t.get (fzs_get hz)
      exact ⟨w, h1, .inl ⟨rfl, h2⟩⟩
  · cases hb
    cases q with
    | st q =>
      cases q with
      | lst ha t =>
        refine ⟨_, _, rfl, g.sub _ _ ha, t.length, fun ns e => t.intsP e, fun ns e => t.boolsP e, fun i z hz => ?_⟩
        obtain ⟨w, h1, h2⟩ := t.get hz
        exact ⟨w, h1, .inr ⟨rfl, [], .st h2, fun _ z => by simp at z⟩⟩
    | lst ha hf hn t hh =>
      refine ⟨_, _, rfl, ha, t.length, fun ns e => t.intsP e, fun ns e => t.boolsP e, fun i z hz => ?_⟩
      obtain ⟨w, f, h1, h2, h3⟩ := t.get hz
      exact ⟨w, h1, .inr ⟨rfl, f, h2, fun a ha => m a (by simp [h3 a ha])⟩⟩
theorem RF.plain {r : Rv} {v : V} (x : RF W fe F H r v) (h : r.2.st = true) (hz : r.2.fz = r.2) : Rp W F v r.2 := by
  rcases x with ⟨hb, q⟩ | ⟨hb, fp, q, m⟩
  · rw [hz] at q
    exact q
  · exact q.stable h
/-- a dict as it stands, at a key -/
theorem Ro.dget {v : V} {o T : Bool} {ks xs : List PV} {fp : List Addr} (q : Ro W F H v (.dct o T ks xs) fp) (sub : Same F H) {S : Hp} {vy : V} {y : PV} (sy : Rp W S vy y) (ss : Same S H) (hk : isKey T y = true) :
    ∃ a r, v = .ref a ∧ DGet H a vy r ∧ (match r, getP ks xs y with | some w, some z => ∃ f, Ro W F H w z f ∧ ∀ a ∈ f, a ∈ fp | none, none => True | _, _ => False) := by
  have kk : ∀ {kvs : List (Key × V)} {xs : List PV} {fp : List Addr} (k : Key), Ros W F H (kvs.map (·.2)) xs fp →
      (match valV kvs k, getP (kvs.map fun p => kP p.1) xs (kP k) with | some w, some z => ∃ f, Ro W F H w z f ∧ ∀ a ∈ f, a ∈ fp | none, none => True | _, _ => False) := by
    intro kvs
    induction kvs with
    | nil => intro xs fp k r; cases r; simp [valV, getP]
    | cons p kvs ih =>
      intro xs fp k r
      obtain ⟨j, v⟩ := p
      cases r with
      | cons a t d =>
        simp only [List.map_cons, getP, keq_kP]
        by_cases e : j = k
        · rw [valV_pos (by exact e), if_pos (by simpa using e)]
          exact ⟨_, a, fun b hb => by simp [hb]⟩
        · rw [valV_neg (by exact e), if_neg (by simpa using e)]
          have m := ih k t
          cases h1 : valV kvs k <;> cases h2 : getP (kvs.map fun p => kP p.1) _ (kP k) <;> rw [h1, h2] at m
          · trivial
          · exact m.elim
          · exact m.elim
          · obtain ⟨f, q1, q2⟩ := m
            exact ⟨f, q1, fun b hb => by simp [q2 b hb]⟩
  have tt : ∀ {kvs : List (List Key × V)} {xs : List PV} {fp : List Addr} (k : List Key), Ros W F H (kvs.map (·.2)) xs fp →
      (match valV kvs k, getP (kvs.map fun p => tP p.1) xs (tP k) with | some w, some z => ∃ f, Ro W F H w z f ∧ ∀ a ∈ f, a ∈ fp | none, none => True | _, _ => False) := by
    intro kvs
    induction kvs with
    | nil => intro xs fp k r; cases r; simp [valV, getP]
    | cons p kvs ih =>
      intro xs fp k r
      obtain ⟨j, v⟩ := p
      cases r with
      | cons a t d =>
        simp only [List.map_cons, getP, keq_tP]
        by_cases e : j = k
        · rw [valV_pos (by exact e), if_pos (by simpa using e)]
          exact ⟨_, a, fun b hb => by simp [hb]⟩
        · rw [valV_neg (by exact e), if_neg (by simpa using e)]
          have m := ih k t
          cases h1 : valV kvs k <;> cases h2 : getP (kvs.map fun p => tP p.1) _ (tP k) <;> rw [h1, h2] at m
          · trivial
          · exact m.elim
          · exact m.elim
          · obtain ⟨f, q1, q2⟩ := m
            exact ⟨f, q1, fun b hb => by simp [q2 b hb]⟩
  cases q with
  | st q =>
    obtain ⟨a, r, e, g, m⟩ : ∃ a r, v = .ref a ∧ DGet H a vy r ∧ (match r, getP ks xs y with | some w, some z => Rp W F w z | none, none => True | _, _ => False) := by
      cases q with
      | dK ha r =>
        rename_i a kvs
        obtain ⟨k, hx⟩ : ∃ k, keyOf y = some k := by cases y <;> simp [isKey] at hk <;> exact ⟨_, rfl⟩
        have e1 := sy.key hx
        have e2 := keyOf_kP hx
        subst e1 e2
        exact ⟨a, _, rfl, DGet.k (sub _ _ ha), getP_kP k r⟩
      | dT ha r =>
        rename_i a kvs
        cases sy with
        | tup hb q =>
          rename_i b ws zs
          obtain ⟨k, hx⟩ : ∃ k, keysOf zs = some k := Option.isSome_iff_exists.mp hk
          have e1 := q.keys hx
          have e2 := keysOf_kP hx
          subst e1 e2
          exact ⟨a, _, rfl, DGet.t (sub _ _ ha) (ss _ _ hb), getP_tP k r⟩
        | _ => simp [isKey] at hk
    refine ⟨a, r, e, g, ?_⟩
    cases r <;> cases hg : getP ks xs y <;> rw [hg] at m <;> first | exact m | exact ⟨_, .st m, fun _ z => by simp at z⟩
  | dK ha hf hn t hh =>
    rename_i a kvs fp
    obtain ⟨k, hx⟩ : ∃ k, keyOf y = some k := by cases y <;> simp [isKey] at hk <;> exact ⟨_, rfl⟩
    have e1 := sy.key hx
    have e2 := keyOf_kP hx
    subst e1 e2
    refine ⟨a, _, rfl, DGet.k ha, ?_⟩
    have m := kk k t
    cases h1 : valV kvs k <;> cases h2 : getP (kvs.map fun p => kP p.1) xs (kP k) <;> rw [h1, h2] at m
    · trivial
    · exact m.elim
    · exact m.elim
    · obtain ⟨f, q1, q2⟩ := m
      exact ⟨f, q1, fun b hb => by simp [q2 b hb]⟩
  | dT ha hf hn t hh =>
    rename_i a kvs fp
    cases sy with
    | tup hb q =>
      rename_i b ws zs
      obtain ⟨k, hx⟩ : ∃ k, keysOf zs = some k := Option.isSome_iff_exists.mp hk
      have e1 := q.keys hx
      have e2 := keysOf_kP hx
      subst e1 e2
      refine ⟨a, _, rfl, DGet.t ha (ss _ _ hb), ?_⟩
      rw [show PV.tup (List.map kP k) = tP k from rfl]
      have m := tt k t
      cases h1 : valV kvs k <;> cases h2 : getP (kvs.map fun p => tP p.1) xs (tP k) <;> rw [h1, h2] at m
      · trivial
      · exact m.elim
      · exact m.elim
      · obtain ⟨f, q1, q2⟩ := m
        exact ⟨f, q1, fun b hb => by simp [q2 b hb]⟩
    | _ => simp [isKey] at hk
end

theorem fz_st (x : PV) : x.fz.st = true := by cases x <;> simp [PV.fz, PV.st]
theorem getP_fzs : ∀ {ks xs : List PV} {y : PV}, getP ks (PV.fzs xs) y = (getP ks xs y).map PV.fz
  | [], xs, _ => by cases xs <;> rfl
  | _ :: _, [], _ => rfl
  | k :: ks, x :: xs, y => by
    simp only [PV.fzs, getP]
    split
    · rfl
    · exact getP_fzs
theorem RF.dget {W : Wd} {fe : List Addr} {F H : Hp} (g : Good W F H) {r : Rv} {v : V} (x : RF W fe F H r v) {o T : Bool} {ks xs : List PV} (h : r.2 = .dct o T ks xs) {S : Hp} {vy : V} {y : PV} (sy : Rp W S vy y) (ss : Same S H) (hk : isKey T y = true) {z : PV} (hz : getP ks xs y = some z) :
    ∃ a w, v = .ref a ∧ DGet H a vy (some w) ∧ RF W fe F H (r.1, z) w := by
  obtain ⟨b, u⟩ := r
  dsimp only at h
  subst h
  rcases x with ⟨hb, q⟩ | ⟨hb, fp, q, m⟩
  · cases hb
    obtain ⟨a, rr, e, gg, mm⟩ := Ro.dget (.st q : Ro W F H v _ []) g.sub sy ss hk
    rw [getP_fzs, hz] at mm
    cases rr with
    | none => exact mm.elim
    | some w =>
      obtain ⟨f, hf, hs⟩ := mm
      have : f = [] := by
        cases f with
        | nil => rfl
        | cons a f => exact absurd (hs a (by simp)) (by simp)
      subst this
      refine ⟨a, w, e, gg, .inl ⟨rfl, ?_⟩⟩
      exact hf.stable (fz_st z)
  · cases hb
    obtain ⟨a, rr, e, gg, mm⟩ := q.dget g.sub sy ss hk
    rw [hz] at mm
    cases rr with
    | none => exact mm.elim
    | some w =>
      obtain ⟨f, hf, hs⟩ := mm
      exact ⟨a, w, e, gg, .inr ⟨rfl, f, hf, fun a ha => m a (hs a ha)⟩⟩

/-! ### built-ins -/
def bltId : Blt → Value
  | .len => .builtin "len" | .int => .type "int" | .list => .type "list" | .tuple => .type "tuple" | .sum => .builtin "sum" | .max => .builtin "max" | .min => .builtin "min"
  | .abs => .builtin "abs" | .sorted => .builtin "sorted" | .any => .builtin "any" | .all => .builtin "all"
def rBlt (K : PySem.W.Frag) : Blt → List V → Hp → VK → Prop
  | .len => fun xs H Q => ∃ x n, xs = [x] ∧ LenV K x H n ∧ Q (.int n) H
  | .int => fun xs H Q => (∃ i, xs = [.int i] ∧ Q (.int i) H) ∨ ∃ k, xs = [.bl k] ∧ Q (.int (if k then 1 else 0)) H
  | .list => fun xs H Q => ∃ p ys, xs = [.ref p] ∧ (SqL K H p ys ∨ SqT K H p ys) ∧ ∀ l, H l = none → Q (.ref l) (upd H l (.lst ys))
  | .tuple => fun xs H Q => ∃ p ys, xs = [.ref p] ∧ ((SqL K H p ys ∧ ∀ l, H l = none → Q (.ref l) (upd H l (.tup ys))) ∨ (SqT K H p ys ∧ Q (.ref p) H))
  | .sum => rSum K
  | .max => fun xs H Q => ∃ i j, xs = [.int i, .int j] ∧ Q (.int (if j > i then j else i)) H
  | .min => fun xs H Q => ∃ i j, xs = [.int i, .int j] ∧ Q (.int (if j < i then j else i)) H
  | .abs => fun xs H Q => ∃ i, xs = [.int i] ∧ Q (.int (if i < 0 then -i else i)) H
  | .sorted => rSortedI K
  | .any => rAny K
  | .all => rAll K
theorem cr_blt {X : Cx} (hc : X.calm = true) : ∀ b : Blt, CallR X (bltId b) (rBlt X.K b)
  | .len => call_len
  | .int => call_int1
  | .list => call_list_of
  | .tuple => call_tuple_of
  | .sum => cr_sum hc
  | .max => call_max2 hc
  | .min => call_min2 hc
  | .abs => call_abs
  | .sorted => cr_sortedI
  | .any => cr_any hc
  | .all => cr_all hc

inductive RFs (W : Wd) (fe : List Addr) (F H : Hp) : List Rv → List V → Prop
  | nil : RFs W fe F H [] []
  | cons {r : Rv} {v : V} {rs : List Rv} {vs : List V} : RF W fe F H r v → RFs W fe F H rs vs → RFs W fe F H (r :: rs) (v :: vs)
theorem RFs.ext {W : Wd} {fe : List Addr} {F H F' H' : Hp} (e : Ext W F H F' H') : ∀ {rs : List Rv} {vs : List V}, RFs W fe F H rs vs → RFs W fe F' H' rs vs
  | _, _, .nil => .nil
  | _, _, .cons a t => .cons (a.ext e) (t.ext e)
section
variable {W : Wd} {E : XK} {fe : List Addr} {F0 H0 F H : Hp} {Q : VK}
theorem blt_ok (b : Blt) (e : Ext W F0 H0 F H) {rs : List Rv} {vs : List V} (q : RFs W fe F H rs vs) (h : (ofV (bltS b rs)).W (PostE W E fe F0 H0 Q)) : rBlt W.K b vs H Q := by
  cases hz : bltS b rs with
  | none => rw [hz] at h; exact h.elim
  | some z =>
    rw [hz] at h
    have h : (vB z).W (PostE W E fe F0 H0 Q) := h
    unfold bltS at hz
    split at hz
    · -- len
      rename_i r
      cases q with
      | cons q t =>
        cases t
        split at hz
        · rename_i o xs hr
          cases hz
          obtain ⟨a, vs, rfl, ha, hl, _⟩ := q.lst e.g hr
          exact ⟨_, _, rfl, .inl ⟨vs, .inl (.inl ha), hl.symm⟩, giveS h e .int⟩
        · rename_i xs hr
          cases hz
          have := q.plain (by rw [hr]; rfl) (by rw [hr]; rfl)
          rw [hr] at this
          cases this with
          | tup ha t => exact ⟨_, _, rfl, .inr ⟨_, .inl (.inl (e.g.sub _ _ ha)), t.length.symm⟩, giveS h e .int⟩
        · cases hz
    · -- int
      cases q with
      | cons q t =>
        cases t
        split at hz
        · rename_i i hr
          cases hz
          have := q.plain (by rw [hr]; rfl) (by rw [hr]; rfl)
          rw [hr] at this
          cases this
          exact .inl ⟨_, rfl, giveS h e .int⟩
        · rename_i i hr
          cases hz
          have := q.plain (by rw [hr]; rfl) (by rw [hr]; rfl)
          rw [hr] at this
          cases this
          exact .inr ⟨_, rfl, giveS h e .int⟩
        · cases hz
    · -- list
      cases q with
      | cons q t =>
        cases t
        split at hz
        · rename_i o xs hr
          cases hz
          obtain ⟨a, vs, rfl, ha, hn, t⟩ := q.sh e.g hr
          exact ⟨a, vs, rfl, .inl (.inl (.inl ha)), fun l hl => giveL h e hl t⟩
        · rename_i xs hr
          cases hz
          have := q.sh e.g hr
          cases this with
          | tup ha t => exact ⟨_, _, rfl, .inr (.inl (.inl (e.g.sub _ _ ha))), fun l hl => giveL h e hl t⟩
        · cases hz
    · -- tuple
      cases q with
      | cons q t =>
        cases t
        split at hz
        · rename_i o xs hr
          cases hz
          obtain ⟨a, vs, rfl, ha, hn, t⟩ := q.sh e.g hr
          exact ⟨a, vs, rfl, .inl ⟨.inl (.inl ha), fun l hl => giveT h e hl t⟩⟩
        · rename_i xs hr
          cases hz
          have := q.sh e.g hr
          cases this with
          | tup ha t => exact ⟨_, _, rfl, .inr ⟨.inl (.inl (e.g.sub _ _ ha)), giveS h e (.tup ha t)⟩⟩
        · cases hz
    · -- sum
      cases q with
      | cons q t =>
        cases t
        split at hz
        · rename_i o xs hr
          obtain ⟨ns, hn, rfl⟩ := Option.map_eq_some_iff.mp hz
          obtain ⟨a, vs, rfl, ha, _, hi, _⟩ := q.lst e.g hr
          have := hi ns hn
          subst this
          exact ⟨a, ns, rfl, .inl (.inl ha), giveS h e .int⟩
        · cases hz
    · -- max
      cases q with
      | cons q t =>
        cases t with
        | cons q2 t =>
          cases t
          split at hz
          · rename_i i j hr hr2
            cases hz
            have a1 := q.plain (by rw [hr]; rfl) (by rw [hr]; rfl)
            have a2 := q2.plain (by rw [hr2]; rfl) (by rw [hr2]; rfl)
            rw [hr] at a1
            rw [hr2] at a2
            cases a1; cases a2
            exact ⟨_, _, rfl, giveS h e .int⟩
          · cases hz
    · -- min
      cases q with
      | cons q t =>
        cases t with
        | cons q2 t =>
          cases t
          split at hz
          · rename_i i j hr hr2
            cases hz
            have a1 := q.plain (by rw [hr]; rfl) (by rw [hr]; rfl)
            have a2 := q2.plain (by rw [hr2]; rfl) (by rw [hr2]; rfl)
            rw [hr] at a1
            rw [hr2] at a2
            cases a1; cases a2
            exact ⟨_, _, rfl, giveS h e .int⟩
          · cases hz
    · -- abs
      cases q with
      | cons q t =>
        cases t
        split at hz
        · rename_i i hr
          cases hz
          have := q.plain (by rw [hr]; rfl) (by rw [hr]; rfl)
          rw [hr] at this
          cases this
          exact ⟨_, rfl, giveS h e .int⟩
        · cases hz
    · -- any
      cases q with
      | cons q t =>
        cases t
        split at hz
        · rename_i o xs hr
          obtain ⟨ns, hn, rfl⟩ := Option.map_eq_some_iff.mp hz
          obtain ⟨a, vs, rfl, ha, _, _, hi, _⟩ := q.lst e.g hr
          have := hi ns hn
          subst this
          exact ⟨a, ns, rfl, .inl (.inl ha), giveS h e .bl⟩
        · cases hz
    · -- all
      cases q with
      | cons q t =>
        cases t
        split at hz
        · rename_i o xs hr
          obtain ⟨ns, hn, rfl⟩ := Option.map_eq_some_iff.mp hz
          obtain ⟨a, vs, rfl, ha, _, _, hi, _⟩ := q.lst e.g hr
          have := hi ns hn
          subst this
          exact ⟨a, ns, rfl, .inl (.inl ha), giveS h e .bl⟩
        · cases hz
    · cases hz

/-! ### subscripts, slices, truth -/
def rSub (K : PySem.W.Frag) : R2 := fun x y H Q => (rIxL K x y H Q ∨ rIxT K x y H Q) ∨ ∃ a v, x = .ref a ∧ DGet H a y (some v) ∧ Q v H
end
theorem ix_dict {X : Cx} (hu : X.A.units + 1 < cLine) : IxR X (fun x y H Q => ∃ a v, x = .ref a ∧ DGet H a y (some v) ∧ Q v H) := by
  intro value slice pins s σ H x y v u Q I rx ry h hs
  obtain ⟨a, w, rfl, g, q⟩ := h
  cases rx
  have hT := dict_typeIs I g
  unfold subscriptTail
  refine wpAny_bind ?_
  rw [getitemInPython_of_ne hT.not_modules]
  refine wpAny_bind (wpAny_specialOf hT PySem.F.slot_dict_getitem.lookup ?_)
  have fin : wpAny (model X.prog X.w) X.A (subscripted slice false (.ref a) u) (fun r s₃ => wpAny (model X.prog X.w) X.A (letTemporaryGo value (.ref a) r >>= fun _ => pure r) (EP X pins σ Q) X.xe s₃) X.xe s := by
    rw [hs]
    exact wpAny_operating (d_getItem hu I g ry fun w' s' I' rw' => wpAny_bind (wpAny_letTemporaryGo (wpAny_pure ⟨w, H, I', rw', q⟩)))
  first
    | exact wpAny_pure (wpAny_bind fin)
    | exact wpAny_bind (wpAny_pure (wpAny_bind fin))
    | exact wpAny_bind fin
theorem ix_sub {X : Cx} (hu : X.A.units + 100 < cLine) : IxR X (rSub X.K) := ((ix_list.or ix_tup).or (ix_dict (by omega)))
end FS

set_option Elab.async false
set_option linter.all false
set_option maxRecDepth 100000
set_option maxHeartbeats 4000000
/-! enumerate(t), t a tuple -/
namespace FS
open PySem PySem.Spec PyProof.Rows L2
open Sem (wp)
theorem meets_enumT (t : Addr) (items : Array Value) :
    Meets (Builtin.«enumerate.__new__» ⟨[.type "enumerate", .ref t], []⟩) (fun _ R s => s.heap.IsTuple t items ∧
      R (.ok (.ret (.ref (s.heap.push { cls := .type "tuple_iterator", data := .fields #[.ref t, .int 0 0] }).objs.size)))
        { s with heap := (s.heap.push { cls := .type "tuple_iterator", data := .fields #[.ref t, .int 0 0] }).push { cls := .type "enumerate", data := .fields #[.none, .bool false, .ref s.heap.objs.size, rawInt 0, .none, .none] } }) :=
  .of_wp fun prog w A R s h => by
    obtain ⟨hp, g, d, tk, os⟩ := s
    obtain ⟨hT, h⟩ := h
    obtain ⟨⟨c0, dct, dt, sl⟩, ho, hc, n, hd⟩ := id hT
    simp only at hc hd
    subst hc hd
    have hsub := sub_enumerate
    wp_walk using AutoSeq1.wpAny_loadPart' ho
    refine wpAny_stack_any fun st => wpAny_pure ?_
    split
    · rename_i c _ _ _ _ _
      cases (c == Value.type "enumerate")
      · wp_walk using AutoSeq1.wpAny_loadPart' ho, wpAny_pyIter_tuple hT
        exact ⟨_, rfl, h⟩
      · wp_walk using AutoSeq1.wpAny_loadPart' ho, wpAny_pyIter_tuple hT
        exact ⟨_, rfl, h⟩
    · wp_walk using AutoSeq1.wpAny_loadPart' ho, wpAny_pyIter_tuple hT
      exact ⟨_, rfl, h⟩
section
variable {prog : Program} {w : World} {A : Around} {E : Value → Shared → Prop} {s : Shared}
theorem call_enumT {t : Addr} {items : Array Value} {Q : Value → Shared → Prop} (hT : s.heap.IsTuple t items)
    (h : ∀ h', IsEnum h' (s.heap.objs.size + 1) s.heap.objs.size 0 .none → h'.IsTupleIter s.heap.objs.size t 0 → h'.objs.size = s.heap.objs.size + 2 →
      (∀ b o, s.heap.get? b = some o → h'.get? b = some o) → Q (.ref (s.heap.objs.size + 1)) { s with heap := h' }) :
    wpAny (model prog w) A (call (.type "enumerate") [.ref t]) Q E s := by
  refine callType_new F.called_enumerate (by decide) (F.typeCall_enumerate_1 _) (F.newCall_enumerate_1 _) (fun obj => F.args_object_init_2 obj _) F.entry_enumerate_new
    (meets_enumT t items) ⟨hT, ?_⟩
  have hz : (s.heap.push { cls := .type "tuple_iterator", data := .fields #[.ref t, .int 0 0] }).objs.size = s.heap.objs.size + 1 := Heap.size_push ..
  show _ ∧ _
  rw [hz]
  have he : IsEnum ((s.heap.push { cls := .type "tuple_iterator", data := .fields #[.ref t, .int 0 0] }).push
      { cls := .type "enumerate", data := .fields #[.none, .bool false, .ref s.heap.objs.size, rawInt 0, .none, .none] }) (s.heap.objs.size + 1) s.heap.objs.size 0 .none := by
    have q := Heap.get?_push_size (s.heap.push { cls := .type "tuple_iterator", data := .fields #[.ref t, .int 0 0] })
      (o := { cls := .type "enumerate", data := .fields #[.none, .bool false, .ref s.heap.objs.size, rawInt 0, .none, .none] }) rfl
    rw [hz] at q
    exact q
  exact ⟨⟨_, he, rfl⟩, h _ he ⟨_, Heap.get?_push_of_some _ (Heap.get?_push_size _ rfl), rfl, rfl⟩ (by rw [Heap.size_push, hz]) fun b o x => Heap.get?_push_of_some _ (Heap.get?_push_of_some _ x)⟩
end
/-- the tuple at a as it stands at each turn, each item in a new pair -/
def IteT (K : PySem.W.Frag) (a : Addr) : L2.It :=
  ⟨fun i H => ∃ (xs : List V) (x : V), SqT K H a xs ∧ xs[i]? = some x, fun i H v H' => ∃ T x, v = .ref T ∧ H T = none ∧ H' = upd H T (.tup [.int (i : Nat), x]) ∧ ∀ xs, SqT K H a xs → xs[i]? = some x, fun i H => ∃ xs : List V, SqT K H a xs ∧ xs.length = i⟩
theorem turn_enumT {P : Program} {w : World} {K : PySem.W.Frag} {elts : List Expr} {kk : Nat} {tpos : Pos} (a e it : Addr) :
    Turn P w K (.Tuple elts kk tpos) (IteT K a) [e, it] e (fun i h => (∃ old, IsEnum h e it ((i : Nat) : Int) old) ∧ h.IsTupleIter it a i ∧ e ≠ it ∧ a ≠ it ∧ e ≠ a) where
  mem := by simp
  obj := fun i h st b hb => by
    obtain ⟨⟨old, he⟩, ⟨o, ho, hc, hd⟩, _⟩ := st
    have e' : b = e ∨ b = it := by simpa using hb
    rcases e' with z | z
    · subst z; exact ⟨_, he, fun v q => nomatch q⟩
    · subst z; exact ⟨o, ho, fun v q => by rw [hd] at q; cases q⟩
  keep := fun i h h' st k => by
    obtain ⟨⟨old, he⟩, hi, hne⟩ := st
    exact ⟨⟨old, k e (by simp) _ he⟩, hi.at fun o q => k it (by simp) o q, hne⟩
  item := by
    intro X hP hw hK hc i pins s σ H E I hf st hg
    subst hP hw hK
    obtain ⟨⟨old, he⟩, hit, hne, hai, hea⟩ := st
    obtain ⟨xs, x, hq, hx⟩ := hg
    obtain ⟨its, rv, p, hz⟩ := I.tuple hq
    obtain ⟨u, hu, ru⟩ := rv.get hx
    have hel : e < s.heap.objs.size := Heap.lt_size he
    have hlt : i < its.toArray.size := by
      have := (List.getElem?_eq_some_iff.mp hu).1
      simpa using this
    refine wpAny_pyNext_enum_itemD (i := i) (Draws.tuple (A := X.A.in1) (show X.A.in1.handled = none from I.ok.hd hc) it a hai its.toArray) he ⟨hit, p⟩ hlt hne (by simp [hne, hea]) fun u' h' tk hP ho hst hT hsz hk => ?_
    obtain ⟨hit', _⟩ := hst
    have eu : u' = u := by
      have : its.toArray[i]? = some u := by simpa using hu
      rw [this] at hP
      exact (Option.some.inj hP).symm
    subst eu
    refine ⟨_, rfl, wpAny_letOwnedTupleGo_enum (s := { s with heap := h', toks := tk + 1 }) ho fun h'' he' sb => ?_⟩
    have hT2 : h''.get? s.heap.objs.size = some { cls := .type "tuple", data := .seq #[.int i tk, u'] } := (sb.2 _ (Nat.ne_of_gt hel)).trans hT
    have new : ObjOk X.prog X.w (upd H s.heap.objs.size (.tup [.int (i : Nat), x])) h'' s.heap.objs.size (.tup [.int (i : Nat), x]) :=
      ⟨by show 2 ≤ sizeLine; decide, [.int i tk, u'], .cons ⟨_, rfl⟩ (.cons ru .nil), ⟨_, hT2, rfl, _, rfl⟩⟩
    have I1 : Inv X pins σ (upd H s.heap.objs.size (.tup [.int (i : Nat), x])) { s with heap := h'', toks := tk + 1 } :=
      I.turnedNew (ch := [e, it]) (fun b ob hb q => (sb.2 b (fun z => hb (by simp [z]))).trans (hk b ob (fun z => hb (by simp [z])) (fun z => hb (by simp [z])) q)) hf (Nat.le_refl _) new
    refine ⟨.ref s.heap.objs.size, _, I1, rfl, ⟨_, x, rfl, I.hok.fresh (Nat.le_refl _), rfl, fun ys hy => by rw [I.tuple_inj hy hq]; exact hx⟩, ⟨⟨u', ?_⟩, hit'.at fun o q => (sb.2 it (Ne.symm hne)).trans q, hne, hai, hea⟩, fun b hb => ?_⟩
    · have e1 : ((i + 1 : Nat) : Int) = (i : Int) + 1 := by omega
      rw [e1]; exact he'
    · have hb' : b < s.heap.objs.size := by
        have e' : b = e ∨ b = it := by simpa using hb
        rcases e' with z | z
        · rw [z]; exact hel
        · obtain ⟨_, q, _⟩ := hit
          rw [z]; exact Heap.lt_size q
      rw [upd_ne (Nat.ne_of_lt hb')]
      exact (hf b hb).1
  done := by
    intro X hP hw hK hc i pins s σ H E I hf st hg
    subst hP hw hK
    obtain ⟨⟨old, he⟩, hit, hne, hai, hea⟩ := st
    obtain ⟨xs, hq, hx⟩ := hg
    obtain ⟨its, rv, p, hz⟩ := I.tuple hq
    obtain ⟨f0, f1, f2, f3, f4, f5⟩ := hf it (by simp)
    have hl := rv.length
    have hn : its.toArray.size = i := by simp; omega
    refine wpAny_pyNext_enum_endD (Draws.tuple (A := X.A.in1) (show X.A.in1.handled = none from I.ok.hd hc) it a hai its.toArray) he (by rw [hn]; exact ⟨hit, p⟩) fun h' eb => ⟨rfl, I.turned (t' := s.toks) (fun b o hb q => eb b o hb q) f0 f1 f3 f4 f5⟩
  self := fun A i s Q E st h => let ⟨⟨_, he⟩, _⟩ := st; wpAny_pyIter_enum he h
/-- enumerate of a list or a tuple -/
def iEnumA (K : PySem.W.Frag) (ta : TA) : TI := fun σ H R => ta σ H fun vs H1 => ∃ a xs, vs = [.ref a] ∧ ((SqL K H1 a xs ∧ R (Ite K a) H1) ∨ (SqT K H1 a xs ∧ R (IteT K a) H1))
theorem pi_enumA {X : Cx} {e : Expr} {ta : TA} {p pos tpos : Pos} {elts : List Expr} {kk : Nat} (hg : Gl X "enumerate") (hm : X.mg "enumerate" = none) (ha : PA X [e] ta) (hs : starEach [e] X.env = [(false, eval e X.env)]) :
    PI X (.Tuple elts kk tpos) (.Call (.Name "enumerate" p) [e] [] pos) (iEnumA X.K ta) := by
  refine ⟨fun pins s σ H R I h => ?_⟩
  refine Call_ (ld_blt I hg hm boot_enumerate (PyProof.Rows.callWith_type1 (thn (ha.run pos pins s σ H _ I h) fun us s1 ⟨vs, H1, I1, r1, q1⟩ => ?_) hs rfl))
  obtain ⟨a, xs, ex, q⟩ := q1
  subst ex
  cases r1 with
  | cons r rr =>
    cases rr
    cases r
    have fr : ∀ b ∈ [s1.heap.objs.size + 1, s1.heap.objs.size], FpOk X pins H1 b := fun b hb => by
      have hle : s1.heap.objs.size ≤ b := by
        have e' : b = s1.heap.objs.size + 1 ∨ b = s1.heap.objs.size := by simpa using hb
        rcases e' with z | z
        · rw [z]; exact Nat.le_add_right _ _
        · rw [z]; exact Nat.le_refl _
      exact I1.fpOk hle (I1.hok.fresh hle)
    rcases q with ⟨hq, q⟩ | ⟨hq, q⟩
    · obtain ⟨its, rv, p', hz⟩ := I1.list hq
      refine call_enumerate_list p'.isList fun h' he hit hsz hk => wpAny_pyIter_enum he ?_
      have I2 : Inv X pins σ H1 { s1 with heap := h' } := I1.kept (t' := s1.toks) hk
      exact ⟨s1.heap.objs.size + 1, [s1.heap.objs.size + 1, s1.heap.objs.size], _, _, H1, rfl, I2, turn_enum a (s1.heap.objs.size + 1) s1.heap.objs.size, ⟨⟨.none, he⟩, hit, Nat.succ_ne_self _⟩, fr, q⟩
    · obtain ⟨its, rv, p', hz⟩ := I1.tuple hq
      have hl : a < s1.heap.objs.size := p'.lt
      refine call_enumT (show s1.heap.IsTuple a its.toArray from p') fun h' he hit hsz hk => wpAny_pyIter_enum he ?_
      have I2 : Inv X pins σ H1 { s1 with heap := h' } := I1.kept (t' := s1.toks) hk
      exact ⟨s1.heap.objs.size + 1, [s1.heap.objs.size + 1, s1.heap.objs.size], _, _, H1, rfl, I2, turn_enumT a (s1.heap.objs.size + 1) s1.heap.objs.size, ⟨⟨.none, he⟩, hit, Nat.succ_ne_self _, Nat.ne_of_lt hl, Nat.ne_of_gt (Nat.lt_succ_of_lt hl)⟩, fr, q⟩
theorem walk_enumT {K : PySem.W.Frag} {a : Addr} {xs : List V} : Walk (IteT K a) xs.length (fun H => H a = some (.tup xs)) (YPair (fun i => some (.int (i : Nat))) (fun i => xs[i]?)) := by
  refine ⟨fun i _ hi q => ⟨xs, xs[i], SqT.of q, by simp [hi]⟩, fun _ q => ⟨xs, SqT.of q, rfl⟩, fun i H v H' _ q y => ?_⟩
  obtain ⟨T, x, h1, h2, h3, h4⟩ := y
  exact ⟨T, .int (i : Nat), x, h1, h2, h3, rfl, h4 xs (SqT.of q)⟩
end FS

set_option Elab.async false
set_option linter.all false
set_option maxRecDepth 100000
set_option maxHeartbeats 4000000
namespace FS
open PySem PySem.Spec PyProof.Rows L2

/-! ### argument lists -/
inductive RRs (W : Wd) (fe : List Addr) (F H H0 : Hp) : List Rv → List V → List Addr → Prop
  | nil : RRs W fe F H H0 [] [] []
  | old {v : V} {x : PV} {f g : List Addr} {rs : List Rv} {vs : List V} : Ro W F H v x f → (∀ a ∈ f, a ∈ fe) → RRs W fe F H H0 rs vs g → RRs W fe F H H0 ((true, x) :: rs) (v :: vs) g
  | new {v : V} {x : PV} {f g : List Addr} {rs : List Rv} {vs : List V} : Ro W F H v x f → (∀ a ∈ f, H0 a = none) → RRs W fe F H H0 rs vs g → (∀ a ∈ f, a ∉ g) → RRs W fe F H H0 ((false, x) :: rs) (v :: vs) (f ++ g)
theorem RRs.fresh {W : Wd} {fe : List Addr} {F H H0 : Hp} : ∀ {rs : List Rv} {vs : List V} {g : List Addr}, RRs W fe F H H0 rs vs g → ∀ a ∈ g, H0 a = none ∧ F a = none ∧ a ≠ W.pen ∧ ∃ o, H a = some o ∧ PlO o
  | _, _, _, .nil, a, h => by simp at h
  | _, _, _, .old _ _ t, a, h => t.fresh a h
  | _, _, _, .new r n t _, a, h => by
    rcases List.mem_append.mp h with h | h
    · obtain ⟨x, y, z⟩ := r.own a h
      exact ⟨n a h, y, z, x⟩
    · exact t.fresh a h
theorem RRs.length {W : Wd} {fe : List Addr} {F H H0 : Hp} : ∀ {rs : List Rv} {vs : List V} {g : List Addr}, RRs W fe F H H0 rs vs g → vs.length = rs.length
  | _, _, _, .nil => rfl
  | _, _, _, .old _ _ t => by simp [t.length]
  | _, _, _, .new _ _ t _ => by simp [t.length]
/-- frozen, all that is one's own -/
theorem RRs.froze {W : Wd} {fe : List Addr} {F0 H0 F H : Hp} (e : Ext W F0 H0 F H) (fo : ∀ a ∈ fe, ∃ o, H0 a = some o) {rs : List Rv} {vs : List V} {g : List Addr} (x : RRs W fe F H H0 rs vs g) : ∃ F', Ext W F0 H0 F' H ∧ RFs W fe F' H rs vs := by
  have k : ∀ a ∈ g, F a = none := fun a h => (x.fresh a h).2.1
  have main : ∀ {rs : List Rv} {vs : List V} {f : List Addr}, RRs W fe F H H0 rs vs f → (∀ a ∈ f, a ∈ g) → RFs W fe (adj F H g) H rs vs := by
    intro rs vs f y
    induction y with
    | nil => exact fun _ => .nil
    | old r m t ih =>
      intro s
      refine .cons (.inr ⟨rfl, _, r.carry (adj_same k) (fun a ha => ⟨rfl, ?_⟩), m⟩) (ih s)
      rw [adj_out]
      · exact (r.own a ha).2.1
      · intro z
        obtain ⟨o, ho⟩ := fo a (m a ha)
        rw [(x.fresh a z).1] at ho
        cases ho
    | new r n t d ih =>
      intro s
      exact .cons (.inl ⟨rfl, r.frozen.mono (adj_mono (fun a ha => s a (by simp [ha])) k)⟩) (ih fun a ha => s a (by simp [ha]))
  exact ⟨adj F H g, e.freeze (fun a h => ⟨k a h, (x.fresh a h).2.2.1⟩) (fun a h => (x.fresh a h).1) (fun a h => own_nt ⟨(x.fresh a h).2.2.2, (x.fresh a h).2.1, (x.fresh a h).2.2.1⟩), main x fun _ h => h⟩
def PostA (W : Wd) (E : XK) (fe : List Addr) (F H : Hp) (Q : List V → Hp → Prop) : Out (List Rv) → Prop
  | .ok rs => ∀ (F' H' : Hp) (vs : List V) (g : List Addr), Ext W F H F' H' → RRs W fe F' H' H rs vs g → Q vs H'
  | .exn c ns xs => ExP W E F H c ns xs
  | .bad => False
def tA (W : Wd) (E : XK) (m : Loc → Tr (List Rv)) : TA := fun σ H Q => ∃ F ρ fp, Good W F H ∧ EnvR W F H σ ρ fp ∧ (m ρ).W (PostA W E fp F H Q)
def PAX (W : Wd) (k : Nat) (N : List Str) (sc : Scope) (xs : List Expr) (m : Loc → Tr (List Rv)) : Prop := ∀ (X : Cx) (E : XK), CxOk W k N sc E X → PA X xs (tA W E m)
theorem RRs.back {W : Wd} {fe : List Addr} {F H H0 H1 F0 F1 : Hp} (e : Ext W F0 H0 F1 H1) : ∀ {rs : List Rv} {vs : List V} {g : List Addr}, RRs W fe F H H1 rs vs g → RRs W fe F H H0 rs vs g
  | _, _, _, .nil => .nil
  | _, _, _, .old r m t => .old r m (t.back e)
  | _, _, _, .new r n t d => .new r (fun a ha => e.free (n a ha)) (t.back e) d
theorem tA.imp {W : Wd} {E : XK} {m : Loc → Tr (List Rv)} {σ : L2.St} {H : Hp} {Q Q' : List V → Hp → Prop} (h : tA W E m σ H Q) (i : ∀ v H', Q v H' → Q' v H') : tA W E m σ H Q' := by
  obtain ⟨F, ρ, fp, g, env, h⟩ := h
  refine ⟨F, ρ, fp, g, env, Tr.W_imp (fun o ho => ?_) h⟩
  cases o with
  | ok r => exact fun F' H' v f e' q => i _ _ (ho F' H' v f e' q)
  | exn c ns xs => exact ho
  | bad => exact ho
/-- the arguments, then what is done with them: not frozen -/
theorem stepA {W : Wd} {E : XK} {m : Loc → Tr (List Rv)} {K : List Rv → Tr Rv} {σ : L2.St} {H : Hp} {Q : VK} (h : tE W E (fun ρ => (m ρ).bind K) σ H Q) :
    tA W E m σ H fun vs H1 => ∃ fe F0 H0 F1 rs g, (∀ a ∈ fe, ∃ o, H0 a = some o) ∧ Ext W F0 H0 F1 H1 ∧ RRs W fe F1 H1 H0 rs vs g ∧ (K rs).W (PostE W E fe F0 H0 Q) := by
  obtain ⟨F, ρ, fp, g, env, h⟩ := h
  refine ⟨F, ρ, fp, g, env, Tr.W_imp (fun o ho => ?_) (Tr.W_bind.mp h)⟩
  cases o with
  | ok r => exact fun F' H' v f e' q => ⟨fp, F, H, F', r, f, fun a ha => own_ex (env.own a ha).1, e', q, ho⟩
  | exn c ns xs => exact ho
  | bad => exact ho
/-- .. frozen -/
theorem stepAF {W : Wd} {E : XK} {m : Loc → Tr (List Rv)} {K : List Rv → Tr Rv} {σ : L2.St} {H : Hp} {Q : VK} (h : tE W E (fun ρ => (m ρ).bind K) σ H Q) :
    tA W E m σ H fun vs H1 => ∃ fe F0 H0 F1 rs, Ext W F0 H0 F1 H1 ∧ RFs W fe F1 H1 rs vs ∧ (K rs).W (PostE W E fe F0 H0 Q) :=
  (stepA h).imp fun v H' ⟨fe, F0, H0, F1, rs, g, fo, e, q, z⟩ => by
    obtain ⟨F2, e2, q2⟩ := q.froze e fo
    exact ⟨fe, F0, H0, F2, rs, e2, q2, z⟩
theorem takes_ok {W : Wd} {fe : List Addr} {F H : Hp} : ∀ {rs : List Rv} {vs : List V} {xs : List PV}, RFs W fe F H rs vs → takes rs = some xs → Rps W F vs xs
  | _, _, _, .nil, h => by cases h; exact .nil
  | _, _, _, .cons (r := r) (rs := rs) a t, h => by
    simp only [takes] at h
    cases hx : FS.take r with
    | none => rw [hx] at h; simp at h
    | some x =>
      cases hs : takes rs with
      | none => rw [hx, hs] at h; simp at h
      | some xs =>
        rw [hx, hs] at h
        cases h
        exact .cons (a.take hx) (takes_ok t hs)
theorem movs_ok {W : Wd} {fe : List Addr} {F H H0 : Hp} : ∀ {rs : List Rv} {vs : List V} {g : List Addr} {xs : List PV}, RRs W fe F H H0 rs vs g → movs rs = some xs → Ros W F H vs xs g
  | _, _, _, _, .nil, h => by cases h; exact .nil
  | _, _, _, _, .old (x := y) (rs := rs) r m t, h => by
    simp only [movs] at h
    cases hx : mov (true, y) with
    | none => rw [hx] at h; simp at h
    | some x =>
      cases hs : movs rs with
      | none => rw [hx, hs] at h; simp at h
      | some xs =>
        rw [hx, hs] at h
        cases h
        have hy : y.st = true := by
          by_cases z : y.st = true
          · exact z
          · simp [mov, z] at hx
        have e : y = x := by simpa [mov, hy] using hx
        subst e
        exact Ros.cons (f := []) (.st (r.stable hy)) (movs_ok t hs) (fun _ z => by simp at z)
  | _, _, _, _, .new (x := y) (rs := rs) r n t d, h => by
    simp only [movs] at h
    cases hs : movs rs with
    | none => rw [hs] at h; simp [mov] at h
    | some xs =>
      rw [hs] at h
      have e0 : mov (false, y) = some y := by simp [mov]
      rw [e0] at h
      cases h
      exact .cons r (movs_ok t hs) d

/-! ### the checker's small parts -/
def visB (sc : Scope) (x : Str) : Bool := match sc.names.lookup x with
  | some .local => true
  | some .cell => true
  | some .free => true
  | _ => false
def glB (sc : Scope) (x : Str) : Bool := match sc.names.lookup x with
  | some .globalImplicit => true
  | _ => false
def locB (sc : Scope) (x : Str) : Bool := match sc.names.lookup x with
  | some .local => true
  | _ => false
def nmB (x : Str) : Bool := !(x == ("__debug__" : Str)) && (!(x == ("__classdict__" : Str)) && !(x == ("__name__" : Str)))
theorem visB_ok {sc : Scope} {x : Str} (h : visB sc x = true) : Vis sc x := by
  unfold visB at h
  unfold Vis
  split at h <;> first | exact .inl (by assumption) | exact .inr (.inl (by assumption)) | exact .inr (.inr (by assumption)) | cases h
theorem glB_ok {sc : Scope} {x : Str} (h : glB sc x = true) : sc.names.lookup x = some .globalImplicit := by
  unfold glB at h
  split at h
  · assumption
  · cases h
theorem locB_ok {sc : Scope} {x : Str} (h : locB sc x = true) : sc.names.lookup x = some .local := by
  unfold locB at h
  split at h
  · assumption
  · cases h
theorem nmB_ok {x : Str} (h : nmB x = true) : (x == ("__debug__" : Str)) = false ∧ (x == ("__classdict__" : Str)) = false ∧ x ≠ "__name__" := by
  unfold nmB at h
  simp only [Bool.and_eq_true, Bool.not_eq_true'] at h
  exact ⟨h.1, h.2.1, fun z => by rw [z] at h; simp at h⟩
def bltN : Blt → Str
  | .len => "len" | .int => "int" | .list => "list" | .tuple => "tuple" | .sum => "sum" | .max => "max" | .min => "min" | .abs => "abs" | .sorted => "sorted" | .any => "any" | .all => "all"
theorem boot_blt : ∀ b : Blt, bootBuiltins (bltN b) = some (bltId b) := fun b => by cases b <;> decide +kernel
def tyN (n : String) : Option Str := match n with
  | "int" => some "int" | "bool" => some "bool" | "str" => some "str" | "list" => some "list" | "tuple" => some "tuple" | "dict" => some "dict" | _ => none
theorem boot_ty {n : String} {x : Str} (h : tyN n = some x) : bootBuiltins x = some (.type n) := by
  unfold tyN at h
  split at h <;> first | (cases h; decide +kernel) | cases h
/-- no star, no slice -/
def plainB : Expr → Bool
  | .Starred _ _ => false
  | .Slice _ _ _ _ => false
  | .Set _ _ _ => false
  | _ => true
theorem star_cons {e : Expr} {es : List Expr} {env : Env} (h : plainB e = true) : starEach (e :: es) env = (false, eval e env) :: starEach es env := by
  cases e <;> first | rfl | cases h
theorem star_all {env : Env} {pos : Pos} : ∀ {es : List Expr}, es.all plainB = true → (backTo pos (starEach es env)).any (·.1) = false
  | [], _ => rfl
  | e :: es, h => by
    simp only [List.all_cons, Bool.and_eq_true] at h
    rw [star_cons h.1]
    have := star_all (env := env) (pos := pos) h.2
    simpa [backTo] using this
theorem plain_ix {e : Expr} (h : plainB e = true) : PlainIx e := fun o i => by
  cases e <;> first | rfl | cases h
theorem plain_fold {e : Expr} {env : Env} (h : plainB e = true) : ∀ x, foldedSetIterable e env x = pure x := fun x => by
  cases e <;> first | rfl | cases h
theorem plain_mark {e : Expr} {op : CmpOp} (h : plainB e = true) : behindInMarks op e = false := by
  cases e <;> first | rfl | cases h
def truB : Expr → Bool
  | .UnaryOp .Not _ _ => false
  | .BoolOp _ _ _ => false
  | .IfExp _ _ _ _ => false
  | .Compare _ _ _ _ => false
  | _ => true
theorem tru_plain {e : Expr} {env : Env} (h : truB e = true) : ∀ whole, isTrue e env whole = (do let v ← whole; standAt e.pos; holding [v] (truthy v)) := fun whole => by
  cases e with
  | UnaryOp op a p => cases op <;> first | rfl | cases h
  | _ => first | rfl | cases h
end FS

set_option Elab.async false
set_option linter.all false
set_option maxRecDepth 100000
set_option maxHeartbeats 4000000
namespace FS
open PySem PySem.Spec PyProof.Rows L2

/-! ### targets -/
def storeB (fnc : Str → Bool) (sc : Scope) (x : Str) : Bool := match sc.names.lookup x with
  | some .local => true
  | some .cell => fnc x
  | _ => false
def namesB (fnc : Str → Bool) (N : List Str) (sc : Scope) : List Nat → List Expr → Bool
  | [], [] => true
  | i :: is, .Name x _ :: es => decide (N[i]? = some x) && storeB fnc sc x && namesB fnc N sc is es
  | _, _ => false
def tgB (fnc : Str → Bool) (N : List Str) (sc : Scope) : Tg → Expr → Bool
  | .v i, .Name x _ => decide (N[i]? = some x) && storeB fnc sc x
  | .t is, .Tuple es _ _ => namesB fnc N sc is es
  | _, _ => false
def gNames : List Nat → TGs
  | [] => gNil
  | i :: is => gCons (gName i) (gNames is)
def gT (K : PySem.W.Frag) : Tg → TG
  | .v i => gName i
  | .t is => gTup K is.length (gNames is)
theorem storeB_ok {fnc : Str → Bool} {sc : Scope} {x : Str} {X : Cx} (h : storeB fnc sc x = true) (hf : ∀ y, fnc y = true → X.fn y = true) (hs : X.env.scope = sc) :
    L2.Loc X.env.scope x ∧ (X.fn x = true ∨ X.env.scope.names.lookup x = some .local) := by
  unfold storeB at h
  rw [hs]
  split at h
  · exact ⟨.inl (by assumption), .inr (by assumption)⟩
  · exact ⟨.inr (by assumption), .inl (hf _ h)⟩
  · cases h
theorem pgs_names {fnc : Str → Bool} {N : List Str} {sc : Scope} {X : Cx} (hN : X.N.Nodup) (eN : X.N = N) (hf : ∀ y, fnc y = true → X.fn y = true) (hs : X.env.scope = sc) :
    ∀ {is : List Nat} {es : List Expr}, namesB fnc N sc is es = true → PGs X es (gNames is) ∧ (assignEach es X.env).length = is.length ∧ (assignEach es X.env).findIdx? (·.1) = none
  | [], [], _ => ⟨pgs_nil, rfl, rfl⟩
  | i :: is, .Name x p :: es, h => by
    unfold namesB at h
    simp only [Bool.and_eq_true, decide_eq_true_eq] at h
    obtain ⟨⟨h1, h2⟩, h3⟩ := h
    obtain ⟨l, s⟩ := storeB_ok h2 hf hs
    obtain ⟨r1, r2, r3⟩ := pgs_names hN eN hf hs h3
    refine ⟨pgs_cons (pg_name hN (eN ▸ h1) l s) r1, by simp [assignEach, r2], ?_⟩
    simp only [assignEach, List.findIdx?_cons, r3]
    rfl
  | [], _ :: _, h => by cases h
  | _ :: _, [], h => by unfold namesB at h; cases h
  | _ :: _, .BoolOp .. :: _, h | _ :: _, .NamedExpr .. :: _, h | _ :: _, .BinOp .. :: _, h | _ :: _, .UnaryOp .. :: _, h | _ :: _, .Lambda .. :: _, h | _ :: _, .IfExp .. :: _, h | _ :: _, .Dict .. :: _, h | _ :: _, .Set .. :: _, h
  | _ :: _, .ListComp .. :: _, h | _ :: _, .SetComp .. :: _, h | _ :: _, .DictComp .. :: _, h | _ :: _, .GeneratorExp .. :: _, h | _ :: _, .Await .. :: _, h | _ :: _, .Yield .. :: _, h | _ :: _, .YieldFrom .. :: _, h | _ :: _, .Compare .. :: _, h
  | _ :: _, .Call .. :: _, h | _ :: _, .FormattedValue .. :: _, h | _ :: _, .JoinedStr .. :: _, h | _ :: _, .Constant .. :: _, h | _ :: _, .Attribute .. :: _, h | _ :: _, .Subscript .. :: _, h | _ :: _, .Starred .. :: _, h | _ :: _, .List .. :: _, h
  | _ :: _, .Tuple .. :: _, h | _ :: _, .Slice .. :: _, h => by simp [namesB] at h
theorem pg_tg {fnc : Str → Bool} {N : List Str} {sc : Scope} {X : Cx} (hc : X.calm = true) (hN : X.N.Nodup) (eN : X.N = N) (hf : ∀ y, fnc y = true → X.fn y = true) (hs : X.env.scope = sc) {t : Tg} {e : Expr} (h : tgB fnc N sc t e = true) : PG X e (gT X.K t) := by
  cases t with
  | v i =>
    cases e with
    | Name x p =>
      simp only [tgB, Bool.and_eq_true, decide_eq_true_eq] at h
      obtain ⟨l, s⟩ := storeB_ok h.2 hf hs
      exact pg_name hN (eN ▸ h.1) l s
    | _ => simp [tgB] at h
  | t is =>
    cases e with
    | Tuple es k p =>
      obtain ⟨r1, r2, r3⟩ := pgs_names hN eN hf hs (show namesB fnc N sc is es = true from h)
      exact pg_tup hc r1 r2 r3
    | _ => simp [tgB] at h
/-- what a target's reading asks: the item is bound -/
theorem gNames_ok {W : Wd} {F H : Hp} : ∀ {is : List Nat} {vs : List V} {xs : List PV} {σ : L2.St} {ρ ρ' : Loc} {fp : List Addr} {Q : L2.St → Hp → Prop}, Rps W F vs xs → EnvR W F H σ ρ fp → bindTs is xs ρ = some ρ' →
    (∀ σ' fq, EnvR W F H σ' ρ' fq → (∀ a ∈ fq, a ∈ fp) → (∀ j, j ∉ is → σ'[j]? = σ[j]?) → σ'.length = σ.length → Q σ' H) → gNames is vs σ H Q
  | [], _, _, σ, ρ, ρ', fp, Q, .nil, env, h, k => by
    cases h
    exact ⟨rfl, k σ fp env (fun _ h => h) (fun _ _ => rfl) rfl⟩
  | [], _, _, _, _, _, _, _, .cons _ _, _, h, _ => by cases h
  | _ :: _, _, _, _, _, _, _, _, .nil, _, h, _ => by cases h
  | i :: is, _, _, σ, ρ, ρ', fp, Q, .cons (v := v) (x := x) a t, env, h, k => by
    obtain ⟨fq, e2, s2⟩ := EnvR.put (.st a) i env (fun _ z => by simp at z)
    refine ⟨_, _, rfl, ?_⟩
    refine gNames_ok t e2 h fun σ' fr e3 s3 j3 l3 => k σ' fr e3 (fun a ha => ?_) (fun j hj => ?_) (by rw [l3, List.length_set])
    · rcases s2 a (s3 a ha) with z | z
      · simp at z
      · exact z
    · simp only [List.mem_cons, not_or] at hj
      rw [j3 j hj.2, List.getElem?_set_ne (Ne.symm hj.1)]
def tgIs : Tg → List Nat
  | .v i => [i]
  | .t is => is
theorem gT_ok {W : Wd} {F H : Hp} {t : Tg} {v : V} {x : PV} {σ : L2.St} {ρ ρ' : Loc} {fp : List Addr} {Q : L2.St → Hp → Prop} (g : Good W F H) (r : Rp W F v x) (env : EnvR W F H σ ρ fp) (h : bindTg t x ρ = some ρ')
    (k : ∀ σ' fq, EnvR W F H σ' ρ' fq → (∀ a ∈ fq, a ∈ fp) → (∀ j, j ∉ tgIs t → σ'[j]? = σ[j]?) → σ'.length = σ.length → Q σ' H) : gT W.K t v σ H Q := by
  cases t with
  | v i =>
    simp only [bindTg, Option.some.injEq] at h
    subst h
    obtain ⟨fq, e2, s2⟩ := EnvR.put (.st r) i env (fun _ z => by simp at z)
    refine k _ fq e2 (fun a ha => ?_) (fun j hj => ?_) (by rw [List.length_set])
    · rcases s2 a ha with z | z
      · simp at z
      · exact z
    · rw [List.getElem?_set_ne (by simpa [tgIs, eq_comm] using hj)]
  | t is =>
    cases x with
    | tup xs =>
      cases r with
      | tup ha t =>
        refine ⟨_, _, rfl, .inl (.inl (g.sub _ _ ha)), ?_, gNames_ok t env h k⟩
        have key : ∀ {is : List Nat} {xs : List PV} {ρ ρ' : Loc}, bindTs is xs ρ = some ρ' → xs.length = is.length := by
          intro is
          induction is with
          | nil => intro xs ρ ρ' h; cases xs <;> first | rfl | cases h
          | cons i is ih => intro xs ρ ρ' h; cases xs with
            | nil => cases h
            | cons x xs => simp [ih (show bindTs is xs (ρ.set i (some x)) = some ρ' from h)]
        rw [t.length, key h]
    | _ => simp [bindTg] at h

/-! ### what is walked -/
def Srcs (W : Wd) (S F : Hp) (J : L2.It) (xs : List PV) : Prop :=
  ∃ (G : Hp → Prop) (Y : Nat → Hp → V → Hp → Prop), Walk J xs.length G Y ∧ (∀ H', Same S (np W H') → G H') ∧
    ∀ (F' H' : Hp) (i : Nat) (v : V) (H'' : Hp) (x : PV), Good W F' H' → Same F F' → Same S (np W H') → xs[i]? = some x → Y i H' v H'' → ∃ F'', Ext W F' H' F'' H'' ∧ Rp W F'' v x
def sup (W : Wd) (b : Bool) (F H : Hp) : Hp := if b then F else np W H
def PostI (W : Wd) (E : XK) (F H : Hp) (R : L2.It → Hp → Prop) : Out (Bool × List PV) → Prop
  | .ok (b, xs) => ∀ (F' H' : Hp) (J : L2.It), Ext W F H F' H' → Srcs W (sup W b F' H') F' J xs → R J H'
  | .exn c ns xs => ExP W E F H c ns xs
  | .bad => False
def tI (W : Wd) (E : XK) (m : Loc → Tr (Bool × List PV)) : TI := fun σ H R => ∃ F ρ fp, Good W F H ∧ EnvR W F H σ ρ fp ∧ (m ρ).W (PostI W E F H R)
def PIX (W : Wd) (k : Nat) (N : List Str) (sc : Scope) (tg x : Expr) (m : Loc → Tr (Bool × List PV)) : Prop := ∀ (X : Cx) (E : XK), CxOk W k N sc E X → PI X tg x (tI W E m)
theorem PI.imp {X : Cx} {tg e : Expr} {t t' : TI} (h : PI X tg e t) (i : ∀ σ H Q, t' σ H Q → t σ H Q) : PI X tg e t' := ⟨fun pins s σ H Q I q => h.run pins s σ H Q I (i _ _ _ q)⟩
theorem Rps.at_ {W : Wd} {F : Hp} {vs : List V} {xs : List PV} (r : Rps W F vs xs) {i : Nat} {v : V} {x : PV} (h1 : vs[i]? = some v) (h2 : xs[i]? = some x) : Rp W F v x := by
  obtain ⟨w, h3, h4⟩ := r.get h2
  rw [h1] at h3
  cases h3
  exact h4
section
variable {W : Wd} {S F H : Hp}
theorem src_list {a : Addr} {vs : List V} {xs : List PV} (hs : S a = some (.lst vs)) (r : Rps W F vs xs) : Srcs W S F (Itl W.K a) xs := by
  refine ⟨_, _, r.length ▸ walk_list (K := W.K) (a := a) (xs := vs), fun H' s => .inl (.inl (np_sub _ _ (s _ _ hs))), fun F' H' i v H'' x g f s hx y => ?_⟩
  obtain ⟨rfl, hv⟩ := y
  exact ⟨F', Ext.refl g, (r.at_ hv hx).mono f⟩
theorem src_tup {a : Addr} {vs : List V} {xs : List PV} (hs : S a = some (.tup vs)) (r : Rps W F vs xs) : Srcs W S F (Itt W.K a) xs := by
  refine ⟨_, _, r.length ▸ walk_tup (K := W.K) (a := a) (xs := vs), fun H' s => .inl (.inl (np_sub _ _ (s _ _ hs))), fun F' H' i v H'' x g f s hx y => ?_⟩
  obtain ⟨rfl, hv⟩ := y
  exact ⟨F', Ext.refl g, (r.at_ hv hx).mono f⟩
theorem src_range (lo hi : Int) : Srcs W S F (Itr lo (hi - lo).toNat) (rangeL lo hi) := by
  have hl : (rangeL lo hi).length = (hi - lo).toNat := by simp [rangeL]
  refine ⟨_, _, by rw [hl]; exact walk_range (lo := lo) (n := (hi - lo).toNat), fun H' s => trivial, fun F' H' i v H'' x g f s hx y => ?_⟩
  obtain ⟨rfl, hv⟩ := y
  have : x = .int (lo + i) := by
    simp only [rangeL, List.getElem?_map, Option.map_eq_some_iff] at hx
    obtain ⟨j, h1, rfl⟩ := hx
    obtain ⟨h2, h3⟩ := List.getElem?_eq_some_iff.mp h1
    simp at h3
    rw [h3]
  subst this hv
  exact ⟨F', Ext.refl g, .int⟩
theorem pair_new {F' H' H'' : Hp} {T : Addr} {u w : V} {x y : PV} (g : Good W F' H') (ht : H' T = none) (e : H'' = upd H' T (.tup [u, w])) (r1 : Rp W F' u x) (r2 : Rp W F' w y) : ∃ F'', Ext W F' H' F'' H'' ∧ Rp W F'' (.ref T) (.tup [x, y]) := by
  subst e
  have q := g.laidF (o := .tup [u, w]) ht
  exact ⟨_, q, .tup upd_same (.cons (r1.mono q.f) (.cons (r2.mono q.f) .nil))⟩
theorem enumP_get : ∀ {xs : List PV} {k i : Nat} {x : PV}, (enumP k xs)[i]? = some x → ∃ y, xs[i]? = some y ∧ x = .tup [.int ((k + i : Nat) : Int), y]
  | [], _, _, _, h => by simp [enumP] at h
  | y :: xs, k, 0, x, h => by simp [enumP] at h; exact ⟨y, rfl, h.symm⟩
  | y :: xs, k, i + 1, x, h => by
    obtain ⟨z, h1, h2⟩ := enumP_get (xs := xs) (k := k + 1) (i := i) (x := x) (by simpa [enumP] using h)
    exact ⟨z, by simpa using h1, by rw [h2]; congr 3; omega⟩
theorem enumP_len : ∀ (xs : List PV) (k : Nat), (enumP k xs).length = xs.length
  | [], _ => rfl
  | _ :: xs, k => by simp [enumP, enumP_len xs]
theorem src_enumL {a : Addr} {vs : List V} {xs : List PV} (hs : S a = some (.lst vs)) (r : Rps W F vs xs) : Srcs W S F (Ite W.K a) (enumP 0 xs) := by
  have hl : (enumP 0 xs).length = vs.length := by rw [enumP_len, r.length]
  refine ⟨_, _, hl ▸ walk_enum (K := W.K) (a := a) (xs := vs), fun H' s => .inl (.inl (np_sub _ _ (s _ _ hs))), fun F' H' i v H'' x g f s hx y => ?_⟩
  obtain ⟨T, u, w, rfl, ht, e, h1, h2⟩ := y
  cases h1
  obtain ⟨z, h3, h4⟩ := enumP_get hx
  subst h4
  rw [Nat.zero_add]
  exact pair_new g ht e .int ((r.at_ h2 h3).mono f)
theorem src_enumT {a : Addr} {vs : List V} {xs : List PV} (hs : S a = some (.tup vs)) (r : Rps W F vs xs) : Srcs W S F (IteT W.K a) (enumP 0 xs) := by
  have hl : (enumP 0 xs).length = vs.length := by rw [enumP_len, r.length]
  refine ⟨_, _, hl ▸ walk_enumT (K := W.K) (a := a) (xs := vs), fun H' s => np_sub _ _ (s _ _ hs), fun F' H' i v H'' x g f s hx y => ?_⟩
  obtain ⟨T, u, w, rfl, ht, e, h1, h2⟩ := y
  cases h1
  obtain ⟨z, h3, h4⟩ := enumP_get hx
  subst h4
  rw [Nat.zero_add]
  exact pair_new g ht e .int ((r.at_ h2 h3).mono f)
theorem zipP_get : ∀ {xs ys : List PV} {i : Nat} {x : PV}, (zipP xs ys)[i]? = some x → ∃ y z, xs[i]? = some y ∧ ys[i]? = some z ∧ x = .tup [y, z]
  | [], _, _, _, h => by simp [zipP] at h
  | _ :: _, [], _, _, h => by simp [zipP] at h
  | y :: xs, z :: ys, 0, x, h => by simp [zipP] at h; exact ⟨y, z, rfl, rfl, h.symm⟩
  | y :: xs, z :: ys, i + 1, x, h => by
    obtain ⟨u, v, h1, h2, h3⟩ := zipP_get (xs := xs) (ys := ys) (i := i) (x := x) (by simpa [zipP] using h)
    exact ⟨u, v, by simpa using h1, by simpa using h2, h3⟩
theorem zipP_len : ∀ (xs ys : List PV), (zipP xs ys).length = min xs.length ys.length
  | [], _ => by simp [zipP]
  | _ :: _, [] => by simp [zipP]
  | _ :: xs, _ :: ys => by simp [zipP, zipP_len xs ys]
theorem src_zipL {a b : Addr} {vs ws : List V} {xs ys : List PV} (hs : S a = some (.lst vs)) (hs2 : S b = some (.lst ws)) (r : Rps W F vs xs) (q : Rps W F ws ys) : Srcs W S F (Itz W.K a b) (zipP xs ys) := by
  have hl : (zipP xs ys).length = min vs.length ws.length := by rw [zipP_len, r.length, q.length]
  refine ⟨_, _, walk_zip (K := W.K) (a := a) (b := b) (xs := vs) (ys := ws) hl, fun H' s => ⟨.inl (.inl (np_sub _ _ (s _ _ hs))), .inl (.inl (np_sub _ _ (s _ _ hs2)))⟩, fun F' H' i v H'' x g f s hx y => ?_⟩
  obtain ⟨T, u, w, rfl, ht, e, h1, h2⟩ := y
  obtain ⟨y, z, h3, h4, rfl⟩ := zipP_get hx
  exact pair_new g ht e ((r.at_ h1 h3).mono f) ((q.at_ h2 h4).mono f)
theorem walk_zipT {K : PySem.W.Frag} {a b : Addr} {xs ys : List V} {n : Nat} (hn : n = min xs.length ys.length) : Walk (RZ.ItzT K a b) n (fun H => H a = some (.tup xs) ∧ H b = some (.tup ys)) (YPair (fun i => xs[i]?) (fun i => ys[i]?)) := by
  subst hn
  refine ⟨fun i _ hi q => ?_, fun _ q => ⟨xs, ys, SqT.of q.1, SqT.of q.2, by omega⟩, fun i H v H' _ q y => ?_⟩
  · have h1 : i < xs.length := by omega
    have h2 : i < ys.length := by omega
    exact ⟨xs, ys, xs[i], ys[i], SqT.of q.1, SqT.of q.2, by simp [h1], by simp [h2]⟩
  · obtain ⟨T, x, z, h1, h2, h3, h4, h5⟩ := y
    exact ⟨T, x, z, h1, h2, h3, h4 xs (SqT.of q.1), h5 ys (SqT.of q.2)⟩
theorem src_zipT {a b : Addr} {vs ws : List V} {xs ys : List PV} (hs : S a = some (.tup vs)) (hs2 : S b = some (.tup ws)) (r : Rps W F vs xs) (q : Rps W F ws ys) : Srcs W S F (RZ.ItzT W.K a b) (zipP xs ys) := by
  have hl : (zipP xs ys).length = min vs.length ws.length := by rw [zipP_len, r.length, q.length]
  refine ⟨_, _, walk_zipT (K := W.K) (a := a) (b := b) (xs := vs) (ys := ws) hl, fun H' s => ⟨np_sub _ _ (s _ _ hs), np_sub _ _ (s _ _ hs2)⟩, fun F' H' i v H'' x g f s hx y => ?_⟩
  obtain ⟨T, u, w, rfl, ht, e, h1, h2⟩ := y
  obtain ⟨y, z, h3, h4, rfl⟩ := zipP_get hx
  exact pair_new g ht e ((r.at_ h1 h3).mono f) ((q.at_ h2 h4).mono f)
end
end FS

set_option Elab.async false
set_option linter.all false
set_option maxRecDepth 100000
set_option maxHeartbeats 4000000
namespace FS
open PySem PySem.Spec PyProof.Rows L2

/-! ### tests -/
def PostT (W : Wd) (E : XK) (F H : Hp) (Q : Bool → Hp → Prop) : Out Bool → Prop
  | .ok b => ∀ (F' H' : Hp), Ext W F H F' H' → Q b H'
  | .exn c ns xs => ExP W E F H c ns xs
  | .bad => False
def tT (W : Wd) (E : XK) (m : Loc → Tr Bool) : TT := fun σ H Q => ∃ F ρ fp, Good W F H ∧ EnvR W F H σ ρ fp ∧ (m ρ).W (PostT W E F H Q)
def PTX (W : Wd) (k : Nat) (N : List Str) (sc : Scope) (x : Expr) (m : Loc → Tr Bool) : Prop := ∀ (X : Cx) (E : XK), CxOk W k N sc E X → PT X x (tT W E m)
def PWX (W : Wd) (k : Nat) (N : List Str) (sc : Scope) (x : Expr) (m : Loc → Tr Bool) : Prop := ∀ (X : Cx) (E : XK), CxOk W k N sc E X → PW X x (tT W E m)
def PCX (W : Wd) (k : Nat) (N : List Str) (sc : Scope) (xs : List Expr) (m : Loc → Tr Bool) : Prop := ∀ (X : Cx) (E : XK), CxOk W k N sc E X → PTs X xs (tT W E m)
/-- a test, then what is done -/
theorem stepT {W : Wd} {E : XK} {F0 H0 F1 H1 : Hp} {σ : L2.St} {ρ : Loc} {fp : List Addr} {α : Type} {m : Loc → Tr Bool} {K : Bool → Tr α} {P : Hp → Hp → Out α → Prop} {R : Bool → Hp → Prop} (e : Ext W F0 H0 F1 H1) (env : EnvR W F1 H1 σ ρ fp)
    (hx : ∀ c ns xs, P F0 H0 (.exn c ns xs) → ExP W E F0 H0 c ns xs) (hb : ¬ P F0 H0 .bad)
    (h : ((m ρ).bind K).W (P F0 H0)) (k : ∀ b F2 H2, Ext W F1 H1 F2 H2 → (K b).W (P F0 H0) → R b H2) : tT W E m σ H1 R := by
  refine ⟨F1, ρ, fp, e.g, env, Tr.W_imp (fun o ho => ?_) (Tr.W_bind.mp h)⟩
  cases o with
  | ok r => exact fun F' H' e' => k r F' H' e' ho
  | exn c ns xs => exact ExP.ext e (hx c ns xs ho)
  | bad => exact hb ho
theorem nx_W {α : Type} {P : Out α → Prop} : ∀ {m : Tr α}, (m.nx).W P → m.W (fun o => match o with | .ok a => P (.ok a) | _ => P .bad)
  | .ret (.ok a), h => h
  | .ret (.exn _ _ _), h => h
  | .ret .bad, h => h
  | .draw n k, ⟨a, g⟩ => ⟨a, fun i p q => nx_W (g i p q)⟩

/-! ### comprehensions -/
theorem wipe_get {σ : L2.St} : ∀ {vs : List Nat} {j : Nat}, (wipe σ vs)[j]? = if j ∈ vs ∧ j < σ.length then some none else σ[j]?
  | [], j => by simp [wipe]
  | v :: vs, j => by
    unfold wipe
    rw [List.getElem?_set, wipe_length, wipe_get (vs := vs)]
    by_cases h : v = j
    · subst h
      by_cases hl : v < σ.length
      · simp [hl]
      · simp [hl]
    · simp [h, Ne.symm h]
theorem wipe_of {σ σ' : L2.St} {vs : List Nat} (hl : σ'.length = σ.length) (h : ∀ j, j ∉ vs → σ'[j]? = σ[j]?) : wipe σ' vs = wipe σ vs := by
  apply List.ext_getElem?
  intro j
  rw [wipe_get, wipe_get, hl]
  by_cases z : j ∈ vs
  · by_cases y : j < σ.length
    · simp [z, y]
    · simp only [z, y, and_false, if_false]
      rw [List.getElem?_eq_none (by omega), List.getElem?_eq_none (by omega)]
  · simp [z, h j z]
theorem wipe_wipe {σ : L2.St} {vs : List Nat} : wipe (wipe σ vs) vs = wipe σ vs := wipe_of (wipe_length σ vs) fun j hj => by
  rw [wipe_get]
  simp [hj]
theorem EnvR.wipes {W : Wd} {F H : Hp} {σ : L2.St} {ρ : Loc} {fp : List Addr} (r : EnvR W F H σ ρ fp) : ∀ vs : List Nat, ∃ fq, EnvR W F H (wipe σ vs) (wipeL ρ vs) fq ∧ ∀ a ∈ fq, a ∈ fp
  | [] => ⟨fp, r, fun _ h => h⟩
  | v :: vs => by
    obtain ⟨fq, e, s⟩ := r.wipes vs
    obtain ⟨fr, e2, s2⟩ := e.drop v .none
    exact ⟨fr, e2, fun a h => s a (s2 a h)⟩
/-- an object of one's own, new behind the base, is written -/
theorem Ext.put {W : Wd} {F0 H0 F H : Hp} (e : Ext W F0 H0 F H) {D : Addr} {o u0 : HO} (h0 : H0 D = none) (hf : F D = none) (hp : D ≠ W.pen) (hu : H D = some u0) (n1 : ∀ ps, u0 ≠ .tbl ps := by intro _ z; cases z) (n2 : ∀ c q, u0 ≠ LamX.CodeO c q := by intro _ _ z; unfold LamX.CodeO at z; cases z) (n3 : ∀ ps, o ≠ .tbl ps := by intro _ z; cases z) : Ext W F0 H0 F (upd H D o) where
  f := e.f
  h := fun a u n q t => by
    rw [upd_ne (ne_of_none q h0)]
    exact e.h a u n q t
  t := fun a ps q => by
    rw [upd_ne (ne_of_none q h0)]
    exact e.t a ps q
  n := e.n
  g := by
    refine ⟨fun a u q => ?_, ?_, e.g.nt, tabs_keep e.g.tab hu n1 n2 (fun b u n q => by rw [upd_ne n]; exact q), tin_upd e.g.tin n3⟩
    · rw [upd_ne (ne_of_none q hf)]
      exact e.g.sub a u q
    · obtain ⟨⟨l, cs, x1, x2, x3, x4, q, r⟩, out⟩ := e.g.pen
      refine ⟨⟨l, cs, x1, x2, x3, x4, ?_, r⟩, out⟩
      rw [upd_ne (Ne.symm hp)]
      exact q
theorem Same.np_put {W : Wd} {S H : Hp} {D : Addr} {o : HO} (s : Same S (np W H)) (h : S D = none) : Same S (np W (upd H D o)) := fun a u q => by
  obtain ⟨z, e, t⟩ := np_some (s a u q)
  exact np_ne z (by rw [upd_ne (ne_of_none q h)]; exact e) t
def compF (cond : Loc → Tr Bool) (elt : Loc → Tr Rv) : Loc → Tr (Option PV) := fun ρ' => (cond ρ').bind fun k => if k then (elt ρ').bind fun r => (match mov r with | some y => .ok (some y) | none => .bad) else .ok none
theorem ne_pen {W : Wd} {F H : Hp} (g : Good W F H) {a : Addr} (h : H a = none) : a ≠ W.pen := by
  rintro rfl
  obtain ⟨o, q⟩ := g.pen.there
  rw [h] at q
  cases q
theorem Good.fn {W : Wd} {F H : Hp} (g : Good W F H) {a : Addr} (h : H a = none) : F a = none := by
  cases q : F a with
  | none => rfl
  | some u =>
    rw [g.sub a u q] at h
    cases h
/-- THE READING OF A COMPREHENSION: over what is walked -/
theorem comp_reads {W : Wd} {E E' : XK} {J : L2.It} {xs : List PV} {tg : Tg} {cond : Loc → Tr Bool} {elt : Loc → Tr Rv} {vs : List Nat} {σ : L2.St} {ρ : Loc} {fp : List Addr} {F0 H0 F1 H1 : Hp} {D : Addr} {Q : VK} {b : Bool}
    (e : Ext W F0 H0 F1 H1) (env : EnvR W F1 H1 σ ρ fp) (fo : ∀ a ∈ fp, ∃ o, H0 a = some o) (src : Srcs W (sup W b F1 H1) F1 J xs) (hz : xs.length < sizeLine) (hD : H1 D = none) (htg : ∀ i ∈ tgIs tg, i ∈ vs)
    (h : ((compL tg (wipeL ρ vs) (compF cond elt) xs []).bind fun ys => vB (.lst true ys)).W (PostE W E fp F0 H0 Q)) :
    ∃ Wi : Nat → Nat → Hp → Prop, (∃ m, Wi 0 m (upd H1 D (.lst []))) ∧ ∀ i m H, Wi i m H →
      (J.stop i H ∧ Q (.ref D) H) ∨ (J.go i H ∧ ∃ Nx : Hp → Prop, (∀ H', Nx H' → ∃ m', m' < m ∧ Wi (i + 1) m' H') ∧ ∀ x H', J.yld i H x H' → gT W.K tg x (wipe σ vs) H' fun σ2 H2 => wipe σ2 vs = wipe σ vs ∧ tT W E' cond σ2 H2 fun b H3 =>
        if b = true then tE W E' elt σ2 H3 fun y H4 => ∃ acc, H4 D = some (.lst acc) ∧ acc.length < sizeLine ∧ Nx (upd H4 D (.lst (acc ++ [y]))) else Nx H3) := by
  obtain ⟨G, Y, walk, hG, hY⟩ := src
  have dp : D ≠ W.pen := ne_pen e.g hD
  have d0 : H0 D = none := e.free hD
  have sD : (sup W b F1 H1) D = none := by
    unfold sup
    cases b with
    | true => exact e.g.fn hD
    | false => exact np_none hD
  have s1 : Same (sup W b F1 H1) (np W H1) := by
    unfold sup
    cases b with
    | true => exact e.g.np
    | false => exact fun _ _ q => q
  obtain ⟨fq, envw, sq⟩ := env.wipes vs
  refine lc_it walk (fun i H' => ∃ F' accV acc fD, Ext W F0 H0 F' H' ∧ H' D = some (.lst accV) ∧ F' D = none ∧ Ros W F' H' accV acc fD ∧ D ∉ fD ∧ (∀ a ∈ fD, H0 a = none) ∧ EnvR W F' H' (wipe σ vs) (wipeL ρ vs) fq ∧ Same (sup W b F1 H1) (np W H') ∧ Same F1 F' ∧ accV.length ≤ i ∧
    ((compL tg (wipeL ρ vs) (compF cond elt) (xs.drop i) acc).bind fun ys => vB (.lst true ys)).W (PostE W E fp F0 H0 Q)) ?_ ?_ ?_ ?_
  · refine ⟨F1, [], [], [], e.trans (e.g.laid hD), upd_same, e.g.fn hD, .nil, by simp, fun _ z => by simp at z, envw.ext (e.g.laid hD), Same.np_put s1 sD, fun _ _ q => q, Nat.le_refl _, h⟩
  · rintro i H' _ ⟨F', accV, acc, fD, e', hd, fd, ra, nd, n0, en, ss, sf, hl, z⟩
    exact hG H' ss
  · rintro i v H' H'' hi ⟨F', accV, acc, fD, e', hd, fd, ra, nd, n0, en, ss, sf, hl, z⟩ y
    have hx : xs[i]? = some xs[i] := by simp [hi]
    obtain ⟨F2, e2, rx⟩ := hY F' H' i v H'' _ e'.g sf ss hx y
    rw [List.drop_eq_getElem_cons hi] at z
    simp only [compL] at z
    cases hb : bindTg tg xs[i] (wipeL ρ vs) with
    | none => rw [hb] at z; exact z.elim
    | some ρ' =>
      rw [hb] at z
      dsimp only at z
      refine gT_ok e2.g rx (en.ext e2) hb fun σ2 fr en2 sr js ls => ⟨?_, ?_⟩
      · have q : wipe σ2 vs = wipe (wipe σ vs) vs := wipe_of ls fun j hj => js j fun hm => hj (htg j hm)
        rw [q, wipe_wipe]
      · have z2 := Tr.W_bind.mp z
        have z3 := Tr.W_bind.mp z2
        have z4 : ((cond ρ').bind fun k => if k then (elt ρ').bind fun r => (match mov r with | some y => .ok (some y) | none => .bad) else .ok none).W _ := nx_W z3
        have ow2 : H'' D = some (.lst accV) ∧ F2 D = none := by
          have := e2.own hd fd dp
          exact ⟨this.1.trans hd, this.2⟩
        have ra2 := ra.ext e2
        refine ⟨F2, ρ', fr, e2.g, en2, Tr.W_imp (fun o ho => ?_) (Tr.W_bind.mp z4)⟩
        cases o with
        | exn c ns xs => exact (show False from ho).elim
        | bad => exact (show False from ho).elim
        | ok k =>
          intro F3 H3 e3
          have ow3 : H3 D = some (.lst accV) ∧ F3 D = none := by
            have := e3.own ow2.1 ow2.2 dp
            exact ⟨this.1.trans ow2.1, this.2⟩
          have ra3 := ra2.ext e3
          have eT := (e'.trans e2).trans e3
          cases k with
          | false =>
            rw [if_neg (by simp)]
            have ho : (compL tg (wipeL ρ vs) (compF cond elt) (xs.drop (i + 1)) acc).W (Out.K (PostE W E fp F0 H0 Q) fun ys => vB (.lst true ys)) := ho
            refine ⟨F3, accV, acc, fD, eT, ow3.1, ow3.2, ra3, nd, n0, (en.ext e2).ext e3, ?_, ?_, by omega, ?_⟩
            · exact fun a u q => e3.np a u (e2.np a u (ss a u q))
            · exact fun a u q => e3.f a u (e2.f a u (sf a u q))
            · exact Tr.W_bind.mpr ho
          | true =>
            rw [if_pos rfl]
            have ho : (Tr.W _ ((elt ρ').bind fun r => (match mov r with | some y => Tr.ok (some y) | none => Tr.bad))) := ho
            refine ⟨F3, ρ', fr, e3.g, en2.ext e3, Tr.W_imp (fun o2 ho2 => ?_) (Tr.W_bind.mp ho)⟩
            cases o2 with
            | exn c ns xs => exact (show False from ho2).elim
            | bad => exact (show False from ho2).elim
            | ok r =>
              intro F4 H4 yv e4 rr
              have ow4 : H4 D = some (.lst accV) ∧ F4 D = none := by
                have := e4.own ow3.1 ow3.2 dp
                exact ⟨this.1.trans ow3.1, this.2⟩
              have ra4 := ra3.ext e4
              have eT4 := eT.trans e4
              obtain ⟨fy, ry, ny, my⟩ := rr
              have hq : ∀ y, mov r = some y → (compL tg (wipeL ρ vs) (compF cond elt) (xs.drop (i + 1)) (acc ++ [y])).W (Out.K (PostE W E fp F0 H0 Q) fun ys => vB (.lst true ys)) := fun y hm => by
                have t : Tr.W _ (match mov r with | some y => Tr.ok (some y) | none => Tr.bad) := ho2
                rw [hm] at t
                exact t
              have hn : mov r = none → False := fun hm => by
                have t : Tr.W _ (match mov r with | some y => Tr.ok (some y) | none => Tr.bad) := ho2
                rw [hm] at t
                exact t
              clear ho2
              cases hm : mov r with
              | none => exact (hn hm).elim
              | some y =>

                obtain ⟨bb, xx⟩ := r
                have key : ∃ f, Ro W F4 H4 yv y f ∧ (∀ a ∈ f, H3 a = none) := by
                  cases bb with
                  | false =>
                    have : xx = y := by simpa [mov] using hm
                    subst this
                    exact ⟨fy, ry, ny rfl⟩
                  | true =>
                    have st : xx.st = true := by
                      by_cases z : xx.st = true
                      · exact z
                      · simp [mov, z] at hm
                    have : xx = y := by simpa [mov, st] using hm
                    subst this
                    exact ⟨[], .st (ry.stable st), fun _ z => by simp at z⟩
                obtain ⟨f, ryf, nf⟩ := key
                have hlen : accV.length < sizeLine := by omega
                refine ⟨accV, ow4.1, hlen, F4, accV ++ [yv], acc ++ [y], fD ++ f, eT4.put d0 ow4.2 dp ow4.1, upd_same, ow4.2, ?_, ?_, ?_, ?_, ?_, ?_, by simp; omega, ?_⟩
                · have dj : ∀ a ∈ fD, a ∉ f := fun a ha hb => by
                    obtain ⟨⟨o, ho, _⟩, _⟩ := ra3.own a ha
                    rw [nf a hb] at ho
                    cases ho
                  have c1 : Ros W F4 (upd H4 D (.lst (accV ++ [yv]))) accV acc fD := ra4.carry (fun _ _ q => q) fun a ha => ⟨upd_ne (fun z => nd (z ▸ ha)), (ra4.own a ha).2.1⟩
                  have c2 : Ro W F4 (upd H4 D (.lst (accV ++ [yv]))) yv y f := ryf.carry (fun _ _ q => q) fun a ha => ⟨upd_ne (fun z => by
                    have := nf a ha
                    rw [z, ow3.1] at this
                    cases this), (ryf.own a ha).2.1⟩
                  have app : ∀ {vs : List V} {xs : List PV} {g : List Addr}, Ros W F4 (upd H4 D (.lst (accV ++ [yv]))) vs xs g → (∀ a ∈ g, a ∉ f) → Ros W F4 (upd H4 D (.lst (accV ++ [yv]))) (vs ++ [yv]) (xs ++ [y]) (g ++ f) := by
                    intro vs xs g r
                    induction vs generalizing xs g with
                    | nil =>
                      intro _
                      cases r
                      have := Ros.cons c2 .nil (fun _ _ z => by simp at z)
                      simpa using this
                    | cons v vs ih =>
                      intro dj
                      cases r with
                      | cons a t d =>
                        rw [List.append_assoc]
                        exact .cons a (ih t fun a ha => dj a (by simp [ha])) fun a ha hb => by
                          rcases List.mem_append.mp hb with hb | hb
                          · exact d a ha hb
                          · exact dj a (by simp [ha]) hb
                  exact app c1 dj
                · intro z
                  rcases List.mem_append.mp z with z | z
                  · exact nd z
                  · have := nf D z
                    rw [ow3.1] at this
                    cases this
                · intro a ha
                  rcases List.mem_append.mp ha with ha | ha
                  · exact n0 a ha
                  · exact eT.free (nf a ha)
                · have en4 := ((en.ext e2).ext e3).ext e4
                  refine en4.carry (fun _ _ q => q) fun a ha => ⟨upd_ne fun z => ?_, (en4.own a ha).2.1⟩
                  obtain ⟨o, ho⟩ := fo a (sq a ha)
                  rw [z, d0] at ho
                  cases ho
                · exact Same.np_put (fun a u q => e4.np a u (e3.np a u (e2.np a u (ss a u q)))) sD
                · exact fun a u q => e4.f a u (e3.f a u (e2.f a u (sf a u q)))
                · exact Tr.W_bind.mpr (hq y hm)
  · rintro H' ⟨F', accV, acc, fD, e', hd, fd, ra, nd, n0, en, ss, sf, hl, z⟩
    rw [List.drop_length] at z
    have z : (vB (.lst true acc)).W (PostE W E fp F0 H0 Q) := z
    exact give z e' (.lst hd fd dp ra nd) fun a ha => by
      rcases List.mem_cons.mp ha with rfl | ha
      · exact d0
      · exact n0 a ha
end FS

set_option Elab.async false
set_option linter.all false
set_option maxRecDepth 100000
set_option maxHeartbeats 4000000
namespace FS
open PySem PySem.Spec PyProof.Rows L2

/-! ### what a def is known to do -/
def PostF (W : Wd) (E : XK) (F H : Hp) (Q : VK) : Out PV → Prop
  | .ok x => ∀ (F' H' : Hp) (v : V) (fp : List Addr), Ext W F H F' H' → Ro W F' H' v x fp → (∀ a ∈ fp, H a = none) → Q v H'
  | .exn c ns xs => ExP W E F H c ns xs
  | .bad => False
def spF (W : Wd) (n : Nat) (m : Fn) : Sp := fun vs H Q E => ∃ F xs, vs.length = n ∧ Good W F H ∧ Rps W F vs xs ∧ (m xs).W (PostF W E F H Q)
structure FnS (W : Wd) (k : Nat) (f : Str) (n : Nat) (m : Fn) : Prop where
  ex : ∃ (a : Addr) (fd : FuncData) (ps : List Str), W.mg f = some (.ref a) ∧ PySem.W.keepIn W.K (.ref a) = true ∧ Binds W.K fd ps [] ∧ ps.length = n ∧ FnG W.P W.w W.K W.mg W.base (L2.CX W.P W.w) k a fd ps (spF W n m)
theorem FnS.mono {W : Wd} {j k : Nat} {f : Str} {n : Nat} {m : Fn} (h : FnS W j f n m) (l : j ≤ k) : FnS W k f n m :=
  let ⟨a, fd, ps, h1, h2, h3, h4, h5⟩ := h.ex; ⟨a, fd, ps, h1, h2, h3, h4, h5.mono l⟩
/-- a def does no less -/
theorem FnS.imp {W : Wd} {k : Nat} {f : Str} {n : Nat} {m m' : Fn} (h : FnS W k f n m) (i : ∀ (xs : List PV) (P : Out PV → Prop), ¬ P .bad → (m' xs).W P → (m xs).W P) : FnS W k f n m' :=
  let ⟨a, fd, ps, h1, h2, h3, h4, h5⟩ := h.ex; ⟨a, fd, ps, h1, h2, h3, h4, h5.imp fun vs H Q E ⟨F, xs, q1, q2, q3, q4⟩ => ⟨F, xs, q1, q2, q3, i xs _ (fun z => z) q4⟩⟩
inductive PXL (W : Wd) (k : Nat) (N : List Str) : List (Scope × Expr) → List (Loc → Tr Rv) → Prop
  | nil : PXL W k N [] []
  | cons {sc : Scope} {x : Expr} {ss : List (Scope × Expr)} {m : Loc → Tr Rv} {ms : List (Loc → Tr Rv)} : plainB x = true → PX W k N sc x m → PXL W k N ss ms → PXL W k N ((sc, x) :: ss) (m :: ms)
inductive Need where
  | prim (q : Prim)
  | primI (q : PrimI)
  | fn (f : Str) (n : Nat) (m : Fn)
  | gl (x : Str)
  | gi (x : Str) (i : Int)
  | fr (x : Str)
def Need.holds (W : Wd) (k : Nat) : Need → Prop
  | .fn f n m => FnS W k f n m
  | .gl x => ∃ a, W.mg x = some (.ref a)
  | .gi x i => ∃ t, W.mg x = some (.int i t)
  | .fr x => W.mg x = none
  | .prim q => ∀ (N : List Str) (sc : Scope) (x : Expr) (ss : List (Scope × Expr)) (ms : List (Loc → Tr Rv)), q.chk N sc x = some ss → PXL W k N ss ms → PX W k N sc x (q.m ms)
  | .primI q => ∀ (N : List Str) (sc : Scope) (t x : Expr) (ss : List (Scope × Expr)) (ms : List (Loc → Tr Rv)), q.chk N sc t x = some ss → PXL W k N ss ms → PIX W k N sc t x (q.m ms)
def AllN (W : Wd) (k : Nat) : List Need → Prop
  | [] => True
  | n :: r => n.holds W k ∧ AllN W k r
theorem AllN.app {W : Wd} {k : Nat} : ∀ {a b : List Need}, AllN W k (a ++ b) → AllN W k a ∧ AllN W k b
  | [], b, h => ⟨trivial, h⟩
  | n :: a, b, ⟨h, t⟩ => ⟨⟨h, (AllN.app t).1⟩, (AllN.app t).2⟩
mutual
def ndE : Ex → List Need
  | .var _ => []
  | .gl x => [.gl x]
  | .gi x i => [.gi x i]
  | .ty n => (match tyN n with | some x => [.fr x] | none => [])
  | .non => []
  | .bl _ => []
  | .int _ => []
  | .str _ => []
  | .bin _ a b => ndE a ++ ndE b
  | .neg a => ndE a
  | .cmp _ a b => ndE a ++ ndE b
  | .chn _ _ a b c => ndE a ++ (ndE b ++ ndE c)
  | .isN _ a => ndE a
  | .isB _ a b => ndE a ++ ndE b
  | .nt a => ndE a
  | .an a r => ndE a ++ ndE r
  | .orr a r => ndE a ++ ndE r
  | .one a => ndE a
  | .ife c a b => ndT c ++ (ndE a ++ ndE b)
  | .call f n m es => .fn f n m :: nds es
  | .blt b es => .fr (bltN b) :: nds es
  | .listR a => .fr "list" :: .fr "range" :: ndE a
  | .isi a ts => .fr "isinstance" :: (ts.flatMap (fun n => match tyN n with | some x => [Need.fr x] | none => []) ++ ndE a)
  | .sub a i => ndE a ++ ndE i
  | .sli a lo hi => ndE a ++ (ndO lo ++ ndO hi)
  | .tup es => nds es
  | .lst es => nds es
  | .dnew _ => []
  | .comp elt _ it cond _ => ndI it ++ (ndT cond ++ ndE elt)
  | .prim q es => .prim q :: nds es
def nds : Exs → List Need
  | .nil => []
  | .cons e es => ndE e ++ nds es
def ndO : OEx → List Need
  | .none => []
  | .some e => ndE e
def ndI : ItX → List Need
  | .seq e => ndE e
  | .rng a => .fr "range" :: ndE a
  | .rng2 a b => .fr "range" :: (ndE a ++ ndE b)
  | .enum e => .fr "enumerate" :: ndE e
  | .zip a b => .fr "zip" :: (ndE a ++ ndE b)
  | .prim q es => .primI q :: nds es
def ndT : Te → List Need
  | .yes => []
  | .tru e => ndE e
  | .cmp _ a b => ndE a ++ ndE b
  | .chn _ _ a b c => ndE a ++ (ndE b ++ ndE c)
  | .isN _ a => ndE a
  | .isB _ a b => ndE a ++ ndE b
  | .nt a => ndT a
  | .an a r => ndT a ++ ndT r
  | .orr a r => ndT a ++ ndT r
  | .one a => ndT a
end

/-! ### the checker -/
def opB : BOp → Operator → Bool
  | .add, .Add => true | .sub, .Sub => true | .mul, .Mult => true | .fdiv, .FloorDiv => true | .mod, .Mod => true | .pow, .Pow => true | _, _ => false
theorem opB_ok {op : BOp} {o : Operator} (h : opB op o = true) : o = pyB op := by cases op <;> cases o <;> first | rfl | cases h
def coB : COp → CmpOp → Bool
  | .lt, .Lt => true | .le, .LtE => true | .gt, .Gt => true | .ge, .GtE => true | .eq, .Eq => true | .ne, .NotEq => true | .in_, .In => true | .notin, .NotIn => true | _, _ => false
theorem coB_ok {op : COp} {o : CmpOp} (h : coB op o = true) : o = pyC op := by cases op <;> cases o <;> first | rfl | cases h
def isB' (ng : Bool) : CmpOp → Bool
  | .Is => !ng
  | .IsNot => ng
  | _ => false
def tysB (sc : Scope) : List String → List Expr → Bool
  | [], [] => true
  | n :: ns, .Name x _ :: es => decide (tyN n = some x) && glB sc x && nmB x && tysB sc ns es
  | _, _ => false
def isAnd : Expr → Bool
  | .BoolOp .And _ _ => true
  | _ => false
def isOr : Expr → Bool
  | .BoolOp .Or _ _ => true
  | _ => false
def needT : ItX → Bool
  | .enum _ => true
  | .zip _ _ => true
  | _ => false
def isTupE : Expr → Bool
  | .Tuple _ _ _ => true
  | _ => false
mutual
def chkE (N : List Str) (sc : Scope) : Ex → Expr → Bool
  | .var i, x => (match x with | .Name x _ => decide (N[i]? = some x) && (visB sc x && nmB x) | _ => false)
  | .gl y, x => (match x with | .Name x _ => decide (x = y) && (glB sc x && nmB x) | _ => false)
  | .gi y _, x => (match x with | .Name x _ => decide (x = y) && (glB sc x && nmB x) | _ => false)
  | .ty n, x => (match x with | .Name x _ => decide (tyN n = some x) && (glB sc x && nmB x) | _ => false)
  | .non, x => (match x with | .Constant .none _ _ => true | _ => false)
  | .bl b, x => (match x with | .Constant (.bool c) _ _ => decide (b = c) | _ => false)
  | .int i, x => (match x with | .Constant (.int j) _ _ => decide (i = j) | _ => false)
  | .str s, x => (match x with | .Constant (.str t) _ _ => decide (s = t) | _ => false)
  | .bin op a b, x => (match x with | .BinOp l o r _ => opB op o && (chkE N sc a l && chkE N sc b r) | _ => false)
  | .neg a, x => (match x with | .UnaryOp .USub y _ => chkE N sc a y | _ => false)
  | .cmp op a b, x => (match x with | .Compare l [o] [r] _ => coB op o && (plainB r && (chkE N sc a l && chkE N sc b r)) | _ => false)
  | .chn o o' a b c, x => (match x with | .Compare l [p, p'] [r, s] _ => coB o p && (coB o' p' && (plainB s && (chkE N sc a l && (chkE N sc b r && chkE N sc c s)))) | _ => false)
  | .isN ng a, x => (match x with | .Compare l [o] [.Constant .none _ _] _ => isB' ng o && chkE N sc a l | _ => false)
  | .isB ng a b, x => (match x with | .Compare l [o] [r] _ => isB' ng o && (chkE N sc a l && chkE N sc b r) | _ => false)
  | .nt a, x => (match x with | .UnaryOp .Not y _ => chkE N sc a y | _ => false)
  | .an a r, x => (match x with | .BoolOp .And (l :: m :: rest) p => chkE N sc a l && chkE N sc r (.BoolOp .And (m :: rest) p) | _ => false)
  | .orr a r, x => (match x with | .BoolOp .Or (l :: m :: rest) p => chkE N sc a l && chkE N sc r (.BoolOp .Or (m :: rest) p) | _ => false)
  | .one a, x => (match x with | .BoolOp _ [l] _ => chkE N sc a l | _ => false)
  | .ife c a b, x => (match x with | .IfExp t l r _ => chkT N sc c t && (chkE N sc a l && chkE N sc b r) | _ => false)
  | .call f _ _ es, x => (match x with | .Call (.Name y _) args [] _ => decide (y = f) && (glB sc y && (nmB y && (args.all plainB && chks N sc es args))) | _ => false)
  | .blt b es, x => (match x with | .Call (.Name y _) (a :: args) [] _ => decide (y = bltN b) && (glB sc y && ((a :: args).all plainB && chks N sc es (a :: args))) | _ => false)
  | .listR a, x => (match x with | .Call (.Name y _) [.Call (.Name z _) [e] [] _] [] _ => decide (y = "list") && (glB sc y && (decide (z = "range") && (glB sc z && (plainB e && chkE N sc a e)))) | _ => false)
  | .isi a ts, x => decide (ts.length ≤ 100) && (match x with
    | .Call (.Name y _) [e, .Tuple cs _ _] [] _ => decide (y = "isinstance") && (glB sc y && (plainB e && (chkE N sc a e && tysB sc ts cs)))
    | .Call (.Name y _) [e, .Name z q] [] _ => decide (y = "isinstance") && (glB sc y && (plainB e && (chkE N sc a e && tysB sc ts [.Name z q])))
    | _ => false)
  | .sub a i, x => (match x with | .Subscript l r _ => plainB r && (chkE N sc a l && chkE N sc i r) | _ => false)
  | .sli a lo hi, x => (match x with | .Subscript l (.Slice p q none _) _ => chkE N sc a l && (chkO N sc lo p && chkO N sc hi q) | _ => false)
  | .tup es, x => (match x with | .Tuple l _ _ => l.all plainB && chks N sc es l | _ => false)
  | .lst es, x => (match x with | .List l _ => l.all plainB && chks N sc es l | _ => false)
  | .dnew _, x => (match x with | .Dict [] [] _ => true | _ => false)
  | .comp elt tg it cond own, x => (match x with
    | .ListComp e [⟨t, i, ifs, z⟩] scope _ => decide (z = 0) && (blkC N sc scope own && (plainB i && ((!needT it || isTupE t) && (tgB (fun y => scope.names.lookup y == some .cell) N (relS scope sc) tg t && ((tgIs tg).all (fun j => (own.map (·.2)).contains j) && (chkI N sc t it i &&
        ((match ifs with | [] => (match cond with | .yes => true | _ => false) | [c] => chkT N (relS scope sc) cond c | _ => false) && chkE N (relS scope sc) elt e)))))))
    | _ => false)
  | .prim q es, x => plainB x && (match q.chk N sc x with | some ss => chkL N es ss | none => false)
def chkL (N : List Str) : Exs → List (Scope × Expr) → Bool
  | .nil, xs => (match xs with | [] => true | _ => false)
  | .cons e es, xs => (match xs with | p :: xs => chkE N p.1 e p.2 && chkL N es xs | _ => false)
def chks (N : List Str) (sc : Scope) : Exs → List Expr → Bool
  | .nil, xs => (match xs with | [] => true | _ => false)
  | .cons e es, xs => (match xs with | x :: xs => chkE N sc e x && chks N sc es xs | _ => false)
def chkO (N : List Str) (sc : Scope) : OEx → Option Expr → Bool
  | .none, x => (match x with | none => true | _ => false)
  | .some e, x => (match x with | some x => chkE N sc e x | _ => false)
def chkI (N : List Str) (sc : Scope) (tg : Expr) : ItX → Expr → Bool
  | .seq e, x => chkE N sc e x
  | .rng a, x => (match x with | .Call (.Name y _) [e] [] _ => decide (y = "range") && (glB sc y && (plainB e && chkE N sc a e)) | _ => false)
  | .rng2 a b, x => (match x with | .Call (.Name y _) [e, f] [] _ => decide (y = "range") && (glB sc y && (plainB e && (plainB f && (chkE N sc a e && chkE N sc b f)))) | _ => false)
  | .enum e, x => (match x with | .Call (.Name y _) [l] [] _ => decide (y = "enumerate") && (glB sc y && (plainB l && chkE N sc e l)) | _ => false)
  | .zip a b, x => (match x with | .Call (.Name y _) [e, f] [] _ => decide (y = "zip") && (glB sc y && (plainB e && (plainB f && (chkE N sc a e && chkE N sc b f)))) | _ => false)
  | .prim q es, x => (match q.chk N sc tg x with | some ss => chkL N es ss | none => false)
def chkT (N : List Str) (sc : Scope) : Te → Expr → Bool
  | .yes, _ => false
  | .tru e, x => truB x && chkE N sc e x
  | .cmp op a b, x => (match x with | .Compare l [o] [r] _ => coB op o && (plainB r && (chkE N sc a l && chkE N sc b r)) | _ => false)
  | .chn o o' a b c, x => (match x with | .Compare l [p, p'] [r, s] _ => coB o p && (coB o' p' && (plainB s && (chkE N sc a l && (chkE N sc b r && chkE N sc c s)))) | _ => false)
  | .isN ng a, x => (match x with | .Compare l [o] [.Constant .none _ _] _ => isB' ng o && chkE N sc a l | _ => false)
  | .isB ng a b, x => (match x with | .Compare l [o] [r] _ => isB' ng o && (chkE N sc a l && chkE N sc b r) | _ => false)
  | .nt a, x => (match x with | .UnaryOp .Not y _ => chkT N sc a y | _ => false)
  | .an a r, x => (match x with | .BoolOp .And (l :: m :: rest) p => chkT N sc a l && chkT N sc r (.BoolOp .And (m :: rest) p) | _ => false)
  | .orr a r, x => (match x with | .BoolOp .Or (l :: m :: rest) p => chkT N sc a l && chkT N sc r (.BoolOp .Or (m :: rest) p) | _ => false)
  | .one a, x => (match x with | .BoolOp _ [l] _ => chkT N sc a l | _ => false)
end
end FS

set_option Elab.async false
set_option linter.all false
set_option maxRecDepth 100000
set_option maxHeartbeats 4000000
namespace FS
open PySem PySem.Spec PyProof.Rows L2

section
variable {W : Wd} {E : XK}
/-- an operand ahead of anything -/
theorem stepG {α : Type} {P : Out α → Prop} {F0 H0 F1 H1 : Hp} {σ : L2.St} {ρ : Loc} {fp : List Addr} {m : Loc → Tr Rv} {K : Rv → Tr α} (hx : ∀ c ns xs, P (.exn c ns xs) → ExP W E F0 H0 c ns xs) (hb : ¬ P .bad)
    (e : Ext W F0 H0 F1 H1) (env : EnvR W F1 H1 σ ρ fp) (h : ((m ρ).bind K).W P) : tE W E m σ H1 fun x H2 => ∃ r F2, Ext W F1 H1 F2 H2 ∧ RF W fp F2 H2 r x ∧ (K r).W P := by
  refine ⟨F1, ρ, fp, e.g, env, Tr.W_imp (fun o ho => ?_) (Tr.W_bind.mp h)⟩
  cases o with
  | ok r =>
    intro F' H' v e' q
    obtain ⟨F3, e3, q3⟩ := q.froze e'
    exact ⟨r, F3, e3, q3, ho⟩
  | exn c ns xs => exact ExP.ext e (hx _ _ _ ho)
  | bad => exact hb ho
theorem tst1 {m : Loc → Tr Rv} {K : Rv → Tr Bool} {σ : L2.St} {H : Hp} {R : Bool → Hp → Prop} (h : tT W E (fun ρ => (m ρ).bind K) σ H R) :
    tE W E m σ H fun x H1 => ∃ fe F0 H0 F' r, Ext W F0 H0 F' H1 ∧ RF W fe F' H1 r x ∧ (K r).W (PostT W E F0 H0 R) := by
  obtain ⟨F, ρ, fp, g, env, h⟩ := h
  exact (stepG (fun _ _ _ z => z) (fun z => z) (Ext.refl g) env h).imp fun v H' ⟨r, F2, e2, q, z⟩ => ⟨fp, F, H, F2, r, e2, q, z⟩
theorem tst2 {ma mb : Loc → Tr Rv} {K : Rv → Rv → Tr Bool} {σ : L2.St} {H : Hp} {R : Bool → Hp → Prop} (h : tT W E (fun ρ => (ma ρ).bind fun ra => (mb ρ).bind fun rb => K ra rb) σ H R) :
    tE W E ma σ H fun x H1 => tE W E mb σ H1 fun y H2 => ∃ fe F0 H0 F' ra rb, Ext W F0 H0 F' H2 ∧ RF W fe F' H2 ra x ∧ RF W fe F' H2 rb y ∧ (K ra rb).W (PostT W E F0 H0 R) := by
  obtain ⟨F, ρ, fp, g, env, h⟩ := h
  refine (stepG (fun _ _ _ z => z) (fun z => z) (Ext.refl g) env h).imp fun v H' ⟨r, F2, e2, q, z⟩ => ?_
  refine (stepG (P := PostT W E F H R) (fun _ _ _ z => z) (fun z => z) e2 (env.ext e2) z).imp fun v3 H3 ⟨r3, F3, e3, q3, z3⟩ => ?_
  exact ⟨fp, F, H, F3, r, r3, e2.trans e3, q.ext e3, q3, z3⟩
theorem itr1 {m : Loc → Tr Rv} {K : Rv → Tr (Bool × List PV)} {σ : L2.St} {H : Hp} {R : L2.It → Hp → Prop} (h : tI W E (fun ρ => (m ρ).bind K) σ H R) :
    tE W E m σ H fun x H1 => ∃ fe F0 H0 F' r, Ext W F0 H0 F' H1 ∧ RF W fe F' H1 r x ∧ (K r).W (PostI W E F0 H0 R) := by
  obtain ⟨F, ρ, fp, g, env, h⟩ := h
  exact (stepG (fun _ _ _ z => z) (fun z => z) (Ext.refl g) env h).imp fun v H' ⟨r, F2, e2, q, z⟩ => ⟨fp, F, H, F2, r, e2, q, z⟩
theorem itr2 {ma mb : Loc → Tr Rv} {K : Rv → Rv → Tr (Bool × List PV)} {σ : L2.St} {H : Hp} {R : L2.It → Hp → Prop} (h : tI W E (fun ρ => (ma ρ).bind fun ra => (mb ρ).bind fun rb => K ra rb) σ H R) :
    tE W E ma σ H fun x H1 => tE W E mb σ H1 fun y H2 => ∃ fe F0 H0 F' ra rb, Ext W F0 H0 F' H2 ∧ RF W fe F' H2 ra x ∧ RF W fe F' H2 rb y ∧ (K ra rb).W (PostI W E F0 H0 R) := by
  obtain ⟨F, ρ, fp, g, env, h⟩ := h
  refine (stepG (fun _ _ _ z => z) (fun z => z) (Ext.refl g) env h).imp fun v H' ⟨r, F2, e2, q, z⟩ => ?_
  refine (stepG (P := PostI W E F H R) (fun _ _ _ z => z) (fun z => z) e2 (env.ext e2) z).imp fun v3 H3 ⟨r3, F3, e3, q3, z3⟩ => ?_
  exact ⟨fp, F, H, F3, r, r3, e2.trans e3, q.ext e3, q3, z3⟩
/-- three, the last one asked or not -/
theorem op3 {α : Type} {P : List Addr → Hp → Hp → Out α → Prop} {ma mb : Loc → Tr Rv} {K : Loc → Rv → Rv → Tr α} {σ : L2.St} {H : Hp} (hx : ∀ fe F H c ns xs, P fe F H (.exn c ns xs) → ExP W E F H c ns xs) (hb : ∀ fe F H, ¬ P fe F H .bad)
    (h : ∃ F ρ fp, Good W F H ∧ EnvR W F H σ ρ fp ∧ ((ma ρ).bind fun ra => (mb ρ).bind fun rb => K ρ ra rb).W (P fp F H)) :
    tE W E ma σ H fun x H1 => tE W E mb σ H1 fun y H2 => ∃ fe F0 H0 F' ra rb ρ, Ext W F0 H0 F' H2 ∧ EnvR W F' H2 σ ρ fe ∧ RF W fe F' H2 ra x ∧ RF W fe F' H2 rb y ∧ (K ρ ra rb).W (P fe F0 H0) := by
  obtain ⟨F, ρ, fp, g, env, h⟩ := h
  refine (stepG (hx fp F H) (hb fp F H) (Ext.refl g) env h).imp fun v H' ⟨r, F2, e2, q, z⟩ => ?_
  refine (stepG (P := P fp F H) (hx fp F H) (hb fp F H) e2 (env.ext e2) z).imp fun v3 H3 ⟨r3, F3, e3, q3, z3⟩ => ?_
  exact ⟨fp, F, H, F3, r, r3, ρ, e2.trans e3, (env.ext e2).ext e3, q.ext e3, q3, z3⟩
/-- a comparison's answer is taken by whoever takes a truth value -/
theorem rCmp_bl {K : PySem.W.Frag} {op : COp} {x y : V} {H : Hp} {Q Q' : VK} (h : rCmp K op x y H Q) (i : ∀ b, Q (.bl b) H → Q' (.bl b) H) : rCmp K op x y H Q' := by
  cases op with
  | lt => obtain ⟨a, b, h1, h2, q⟩ := h; exact ⟨a, b, h1, h2, i _ q⟩
  | le => obtain ⟨a, b, h1, h2, q⟩ := h; exact ⟨a, b, h1, h2, i _ q⟩
  | gt => obtain ⟨a, b, h1, h2, q⟩ := h; exact ⟨a, b, h1, h2, i _ q⟩
  | ge => obtain ⟨a, b, h1, h2, q⟩ := h; exact ⟨a, b, h1, h2, i _ q⟩
  | eq => obtain ⟨d, e, h1, h2, h3, h4, q⟩ := h; exact ⟨d, e, h1, h2, h3, h4, i _ q⟩
  | ne => obtain ⟨d, e, h1, h2, h3, h4, q⟩ := h; exact ⟨d, e, h1, h2, h3, h4, i _ q⟩
  | in_ =>
    rcases h with ⟨d, e, h1, h2, h3, h4, q⟩ | ⟨a, o, h1, h2, q⟩
    · exact .inl ⟨d, e, h1, h2, h3, h4, i _ q⟩
    · exact .inr ⟨a, o, h1, h2, i _ q⟩
  | notin =>
    rcases h with ⟨d, e, h1, h2, h3, h4, q⟩ | ⟨a, o, h1, h2, q⟩
    · exact .inl ⟨d, e, h1, h2, h3, h4, i _ q⟩
    · exact .inr ⟨a, o, h1, h2, i _ q⟩
/-- a value's truth -/
theorem tru_of {fe : List Addr} {F H : Hp} {r : Rv} {v : V} {b : Bool} (g : Good W F H) (q : RF W fe F H r v) (h : truS r.2 = some b) : TruV W.K v H b := by
  obtain ⟨bb, x⟩ := r
  cases x with
  | non => cases h; have := q.plain rfl rfl; cases this; rfl
  | bl c => cases h; have := q.plain rfl rfl; cases this; rfl
  | int i => cases h; have := q.plain rfl rfl; cases this; rfl
  | lst o xs =>
    cases h
    obtain ⟨a, vs, rfl, ha, hl, _⟩ := q.lst g rfl
    refine .inl ⟨vs, .inl (.inl ha), ?_⟩
    cases vs <;> cases xs <;> simp_all
  | tup xs =>
    cases h
    have := q.plain rfl rfl
    cases this with
    | tup ha t =>
      refine .inr (.inl ⟨_, .inl (.inl (g.sub _ _ ha)), ?_⟩)
      cases t <;> rfl
  | _ => simp [truS] at h
theorem cmp_rd {fe : List Addr} {F H : Hp} {ra rb : Rv} {va vb : V} {op : COp} {b : Bool} {Q : VK} (g : Good W F H) (qa : RF W fe F H ra va) (qb : RF W fe F H rb vb) (h : cmpS op ra.2.fz rb.2.fz = some b) (q : Q (.bl b) H) : rCmp W.K op va vb H Q :=
  cmp_ok op (qa.read g) (qb.read g) h q
theorem isN_ok {fe : List Addr} {F H : Hp} {r : Rv} {v : V} (q : RF W fe F H r v) : decide (v = V.non) = (match r.2 with | .non => true | _ => false) := by
  obtain ⟨b, x⟩ := r
  rcases q with ⟨hb, q⟩ | ⟨hb, fp, q, m⟩
  · cases x <;> cases q <;> rfl
  · cases q with
    | st q => cases q <;> rfl
    | lst => rfl
    | dK => rfl
    | dT => rfl
end
end FS

set_option Elab.async false
set_option linter.all false
set_option maxRecDepth 100000
set_option maxHeartbeats 8000000
namespace FS
open PySem PySem.Spec PyProof.Rows L2

section
variable {W : Wd} {k : Nat} {N : List Str} {sc : Scope} {E : XK} {X : Cx}
theorem CxOk.gl (c : CxOk W k N sc E X) {x : Str} (h : glB sc x = true) : Gl X x := by
  show X.env.scope.names.lookup x = _
  rw [c.sc]
  exact glB_ok h
theorem CxOk.vis (c : CxOk W k N sc E X) {x : Str} (h : visB sc x = true) : Vis X.env.scope x := by
  rw [c.sc]
  exact visB_ok h
theorem CxOk.at_ (c : CxOk W k N sc E X) {i : Nat} {x : Str} (h : N[i]? = some x) : X.N[i]? = some x := by
  rw [c.N]
  exact h
theorem CxOk.fr (c : CxOk W k N sc E X) {x : Str} (h : W.mg x = none) : X.mg x = none := by rw [c.mg]; exact h
theorem nm1 {x : Str} (h : nmB x = true) : (x == ("__debug__" : Str)) = false := (nmB_ok h).1
theorem const_ok {x : Expr} {v : V} {p : PV} (h : PE X x (tC v)) (r : ∀ F, Rp W F v p) : PE X x (tE W E fun _ => vB p) :=
  PE.imp h fun σ H Q ⟨F, ρ, fp, g, env, h⟩ => giveS h (Ext.refl g) (r F)
/-- the block's context -/
theorem CxOk.blk (c : CxOk W k N sc E X) (s : Shared) (H : Hp) (scope : Scope) (C : Addr) (cl : List (Str × Addr)) (fp : List Addr) : CxOk W k N (relS scope sc) (fun _ _ _ => False) (X.blk s H scope (compEnvC scope cl C X.env) fp) :=
  ⟨c.prog, c.w, c.K, c.mg, c.base, c.nd, c.N, by
    have : (X.blk s H scope (compEnvC scope cl C X.env) fp).env.scope = relS scope X.env.scope := rfl
    rw [this, c.sc], c.calm, c.room, passL, c.gd⟩
theorem pl_cons {e : Expr} {es : List Expr} (h : (e :: es).all plainB = true) : plainB e = true ∧ es.all plainB = true := by simpa using h
end
theorem relV_int {v : V} {W : Wd} {F : Hp} {i : Int} (h : Rp W F v (.int i)) : v = .int i := by cases h; rfl
theorem fn_fin {W : Wd} {k : Nat} {E : XK} {n : Nat} {m : Fn} {H : Hp} {Q : VK} {vs : List V} {fe : List Addr} {F0 H0 F1 : Hp} {rs : List Rv} (e : Ext W F0 H0 F1 H) (q : RFs W fe F1 H rs vs)
    (h : (match takes rs with | some xs => if xs.length = n then (m xs).bind fun x => vB x else .bad | none => .bad : Tr Rv).W (PostE W E fe F0 H0 Q)) : spF W n m vs H Q E := by
  cases ht : takes rs with
  | none => rw [ht] at h; exact (show False from h).elim
  | some xs =>
    rw [ht] at h
    dsimp only at h
    by_cases hl : xs.length = n
    · rw [if_pos hl] at h
      have t := takes_ok q ht
      refine ⟨F1, xs, by rw [t.length]; exact hl, e.g, t, Tr.W_imp (fun o ho => ?_) (Tr.W_bind.mp h)⟩
      cases o with
      | ok x => exact fun F' H' v fp e' r n => ho F' H' v (e.trans e') ⟨fp, r, fun _ a ha => e.free (n a ha), fun z => Bool.noConfusion z⟩
      | exn c ns xs => exact ExP.ext e ho
      | bad => exact ho
    · rw [if_neg hl] at h
      exact (show False from h).elim
theorem px_call {W : Wd} {k : Nat} {N : List Str} {sc : Scope} {f : Str} {n : Nat} {m : Fn} {a0 : Expr} {as : List Expr} {me : Loc → Tr (List Rv)} {p pos : Pos} (hn : FnS W k f n m) (g : glB sc f = true) (nm : nmB f = true) (pl : (a0 :: as).all plainB = true) (ha : PAX W k N sc (a0 :: as) me) :
    PX W k N sc (.Call (.Name f p) (a0 :: as) [] pos) (fun ρ => (me ρ).bind fun rs => match takes rs with | some xs => if xs.length = n then (m xs).bind fun x => vB x else .bad | none => .bad) := by
  intro X E c
  obtain ⟨a, fd, ps, h1, h2, h3, h4, h5⟩ := hn.ex
  have F : FnG X.prog X.w X.K X.mg X.base (L2.CX X.prog X.w) k a fd ps (spF W n m) := by
    rw [c.prog, c.w, c.K, c.mg, c.base]
    exact h5
  obtain ⟨p1, p2⟩ := pl_cons pl
  refine PE.imp (pe_callG F c.gd c.room (c.gl g) (by rw [c.mg]; exact h1) (by rw [c.K]; exact h2) (by rw [c.K]; exact h3) c.pass (ha X E c) (nm1 nm) (star_cons p1) (star_all p2)) fun σ H Q h => ?_
  refine (stepAF h).imp fun vs H1 ⟨fe, F0, H0, F1, rs, e, q, z⟩ => ?_
  exact fn_fin (k := k) e q z
theorem px_call0 {W : Wd} {k : Nat} {N : List Str} {sc : Scope} {f : Str} {n : Nat} {m : Fn} {p pos : Pos} (hn : FnS W k f n m) (g : glB sc f = true) (nm : nmB f = true) :
    PX W k N sc (.Call (.Name f p) [] [] pos) (fun ρ => (Tr.ok []).bind fun rs => match takes rs with | some xs => if xs.length = n then (m xs).bind fun x => vB x else .bad | none => .bad) := by
  intro X E c
  obtain ⟨a, fd, ps, h1, h2, h3, h4, h5⟩ := hn.ex
  have F : FnG X.prog X.w X.K X.mg X.base (L2.CX X.prog X.w) k a fd ps (spF W n m) := by
    rw [c.prog, c.w, c.K, c.mg, c.base]
    exact h5
  refine PE.imp (pe_call0G F c.gd c.room (c.gl g) (by rw [c.mg]; exact h1) (by rw [c.K]; exact h2) (by rw [c.K]; exact h3) c.pass (nm1 nm)) fun σ H Q ⟨F', ρ, fp, gd, env, h⟩ => ?_
  exact fn_fin (k := k) (fe := fp) (Ext.refl gd) .nil h
theorem px_blt {W : Wd} {k : Nat} {N : List Str} {sc : Scope} {b : Blt} {a0 : Expr} {as : List Expr} {me : Loc → Tr (List Rv)} {p pos : Pos} (hm : W.mg (bltN b) = none) (g : glB sc (bltN b) = true) (pl : (a0 :: as).all plainB = true) (ha : PAX W k N sc (a0 :: as) me) :
    PX W k N sc (.Call (.Name (bltN b) p) (a0 :: as) [] pos) (fun ρ => (me ρ).bind fun rs => ofV (bltS b rs)) := by
  intro X E c
  obtain ⟨p1, p2⟩ := pl_cons pl
  have key : PE X (.Call (.Name (bltN b) p) (a0 :: as) [] pos) (tCB (rBlt X.K b) (tA W E me)) := by
    have hc := cr_blt (X := X) c.calm b
    have hb := boot_blt b
    have n1 : bltN b ≠ "__name__" := by cases b <;> decide +kernel
    have n2 : (bltN b == ("__debug__" : Str)) = false := by cases b <;> decide +kernel
    cases b with
    | len | sum | max | min | abs | sorted | any | all => exact pe_callB hc (c.gl g) (c.fr hm) hb (ha X E c) n1 n2 (star_cons p1) (star_all p2)
    | int | list | tuple => exact pe_callTy hc (c.gl g) (c.fr hm) hb (ha X E c) n1 n2 (star_cons p1) (star_all p2)
  refine PE.imp key fun σ H Q h => ?_
  refine (stepAF h).imp fun vs H1 ⟨fe, F0, H0, F1, rs, e, q, z⟩ => ?_
  rw [c.K]
  exact blt_ok b e q z
theorem px_comp {W : Wd} {k : Nat} {N : List Str} {sc : Scope} {e t i : Expr} {ifs : List Expr} {scope : Scope} {pos : Pos} {tg : Tg} {own : List (Str × Nat)} {mi : Loc → Tr (Bool × List PV)} {mc : Loc → Tr Bool} {me : Loc → Tr Rv}
    (hb : blkC N sc scope own = true) (pl : plainB i = true) (ht : tgB (fun y => scope.names.lookup y == some .cell) N (relS scope sc) tg t = true) (hs : ∀ j ∈ tgIs tg, j ∈ own.map (·.2))
    (hi : PIX W k N sc t i mi) (hc : PCX W k N (relS scope sc) ifs mc) (he : PX W k N (relS scope sc) e me) :
    PX W k N sc (.ListComp e [⟨t, i, ifs, 0⟩] scope pos) (fun ρ => (mi ρ).bind fun p => if p.2.length < sizeLine then (compL tg (wipeL ρ (own.map (·.2))) (compF mc me) p.2 []).bind fun ys => vB (.lst true ys) else .bad) := by
  intro X E c
  have ok : BlkOk X.N X.env.scope scope own := by
    rw [c.N, c.sc]
    exact blkOk_by hb
  refine PE.imp (pe_lc (g := gT X.K tg) c.calm c.ndX (hi X E c) ok (fun s H C cl fp => pg_tg (c.blk s H scope C cl fp).calm c.ndX (c.blk s H scope C cl fp).N (fun y hy => hy) (c.blk s H scope C cl fp).sc ht)
    (fun s H C cl fp => hc _ _ (c.blk s H scope C cl fp)) (fun s H C cl fp => he _ _ (c.blk s H scope C cl fp)) (plain_fold pl)) fun σ H Q ⟨F, ρ, fp, g, env, h⟩ => ?_
  refine ⟨F, ρ, fp, g, env, Tr.W_imp (fun o ho => ?_) (Tr.W_bind.mp h)⟩
  cases o with
  | exn cc ns xs => exact ho
  | bad => exact ho
  | ok p =>
    obtain ⟨b, xs⟩ := p
    intro F1 H1 J e1 src D hD
    have ho : (if xs.length < sizeLine then (compL tg (wipeL ρ (own.map (·.2))) (compF mc me) xs []).bind fun ys => vB (.lst true ys) else .bad : Tr Rv).W (PostE W E fp F H Q) := ho
    by_cases hz : xs.length < sizeLine
    · rw [if_pos hz] at ho
      have := comp_reads (E' := fun _ _ _ => False) e1 (env.ext e1) (fun a ha => own_ex (env.own a ha).1) src hz hD hs ho
      rw [← c.K] at this
      exact this
    · rw [if_neg hz] at ho
      exact (show False from ho).elim
end FS

set_option Elab.async false
set_option linter.all false
set_option maxRecDepth 100000
set_option maxHeartbeats 8000000
namespace FS
open PySem PySem.Spec PyProof.Rows L2

theorem chk_plain {N : List Str} {sc : Scope} : ∀ {e : Ex} {x : Expr}, chkE N sc e x = true → plainB x = true := by
  intro e x h
  cases x with
  | Starred a p => cases e <;> simp [chkE] at h <;> exact h.1
  | Slice a b c p => cases e <;> simp [chkE] at h <;> exact h.1
  | Set a b c => cases e <;> simp [chkE] at h <;> exact h.1
  | _ => rfl
theorem chks_len {N : List Str} {sc : Scope} : ∀ {es : Exs} {xs : List Expr}, chks N sc es xs = true → (xs = [] ↔ es = .nil)
  | .nil, xs, h => by cases xs <;> simp_all [chks]
  | .cons _ _, xs, h => by cases xs <;> simp_all [chks]
section
variable {W : Wd} {k : Nat} {N : List Str}
theorem px_var {sc : Scope} {i : Nat} {x : Str} {p : Pos} (h1 : N[i]? = some x) (h2 : visB sc x = true) (h3 : nmB x = true) : PX W k N sc (.Name x p) (evE (.var i)) := by
  intro X E c
  refine PE.imp (pe_var (i := i) (c.at_ h1) (c.vis h2) (nmB_ok h3).1 (nmB_ok h3).2.1) fun σ H Q ⟨F, ρ, fp, g, env, h⟩ => ?_
  simp only [evE] at h
  cases hr : ρ[i]? with
  | none => rw [hr] at h; exact (show False from h).elim
  | some o =>
    cases o with
    | none => rw [hr] at h; exact (show False from h).elim
    | some y =>
      rw [hr] at h
      obtain ⟨v, f, h4, h5, h6⟩ := env.get hr
      exact ⟨v, h4, h F H v (Ext.refl g) ⟨f, h5, fun z => Bool.noConfusion z, fun _ => h6⟩⟩
theorem px_bin {sc : Scope} {op : BOp} {a b : Expr} {ma mb : Loc → Tr Rv} {p : Pos} (ha : PX W k N sc a ma) (hb : PX W k N sc b mb) :
    PX W k N sc (.BinOp a (pyB op) b p) (fun ρ => (ma ρ).bind fun ra => (mb ρ).bind fun rb => match shal ra, shal rb with | some x, some y => ofV (binS op x y) | _, _ => .bad) := by
  intro X E c
  refine PE.imp (pe_op (op_bin op) (ha X E c) (hb X E c)) fun σ H Q h => ?_
  refine (op2 h).imp fun x H1 h => h.imp fun y H2 ⟨fe, F0, H0, F', ra, rb, e, qa, qb, z⟩ => ?_
  rw [c.K]
  cases hx : shal ra with
  | none => rw [hx] at z; exact (show False from z).elim
  | some u =>
    cases hy : shal rb with
    | none => rw [hx, hy] at z; exact (show False from z).elim
    | some w =>
      rw [hx, hy] at z
      exact bin_ok op e (qa.sh e.g hx) (qb.sh e.g hy) z
theorem px_neg {sc : Scope} {a : Expr} {ma : Loc → Tr Rv} {p : Pos} (ha : PX W k N sc a ma) : PX W k N sc (.UnaryOp .USub a p) (fun ρ => (ma ρ).bind fun ra => match ra.2 with | .int i => vB (.int (-i)) | _ => .bad) := by
  intro X E c
  refine PE.imp (pe_un un_neg (ha X E c)) fun σ H Q h => ?_
  refine (op1 h).imp fun x H1 ⟨fe, F0, H0, F', r, e, q, z⟩ => ?_
  obtain ⟨b, y⟩ := r
  cases y with
  | int i =>
    have := q.plain rfl rfl
    cases this
    exact ⟨i, rfl, giveS z e .int⟩
  | _ => exact (show False from z).elim
theorem px_cmp {sc : Scope} {op : COp} {a b : Expr} {ma mb : Loc → Tr Rv} {p : Pos} (pl : plainB b = true) (ha : PX W k N sc a ma) (hb : PX W k N sc b mb) :
    PX W k N sc (.Compare a [pyC op] [b] p) (fun ρ => (ma ρ).bind fun ra => (mb ρ).bind fun rb => ofB (cmpS op ra.2.fz rb.2.fz)) := by
  intro X E c
  refine PE.imp (pe_cmpR (op_cmp c.hu op) (ha X E c) (hb X E c) (plain_mark pl)) fun σ H Q h => ?_
  refine (op2 h).imp fun x H1 h => h.imp fun y H2 ⟨fe, F0, H0, F', ra, rb, e, qa, qb, z⟩ => ?_
  rw [c.K]
  cases hc : cmpS op ra.2.fz rb.2.fz with
  | none => rw [hc] at z; exact (show False from z).elim
  | some b =>
    rw [hc] at z
    exact cmp_rd e.g qa qb hc (giveS z e .bl)
theorem pt_cmpX {sc : Scope} {op : COp} {a b : Expr} {ma mb : Loc → Tr Rv} {p : Pos} (pl : plainB b = true) (ha : PX W k N sc a ma) (hb : PX W k N sc b mb) :
    PTX W k N sc (.Compare a [pyC op] [b] p) (fun ρ => (ma ρ).bind fun ra => (mb ρ).bind fun rb => Tr.ofO (cmpS op ra.2.fz rb.2.fz)) := by
  intro X E c
  refine PT.imp (pt_cmpR (op_cmp c.hu op) (ha X E c) (hb X E c) (plain_mark pl)) fun σ H Q h => ?_
  refine (tst2 h).imp fun x H1 h => h.imp fun y H2 ⟨fe, F0, H0, F', ra, rb, e, qa, qb, z⟩ => ?_
  rw [c.K]
  cases hc : cmpS op ra.2.fz rb.2.fz with
  | none => rw [hc] at z; exact (show False from z).elim
  | some b =>
    rw [hc] at z
    exact cmp_rd e.g qa qb hc ⟨b, rfl, z F' H2 e⟩
theorem lastm {op op' : CmpOp} {b c : Expr} (h : plainB c = true) : lastMarks [op, op'] [b, c] = false := by
  show lastMarks [op'] [c] = false
  exact plain_mark h
theorem px_chn {sc : Scope} {o o' : COp} {a b d : Expr} {ma mb md : Loc → Tr Rv} {p : Pos} (pl : plainB d = true) (ha : PX W k N sc a ma) (hb : PX W k N sc b mb) (hd : PX W k N sc d md) :
    PX W k N sc (.Compare a [pyC o, pyC o'] [b, d] p) (fun ρ => (ma ρ).bind fun ra => (mb ρ).bind fun rb => match cmpS o ra.2.fz rb.2.fz with | some true => (md ρ).bind fun rc => ofB (cmpS o' rb.2.fz rc.2.fz) | some false => vB (.bl false) | none => .bad) := by
  intro X E c
  refine PE.imp (pe_chain (op_cmp c.hu o) (op_cmp c.hu o') (ha X E c) (hb X E c) (hd X E c) (lastm pl)) fun σ H Q h => ?_
  refine (op3 (P := fun fe F H => PostE W E fe F H Q) (fun _ _ _ _ _ _ z => z) (fun _ _ _ z => z) h).imp fun x H1 h => h.imp fun y H2 ⟨fe, F0, H0, F', ra, rb, ρ, e, env, qa, qb, z⟩ => ?_
  rw [c.K]
  cases hc : cmpS o ra.2.fz rb.2.fz with
  | none => rw [hc] at z; exact (show False from z).elim
  | some b =>
    rw [hc] at z
    refine cmp_rd e.g qa qb hc ⟨b, rfl, ?_⟩
    cases b with
    | false =>
      rw [if_neg (by simp)]
      exact giveS z e .bl
    | true =>
      rw [if_pos rfl]
      refine (stepF e env z).imp fun v H3 ⟨rc, F3, e3, q3, z3⟩ => ?_
      cases hd : cmpS o' rb.2.fz rc.2.fz with
      | none => rw [hd] at z3; exact (show False from z3).elim
      | some b' =>
        rw [hd] at z3
        exact cmp_rd e3.g (qb.ext e3) q3 hd (giveS z3 (e.trans e3) .bl)
theorem pt_chnX {sc : Scope} {o o' : COp} {a b d : Expr} {ma mb md : Loc → Tr Rv} {p : Pos} (pl : plainB d = true) (ha : PX W k N sc a ma) (hb : PX W k N sc b mb) (hd : PX W k N sc d md) :
    PTX W k N sc (.Compare a [pyC o, pyC o'] [b, d] p) (fun ρ => (ma ρ).bind fun ra => (mb ρ).bind fun rb => match cmpS o ra.2.fz rb.2.fz with | some true => (md ρ).bind fun rc => Tr.ofO (cmpS o' rb.2.fz rc.2.fz) | some false => .ok false | none => .bad) := by
  intro X E c
  refine PT.imp (pt_chain (op_cmp c.hu o) (op_cmp c.hu o') (ha X E c) (hb X E c) (hd X E c) (lastm pl)) fun σ H Q h => ?_
  refine (op3 (P := fun fe F H => PostT W E F H Q) (fun _ _ _ _ _ _ z => z) (fun _ _ _ z => z) h).imp fun x H1 h => h.imp fun y H2 ⟨fe, F0, H0, F', ra, rb, ρ, e, env, qa, qb, z⟩ => ?_
  rw [c.K]
  cases hc : cmpS o ra.2.fz rb.2.fz with
  | none => rw [hc] at z; exact (show False from z).elim
  | some b =>
    rw [hc] at z
    refine cmp_rd e.g qa qb hc ⟨b, rfl, ?_⟩
    cases b with
    | false =>
      rw [if_neg (by simp)]
      exact ⟨false, rfl, z F' H2 e⟩
    | true =>
      rw [if_pos rfl]
      refine (stepG (P := PostT W E F0 H0 Q) (fun _ _ _ z => z) (fun z => z) e env z).imp fun v H3 ⟨rc, F3, e3, q3, z3⟩ => ?_
      cases hd : cmpS o' rb.2.fz rc.2.fz with
      | none => rw [hd] at z3; exact (show False from z3).elim
      | some b' =>
        rw [hd] at z3
        exact cmp_rd e3.g (qb.ext e3) q3 hd ⟨b', rfl, z3 F3 H3 (e.trans e3)⟩
theorem px_isN {sc : Scope} {ng : Bool} {op : CmpOp} {a : Expr} {ma : Loc → Tr Rv} {j : Nat} {p p' : Pos} (ho : isB' ng op = true) (ha : PX W k N sc a ma) :
    PX W k N sc (.Compare a [op] [.Constant .none j p'] p) (fun ρ => (ma ρ).bind fun ra => match ra.2 with | .non => vB (.bl (!ng)) | _ => vB (.bl ng)) := by
  intro X E c
  have fin : ∀ {σ H Q}, tE W E (fun ρ => (ma ρ).bind fun ra => match ra.2 with | .non => vB (.bl (!ng)) | _ => vB (.bl ng)) σ H Q → tE W E ma σ H fun x H1 => Q (.bl (if ng then !decide (x = .non) else decide (x = .non))) H1 := by
    intro σ H Q h
    refine (op1 h).imp fun x H1 ⟨fe, F0, H0, F', r, e, q, z⟩ => ?_
    rw [isN_ok q]
    obtain ⟨b, y⟩ := r
    cases y <;> cases ng <;> exact giveS z e .bl
  cases op <;> cases ng <;> first | (cases ho; done) | skip
  · exact PE.imp (pe_cmp (pc_isN (ha X E c)) rfl) fun σ H Q h => fin h
  · exact PE.imp (pe_cmp (pc_notN (ha X E c)) rfl) fun σ H Q h => fin h
theorem pt_isNX {sc : Scope} {ng : Bool} {op : CmpOp} {a : Expr} {ma : Loc → Tr Rv} {j : Nat} {p p' : Pos} (ho : isB' ng op = true) (ha : PX W k N sc a ma) :
    PTX W k N sc (.Compare a [op] [.Constant .none j p'] p) (fun ρ => (ma ρ).bind fun ra => match ra.2 with | .non => .ok (!ng) | _ => .ok ng) := by
  intro X E c
  have fin : ∀ {σ H R}, tT W E (fun ρ => (ma ρ).bind fun ra => match ra.2 with | .non => .ok (!ng) | _ => .ok ng) σ H R → tE W E ma σ H fun x H1 => ∃ b, V.bl (if ng then !decide (x = .non) else decide (x = .non)) = .bl b ∧ R b H1 := by
    intro σ H R h
    refine (tst1 h).imp fun x H1 ⟨fe, F0, H0, F', r, e, q, z⟩ => ⟨_, rfl, ?_⟩
    rw [isN_ok q]
    obtain ⟨b, y⟩ := r
    cases y <;> cases ng <;> exact z F' H1 e
  cases op <;> cases ng <;> first | (cases ho; done) | skip
  · exact PT.imp (pt_cmp (pc_isN (ha X E c)) rfl) fun σ H Q h => fin h
  · exact PT.imp (pt_cmp (pc_notN (ha X E c)) rfl) fun σ H Q h => fin h
def rIsNg (ng : Bool) : R2 := fun x y H Q => ∃ b k : Bool, y = .bl b ∧ ((∃ a, x = .bl a ∧ k = decide (a = b)) ∨ (((∃ i, x = .int i) ∨ (∃ z, x = .str z) ∨ x = .non ∨ ∃ a, x = .ref a) ∧ k = false)) ∧ Q (.bl (if ng then !k else k)) H
theorem op_isNg {X : Cx} {ng : Bool} {op : CmpOp} (ho : isB' ng op = true) : OpR X (compareOp op) (rIsNg ng) ∧ op ≠ .In ∧ op ≠ .NotIn := by
  have two : ∀ {v : Value} {x : V} {b : Bool} {H : Hp}, ((∃ i, x = V.int i) ∨ (∃ z, x = V.str z) ∨ x = V.non ∨ ∃ a, x = V.ref a) → RelV x v → plainIs v (.bool b) = true ∧ v ≠ .bool b := by
    intro v x b H h r
    rcases h with ⟨i, rfl⟩ | ⟨z, rfl⟩ | rfl | ⟨a, rfl⟩
    · obtain ⟨t, rfl⟩ := r
      exact ⟨rfl, fun z => by cases z⟩
    · obtain ⟨t, rfl⟩ := r
      exact ⟨rfl, fun z => by cases z⟩
    · cases (show v = Value.none from r)
      exact ⟨rfl, fun z => by cases z⟩
    · cases (show v = Value.ref a from r)
      exact ⟨rfl, fun z => by cases z⟩
  cases op <;> cases ng <;> first | (cases ho; done) | skip
  · refine ⟨fun pins s σ H x y v u Q I rx ry h => ?_, by decide, by decide⟩
    obtain ⟨b, k, rfl, h, q⟩ := h
    rcases h with ⟨a, rfl, rfl⟩ | ⟨h, rfl⟩
    · exact op_isBl pins s σ H _ _ v u Q I rx ry ⟨a, b, rfl, rfl, q⟩
    · obtain ⟨z1, z2⟩ := two (b := b) (H := H) h rx
      cases (show u = Value.bool b from ry)
      exact wpAny_is_other z1 z2 ⟨.bl false, H, I, rfl, q⟩
  · refine ⟨fun pins s σ H x y v u Q I rx ry h => ?_, by decide, by decide⟩
    obtain ⟨b, k, rfl, h, q⟩ := h
    rcases h with ⟨a, rfl, rfl⟩ | ⟨h, rfl⟩
    · exact op_notBl pins s σ H _ _ v u Q I rx ry ⟨a, b, rfl, rfl, q⟩
    · obtain ⟨z1, z2⟩ := two (b := b) (H := H) h rx
      cases (show u = Value.bool b from ry)
      exact wpAny_isNot_other z1 z2 ⟨.bl true, H, I, rfl, q⟩
theorem isBS_rd {fe : List Addr} {F H : Hp} {ra rb : Rv} {va vb : V} {k : Bool} (qa : RF W fe F H ra va) (qb : RF W fe F H rb vb) (h : isBS ra.2 rb.2 = some k) : ∃ b, vb = .bl b ∧ ((∃ a, va = .bl a ∧ k = decide (a = b)) ∨ (((∃ i, va = .int i) ∨ (∃ z, va = .str z) ∨ va = .non ∨ ∃ a, va = .ref a) ∧ k = false)) := by
  obtain ⟨b1, y1⟩ := ra
  obtain ⟨b2, y2⟩ := rb
  cases y1 <;> cases y2 <;> first | (cases h; done) | skip
  all_goals
    have a1 := qa.plain rfl rfl
    have a2 := qb.plain rfl rfl
    cases a1; cases a2; cases h
  · exact ⟨_, rfl, .inr ⟨.inr (.inr (.inl rfl)), rfl⟩⟩
  · exact ⟨_, rfl, .inl ⟨_, rfl, rfl⟩⟩
  · exact ⟨_, rfl, .inr ⟨.inl ⟨_, rfl⟩, rfl⟩⟩
  · exact ⟨_, rfl, .inr ⟨.inr (.inl ⟨_, rfl⟩), rfl⟩⟩
  · exact ⟨_, rfl, .inr ⟨.inr (.inr (.inr ⟨_, rfl⟩)), rfl⟩⟩
theorem px_isB {sc : Scope} {ng : Bool} {op : CmpOp} {a b : Expr} {ma mb : Loc → Tr Rv} {p : Pos} (ho : isB' ng op = true) (ha : PX W k N sc a ma) (hb : PX W k N sc b mb) :
    PX W k N sc (.Compare a [op] [b] p) (fun ρ => (ma ρ).bind fun ra => (mb ρ).bind fun rb => match isBS ra.2 rb.2 with | some k => vB (.bl (if ng then !k else k)) | none => .bad) := by
  intro X E c
  obtain ⟨h1, h2, h3⟩ := op_isNg (X := X) ho
  refine PE.imp (pe_cmpR h1 (ha X E c) (hb X E c) (nomark _ h2 h3)) fun σ H Q h => ?_
  refine (op2 h).imp fun x H1 h => h.imp fun y H2 ⟨fe, F0, H0, F', ra, rb, e, qa, qb, z⟩ => ?_
  cases hi : isBS ra.2 rb.2 with
  | none => rw [hi] at z; exact (show False from z).elim
  | some k =>
    rw [hi] at z
    obtain ⟨b, eb, hh⟩ := isBS_rd qa qb hi
    exact ⟨b, k, eb, hh, giveS z e .bl⟩
theorem pt_isBX {sc : Scope} {ng : Bool} {op : CmpOp} {a b : Expr} {ma mb : Loc → Tr Rv} {p : Pos} (ho : isB' ng op = true) (ha : PX W k N sc a ma) (hb : PX W k N sc b mb) :
    PTX W k N sc (.Compare a [op] [b] p) (fun ρ => (ma ρ).bind fun ra => (mb ρ).bind fun rb => match isBS ra.2 rb.2 with | some k => .ok (if ng then !k else k) | none => .bad) := by
  intro X E c
  obtain ⟨h1, h2, h3⟩ := op_isNg (X := X) ho
  refine PT.imp (pt_cmpR h1 (ha X E c) (hb X E c) (nomark _ h2 h3)) fun σ H Q h => ?_
  refine (tst2 h).imp fun x H1 h => h.imp fun y H2 ⟨fe, F0, H0, F', ra, rb, e, qa, qb, z⟩ => ?_
  cases hi : isBS ra.2 rb.2 with
  | none => rw [hi] at z; exact (show False from z).elim
  | some k =>
    rw [hi] at z
    obtain ⟨b, eb, hh⟩ := isBS_rd qa qb hi
    exact ⟨b, k, eb, hh, _, rfl, z F' H2 e⟩
theorem px_nt {sc : Scope} {a : Expr} {ma : Loc → Tr Rv} {p : Pos} (ha : PX W k N sc a ma) : PX W k N sc (.UnaryOp .Not a p) (fun ρ => (ma ρ).bind fun ra => match truS ra.2 with | some b => vB (.bl (!b)) | none => .bad) := by
  intro X E c
  refine PE.imp (pe_notT (ha X E c)) fun σ H Q h => ?_
  refine (op1 h).imp fun x H1 ⟨fe, F0, H0, F', r, e, q, z⟩ => ?_
  cases ht : truS r.2 with
  | none => rw [ht] at z; exact (show False from z).elim
  | some b =>
    rw [ht] at z
    refine ⟨b, ?_, giveS z e .bl⟩
    rw [c.K]
    exact tru_of e.g q ht
/-- a bool first, then another way -/
theorem px_an {sc : Scope} {a b : Expr} {rest : List Expr} {ma mb : Loc → Tr Rv} {p : Pos} (ha : PX W k N sc a ma) (hb : PX W k N sc (.BoolOp .And (b :: rest) p) mb) :
    PX W k N sc (.BoolOp .And (a :: b :: rest) p) (fun ρ => (ma ρ).bind fun ra => match ra.2 with | .bl true => mb ρ | .bl false => vB (.bl false) | _ => .bad) := by
  intro X E c
  refine PE.imp (pe_and (ha X E c) (hb X E c)) fun σ H Q ⟨F, ρ, fp, g, env, h⟩ => ?_
  refine (stepF (Ext.refl g) env h).imp fun x H1 ⟨r, F1, e, q, z⟩ => ?_
  obtain ⟨b1, y1⟩ := r
  cases y1 with
  | bl bb =>
    have a1 := q.plain rfl rfl
    cases a1
    refine ⟨bb, rfl, ?_⟩
    cases bb with
    | false => exact giveS z e .bl
    | true => exact ⟨F1, ρ, fp, e.g, env.ext e, Tr.W_imp (fun o ho => PostE.ext e ho) z⟩
  | _ => exact (show False from z).elim
theorem px_or {sc : Scope} {a b : Expr} {rest : List Expr} {ma mb : Loc → Tr Rv} {p : Pos} (ha : PX W k N sc a ma) (hb : PX W k N sc (.BoolOp .Or (b :: rest) p) mb) :
    PX W k N sc (.BoolOp .Or (a :: b :: rest) p) (fun ρ => (ma ρ).bind fun ra => match ra.2 with | .bl false => mb ρ | .bl true => vB (.bl true) | _ => .bad) := by
  intro X E c
  refine PE.imp (pe_or (ha X E c) (hb X E c)) fun σ H Q ⟨F, ρ, fp, g, env, h⟩ => ?_
  refine (stepF (Ext.refl g) env h).imp fun x H1 ⟨r, F1, e, q, z⟩ => ?_
  obtain ⟨b1, y1⟩ := r
  cases y1 with
  | bl bb =>
    have a1 := q.plain rfl rfl
    cases a1
    refine ⟨bb, rfl, ?_⟩
    cases bb with
    | true => exact giveS z e .bl
    | false => exact ⟨F1, ρ, fp, e.g, env.ext e, Tr.W_imp (fun o ho => PostE.ext e ho) z⟩
  | _ => exact (show False from z).elim
theorem px_ife {sc : Scope} {t a b : Expr} {mt : Loc → Tr Bool} {ma mb : Loc → Tr Rv} {p : Pos} (ht : PTX W k N sc t mt) (ha : PX W k N sc a ma) (hb : PX W k N sc b mb) :
    PX W k N sc (.IfExp t a b p) (fun ρ => (mt ρ).bind fun k => if k then ma ρ else mb ρ) := by
  intro X E c
  refine PE.imp (pe_ifExp (ht X E c) (ha X E c) (hb X E c)) fun σ H Q ⟨F, ρ, fp, g, env, h⟩ => ?_
  refine stepT (P := fun F0 H0 => PostE W E fp F0 H0 Q) (Ext.refl g) env (fun _ _ _ z => z) (fun z => z) h fun b F2 H2 e2 z => ?_
  cases b with
  | true => exact ⟨F2, ρ, fp, e2.g, env.ext e2, Tr.W_imp (fun o ho => PostE.ext e2 ho) z⟩
  | false => exact ⟨F2, ρ, fp, e2.g, env.ext e2, Tr.W_imp (fun o ho => PostE.ext e2 ho) z⟩
end
end FS

set_option Elab.async false
set_option linter.all false
set_option maxRecDepth 100000
set_option maxHeartbeats 8000000
namespace FS
open PySem PySem.Spec PyProof.Rows L2

section
variable {W : Wd} {k : Nat} {N : List Str} {sc : Scope}
theorem rgV_rp {F : Hp} (a b : Int) : Rps W F (rgV a b) (rangeL a b) := by
  unfold rgV rangeL
  induction (List.range (b - a).toNat) with
  | nil => exact .nil
  | cons x xs ih => exact .cons .int ih
theorem px_listR {a : Expr} {ma : Loc → Tr Rv} {p p2 p3 p4 : Pos} (g1 : glB sc "list" = true) (g2 : glB sc "range" = true) (m1 : W.mg "list" = none) (m2 : W.mg "range" = none) (pl : plainB a = true) (ha : PX W k N sc a ma) :
    PX W k N sc (.Call (.Name "list" p) [.Call (.Name "range" p2) [a] [] p3] [] p4) (fun ρ => (ma ρ).bind fun ra => match ra.2 with | .int j => if 0 ≤ j ∧ j ≤ 16777216 then vB (.lst true (rangeL 0 j)) else .bad | _ => .bad) := by
  intro X E c
  refine PE.imp (pe_listRg c.calm (c.gl g1) (c.fr m1) (prg_1 (c.gl g2) (c.fr m2) (ha X E c) (star_cons pl))) fun σ H Q h => ?_
  refine (op1 h).imp fun x H1 ⟨fe, F0, H0, F', r, e, q, z⟩ => ?_
  obtain ⟨b, y⟩ := r
  cases y with
  | int j =>
    have a1 := q.plain rfl rfl
    cases a1
    dsimp only at z
    by_cases hj : 0 ≤ j ∧ j ≤ 16777216
    · rw [if_pos hj] at z
      exact ⟨j, rfl, RgOk.of_le (Int.le_refl _) hj.2 (by omega) hj.1, fun l hl => giveL z e hl (rgV_rp 0 j)⟩
    · rw [if_neg hj] at z
      exact (show False from z).elim
  | _ => exact (show False from z).elim
/-- classes by their names -/
theorem tys_ok {X : Cx} {E : XK} (c : CxOk W k N sc E X) : ∀ {ns : List String} {es : List Expr}, tysB sc ns es = true → AllN W k (ns.flatMap fun n => match tyN n with | some x => [Need.fr x] | none => []) →
    PA X es (fun _ H Q => Q (ns.map V.ty) H) ∧ es.all plainB = true
  | [], [], _, _ => ⟨pa_nil, rfl⟩
  | n :: ns, .Name x p :: es, h, nd => by
    unfold tysB at h
    simp only [Bool.and_eq_true, decide_eq_true_eq] at h
    obtain ⟨⟨⟨h1, h2⟩, h3⟩, h4⟩ := h
    simp only [List.flatMap_cons, h1] at nd
    obtain ⟨n1, n2⟩ := nd.app
    obtain ⟨t1, t2⟩ := tys_ok c h4 n2
    exact ⟨pa_cons (pe_bltn (v := .ty n) (c.gl h2) (c.fr n1.1) (boot_ty h1) rfl (nmB_ok h3).2.2 (nmB_ok h3).1) t1, by simp [plainB, t2]⟩
  | [], _ :: _, h, _ => by cases h
  | _ :: _, [], h, _ => by unfold tysB at h; cases h
  | _ :: _, .BoolOp .. :: _, h, _ | _ :: _, .NamedExpr .. :: _, h, _ | _ :: _, .BinOp .. :: _, h, _ | _ :: _, .UnaryOp .. :: _, h, _ | _ :: _, .Lambda .. :: _, h, _ | _ :: _, .IfExp .. :: _, h, _ | _ :: _, .Dict .. :: _, h, _ | _ :: _, .Set .. :: _, h, _
  | _ :: _, .ListComp .. :: _, h, _ | _ :: _, .SetComp .. :: _, h, _ | _ :: _, .DictComp .. :: _, h, _ | _ :: _, .GeneratorExp .. :: _, h, _ | _ :: _, .Await .. :: _, h, _ | _ :: _, .Yield .. :: _, h, _ | _ :: _, .YieldFrom .. :: _, h, _ | _ :: _, .Compare .. :: _, h, _
  | _ :: _, .Call .. :: _, h, _ | _ :: _, .FormattedValue .. :: _, h, _ | _ :: _, .JoinedStr .. :: _, h, _ | _ :: _, .Constant .. :: _, h, _ | _ :: _, .Attribute .. :: _, h, _ | _ :: _, .Subscript .. :: _, h, _ | _ :: _, .Starred .. :: _, h, _ | _ :: _, .List .. :: _, h, _
  | _ :: _, .Tuple .. :: _, h, _ | _ :: _, .Slice .. :: _, h, _ => by simp [tysB] at h
theorem kit_is {K : PySem.W.Frag} {n t : String} (hn : n = "NoneType" ∨ n = "bool" ∨ n = "int" ∨ n = "str" ∨ n = "tuple" ∨ n = "list" ∨ n = "dict") {x : Str} (ht : tyN t = some x) : PySem.W.kitOne K (.type n) (.type t) = some (isT n t) := by
  apply kit_ty
  unfold tyN at ht
  rcases hn with rfl | rfl | rfl | rfl | rfl | rfl | rfl <;> (split at ht <;> first | (decide +kernel) | cases ht)
theorem tyName_is {x : PV} {n : String} (h : tyName x = some n) : n = "NoneType" ∨ n = "bool" ∨ n = "int" ∨ n = "str" ∨ n = "tuple" ∨ n = "list" ∨ n = "dict" := by
  cases x <;> simp [tyName] at h <;> subst h <;> simp
theorem ty_of {fe : List Addr} {F H : Hp} {r : Rv} {v : V} {n : String} (g : Good W F H) (q : RF W fe F H r v) (h : tyName r.2 = some n) : TyX W.K H v (.type n) := by
  obtain ⟨b, y⟩ := r
  cases y with
  | non => cases h; have := q.plain rfl rfl; cases this; exact .base .non
  | bl c => cases h; have := q.plain rfl rfl; cases this; exact .base (.bl _)
  | int i => cases h; have := q.plain rfl rfl; cases this; exact .base (.int _)
  | str s => cases h; have := q.plain rfl rfl; cases this; exact .base (.str _)
  | tup xs => cases h; have := q.plain rfl rfl; cases this with | tup ha t => exact .base (.tup (g.sub _ _ ha))
  | lst o xs =>
    cases h
    obtain ⟨a, vs, rfl, ha, _⟩ := q.lst g rfl
    exact .base (.lst ha)
  | dct o T ks vs =>
    cases h
    rcases q with ⟨hb, q⟩ | ⟨hb, fp, q, m⟩
    · cases q with
      | dK ha t => exact .base (.dK (g.sub _ _ ha))
      | dT ha t => exact .base (.dT (g.sub _ _ ha))
    · cases q with
      | st q =>
        cases q with
        | dK ha t => exact .base (.dK (g.sub _ _ ha))
        | dT ha t => exact .base (.dT (g.sub _ _ ha))
      | dK ha => exact .base (.dK ha)
      | dT ha => exact .base (.dT ha)
  | _ => simp [tyName] at h
theorem kit_any {K : PySem.W.Frag} {n : String} (hn : n = "NoneType" ∨ n = "bool" ∨ n = "int" ∨ n = "str" ∨ n = "tuple" ∨ n = "list" ∨ n = "dict") : ∀ {ts : List String} {es : List Expr}, tysB sc ts es = true → PySem.W.kitAny K (.type n) (ts.map Value.type) = some (ts.any (isT n))
  | [], [], _ => rfl
  | [], _ :: _, h => by cases h
  | t :: ts, es, h => by
    have key : ∃ x es', tyN t = some x ∧ tysB sc ts es' = true := by
      cases es with
      | nil => cases h
      | cons e es =>
        cases e with
        | Name x p =>
          unfold tysB at h
          simp only [Bool.and_eq_true, decide_eq_true_eq] at h
          exact ⟨x, es, h.1.1.1, h.2⟩
        | _ => simp [tysB] at h
    obtain ⟨x, es', h1, h2⟩ := key
    refine kitAny_cons (kit_is hn h1) (fun hb => ?_) (fun hb => ?_)
    · rw [List.any_cons, hb, Bool.false_or]
      exact kit_any hn h2
    · rw [List.any_cons, hb, Bool.true_or]
theorem cls_pair : ∀ ts : List String, Paired ClsV (ts.map V.ty) (ts.map Value.type)
  | [] => .nil
  | t :: ts => .cons (.ty t) (cls_pair ts)
theorem pa2 {a b : Expr} {ta : TE} {tb : TE} {X : Cx} (ha : PE X a ta) (hb : PE X b tb) (p1 : plainB a = true) (p2 : plainB b = true) : PA X [a, b] (tCons ta (tCons tb tNil)) := pa_cons ha (pa_cons hb pa_nil (star_cons p2)) (star_cons p1)
theorem px_isi {a : Expr} {ma : Loc → Tr Rv} {ts : List String} {cs : List Expr} {tk : Nat} {p p2 p3 : Pos} (g1 : glB sc "isinstance" = true) (m1 : W.mg "isinstance" = none) (pl : plainB a = true) (ha : PX W k N sc a ma) (h : tysB sc ts cs = true) (hz : ts.length ≤ 100)
    (nd : AllN W k (ts.flatMap fun n => match tyN n with | some x => [Need.fr x] | none => [])) :
    PX W k N sc (.Call (.Name "isinstance" p) [a, .Tuple cs tk p2] [] p3) (fun ρ => (ma ρ).bind fun ra => match tyName ra.2 with | some n => vB (.bl (ts.any (isT n))) | none => .bad) := by
  intro X E c
  obtain ⟨t1, t2⟩ := tys_ok c h nd
  refine PE.imp (pe_callB call_isiT (c.gl g1) (c.fr m1) boot_isinstance (pa2 (ha X E c) (pe_tup t1) pl rfl) (by decide) (by decide) (star_cons pl) (star_all (by rfl))) fun σ H Q hh => ?_
  refine (op1 hh).imp fun x H1 ⟨fe, F0, H0, F', r, e, q, z⟩ => ?_
  refine ⟨?_, fun l hl => ?_⟩
  · rw [List.length_map]
    exact Nat.le_trans hz (by decide)
  · cases ht : tyName r.2 with
    | none => rw [ht] at z; exact (show False from z).elim
    | some n =>
      rw [ht] at z
      have e2 := e.g.laidF (o := .tup (ts.map V.ty)) hl
      refine ⟨x, l, ts.map V.ty, .type n, ts.map Value.type, ts.any (isT n), rfl, upd_same, ?_, ?_, kit_any (tyName_is ht) h, ?_⟩
      · exact cls_pair ts
      · rw [c.K]
        exact ty_of e2.g (q.ext e2) ht
      · exact giveS z (e.trans e2) .bl
theorem px_isi1 {a : Expr} {ma : Loc → Tr Rv} {ts : List String} {x : Str} {p p2 p3 : Pos} (g1 : glB sc "isinstance" = true) (m1 : W.mg "isinstance" = none) (pl : plainB a = true) (ha : PX W k N sc a ma) (h : tysB sc ts [.Name x p2] = true)
    (nd : AllN W k (ts.flatMap fun n => match tyN n with | some x => [Need.fr x] | none => [])) :
    PX W k N sc (.Call (.Name "isinstance" p) [a, .Name x p2] [] p3) (fun ρ => (ma ρ).bind fun ra => match tyName ra.2 with | some n => vB (.bl (ts.any (isT n))) | none => .bad) := by
  intro X E c
  obtain ⟨n, rfl⟩ : ∃ n, ts = [n] := by
    cases ts with
    | nil => cases h
    | cons n ts =>
      unfold tysB at h
      simp only [Bool.and_eq_true] at h
      cases ts with
      | nil => exact ⟨n, rfl⟩
      | cons n2 ts => exact absurd h.2 (by simp [tysB])
  have h' := h
  unfold tysB at h
  simp only [Bool.and_eq_true, decide_eq_true_eq] at h
  obtain ⟨⟨⟨h1, h2⟩, h3⟩, h4⟩ := h
  simp only [List.flatMap_cons, h1] at nd
  obtain ⟨n1, n2⟩ := nd.app
  refine PE.imp (pe_callB call_isi (c.gl g1) (c.fr m1) boot_isinstance (pa2 (ha X E c) (pe_bltn (v := .ty n) (c.gl h2) (c.fr n1.1) (boot_ty h1) rfl (nmB_ok h3).2.2 (nmB_ok h3).1) pl rfl) (by decide) (by decide) (star_cons pl) (star_all (by rfl))) fun σ H Q hh => ?_
  refine (op1 hh).imp fun x H1 ⟨fe, F0, H0, F', r, e, q, z⟩ => ?_
  cases ht : tyName r.2 with
  | none => rw [ht] at z; exact (show False from z).elim
  | some m =>
    rw [ht] at z
    have kk := kit_is (K := X.K) (tyName_is ht) h1
    refine ⟨x, .ty n, .type m, .type n, isT m n, rfl, .ty n, ?_, kk, ?_⟩
    · rw [c.K]
      exact ty_of e.g q ht
    · have z : (vB (.bl ([n].any (isT m)))).W (PostE W E fe F0 H0 Q) := z
      have : [n].any (isT m) = isT m n := by simp
      rw [this] at z
      exact giveS z e .bl
theorem px_sub {a b : Expr} {ma mb : Loc → Tr Rv} {p : Pos} (pl : plainB b = true) (ha : PX W k N sc a ma) (hb : PX W k N sc b mb) :
    PX W k N sc (.Subscript a b p) (fun ρ => (ma ρ).bind fun ra => (mb ρ).bind fun ri => match subS ra.2 ri.2.fz with | some x => .ok (ra.1, if ra.1 then x else x.fz) | none => .bad) := by
  intro X E c
  refine PE.imp (pe_ix (ix_sub c.hu) (ha X E c) (hb X E c) (plain_ix pl)) fun σ H Q h => ?_
  refine (op2 h).imp fun x H1 h => h.imp fun y H2 ⟨fe, F0, H0, F', ra, rb, e, qa, qb, z⟩ => ?_
  rw [c.K]
  cases hs : subS ra.2 rb.2.fz with
  | none => rw [hs] at z; exact (show False from z).elim
  | some u =>
    rw [hs] at z
    have gv : ∀ w, RF W fe F' H2 (ra.1, u) w → Q w H2 := fun w q => by
      refine z F' H2 w e ?_
      rcases q with ⟨hb, q⟩ | ⟨hb, fp, q, m⟩
      · have hb : ra.1 = false := hb
        rw [hb]
        exact ⟨[], .st (by simpa using q), fun _ _ z => by simp at z, fun z => Bool.noConfusion z⟩
      · have hb : ra.1 = true := hb
        rw [hb]
        exact ⟨fp, by simpa using q, fun z => Bool.noConfusion z, fun _ => m⟩
    have qi := qb.read e.g
    unfold subS at hs
    split at hs
    · rename_i o xs i hr hi
      rw [hi] at qi
      cases qi
      obtain ⟨p, vs, rfl, hp, hl, _, _, hg⟩ := qa.lst e.g hr
      unfold atI at hs
      obtain ⟨j, h1, h2⟩ := Option.bind_eq_some_iff.mp hs
      obtain ⟨w, h3, h4⟩ := hg j u h2
      exact .inl (.inl ⟨p, vs, i, w, rfl, rfl, .inl (.inl hp), by unfold atI; rw [hl, h1]; exact h3, gv w h4⟩)
    · rename_i xs i hr hi
      rw [hi] at qi
      cases qi
      have := qa.plain (by rw [hr]; rfl) (by rw [hr]; rfl)
      rw [hr] at this
      cases this with
      | tup hp t =>
        unfold atI at hs
        obtain ⟨j, h1, h2⟩ := Option.bind_eq_some_iff.mp hs
        obtain ⟨w, h3, h4⟩ := t.get h2
        refine .inl (.inr ⟨_, _, i, w, rfl, rfl, .inl (.inl (e.g.sub _ _ hp)), by unfold atI; rw [t.length, h1]; exact h3, gv w ?_⟩)
        cases hb : ra.1 with
        | false => exact .inl ⟨rfl, by rw [h4.fz]; exact h4⟩
        | true => exact .inr ⟨rfl, [], .st h4, fun _ z => by simp at z⟩
    · rename_i o T ks vs hr
      by_cases hk : isKey T rb.2.fz = true
      · rw [if_pos hk] at hs
        obtain ⟨a, w, rfl, gg, q⟩ := qa.dget e.g hr qi np_sub hk hs
        exact .inr ⟨a, w, rfl, gg, gv w q⟩
      · rw [if_neg hk] at hs
        cases hs
    · cases hs
/-- a part of a slice -/
def PostO (W : Wd) (E : XK) (F H : Hp) (Q : Option Int → Hp → Prop) : Out (Option Int) → Prop
  | .ok o => ∀ (F' H' : Hp), Ext W F H F' H' → Q o H'
  | .exn c ns xs => ExP W E F H c ns xs
  | .bad => False
def tOx (W : Wd) (E : XK) (m : Loc → Tr (Option Int)) : TO := fun σ H Q => ∃ F ρ fp, Good W F H ∧ EnvR W F H σ ρ fp ∧ (m ρ).W (PostO W E F H Q)
def POX (W : Wd) (k : Nat) (N : List Str) (sc : Scope) (x : Option Expr) (m : Loc → Tr (Option Int)) : Prop := ∀ (X : Cx) (E : XK), CxOk W k N sc E X → PO X x (tOx W E m)
theorem PO.imp {X : Cx} {e : Option Expr} {t t' : TO} (h : PO X e t) (i : ∀ σ H Q, t' σ H Q → t σ H Q) : PO X e t' := ⟨fun pins s σ H Q I q => h.run pins s σ H Q I (i _ _ _ q)⟩
theorem po_noneX : POX W k N sc none (fun _ => .ok none) := fun X E c => PO.imp po_none fun σ H Q ⟨F, ρ, fp, g, env, h⟩ => h F H (Ext.refl g)
theorem po_someX {e : Expr} {m : Loc → Tr Rv} (he : PX W k N sc e m) : POX W k N sc (some e) (fun ρ => (m ρ).bind fun r => match r.2 with | .int i => .ok (some i) | _ => .bad) := fun X E c =>
  PO.imp (po_some (he X E c)) fun σ H Q ⟨F, ρ, fp, g, env, h⟩ => by
    refine (stepG (P := PostO W E F H Q) (fun _ _ _ z => z) (fun z => z) (Ext.refl g) env h).imp fun x H1 ⟨r, F2, e2, q, z⟩ => ?_
    obtain ⟨b, y⟩ := r
    cases y with
    | int i =>
      have a1 := q.plain rfl rfl
      cases a1
      exact ⟨i, rfl, z F2 H1 e2⟩
    | _ => exact (show False from z).elim
theorem Rps.cut {F : Hp} {vs : List V} {xs : List PV} (r : Rps W F vs xs) (lo hi : Option Int) : Rps W F (cutV vs lo hi) (cut xs lo hi) := by
  unfold cutV FS.cut
  rw [r.length]
  exact (r.drop _).take _
def rSli (K : PySem.W.Frag) : V → Option Int → Option Int → Hp → VK → Prop := fun x lo hi H Q => rSlL K x lo hi H Q ∨ rSlA K x lo hi H Q
theorem px_sli {a : Expr} {ma : Loc → Tr Rv} {lo hi : Option Expr} {ml mh : Loc → Tr (Option Int)} {p p2 : Pos} (ha : PX W k N sc a ma) (hl : POX W k N sc lo ml) (hh : POX W k N sc hi mh) :
    PX W k N sc (.Subscript a (.Slice lo hi none p2) p) (fun ρ => (ma ρ).bind fun ra => (ml ρ).bind fun l => (mh ρ).bind fun h => match shal ra with | some x => ofV (sliS x l h) | none => .bad) := by
  intro X E c
  refine PE.imp (pe_slice (r := rSli X.K) (sl_list.or sl_tupA) (ha X E c) (hl X E c) (hh X E c)) fun σ H Q ⟨F, ρ, fp, g, env, h⟩ => ?_
  refine (stepF (Ext.refl g) env h).imp fun x H1 ⟨r, F1, e1, q, z⟩ => ?_
  refine ⟨F1, ρ, fp, e1.g, env.ext e1, Tr.W_imp (fun o ho => ?_) (Tr.W_bind.mp z)⟩
  cases o with
  | exn cc ns xs => exact ExP.ext e1 ho
  | bad => exact ho
  | ok l =>
    intro F2 H2 e2
    refine ⟨F2, ρ, fp, e2.g, (env.ext e1).ext e2, Tr.W_imp (fun o ho => ?_) (Tr.W_bind.mp ho)⟩
    cases o with
    | exn cc ns xs => exact ExP.ext (e1.trans e2) ho
    | bad => exact ho
    | ok u =>
      intro F3 H3 e3
      have e := (e1.trans e2).trans e3
      have q3 := (q.ext e2).ext e3
      have ho : (match shal r with | some x => ofV (sliS x l u) | none => .bad : Tr Rv).W (PostE W E fp F H Q) := ho
      rw [c.K]
      cases hx : shal r with
      | none => rw [hx] at ho; exact (show False from ho).elim
      | some y =>
        rw [hx] at ho
        have s := q3.sh e.g hx
        cases y with
        | lst o xs =>
          obtain ⟨a, vs, rfl, hp, hn, t⟩ := s
          exact .inl ⟨a, vs, rfl, .inl (.inl hp), fun l hl => giveL ho e hl (t.cut _ _)⟩
        | tup xs =>
          cases s with
          | tup hp t =>
            have ho : (vB (.tup (FS.cut xs l u))).W (PostE W E fp F H Q) := ho
            refine .inr ⟨_, _, rfl, .inl (.inl (e.g.sub _ _ hp)), fun hz => ?_, fun _ l hl => giveT ho e hl (t.cut _ _)⟩
            have : FS.cut xs l u = xs := by
              rw [t.length] at hz
              unfold FS.cut
              rw [hz.1, hz.2]
              simp
            rw [this] at ho
            exact giveS ho e (.tup hp t)
        | _ => exact (show False from ho).elim
theorem px_tup {es : List Expr} {me : Loc → Tr (List Rv)} {j : Nat} {p : Pos} (ha : PAX W k N sc es me) :
    PX W k N sc (.Tuple es j p) (fun ρ => (me ρ).bind fun rs => match takes rs with | some xs => if xs.length ≤ 100000 then vB (.tup xs) else .bad | none => .bad) := by
  intro X E c
  refine PE.imp (pe_tup (ha X E c)) fun σ H Q h => ?_
  refine (stepAF h).imp fun vs H1 ⟨fe, F0, H0, F1, rs, e, q, z⟩ => ?_
  cases ht : takes rs with
  | none => rw [ht] at z; exact (show False from z).elim
  | some xs =>
    rw [ht] at z
    dsimp only at z
    by_cases hl : xs.length ≤ 100000
    · rw [if_pos hl] at z
      have t := takes_ok q ht
      exact ⟨by rw [t.length]; exact Nat.le_trans hl (by decide), fun l hl => giveT z e hl t⟩
    · rw [if_neg hl] at z
      exact (show False from z).elim
theorem px_lst {es : List Expr} {me : Loc → Tr (List Rv)} {p : Pos} (ha : PAX W k N sc es me) :
    PX W k N sc (.List es p) (fun ρ => (me ρ).bind fun rs => match movs rs with | some xs => if xs.length ≤ 100000 then vB (.lst true xs) else .bad | none => .bad) := by
  intro X E c
  refine PE.imp (pe_lst (ha X E c)) fun σ H Q h => ?_
  refine (stepA h).imp fun vs H1 ⟨fe, F0, H0, F1, rs, g, fo, e, q, z⟩ => ?_
  cases ht : movs rs with
  | none => rw [ht] at z; exact (show False from z).elim
  | some xs =>
    rw [ht] at z
    dsimp only at z
    by_cases hl : xs.length ≤ 100000
    · rw [if_pos hl] at z
      have t := movs_ok q ht
      refine ⟨by rw [t.length]; exact Nat.le_trans hl (by decide), fun l hl => ?_⟩
      have e2 := e.g.laid (o := .lst vs) hl
      have ng : l ∉ g := fun hm => by
        obtain ⟨_, _, _, o, ho, _⟩ := q.fresh l hm
        rw [ho] at hl
        cases hl
      refine give z (e.trans e2) (.lst upd_same (e.g.fn hl) (ne_pen e.g hl) (t.ext e2) ng) fun a ha => ?_
      rcases List.mem_cons.mp ha with rfl | ha
      · exact e.free hl
      · exact (q.fresh a ha).1
    · rw [if_neg hl] at z
      exact (show False from z).elim
theorem px_dnew {T : Bool} {p : Pos} : PX W k N sc (.Dict [] [] p) (fun _ => vB (.dct true T [] [])) := by
  intro X E c
  cases T with
  | false =>
    refine PE.imp pe_dnewK fun σ H Q ⟨F, ρ, fp, g, env, h⟩ => fun d hd => ?_
    have e := g.laid (o := .dK []) hd
    exact give h e (fp := [d]) (.dK (kvs := []) upd_same (g.fn hd) (ne_pen g hd) .nil (by simp)) fun a ha => by
      have : a = d := by simpa using ha
      rw [this]; exact hd
  | true =>
    refine PE.imp pe_dnewT fun σ H Q ⟨F, ρ, fp, g, env, h⟩ => fun d hd => ?_
    have e := g.laid (o := .dT []) hd
    exact give h e (fp := [d]) (.dT (kvs := []) upd_same (g.fn hd) (ne_pen g hd) .nil (by simp)) fun a ha => by
      have : a = d := by simpa using ha
      rw [this]; exact hd
end
end FS

set_option Elab.async false
set_option linter.all false
set_option maxRecDepth 100000
set_option maxHeartbeats 8000000
namespace FS
open PySem PySem.Spec PyProof.Rows L2

section
variable {W : Wd} {k : Nat} {N : List Str} {sc : Scope} {tg : Expr}
def iSeqA (K : PySem.W.Frag) (tl : TE) : TI := fun σ H R => tl σ H fun x H1 => ∃ a, x = .ref a ∧ (((∃ xs, SqL K H1 a xs) ∧ R (Itl K a) H1) ∨ ((∃ xs, SqT K H1 a xs) ∧ R (Itt K a) H1))
theorem pi_seqA {X : Cx} {l : Expr} {tl : TE} (hl : PE X l tl) : PI X tg l (iSeqA X.K tl) := by
  refine ⟨fun pins s σ H R I h => ?_⟩
  refine thn (hl.run pins s σ H _ I h) fun v s1 ⟨x, H1, I1, r1, a, e, q1⟩ => ?_
  subst e
  cases r1
  have fr : ∀ b ∈ [s1.heap.objs.size], FpOk X pins H1 b := fun b hb => by
    have e : b = s1.heap.objs.size := by simpa using hb
    rw [e]
    exact I1.fpOk (Nat.le_refl _) (I1.hok.fresh (Nat.le_refl _))
  rcases q1 with ⟨⟨xs, hq⟩, q⟩ | ⟨⟨xs, hq⟩, q⟩
  · obtain ⟨its, rv, p, hz⟩ := I1.list hq
    exact wpAny_pyIter_list p.isList ⟨s1.heap.objs.size, [s1.heap.objs.size], _, _, H1, rfl, I1.kept (t' := s1.toks) fun b o e => Heap.get?_push_of_some _ e, turn_list a _, ⟨_, Heap.get?_push_size _ rfl, rfl, rfl⟩, fr, q⟩
  · obtain ⟨its, rv, p, hz⟩ := I1.tuple hq
    exact wpAny_pyIter_tuple (show s1.heap.IsTuple a its.toArray from p) ⟨s1.heap.objs.size, [s1.heap.objs.size], _, _, H1, rfl, I1.kept (t' := s1.toks) fun b o e => Heap.get?_push_of_some _ e, turn_tuple a _, ⟨_, Heap.get?_push_size _ rfl, rfl, rfl⟩, fr, q⟩
/-- what a sequence stands on -/
theorem seq_sup {fe : List Addr} {F H : Hp} {r : Rv} {v : V} {b : Bool} {xs : List PV} (g : Good W F H) (q : RF W fe F H r v) (h : seqS r = some (b, xs)) :
    ∃ a vs, v = .ref a ∧ Rps W F vs xs ∧ ((H a = some (.lst vs) ∧ sup W b F H a = some (.lst vs)) ∨ (H a = some (.tup vs) ∧ sup W b F H a = some (.tup vs))) := by
  unfold seqS at h
  cases hs : shal r with
  | none => rw [hs] at h; simp at h
  | some y =>
    have s := q.sh g hs
    rw [hs] at h
    cases y with
    | lst o ys =>
      obtain ⟨a, vs, rfl, ha, na, t⟩ := s
      simp only [Option.some.injEq, Prod.mk.injEq] at h
      obtain ⟨h1, rfl⟩ := h
      refine ⟨a, vs, rfl, t, .inl ⟨ha, ?_⟩⟩
      cases b with
      | false => show np W H a = _; exact np_ne na ha (fun _ z => by cases z)
      | true =>
        show F a = _
        obtain ⟨bb, x⟩ := r
        rcases q with ⟨hb, q⟩ | ⟨hb, fp, q, m⟩
        · cases hb
          have e : x.fz = .lst o ys := by simpa [shal] using hs
          rw [e] at q
          cases q with
          | lst hf t2 =>
            rw [g.sub _ _ hf] at ha
            cases ha
            exact hf
        · cases hb
          have st : x.st = true := by simpa using h1
          have p := q.stable st
          have e : x = .lst o ys := by
            cases x with
            | lst o2 zs => cases p; simpa [shal] using hs
            | dct o2 T ks vs => cases p <;> simp [shal] at hs
            | _ => simpa [shal] using hs
          rw [e] at p
          cases p with
          | lst hf t2 =>
            rw [g.sub _ _ hf] at ha
            cases ha
            exact hf
    | tup ys =>
      simp only [Option.some.injEq, Prod.mk.injEq] at h
      obtain ⟨rfl, rfl⟩ := h
      cases s with
      | tup hf t => exact ⟨_, _, rfl, t, .inr ⟨g.sub _ _ hf, hf⟩⟩
    | _ => simp at h
theorem pix_seq {e : Expr} {m : Loc → Tr Rv} (he : PX W k N sc e m) : PIX W k N sc tg e (fun ρ => (m ρ).bind fun r => Tr.ofO (seqS r)) := by
  intro X E c
  refine PI.imp (pi_seqA (he X E c)) fun σ H R h => ?_
  refine (itr1 h).imp fun x H1 ⟨fe, F0, H0, F', r, e, q, z⟩ => ?_
  cases hs : seqS r with
  | none => rw [hs] at z; exact (show False from z).elim
  | some p =>
    obtain ⟨b, xs⟩ := p
    rw [hs] at z
    obtain ⟨a, vs, rfl, t, ⟨h1, h2⟩ | ⟨h1, h2⟩⟩ := seq_sup e.g q hs
    · refine ⟨a, rfl, .inl ⟨⟨vs, .inl (.inl h1)⟩, ?_⟩⟩
      rw [c.K]
      exact z F' H1 _ e (src_list h2 t)
    · refine ⟨a, rfl, .inr ⟨⟨vs, .inl (.inl h1)⟩, ?_⟩⟩
      rw [c.K]
      exact z F' H1 _ e (src_tup h2 t)
theorem rng_ok {a b : Int} (h : rngOk a b = true) : -(2 ^ 62) ≤ a ∧ a < 2 ^ 62 ∧ -(2 ^ 62) ≤ b ∧ b < 2 ^ 62 := by
  unfold rngOk at h
  simp only [Bool.and_eq_true, decide_eq_true_eq] at h
  exact ⟨h.1.1, h.1.2, h.2.1, h.2.2⟩
theorem pix_rng {e : Expr} {m : Loc → Tr Rv} {p p2 : Pos} (g1 : glB sc "range" = true) (m1 : W.mg "range" = none) (pl : plainB e = true) (he : PX W k N sc e m) :
    PIX W k N sc tg (.Call (.Name "range" p) [e] [] p2) (fun ρ => (m ρ).bind fun r => match r.2 with | .int j => if rngOk 0 j then .ok (true, rangeL 0 j) else .bad | _ => .bad) := by
  intro X E c
  refine PI.imp (pi_range1 (c.gl g1) (c.fr m1) (pa_cons (he X E c) pa_nil (star_cons pl)) (star_cons pl)) fun σ H R h => ?_
  refine (itr1 h).imp fun x H1 ⟨fe, F0, H0, F', r, e, q, z⟩ => ?_
  obtain ⟨bb, y⟩ := r
  cases y with
  | int j =>
    have a1 := q.plain rfl rfl
    cases a1
    dsimp only at z
    by_cases hr : rngOk 0 j = true
    · rw [if_pos hr] at z
      obtain ⟨_, _, h3, h4⟩ := rng_ok hr
      refine ⟨j, rfl, h3, h4, ?_⟩
      have s := src_range (W := W) (S := sup W true F' H1) (F := F') 0 j
      rw [Int.sub_zero] at s
      exact z F' H1 _ e s
    · rw [if_neg hr] at z
      exact (show False from z).elim
  | _ => exact (show False from z).elim
theorem pix_rng2 {a b : Expr} {ma mb : Loc → Tr Rv} {p p2 : Pos} (g1 : glB sc "range" = true) (m1 : W.mg "range" = none) (pl : plainB a = true) (pl2 : plainB b = true) (ha : PX W k N sc a ma) (hb : PX W k N sc b mb) :
    PIX W k N sc tg (.Call (.Name "range" p) [a, b] [] p2) (fun ρ => (ma ρ).bind fun r => (mb ρ).bind fun q => match r.2, q.2 with | .int i, .int j => if rngOk i j then .ok (true, rangeL i j) else .bad | _, _ => .bad) := by
  intro X E c
  refine PI.imp (pi_range2 (c.gl g1) (c.fr m1) (pa2 (ha X E c) (hb X E c) pl pl2) (by rw [star_cons pl, star_cons pl2]; rfl) (star_cons pl2)) fun σ H R h => ?_
  refine (itr2 h).imp fun x H1 h => h.imp fun y H2 ⟨fe, F0, H0, F', r, r2, e, q, q2, z⟩ => ?_
  obtain ⟨b1, y1⟩ := r
  obtain ⟨b2, y2⟩ := r2
  cases y1 <;> first | exact (show False from z).elim | skip
  cases y2 <;> first | exact (show False from z).elim | skip
  rename_i i j
  have a1 := q.plain rfl rfl
  have a2 := q2.plain rfl rfl
  cases a1; cases a2
  dsimp only at z
  by_cases hr : rngOk i j = true
  · rw [if_pos hr] at z
    exact ⟨i, j, rfl, rng_ok hr, z F' H2 _ e (src_range i j)⟩
  · rw [if_neg hr] at z
    exact (show False from z).elim
theorem pix_enum {l : Expr} {ml : Loc → Tr Rv} {p p2 : Pos} (g1 : glB sc "enumerate" = true) (m1 : W.mg "enumerate" = none) (pl : plainB l = true) (ht : isTupE tg = true) (hl : PX W k N sc l ml) :
    PIX W k N sc tg (.Call (.Name "enumerate" p) [l] [] p2) (fun ρ => (ml ρ).bind fun r => match seqS r with | some (b, xs) => .ok (b, enumP 0 xs) | none => .bad) := by
  intro X E c
  cases tg with
  | Tuple es j q =>
    refine PI.imp (pi_enumA (c.gl g1) (c.fr m1) (pa_cons (hl X E c) pa_nil (star_cons pl)) (star_cons pl)) fun σ H R h => ?_
    refine (itr1 h).imp fun x H1 ⟨fe, F0, H0, F', r, e, q, z⟩ => ?_
    cases hs : seqS r with
    | none => rw [hs] at z; exact (show False from z).elim
    | some p =>
      obtain ⟨b, xs⟩ := p
      rw [hs] at z
      obtain ⟨a, vs, rfl, t, ⟨h1, h2⟩ | ⟨h1, h2⟩⟩ := seq_sup e.g q hs
      · refine ⟨a, vs, rfl, .inl ⟨.inl (.inl h1), ?_⟩⟩
        rw [c.K]
        exact z F' H1 _ e (src_enumL h2 t)
      · refine ⟨a, vs, rfl, .inr ⟨.inl (.inl h1), ?_⟩⟩
        rw [c.K]
        exact z F' H1 _ e (src_enumT h2 t)
  | _ => cases ht
theorem zip_sup {fe : List Addr} {F H : Hp} {r q : Rv} {v w : V} {f : List PV → List PV → List PV} {b : Bool} {zs : List PV} (g : Good W F H) (qr : RF W fe F H r v) (qq : RF W fe F H q w) (h : zipS r q f = some (b, zs)) :
    ∃ a a' vs ws xs ys, v = .ref a ∧ w = .ref a' ∧ Rps W F vs xs ∧ Rps W F ws ys ∧ zs = f xs ys ∧ ((H a = some (.lst vs) ∧ sup W b F H a = some (.lst vs) ∧ H a' = some (.lst ws) ∧ sup W b F H a' = some (.lst ws)) ∨
      (H a = some (.tup vs) ∧ sup W b F H a = some (.tup vs) ∧ H a' = some (.tup ws) ∧ sup W b F H a' = some (.tup ws))) := by
  have up : ∀ {b1 b2 : Bool} {a : Addr} {o : HO}, sup W b1 F H a = some o → sup W (b1 && b2) F H a = some o := by
    intro b1 b2 a o h
    cases b1 with
    | false => exact h
    | true =>
      cases b2 with
      | true => exact h
      | false => exact g.np a o h
  unfold zipS at h
  cases hs : shal r with
  | none => rw [hs] at h; simp at h
  | some y =>
    cases hs2 : shal q with
    | none => rw [hs, hs2] at h; cases y <;> simp at h
    | some y2 =>
      rw [hs, hs2] at h
      cases y with
      | lst o xs =>
        cases y2 with
        | lst o2 ys =>
          simp only [Option.some.injEq, Prod.mk.injEq] at h
          obtain ⟨rfl, rfl⟩ := h
          obtain ⟨a, vs, rfl, t, k1⟩ := seq_sup g qr (show seqS r = some (!r.1 || r.2.st, xs) by unfold seqS; rw [hs])
          obtain ⟨a', ws, rfl, t', k2⟩ := seq_sup g qq (show seqS q = some (!q.1 || q.2.st, ys) by unfold seqS; rw [hs2])
          obtain ⟨aa, vv, ee, hh, _⟩ := qr.sh g hs
          obtain ⟨aa', vv', ee', hh', _⟩ := qq.sh g hs2
          cases ee; cases ee'
          rcases k1 with ⟨k1, k1'⟩ | ⟨k1, k1'⟩
          · rcases k2 with ⟨k2, k2'⟩ | ⟨k2, k2'⟩
            · exact ⟨a, a', vs, ws, xs, ys, rfl, rfl, t, t', rfl, .inl ⟨k1, up k1', k2, by rw [Bool.and_comm]; exact up k2'⟩⟩
            · rw [k2] at hh'; cases hh'
          · rw [k1] at hh; cases hh
        | _ => simp at h
      | tup xs =>
        cases y2 with
        | tup ys =>
          simp only [Option.some.injEq, Prod.mk.injEq] at h
          obtain ⟨rfl, rfl⟩ := h
          have s1 := qr.sh g hs
          have s2 := qq.sh g hs2
          cases s1 with
          | tup h1 t1 =>
            cases s2 with
            | tup h2 t2 => exact ⟨_, _, _, _, xs, ys, rfl, rfl, t1, t2, rfl, .inr ⟨g.sub _ _ h1, h1, g.sub _ _ h2, h2⟩⟩
        | _ => simp at h
      | _ => simp at h
theorem pix_zip {a b : Expr} {ma mb : Loc → Tr Rv} {p p2 : Pos} (g1 : glB sc "zip" = true) (m1 : W.mg "zip" = none) (pl : plainB a = true) (pl2 : plainB b = true) (ht : isTupE tg = true) (ha : PX W k N sc a ma) (hb : PX W k N sc b mb) :
    PIX W k N sc tg (.Call (.Name "zip" p) [a, b] [] p2) (fun ρ => (ma ρ).bind fun r => (mb ρ).bind fun q => Tr.ofO (zipS r q zipP)) := by
  intro X E c
  cases tg with
  | Tuple es j q =>
    refine PI.imp (RZ.pi_zipA (c.gl g1) (c.fr m1) (pa2 (ha X E c) (hb X E c) pl pl2) (star_cons pl) (star_all (by simp [pl2]))) fun σ H R h => ?_
    refine (itr2 h).imp fun x H1 h => h.imp fun y H2 ⟨fe, F0, H0, F', r, r2, e, q, q2, z⟩ => ?_
    cases hs : zipS r r2 zipP with
    | none => rw [hs] at z; exact (show False from z).elim
    | some p =>
      obtain ⟨b, zs⟩ := p
      rw [hs] at z
      obtain ⟨a, a', vs, ws, xs, ys, rfl, rfl, t, t', rfl, ⟨h1, h2, h3, h4⟩ | ⟨h1, h2, h3, h4⟩⟩ := zip_sup e.g q q2 hs
      · refine ⟨a, a', vs, ws, rfl, .inl ⟨.inl (.inl h1), .inl (.inl h3), ?_⟩⟩
        rw [c.K]
        exact z F' H2 _ e (src_zipL h2 h4 t t')
      · refine ⟨a, a', vs, ws, rfl, .inr ⟨.inl (.inl h1), .inl (.inl h3), ?_⟩⟩
        rw [c.K]
        exact z F' H2 _ e (src_zipT h2 h4 t t')
  | _ => cases ht
theorem pax_nil : PAX W k N sc [] (fun _ => .ok []) := fun X E c => PA.imp pa_nil fun σ H Q ⟨F, ρ, fp, g, env, h⟩ => h F H [] [] (Ext.refl g) .nil
theorem pax_cons {e : Expr} {es : List Expr} {m : Loc → Tr Rv} {ms : Loc → Tr (List Rv)} (pl : plainB e = true) (he : PX W k N sc e m) (hs : PAX W k N sc es ms) : PAX W k N sc (e :: es) (fun ρ => (m ρ).bind fun r => (ms ρ).bind fun rs => .ok (r :: rs)) := by
  intro X E c
  refine PA.imp (pa_cons (he X E c) (hs X E c) (star_cons pl)) fun σ H Q ⟨F, ρ, fp, g, env, h⟩ => ?_
  refine ⟨F, ρ, fp, g, env, Tr.W_imp (fun o ho => ?_) (Tr.W_bind.mp h)⟩
  cases o with
  | exn cc ns xs => exact ho
  | bad => exact ho
  | ok r =>
    intro F1 H1 v e1 q1
    refine ⟨F1, ρ, fp, e1.g, env.ext e1, Tr.W_imp (fun o2 ho2 => ?_) (Tr.W_bind.mp ho)⟩
    cases o2 with
    | exn cc ns xs => exact ExP.ext e1 ho2
    | bad => exact ho2
    | ok rs =>
      intro F2 H2 vs gg e2 q2
      obtain ⟨f, rf, nf, mf⟩ := q1
      obtain ⟨b, x⟩ := r
      cases b with
      | true => exact ho2 F2 H2 _ _ (e1.trans e2) (.old (rf.ext e2) (mf rfl) (q2.back e1))
      | false => exact ho2 F2 H2 _ _ (e1.trans e2) (.new (rf.ext e2) (nf rfl) (q2.back e1) fun a ha hb => by
          obtain ⟨⟨o, ho, _⟩, _⟩ := rf.own a ha
          rw [(q2.fresh a hb).1] at ho
          cases ho)
end
end FS

set_option Elab.async false
set_option linter.all false
set_option maxRecDepth 100000
set_option maxHeartbeats 8000000
namespace FS
open PySem PySem.Spec PyProof.Rows L2

section
variable {W : Wd} {k : Nat} {N : List Str} {sc : Scope}
theorem px_gl {x : Str} {p : Pos} (h : ∃ a, W.mg x = some (.ref a)) (g : glB sc x = true) (n : nmB x = true) : PX W k N sc (.Name x p) (fun _ => vB (.gl x)) := by
  intro X E c
  obtain ⟨a, h⟩ := h
  exact const_ok (pe_glob (v := .ref a) (c.gl g) (by rw [c.mg]; exact h) rfl (nm1 n)) fun F => .gl h
theorem px_gi {x : Str} {i : Int} {p : Pos} (h : ∃ t, W.mg x = some (.int i t)) (g : glB sc x = true) (n : nmB x = true) : PX W k N sc (.Name x p) (fun _ => vB (.int i)) := by
  intro X E c
  obtain ⟨t, h⟩ := h
  exact const_ok (pe_glob (v := .int i) (c.gl g) (by rw [c.mg]; exact h) ⟨t, rfl⟩ (nm1 n)) fun F => .int
theorem px_ty {n : String} {x : Str} {p : Pos} (ht : tyN n = some x) (h : W.mg x = none) (g : glB sc x = true) (nn : nmB x = true) : PX W k N sc (.Name x p) (fun _ => vB (.ty n)) := by
  intro X E c
  exact const_ok (pe_bltn (v := .ty n) (c.gl g) (c.fr h) (boot_ty ht) rfl (nmB_ok nn).2.2 (nm1 nn)) fun F => .ty
theorem px_non {j} {p : Pos} : PX W k N sc (.Constant .none j p) (fun _ => vB .non) := fun X E c => const_ok pe_non fun F => .non
theorem px_bl {b j} {p : Pos} : PX W k N sc (.Constant (.bool b) j p) (fun _ => vB (.bl b)) := fun X E c => const_ok pe_bl fun F => .bl
theorem px_int {i j} {p : Pos} : PX W k N sc (.Constant (.int i) j p) (fun _ => vB (.int i)) := fun X E c => const_ok pe_int fun F => .int
theorem px_str {s j} {p : Pos} : PX W k N sc (.Constant (.str s) j p) (fun _ => vB (.str s)) := fun X E c => const_ok pe_str fun F => .str
theorem px_one {a : Expr} {op : BoolOp} {m : Loc → Tr Rv} {p : Pos} (ha : PX W k N sc a m) : PX W k N sc (.BoolOp op [a] p) m := fun X E c => pe_one (ha X E c)
theorem pt_tru {a : Expr} {m : Loc → Tr Rv} (h : truB a = true) (ha : PX W k N sc a m) : PTX W k N sc a (fun ρ => (m ρ).bind fun r => Tr.ofO (truS r.2)) := by
  intro X E c
  refine PT.imp (pt_truth (ha X E c) (tru_plain h)) fun σ H Q hh => ?_
  refine (tst1 hh).imp fun x H1 ⟨fe, F0, H0, F', r, e, q, z⟩ => ?_
  cases ht : truS r.2 with
  | none => rw [ht] at z; exact (show False from z).elim
  | some b =>
    rw [ht] at z
    refine ⟨b, ?_, z F' H1 e⟩
    rw [c.K]
    exact tru_of e.g q ht
theorem tT.imp {E : XK} {m : Loc → Tr Bool} {σ : L2.St} {H : Hp} {Q Q' : Bool → Hp → Prop} (h : tT W E m σ H Q) (i : ∀ b H', Q b H' → Q' b H') : tT W E m σ H Q' := by
  obtain ⟨F, ρ, fp, g, env, h⟩ := h
  refine ⟨F, ρ, fp, g, env, Tr.W_imp (fun o ho => ?_) h⟩
  cases o with
  | ok r => exact fun F' H' e' => i _ _ (ho F' H' e')
  | exn c ns xs => exact ho
  | bad => exact ho
theorem tstT {E : XK} {m : Loc → Tr Bool} {K : Loc → Bool → Tr Bool} {σ : L2.St} {H : Hp} {Q : Bool → Hp → Prop} (h : tT W E (fun ρ => (m ρ).bind (K ρ)) σ H Q) :
    tT W E m σ H fun b H1 => tT W E (fun ρ => K ρ b) σ H1 Q := by
  obtain ⟨F, ρ, fp, g, env, h⟩ := h
  refine stepT (P := fun F0 H0 => PostT W E F0 H0 Q) (Ext.refl g) env (fun _ _ _ z => z) (fun z => z) h fun b F2 H2 e2 z => ?_
  refine ⟨F2, ρ, fp, e2.g, env.ext e2, Tr.W_imp (fun o ho => ?_) z⟩
  cases o with
  | ok r => exact fun F' H' e' => ho F' H' (e2.trans e')
  | exn c ns xs => exact ExP.ext e2 ho
  | bad => exact ho
theorem tT.ok {E : XK} {b : Bool} {σ : L2.St} {H : Hp} {Q : Bool → Hp → Prop} (h : tT W E (fun _ => Tr.ok b) σ H Q) : Q b H :=
  let ⟨F, ρ, fp, g, env, h⟩ := h; h F H (Ext.refl g)
theorem pt_ntX {a : Expr} {m : Loc → Tr Bool} {p : Pos} (ha : PTX W k N sc a m) : PTX W k N sc (.UnaryOp .Not a p) (fun ρ => (m ρ).bind fun k => .ok (!k)) := fun X E c =>
  PT.imp (pt_not (ha X E c)) fun σ H Q h => (tstT h).imp fun b H1 h1 => h1.ok
theorem pw_imp {X : Cx} {e : Expr} {t t' : TT} (h : PW X e t) (i : ∀ σ H Q, t' σ H Q → t σ H Q) : PW X e t' := ⟨fun wh pins s σ H Q I q => h.run wh pins s σ H Q I (i _ _ _ q)⟩
theorem pw_anX {a b : Expr} {rest : List Expr} {ma mb : Loc → Tr Bool} {p : Pos} (ha : PTX W k N sc a ma) (hb : PWX W k N sc (.BoolOp .And (b :: rest) p) mb) :
    PWX W k N sc (.BoolOp .And (a :: b :: rest) p) (fun ρ => (ma ρ).bind fun k => if k then mb ρ else .ok false) := fun X E c =>
  pw_imp (pw_and (ha X E c) (hb X E c)) fun σ H Q h => (tstT h).imp fun b H1 h1 => by
    cases b with
    | true => exact h1
    | false => exact h1.ok
theorem pw_orX {a b : Expr} {rest : List Expr} {ma mb : Loc → Tr Bool} {p : Pos} (ha : PTX W k N sc a ma) (hb : PWX W k N sc (.BoolOp .Or (b :: rest) p) mb) :
    PWX W k N sc (.BoolOp .Or (a :: b :: rest) p) (fun ρ => (ma ρ).bind fun k => if k then .ok true else mb ρ) := fun X E c =>
  pw_imp (pw_or (ha X E c) (hb X E c)) fun σ H Q h => (tstT h).imp fun b H1 h1 => by
    cases b with
    | true => exact h1.ok
    | false => exact h1
theorem pw_oneX {a : Expr} {op : BoolOp} {m : Loc → Tr Bool} {p : Pos} (ha : PTX W k N sc a m) : PWX W k N sc (.BoolOp op [a] p) m := fun X E c => by
  cases op with
  | And => exact pw_and1 (ha X E c)
  | Or => exact pw_or1 (ha X E c)
theorem pt_pw {x : Expr} {m : Loc → Tr Bool} (h : PWX W k N sc x m) : PTX W k N sc x m := fun X E c => (h X E c).pt
theorem pc_yes : PCX W k N sc [] (fun _ => .ok true) := fun X E c => ⟨fun pins s σ H Q I h => pts_nil.run pins s σ H Q I h.ok⟩
theorem pc_one {x : Expr} {m : Loc → Tr Bool} (h : PTX W k N sc x m) : PCX W k N sc [x] m := fun X E c => pts_one (h X E c)
def isBoolOp : Expr → Bool
  | .BoolOp _ _ _ => true
  | _ => false
end

theorem PX.cast {W : Wd} {k : Nat} {N : List Str} {sc : Scope} {x : Expr} {m m' : Loc → Tr Rv} (h : PX W k N sc x m) (e : ∀ ρ, m' ρ = m ρ) : PX W k N sc x m' := by
  have : m' = m := funext e
  rw [this]; exact h
theorem PTX.cast {W : Wd} {k : Nat} {N : List Str} {sc : Scope} {x : Expr} {m m' : Loc → Tr Bool} (h : PTX W k N sc x m) (e : ∀ ρ, m' ρ = m ρ) : PTX W k N sc x m' := by
  have : m' = m := funext e
  rw [this]; exact h
theorem PWX.cast {W : Wd} {k : Nat} {N : List Str} {sc : Scope} {x : Expr} {m m' : Loc → Tr Bool} (h : PWX W k N sc x m) (e : ∀ ρ, m' ρ = m ρ) : PWX W k N sc x m' := by
  have : m' = m := funext e
  rw [this]; exact h
theorem PAX.cast {W : Wd} {k : Nat} {N : List Str} {sc : Scope} {x : List Expr} {m m' : Loc → Tr (List Rv)} (h : PAX W k N sc x m) (e : ∀ ρ, m' ρ = m ρ) : PAX W k N sc x m' := by
  have : m' = m := funext e
  rw [this]; exact h
theorem PIX.cast {W : Wd} {k : Nat} {N : List Str} {sc : Scope} {t x : Expr} {m m' : Loc → Tr (Bool × List PV)} (h : PIX W k N sc t x m) (e : ∀ ρ, m' ρ = m ρ) : PIX W k N sc t x m' := by
  have : m' = m := funext e
  rw [this]; exact h
theorem POX.cast {W : Wd} {k : Nat} {N : List Str} {sc : Scope} {x : Option Expr} {m m' : Loc → Tr (Option Int)} (h : POX W k N sc x m) (e : ∀ ρ, m' ρ = m ρ) : POX W k N sc x m' := by
  have : m' = m := funext e
  rw [this]; exact h
theorem bt {a b : Bool} (h : (a && b) = true) : a = true ∧ b = true := by simpa using h
theorem dt {p : Prop} [Decidable p] (h : decide p = true) : p := by simpa using h
theorem chk_bool {N : List Str} {sc : Scope} {t : Te} {op : BoolOp} {l : List Expr} {p : Pos} (h : chkT N sc t (.BoolOp op l p) = true) : (∃ a r, t = .an a r) ∨ (∃ a r, t = .orr a r) ∨ (∃ a, t = .one a) := by
  cases t <;> simp [chkT, truB] at h <;> simp
mutual
theorem soE {W : Wd} {k : Nat} : ∀ (e : Ex) {N : List Str} {sc : Scope} {x : Expr}, chkE N sc e x = true → AllN W k (ndE e) → PX W k N sc x (evE e)
  | .var i, N, sc, x, h, nd => by
    unfold chkE at h
    split at h
    · have h := bt h; exact px_var (dt h.1) (bt h.2).1 (bt h.2).2
    · cases h
  | .gl y, N, sc, x, h, nd => by
    unfold chkE at h
    split at h
    · have h := bt h
      have e := dt h.1; subst e
      exact (px_gl nd.1 (bt h.2).1 (bt h.2).2).cast fun ρ => by simp only [evE]
    · cases h
  | .gi y i, N, sc, x, h, nd => by
    unfold chkE at h
    split at h
    · have h := bt h
      have e := dt h.1; subst e
      exact (px_gi nd.1 (bt h.2).1 (bt h.2).2).cast fun ρ => by simp only [evE]
    · cases h
  | .ty n, N, sc, x, h, nd => by
    unfold chkE at h
    split at h
    · have h := bt h
      have e := dt h.1
      simp only [ndE, e] at nd
      exact (px_ty e nd.1 (bt h.2).1 (bt h.2).2).cast fun ρ => by simp only [evE]
    · cases h
  | .non, N, sc, x, h, nd => by
    unfold chkE at h
    split at h
    · exact px_non.cast fun ρ => by simp only [evE]
    · cases h
  | .bl b, N, sc, x, h, nd => by
    unfold chkE at h
    split at h
    · have e := dt h; subst e; exact px_bl.cast fun ρ => by simp only [evE]
    · cases h
  | .int b, N, sc, x, h, nd => by
    unfold chkE at h
    split at h
    · have e := dt h; subst e; exact px_int.cast fun ρ => by simp only [evE]
    · cases h
  | .str b, N, sc, x, h, nd => by
    unfold chkE at h
    split at h
    · have e := dt h; subst e; exact px_str.cast fun ρ => by simp only [evE]
    · cases h
  | .bin op a b, N, sc, x, h, nd => by
    unfold chkE at h
    split at h
    · have h := bt h
      have e := opB_ok h.1; subst e
      have nd := AllN.app nd
      exact (px_bin (soE a (bt h.2).1 nd.1) (soE b (bt h.2).2 nd.2)).cast fun ρ => by simp only [evE] <;> rfl
    · cases h
  | .neg a, N, sc, x, h, nd => by
    unfold chkE at h
    split at h
    · exact (px_neg (soE a h nd)).cast fun ρ => by simp only [evE] <;> rfl
    · cases h
  | .cmp op a b, N, sc, x, h, nd => by
    unfold chkE at h
    split at h
    · have h := bt h
      have e := coB_ok h.1; subst e
      have h := bt h.2
      have nd := AllN.app nd
      exact (px_cmp h.1 (soE a (bt h.2).1 nd.1) (soE b (bt h.2).2 nd.2)).cast fun ρ => by simp only [evE] <;> rfl
    · cases h
  | .chn o o' a b c, N, sc, x, h, nd => by
    unfold chkE at h
    split at h
    · have h := bt h
      have e := coB_ok h.1; subst e
      have h := bt h.2
      have e := coB_ok h.1; subst e
      have h := bt h.2
      have h2 := bt h.2
      have h3 := bt h2.2
      have nd := AllN.app nd
      have nd2 := AllN.app nd.2
      exact (px_chn h.1 (soE a h2.1 nd.1) (soE b h3.1 nd2.1) (soE c h3.2 nd2.2)).cast fun ρ => by simp only [evE] <;> rfl
    · cases h
  | .isN ng a, N, sc, x, h, nd => by
    unfold chkE at h
    split at h
    · have h := bt h
      exact (px_isN h.1 (soE a h.2 nd)).cast fun ρ => by simp only [evE] <;> rfl
    · cases h
  | .isB ng a b, N, sc, x, h, nd => by
    unfold chkE at h
    split at h
    · have h := bt h
      have nd := AllN.app nd
      exact (px_isB h.1 (soE a (bt h.2).1 nd.1) (soE b (bt h.2).2 nd.2)).cast fun ρ => by simp only [evE] <;> rfl
    · cases h
  | .nt a, N, sc, x, h, nd => by
    unfold chkE at h
    split at h
    · exact (px_nt (soE a h nd)).cast fun ρ => by simp only [evE] <;> rfl
    · cases h
  | .an a r, N, sc, x, h, nd => by
    unfold chkE at h
    split at h
    · have h := bt h
      have nd := AllN.app nd
      exact (px_an (soE a h.1 nd.1) (soE r h.2 nd.2)).cast fun ρ => by simp only [evE] <;> rfl
    · cases h
  | .orr a r, N, sc, x, h, nd => by
    unfold chkE at h
    split at h
    · have h := bt h
      have nd := AllN.app nd
      exact (px_or (soE a h.1 nd.1) (soE r h.2 nd.2)).cast fun ρ => by simp only [evE] <;> rfl
    · cases h
  | .one a, N, sc, x, h, nd => by
    unfold chkE at h
    split at h
    · exact (px_one (soE a h nd)).cast fun ρ => by simp only [evE]
    · cases h
  | .ife c a b, N, sc, x, h, nd => by
    unfold chkE at h
    split at h
    · have h := bt h
      have nd := AllN.app nd
      have nd2 := AllN.app nd.2
      exact (px_ife (soT c h.1 nd.1) (soE a (bt h.2).1 nd2.1) (soE b (bt h.2).2 nd2.2)).cast fun ρ => by simp only [evE]
    · cases h
  | .call f n m es, N, sc, x, h, nd => by
    unfold chkE at h
    split at h
    · rename_i y p args q
      have h := bt h
      have e := dt h.1; subst e
      have h1 := bt h.2
      have h2 := bt h1.2
      have h3 := bt h2.2
      cases args with
      | nil =>
        have := (chks_len h3.2).mp rfl
        subst this
        exact (px_call0 nd.1 h1.1 h2.1).cast fun ρ => by simp only [evE, evs] <;> rfl
      | cons a0 as => exact (px_call nd.1 h1.1 h2.1 h3.1 (soA es h3.2 nd.2)).cast fun ρ => by simp only [evE] <;> rfl
    · cases h
  | .blt b es, N, sc, x, h, nd => by
    unfold chkE at h
    split at h
    · have h := bt h
      have e := dt h.1; subst e
      have h1 := bt h.2
      have h2 := bt h1.2
      exact (px_blt nd.1 h1.1 h2.1 (soA es h2.2 nd.2)).cast fun ρ => by simp only [evE]
    · cases h
  | .listR a, N, sc, x, h, nd => by
    unfold chkE at h
    split at h
    · have h := bt h
      have e := dt h.1; subst e
      have h1 := bt h.2
      have h2 := bt h1.2
      have e := dt h2.1; subst e
      have h3 := bt h2.2
      have h4 := bt h3.2
      exact (px_listR h1.1 h3.1 nd.1 nd.2.1 h4.1 (soE a h4.2 nd.2.2)).cast fun ρ => by simp only [evE] <;> rfl
    · cases h
  | .isi a ts, N, sc, x, h, nd => by
    unfold chkE at h
    have hz := bt h
    have h := hz.2
    obtain ⟨n0, nd⟩ : W.mg "isinstance" = none ∧ AllN W k (ts.flatMap (fun n => match tyN n with | some x => [Need.fr x] | none => []) ++ ndE a) := nd
    have nd := AllN.app nd
    split at h
    · have h := bt h
      have e := dt h.1; subst e
      have h1 := bt h.2
      have h2 := bt h1.2
      have h3 := bt h2.2
      exact (px_isi h1.1 n0 h2.1 (soE a h3.1 nd.2) h3.2 (dt hz.1) nd.1).cast fun ρ => by simp only [evE] <;> rfl
    · have h := bt h
      have e := dt h.1; subst e
      have h1 := bt h.2
      have h2 := bt h1.2
      have h3 := bt h2.2
      exact (px_isi1 h1.1 n0 h2.1 (soE a h3.1 nd.2) h3.2 nd.1).cast fun ρ => by simp only [evE] <;> rfl
    · cases h
  | .sub a i, N, sc, x, h, nd => by
    unfold chkE at h
    split at h
    · have h := bt h
      have nd := AllN.app nd
      exact (px_sub h.1 (soE a (bt h.2).1 nd.1) (soE i (bt h.2).2 nd.2)).cast fun ρ => by simp only [evE] <;> rfl
    · cases h
  | .sli a lo hi, N, sc, x, h, nd => by
    unfold chkE at h
    split at h
    · have h := bt h
      have nd := AllN.app nd
      have nd2 := AllN.app nd.2
      exact (px_sli (soE a h.1 nd.1) (soO lo (bt h.2).1 nd2.1) (soO hi (bt h.2).2 nd2.2)).cast fun ρ => by simp only [evE] <;> rfl
    · cases h
  | .tup es, N, sc, x, h, nd => by
    unfold chkE at h
    split at h
    · have h := bt h
      exact (px_tup (soA es h.2 nd)).cast fun ρ => by simp only [evE] <;> rfl
    · cases h
  | .lst es, N, sc, x, h, nd => by
    unfold chkE at h
    split at h
    · have h := bt h
      exact (px_lst (soA es h.2 nd)).cast fun ρ => by simp only [evE] <;> rfl
    · cases h
  | .dnew T, N, sc, x, h, nd => by
    unfold chkE at h
    split at h
    · exact (px_dnew (T := T)).cast fun ρ => by simp only [evE]
    · cases h
  | .comp elt tg it cond own, N, sc, x, h, nd => by
    unfold chkE at h
    split at h
    · rename_i e t i ifs z scope p
      have h := bt h
      have e0 := dt h.1; subst e0
      have h1 := bt h.2
      have h2 := bt h1.2
      have h3 := bt h2.2
      have h4 := bt h3.2
      have h5 := bt h4.2
      have h6 := bt h5.2
      have h7 := bt h6.2
      have nd := AllN.app nd
      have nd2 := AllN.app nd.2
      have hc : PCX W k N (relS scope sc) ifs (evT cond) := by
        have h8 := h7.1
        split at h8
        · split at h8
          · have : evT .yes = fun _ => Tr.ok true := by funext ρ; simp only [evT]
            rw [this]; exact pc_yes
          · cases h8
        · exact pc_one (soT cond h8 nd2.1)
        · cases h8
      have hs : ∀ j ∈ tgIs tg, j ∈ own.map (·.2) := fun j hj => by
        have := List.all_eq_true.mp h5.1 j hj
        simpa using this
      have hi := soI it h6.1 (t := t) (fun q => by
        have := h3.1
        rw [q] at this
        simpa using this) nd.1
      exact (px_comp h1.1 h2.1 h4.1 hs hi hc (soE elt h7.2 nd2.2)).cast fun ρ => by simp only [evE]; rfl
    · cases h
  | .prim q es, N, sc, x, h, nd => by
    unfold chkE at h
    have h := bt h
    have h2 := h.2
    split at h2
    · rename_i ss hs
      exact (nd.1 N sc x ss (evl es) hs (soL es h2 nd.2)).cast fun ρ => by simp only [evE]
    · cases h2
theorem soL {W : Wd} {k : Nat} : ∀ (es : Exs) {N : List Str} {ss : List (Scope × Expr)}, chkL N es ss = true → AllN W k (nds es) → PXL W k N ss (evl es)
  | .nil, N, ss, h, nd => by
    unfold chkL at h
    split at h
    · unfold evl
      exact .nil
    · cases h
  | .cons e es, N, ss, h, nd => by
    unfold chkL at h
    split at h
    · have h := bt h
      have nd := AllN.app nd
      unfold evl
      exact .cons (chk_plain h.1) (soE e h.1 nd.1) (soL es h.2 nd.2)
    · cases h
theorem soA {W : Wd} {k : Nat} : ∀ (es : Exs) {N : List Str} {sc : Scope} {xs : List Expr}, chks N sc es xs = true → AllN W k (nds es) → PAX W k N sc xs (evs es)
  | .nil, N, sc, xs, h, nd => by
    unfold chks at h
    split at h
    · exact pax_nil.cast fun ρ => by simp only [evs]
    · cases h
  | .cons e es, N, sc, xs, h, nd => by
    unfold chks at h
    split at h
    · have h := bt h
      have nd := AllN.app nd
      exact (pax_cons (chk_plain h.1) (soE e h.1 nd.1) (soA es h.2 nd.2)).cast fun ρ => by simp only [evs]
    · cases h
theorem soO {W : Wd} {k : Nat} : ∀ (e : OEx) {N : List Str} {sc : Scope} {x : Option Expr}, chkO N sc e x = true → AllN W k (ndO e) → POX W k N sc x (evO e)
  | .none, N, sc, x, h, nd => by
    unfold chkO at h
    split at h
    · exact po_noneX.cast fun ρ => by simp only [evO]
    · cases h
  | .some e, N, sc, x, h, nd => by
    unfold chkO at h
    split at h
    · exact (po_someX (soE e h nd)).cast fun ρ => by simp only [evO] <;> rfl
    · cases h
theorem soI {W : Wd} {k : Nat} : ∀ (e : ItX) {N : List Str} {sc : Scope} {t x : Expr}, chkI N sc t e x = true → (needT e = true → isTupE t = true) → AllN W k (ndI e) → PIX W k N sc t x (evI e)
  | .seq e, N, sc, t, x, h, ht, nd => by
    unfold chkI at h
    exact (pix_seq (soE e h nd)).cast fun ρ => by simp only [evI]
  | .rng a, N, sc, t, x, h, ht, nd => by
    unfold chkI at h
    split at h
    · have h := bt h
      have e := dt h.1; subst e
      have h1 := bt h.2
      have h2 := bt h1.2
      exact (pix_rng h1.1 nd.1 h2.1 (soE a h2.2 nd.2)).cast fun ρ => by simp only [evI] <;> rfl
    · cases h
  | .rng2 a b, N, sc, t, x, h, ht, nd => by
    unfold chkI at h
    split at h
    · have h := bt h
      have e := dt h.1; subst e
      have h1 := bt h.2
      have h2 := bt h1.2
      have h3 := bt h2.2
      have h4 := bt h3.2
      have nd2 := AllN.app nd.2
      exact (pix_rng2 h1.1 nd.1 h2.1 h3.1 (soE a h4.1 nd2.1) (soE b h4.2 nd2.2)).cast fun ρ => by simp only [evI] <;> rfl
    · cases h
  | .enum a, N, sc, t, x, h, ht, nd => by
    unfold chkI at h
    split at h
    · have h := bt h
      have e := dt h.1; subst e
      have h1 := bt h.2
      have h2 := bt h1.2
      exact (pix_enum h1.1 nd.1 h2.1 (ht rfl) (soE a h2.2 nd.2)).cast fun ρ => by simp only [evI] <;> rfl
    · cases h
  | .zip a b, N, sc, t, x, h, ht, nd => by
    unfold chkI at h
    split at h
    · have h := bt h
      have e := dt h.1; subst e
      have h1 := bt h.2
      have h2 := bt h1.2
      have h3 := bt h2.2
      have h4 := bt h3.2
      have nd2 := AllN.app nd.2
      exact (pix_zip h1.1 nd.1 h2.1 h3.1 (ht rfl) (soE a h4.1 nd2.1) (soE b h4.2 nd2.2)).cast fun ρ => by simp only [evI]
    · cases h
  | .prim q es, N, sc, t, x, h, ht, nd => by
    unfold chkI at h
    split at h
    · rename_i ss hs
      exact (nd.1 N sc t x ss (evl es) hs (soL es h nd.2)).cast fun ρ => by simp only [evI]
    · cases h
theorem soT {W : Wd} {k : Nat} : ∀ (e : Te) {N : List Str} {sc : Scope} {x : Expr}, chkT N sc e x = true → AllN W k (ndT e) → PTX W k N sc x (evT e)
  | .yes, N, sc, x, h, nd => by unfold chkT at h; cases h
  | .tru e, N, sc, x, h, nd => by
    unfold chkT at h
    have h := bt h
    exact (pt_tru h.1 (soE e h.2 nd)).cast fun ρ => by simp only [evT]
  | .cmp op a b, N, sc, x, h, nd => by
    unfold chkT at h
    split at h
    · have h := bt h
      have e := coB_ok h.1; subst e
      have h := bt h.2
      have nd := AllN.app nd
      exact (pt_cmpX h.1 (soE a (bt h.2).1 nd.1) (soE b (bt h.2).2 nd.2)).cast fun ρ => by simp only [evT]
    · cases h
  | .chn o o' a b c, N, sc, x, h, nd => by
    unfold chkT at h
    split at h
    · have h := bt h
      have e := coB_ok h.1; subst e
      have h := bt h.2
      have e := coB_ok h.1; subst e
      have h := bt h.2
      have h2 := bt h.2
      have h3 := bt h2.2
      have nd := AllN.app nd
      have nd2 := AllN.app nd.2
      exact (pt_chnX h.1 (soE a h2.1 nd.1) (soE b h3.1 nd2.1) (soE c h3.2 nd2.2)).cast fun ρ => by simp only [evT] <;> rfl
    · cases h
  | .isN ng a, N, sc, x, h, nd => by
    unfold chkT at h
    split at h
    · have h := bt h
      exact (pt_isNX h.1 (soE a h.2 nd)).cast fun ρ => by simp only [evT] <;> rfl
    · cases h
  | .isB ng a b, N, sc, x, h, nd => by
    unfold chkT at h
    split at h
    · have h := bt h
      have nd := AllN.app nd
      exact (pt_isBX h.1 (soE a (bt h.2).1 nd.1) (soE b (bt h.2).2 nd.2)).cast fun ρ => by simp only [evT] <;> rfl
    · cases h
  | .nt a, N, sc, x, h, nd => by
    unfold chkT at h
    split at h
    · exact (pt_ntX (soT a h nd)).cast fun ρ => by simp only [evT]
    · cases h
  | .an a r, N, sc, x, h, nd => pt_pw (soW (.an a r) (.inl ⟨a, r, rfl⟩) h nd)
  | .orr a r, N, sc, x, h, nd => pt_pw (soW (.orr a r) (.inr (.inl ⟨a, r, rfl⟩)) h nd)
  | .one a, N, sc, x, h, nd => pt_pw (soW (.one a) (.inr (.inr ⟨a, rfl⟩)) h nd)
theorem soW {W : Wd} {k : Nat} : ∀ (e : Te) {N : List Str} {sc : Scope} {x : Expr}, ((∃ a r, e = .an a r) ∨ (∃ a r, e = .orr a r) ∨ (∃ a, e = .one a)) → chkT N sc e x = true → AllN W k (ndT e) → PWX W k N sc x (evT e)
  | .an a r, N, sc, x, s, h, nd => by
    unfold chkT at h
    split at h
    · have h := bt h
      have nd := AllN.app nd
      exact (pw_anX (soT a h.1 nd.1) (soW r (chk_bool h.2) h.2 nd.2)).cast fun ρ => by simp only [evT]
    · cases h
  | .orr a r, N, sc, x, s, h, nd => by
    unfold chkT at h
    split at h
    · have h := bt h
      have nd := AllN.app nd
      exact (pw_orX (soT a h.1 nd.1) (soW r (chk_bool h.2) h.2 nd.2)).cast fun ρ => by simp only [evT]
    · cases h
  | .one a, N, sc, x, s, h, nd => by
    unfold chkT at h
    split at h
    · exact (pw_oneX (soT a h nd)).cast fun ρ => by simp only [evT]
    · cases h
  | .yes, _, _, _, s, _, _ => by simp at s
  | .tru _, _, _, _, s, _, _ => by simp at s
  | .cmp _ _ _, _, _, _, s, _, _ => by simp at s
  | .chn _ _ _ _ _, _, _, _, s, _, _ => by simp at s
  | .isN _ _, _, _, _, s, _, _ => by simp at s
  | .isB _ _ _, _, _, _, s, _, _ => by simp at s
  | .nt _, _, _, _, s, _, _ => by simp at s
end
end FS

set_option Elab.async false
set_option linter.all false
set_option maxRecDepth 100000
set_option maxHeartbeats 8000000
namespace FS
open PySem PySem.Spec PyProof.Rows L2

theorem set_self {α : Type} : ∀ {l : List α} {i : Nat} {x : α}, l[i]? = some x → l.set i x = l
  | [], _, _, _ => rfl
  | y :: l, 0, x, h => by simp at h; rw [List.set_cons_zero, h]
  | y :: l, i + 1, x, h => by rw [List.set_cons_succ, set_self (by simpa using h)]
/-! ### statements: the base -/
structure CxF (W : Wd) (k : Nat) (N : List Str) (sc : Scope) (E : XK) (X : Cx) : Prop where
  c : CxOk W k N sc E X
  po : PassesOwn (model X.prog X.w) X.A X.env X.xe
  fnA : ∀ y, X.fn y = true
  tk : L2.Takes X (fun cls d _ H => E cls d H)
  lam : W.T ≠ [] → hasCell X.env.scope = true → LamAt W X.env.code X.env.qual
/-- behind the def's entry at F0, H0 -/
structure At (W : Wd) (F0 H0 Fb F H : Hp) (σ : L2.St) (ρ : Loc) (fp : List Addr) : Prop where
  e : Ext W F0 H0 F H
  env : EnvR W F H σ ρ fp
  fr : ∀ a ∈ fp, H0 a = none
  lo : Same Fb F
theorem At.ext {W : Wd} {F0 H0 Fb F H F' H' : Hp} {σ : L2.St} {ρ : Loc} {fp : List Addr} (a : At W F0 H0 Fb F H σ ρ fp) (e : Ext W F H F' H') : At W F0 H0 Fb F' H' σ ρ fp := ⟨a.e.trans e, a.env.ext e, a.fr, fun b o q => e.f b o (a.lo b o q)⟩
inductive Fl where
  | nx (ρ : Loc)
  | rt (x : PV)
  | bk (ρ : Loc)
  | ct (ρ : Loc)
def PostS (W : Wd) (E : XK) (F0 H0 Fb : Hp) (D : L2.Ends) : Out Fl → Prop
  | .ok (.nx ρ) => ∀ F H σ fp, At W F0 H0 Fb F H σ ρ fp → D.nx σ H
  | .ok (.bk ρ) => ∀ F H σ fp, At W F0 H0 Fb F H σ ρ fp → D.bk σ H
  | .ok (.ct ρ) => ∀ F H σ fp, At W F0 H0 Fb F H σ ρ fp → D.ct σ H
  | .ok (.rt x) => ∀ F H v fp, Ext W F0 H0 F H → Ro W F H v x fp → (∀ a ∈ fp, H0 a = none) → D.rt v H
  | .exn c ns xs => ExP W E F0 H0 c ns xs
  | .bad => False
def tSx (W : Wd) (E : XK) (m : Loc → Tr Fl) : TS := fun D σ H => ∃ F0 H0 Fb F ρ fp, At W F0 H0 Fb F H σ ρ fp ∧ (m ρ).W (PostS W E F0 H0 Fb D)
def PSX (W : Wd) (k : Nat) (N : List Str) (sc : Scope) (st : Stmt) (m : Loc → Tr Fl) : Prop := ∀ (X : Cx) (E : XK), CxF W k N sc E X → PS X st (tSx W E m)
def PBX (W : Wd) (k : Nat) (N : List Str) (sc : Scope) (st : List Stmt) (m : Loc → Tr Fl) : Prop := ∀ (X : Cx) (E : XK), CxF W k N sc E X → PSs X st (tSx W E m)
theorem PS.imp {X : Cx} {e : Stmt} {t t' : TS} (h : PS X e t) (i : ∀ D σ H, t' D σ H → t D σ H) : PS X e t' := ⟨fun pins s σ H D I q => h.run pins s σ H D I (i _ _ _ q)⟩
theorem PSs.imp {X : Cx} {e : List Stmt} {t t' : TS} (h : PSs X e t) (i : ∀ D σ H, t' D σ H → t D σ H) : PSs X e t' := ⟨fun pins s σ H D I q => h.run pins s σ H D I (i _ _ _ q)⟩
theorem PSX.cast {W : Wd} {k : Nat} {N : List Str} {sc : Scope} {x : Stmt} {m m' : Loc → Tr Fl} (h : PSX W k N sc x m) (e : ∀ ρ, m' ρ = m ρ) : PSX W k N sc x m' := by
  have : m' = m := funext e
  rw [this]; exact h
theorem PBX.cast {W : Wd} {k : Nat} {N : List Str} {sc : Scope} {x : List Stmt} {m m' : Loc → Tr Fl} (h : PBX W k N sc x m) (e : ∀ ρ, m' ρ = m ρ) : PBX W k N sc x m' := by
  have : m' = m := funext e
  rw [this]; exact h
section
variable {W : Wd} {k : Nat} {N : List Str} {sc : Scope} {E : XK}
/-- an operand as it is, ahead of anything -/
theorem stepN {α : Type} {P : Out α → Prop} {F0 H0 F1 H1 : Hp} {σ : L2.St} {ρ : Loc} {fp : List Addr} {m : Loc → Tr Rv} {K : Rv → Tr α} (hx : ∀ c ns xs, P (.exn c ns xs) → ExP W E F0 H0 c ns xs) (hb : ¬ P .bad)
    (e : Ext W F0 H0 F1 H1) (env : EnvR W F1 H1 σ ρ fp) (h : ((m ρ).bind K).W P) : tE W E m σ H1 fun x H2 => ∃ r F2, Ext W F1 H1 F2 H2 ∧ RR W fp F2 H2 H1 r x ∧ (K r).W P := by
  refine ⟨F1, ρ, fp, e.g, env, Tr.W_imp (fun o ho => ?_) (Tr.W_bind.mp h)⟩
  cases o with
  | ok r => exact fun F' H' v e' q => ⟨r, F', e', q, ho⟩
  | exn c ns xs => exact ExP.ext e (hx _ _ _ ho)
  | bad => exact hb ho
theorem At.stepN {α : Type} {P : Out α → Prop} {F0 H0 Fb F1 H1 : Hp} {σ : L2.St} {ρ : Loc} {fp : List Addr} {m : Loc → Tr Rv} {K : Rv → Tr α} (a : At W F0 H0 Fb F1 H1 σ ρ fp) (hx : ∀ c ns xs, P (.exn c ns xs) → ExP W E F0 H0 c ns xs) (hb : ¬ P .bad)
    (h : ((m ρ).bind K).W P) : tE W E m σ H1 fun x H2 => ∃ r F2, At W F0 H0 Fb F2 H2 σ ρ fp ∧ Ext W F1 H1 F2 H2 ∧ RR W fp F2 H2 H1 r x ∧ (K r).W P :=
  (FS.stepN hx hb a.e a.env h).imp fun x H2 ⟨r, F2, e, q, z⟩ => ⟨r, F2, a.ext e, e, q, z⟩
theorem At.stepG {α : Type} {P : Out α → Prop} {F0 H0 Fb F1 H1 : Hp} {σ : L2.St} {ρ : Loc} {fp : List Addr} {m : Loc → Tr Rv} {K : Rv → Tr α} (a : At W F0 H0 Fb F1 H1 σ ρ fp) (hx : ∀ c ns xs, P (.exn c ns xs) → ExP W E F0 H0 c ns xs) (hb : ¬ P .bad)
    (h : ((m ρ).bind K).W P) : tE W E m σ H1 fun x H2 => ∃ r F2, At W F0 H0 Fb F2 H2 σ ρ fp ∧ Ext W F1 H1 F2 H2 ∧ RF W fp F2 H2 r x ∧ (K r).W P :=
  (FS.stepG hx hb a.e a.env h).imp fun x H2 ⟨r, F2, e, q, z⟩ => ⟨r, F2, a.ext e, e, q, z⟩
/-- what may be stored: its own, apart from the slots' -/
theorem RR.mov {fe : List Addr} {F H H1 : Hp} {r : Rv} {v : V} {y : PV} (fo : ∀ a ∈ fe, ∃ o, H1 a = some o) (q : RR W fe F H H1 r v) (h : FS.mov r = some y) : ∃ f, Ro W F H v y f ∧ (∀ a ∈ f, H1 a = none) ∧ ∀ a ∈ f, a ∉ fe := by
  obtain ⟨f, ro, n, m⟩ := q
  obtain ⟨b, x⟩ := r
  cases b with
  | false =>
    have e : x = y := by simpa [FS.mov] using h
    subst e
    refine ⟨f, ro, n rfl, fun a ha hb => ?_⟩
    obtain ⟨o, ho⟩ := fo a hb
    rw [n rfl a ha] at ho
    cases ho
  | true =>
    have st : x.st = true := by
      by_cases z : x.st = true
      · exact z
      · simp [FS.mov, z] at h
    have e : x = y := by simpa [FS.mov, st] using h
    subst e
    exact ⟨[], .st (ro.stable st), fun _ z => by simp at z, fun _ z => by simp at z⟩
/-- a slot is stored -/
theorem At.put {F0 H0 Fb F H : Hp} {σ : L2.St} {ρ : Loc} {fp : List Addr} {v : V} {y : PV} {f : List Addr} (a : At W F0 H0 Fb F H σ ρ fp) (r : Ro W F H v y f) (n : ∀ a ∈ f, H0 a = none) (d : ∀ a ∈ f, a ∉ fp) (i : Nat) :
    ∃ fq, At W F0 H0 Fb F H (σ.set i (some v)) (ρ.set i (some y)) fq := by
  obtain ⟨fq, e2, s2⟩ := EnvR.put r i a.env d
  exact ⟨fq, a.e, e2, fun b hb => by
    rcases s2 b hb with z | z
    · exact n b z
    · exact a.fr b z, a.lo⟩

/-! ### sequences, tests, ends -/
def sqF (m : Loc → Tr Fl) (k : Loc → Tr Fl) : Loc → Tr Fl := fun ρ => (m ρ).bind fun f => match f with
  | .nx ρ' => k ρ'
  | f => .ok f
theorem pb_nil : PBX W k N sc [] (fun ρ => .ok (.nx ρ)) := fun X E c => PSs.imp pss_nil fun D σ H ⟨F0, H0, Fb, F, ρ, fp, a, h⟩ => h F H σ fp a
theorem sq_imp {m r : Loc → Tr Fl} {D : L2.Ends} {σ : L2.St} {H : Hp} (h : tSx W E (sqF m r) D σ H) : tSx W E m { D with nx := tSx W E r D } σ H := by
  obtain ⟨F0, H0, Fb, F, ρ, fp, a, h⟩ := h
  refine ⟨F0, H0, Fb, F, ρ, fp, a, Tr.W_imp (fun o ho => ?_) (Tr.W_bind.mp h)⟩
  cases o with
  | exn c ns xs => exact ho
  | bad => exact ho
  | ok f =>
    cases f with
    | nx ρ' => exact fun F1 H1 σ1 fp1 a1 => ⟨F0, H0, Fb, F1, ρ', fp1, a1, ho⟩
    | rt x => exact ho
    | bk ρ' => exact ho
    | ct ρ' => exact ho
theorem pb_cons {s : Stmt} {ss : List Stmt} {m r : Loc → Tr Fl} (h1 : PSX W k N sc s m) (h2 : PBX W k N sc ss r) : PBX W k N sc (s :: ss) (sqF m r) := fun X E c =>
  PSs.imp (pss_cons (h1 X E c) (h2 X E c)) fun D σ H h => sq_imp h
theorem pb_ghost {ss : List Stmt} {m r : Loc → Tr Fl} (hm : ∀ E D σ H, tSx W E m D σ H → D.nx σ H) (h2 : PBX W k N sc ss r) : PBX W k N sc ss (sqF m r) := fun X E c =>
  PSs.imp (h2 X E c) fun D σ H h => hm _ _ _ _ (sq_imp h)
def frzL (i : Nat) (ρ : Loc) : Tr Fl := match ρ[i]? with
  | some (some x) => .ok (.nx (ρ.set i (some x.fz)))
  | _ => .bad
theorem gh_frz (i : Nat) : ∀ (E : XK) (D : L2.Ends) (σ : L2.St) (H : Hp), tSx W E (frzL i) D σ H → D.nx σ H := by
  rintro E D σ H ⟨F0, H0, Fb, F, ρ, fp, a, h⟩
  unfold frzL at h
  cases hr : ρ[i]? with
  | none => rw [hr] at h; exact (show False from h).elim
  | some o =>
    cases o with
    | none => rw [hr] at h; exact (show False from h).elim
    | some x =>
      rw [hr] at h
      obtain ⟨v, f, g, h1, h2, h3, h4, h5⟩ := a.env.split hr
      have hf : ∀ b ∈ f, F b = none ∧ b ≠ W.pen := fun b hb => ⟨(h2.own b hb).2.1, (h2.own b hb).2.2⟩
      have e2 := a.e.freeze hf (fun b hb => a.fr b ((h5 b).mpr (.inl hb))) (fun b hb => own_nt (h2.own b hb))
      have en : EnvR W (adj F H f) H (σ.set i none) (ρ.set i none) g := (h3 none).carry (adj_same fun b hb => (hf b hb).1) fun b hb => ⟨rfl, by
        rw [adj_out]
        · exact ((h3 none).own b hb).2.1
        · exact fun z => h4 b z hb⟩
      obtain ⟨fq, e3, s3⟩ := EnvR.put (Ro.st h2.frozen) i en (fun _ z => by simp at z)
      have es : (σ.set i none).set i (some v) = σ := by
        rw [List.set_set]
        exact set_self h1
      rw [es, List.set_set] at e3
      exact h (adj F H f) H σ fq ⟨e2, e3, fun b hb => by
        rcases s3 b hb with z | z
        · simp at z
        · exact a.fr b ((h5 b).mpr (.inr z)), fun b o q => adj_same (fun b hb => (hf b hb).1) b o (a.lo b o q)⟩
end
end FS

set_option Elab.async false
set_option linter.all false
set_option maxRecDepth 100000
set_option maxHeartbeats 8000000
namespace FS
open PySem PySem.Spec PyProof.Rows L2

def noLc : Expr → Bool
  | .ListComp .. => false
  | .SetComp .. => false
  | .DictComp .. => false
  | _ => true
def noTup : Expr → Bool
  | .Tuple .. => false
  | _ => true
theorem sw_no {e : Expr} (h : noLc e = true) (t : Option Expr) (l : Nat) (env : Env) : swapsWith e t l env = pure false := by cases e <;> first | rfl | cases h
theorem swst_no {e : Expr} (h : noTup e = true) (ts : List Expr) (env : Env) : swappedStores ts e env = pure none := by
  unfold swappedStores
  cases e <;> first | cases h | skip
  all_goals (cases ts with
    | nil => rfl
    | cons t r => cases r with
      | nil => cases t <;> rfl
      | cons _ _ => cases t <;> rfl)
section
variable {W : Wd} {k : Nat} {N : List Str} {sc : Scope} {E : XK}
theorem pExn {F0 H0 Fb : Hp} {D : L2.Ends} : ∀ (c : Str) (ns : List Str) (xs : List PV), PostS W E F0 H0 Fb D (.exn c ns xs) → ExP W E F0 H0 c ns xs := fun _ _ _ z => z
theorem pBad {F0 H0 Fb : Hp} {D : L2.Ends} : ¬ PostS W E F0 H0 Fb D .bad := fun z => z
theorem At.fo {F0 H0 Fb F H : Hp} {σ : L2.St} {ρ : Loc} {fp : List Addr} (a : At W F0 H0 Fb F H σ ρ fp) : ∀ b ∈ fp, ∃ o, H b = some o := fun b hb => own_ex (a.env.own b hb).1
theorem ps_exX {e : Expr} {m : Loc → Tr Rv} {p : Pos} (h : noLc e = true) (he : PX W k N sc e m) : PSX W k N sc (.Expr e p) (fun ρ => (m ρ).bind fun _ => .ok (.nx ρ)) := fun X E c =>
  PS.imp (ps_expr (he X E c.c) (sw_no h _ _ _)) fun D σ H ⟨F0, H0, Fb, F, ρ, fp, a, h⟩ =>
    (a.stepN pExn pBad h).imp fun x H1 ⟨r, F1, a1, e1, q, z⟩ => z F1 H1 σ fp a1
theorem ps_docX {x : Str} {j} {p p' : Pos} : PSX W k N sc (.Expr (.Constant (.str x) j p) p') (fun ρ => .ok (.nx ρ)) := fun X E c =>
  PS.imp ps_doc fun D σ H ⟨F0, H0, Fb, F, ρ, fp, a, h⟩ => h F H σ fp a
theorem ps_passX {p : Pos} : PSX W k N sc (.Pass p) (fun ρ => .ok (.nx ρ)) := fun X E c =>
  PS.imp ps_pass fun D σ H ⟨F0, H0, Fb, F, ρ, fp, a, h⟩ => h F H σ fp a
theorem ps_brkX {p : Pos} : PSX W k N sc (.Break p) (fun ρ => .ok (.bk ρ)) := fun X E c =>
  PS.imp ps_break fun D σ H ⟨F0, H0, Fb, F, ρ, fp, a, h⟩ => h F H σ fp a
theorem ps_cntX {p : Pos} : PSX W k N sc (.Continue p) (fun ρ => .ok (.ct ρ)) := fun X E c =>
  PS.imp ps_continue fun D σ H ⟨F0, H0, Fb, F, ρ, fp, a, h⟩ => h F H σ fp a
theorem ps_retNX {p : Pos} : PSX W k N sc (.Return none p) (fun ρ => .ok (.rt .non)) := fun X E c =>
  PS.imp ps_retN fun D σ H ⟨F0, H0, Fb, F, ρ, fp, a, h⟩ => h F H .non [] a.e (.st .non) (fun _ z => by simp at z)
theorem ps_nevX {s : Stmt} : PSX W k N sc s (fun ρ => .bad) := fun X E c => PS.imp ps_never fun D σ H ⟨F0, H0, Fb, F, ρ, fp, a, h⟩ => h
theorem ps_retX {e : Expr} {m : Loc → Tr Rv} {p : Pos} (he : PX W k N sc e m) : PSX W k N sc (.Return (some e) p) (fun ρ => (m ρ).bind fun r => .ok (.rt r.2)) := fun X E c =>
  PS.imp (ps_ret (he X E c.c)) fun D σ H ⟨F0, H0, Fb, F, ρ, fp, a, h⟩ =>
    (a.stepN pExn pBad h).imp fun x H1 ⟨r, F1, a1, e1, q, z⟩ => by
      obtain ⟨f, ro, n, m⟩ := q
      refine z F1 H1 x f a1.e ro fun b hb => ?_
      cases hr : r.1 with
      | false => exact a.e.free (n hr b hb)
      | true => exact a.fr b (m hr b hb)
/-! ### storing -/
def setF (i : Nat) (m : Loc → Tr Rv) : Loc → Tr Fl := fun ρ => (m ρ).bind fun r => match mov r with
  | some y => .ok (.nx (ρ.set i (some y)))
  | none => .bad
theorem set_imp {i : Nat} {m : Loc → Tr Rv} {D : L2.Ends} {σ : L2.St} {H : Hp} (h : tSx W E (setF i m) D σ H) : tAsg (tE W E m) (gName i) D σ H := by
  obtain ⟨F0, H0, Fb, F, ρ, fp, a, h⟩ := h
  refine (a.stepN pExn pBad h).imp fun x H1 ⟨r, F1, a1, e1, q, z⟩ => ?_
  cases hm : mov r with
  | none => rw [hm] at z; exact (show False from z).elim
  | some y =>
    rw [hm] at z
    obtain ⟨f, ro, n, d⟩ := q.mov a.fo hm
    obtain ⟨fq, a2⟩ := a1.put ro (fun b hb => a.e.free (n b hb)) d i
    exact z F1 H1 _ fq a2
theorem CxF.at_ {X : Cx} (c : CxF W k N sc E X) {i : Nat} {x : Str} (h : N[i]? = some x) : X.N[i]? = some x := c.c.at_ h
theorem CxF.loc {X : Cx} (c : CxF W k N sc E X) {x : Str} (h : locB sc x = true) : X.env.scope.names.lookup x = some .local := by
  rw [c.c.sc]
  exact locB_ok h
theorem ps_setX {e : Expr} {m : Loc → Tr Rv} {i : Nat} {y : Str} {p p2 : Pos} (hi : N[i]? = some y) (hl : locB sc y = true) (h : noLc e = true) (he : PX W k N sc e m) : PSX W k N sc (.Assign [.Name y p2] e p) (setF i m) := fun X E c =>
  PS.imp (ps_set c.c.ndX (c.at_ hi) (.inl (c.loc hl)) (he X E c.c) (sw_no h _ _ _) (.inr (c.loc hl))) fun D σ H h => set_imp h
/-- of cells, too -/
theorem ps_setCX {e : Expr} {m : Loc → Tr Rv} {i : Nat} {y : Str} {p p2 : Pos} (hi : N[i]? = some y) (hl : storeB (fun _ => true) sc y = true) (h : noLc e = true) (he : PX W k N sc e m) : PSX W k N sc (.Assign [.Name y p2] e p) (setF i m) := fun X E c => by
  obtain ⟨l1, l2⟩ := storeB_ok (X := X) hl (fun y _ => c.fnA y) c.c.sc
  exact PS.imp (ps_set c.c.ndX (c.at_ hi) l1 (he X E c.c) (sw_no h _ _ _) l2) fun D σ H h => set_imp h
/-- a comprehension stored in a local name -/
def swapB (y : Str) (py pos : Pos) (scope : Scope) : Bool := (py.line == pos.line) && !(scope.names.any fun (n, k) => n == y && (k == .local || k == .cell))
theorem ps_setLcX {sce : Scope} {e t i : Expr} {ifs : List Expr} {scope : Scope} {pos p p2 : Pos} {tg : Tg} {own : List (Str × Nat)} {mi : Loc → Tr (Bool × List PV)} {mc : Loc → Tr Bool} {me : Loc → Tr Rv} {j : Nat} {y : Str}
    (hj : N[j]? = some y) (hl : locB sc y = true) (hsw : swapB y p2 pos scope = true) (hk : sc.kind = .function)
    (hb : blkC N sc scope own = true) (pl : plainB i = true) (ht : tgB (fun y => scope.names.lookup y == some .cell) N (relS scope sc) tg t = true) (hs : ∀ j ∈ tgIs tg, j ∈ own.map (·.2))
    (hi : PIX W k N sc t i mi) (hc : PCX W k N (relS scope sc) ifs mc) (he : PX W k N (relS scope sc) e me) :
    PSX W k N sc (.Assign [.Name y p2] (.ListComp e [⟨t, i, ifs, 0⟩] scope pos) p) (setF j (fun ρ => (mi ρ).bind fun p => if p.2.length < sizeLine then (compL tg (wipeL ρ (own.map (·.2))) (compF mc me) p.2 []).bind fun ys => vB (.lst true ys) else .bad)) := by
  intro X E c
  have c0 := c.c
  have ok : BlkOk X.N X.env.scope scope own := by
    rw [c0.N, c0.sc]
    exact blkOk_by hb
  unfold swapB at hsw
  simp only [Bool.and_eq_true, Bool.not_eq_true'] at hsw
  refine PS.imp (ps_setLc (g := gT X.K tg) c0.calm c0.ndX (c.at_ hj) (c.loc hl) (sw_true (by rw [c0.sc]; exact hk) (c.loc hl) hsw.1 hsw.2) (hi X E c0) ok (fun s H C cl fp => pg_tg (c0.blk s H scope C cl fp).calm c0.ndX (c0.blk s H scope C cl fp).N (fun y hy => hy) (c0.blk s H scope C cl fp).sc ht)
    (fun s H C cl fp => hc _ _ (c0.blk s H scope C cl fp)) (fun s H C cl fp => he _ _ (c0.blk s H scope C cl fp)) (plain_fold pl)) fun D σ H h => ?_
  have h := set_imp h
  obtain ⟨F, ρ, fp, g, env, h⟩ := h
  refine ⟨F, ρ, fp, g, env, Tr.W_imp (fun o ho => ?_) (Tr.W_bind.mp h)⟩
  cases o with
  | exn cc ns xs => exact ho
  | bad => exact ho
  | ok p =>
    obtain ⟨b, xs⟩ := p
    intro F1 H1 J e1 src D hD
    have ho : (if xs.length < sizeLine then (compL tg (wipeL ρ (own.map (·.2))) (compF mc me) xs []).bind fun ys => vB (.lst true ys) else .bad : Tr Rv).W (PostE W E fp F H _) := ho
    by_cases hz : xs.length < sizeLine
    · rw [if_pos hz] at ho
      have := comp_reads (E' := fun _ _ _ => False) e1 (env.ext e1) (fun a ha => own_ex (env.own a ha).1) src hz hD hs ho
      rw [← c0.K] at this
      exact this
    · rw [if_neg hz] at ho
      exact (show False from ho).elim
/-- .. in a cell -/
def cellB (sc : Scope) (x : Str) : Bool := match sc.names.lookup x with
  | some .cell => true
  | _ => false
theorem ps_setLcC {e : Expr} {m : Loc → Tr Rv} {i : Nat} {y : Str} {p p2 : Pos} (hi : N[i]? = some y) (hl : cellB sc y = true) (he : PX W k N sc e m) : PSX W k N sc (.Assign [.Name y p2] e p) (setF i m) := fun X E c => by
  have hk : sc.names.lookup y = some .cell := by
    unfold cellB at hl
    split at hl
    · assumption
    · cases hl
  have hk2 : X.env.kindOf y = some .cell := by
    show X.env.scope.names.lookup y = _
    rw [c.c.sc]; exact hk
  have hs : swapsWith e (some (.Name y p2)) p.line X.env = pure false := by
    unfold swapsWith
    have e3 : (NameKind.cell == NameKind.local) = false := by decide
    cases e <;> first | rfl | (simp only [hk2]; simp [e3])
  exact PS.imp (ps_set c.c.ndX (c.at_ hi) (.inr (by rw [c.c.sc]; exact hk)) (he X E c.c) hs (.inl (c.fnA y))) fun D σ H h => set_imp h
/-- taken apart -/
def unpF (t : Tg) (m : Loc → Tr Rv) : Loc → Tr Fl := fun ρ => (m ρ).bind fun r => match take r with
  | some y => (match bindTg t y ρ with
    | some ρ' => .ok (.nx ρ')
    | none => .bad)
  | none => .bad
theorem ps_unpX {e tgt : Expr} {m : Loc → Tr Rv} {t : Tg} {p : Pos} (ht : tgB (fun _ => true) N sc t tgt = true) (hq : isTupE tgt = true) (h1 : noLc e = true) (h2 : noTup e = true) (he : PX W k N sc e m) : PSX W k N sc (.Assign [tgt] e p) (unpF t m) := fun X E c => by
  refine PS.imp (ps_asg (g := gT X.K t) (he X E c.c) (pg_tg c.c.calm c.c.ndX c.c.N (fun y _ => c.fnA y) c.c.sc ht) (sw_no h1 _ _ _) (swst_no h2 _ _) ?_) fun D σ H ⟨F0, H0, Fb, F, ρ, fp, a, h⟩ => ?_
  · cases tgt <;> first | rfl | cases hq
  · refine (a.stepG pExn pBad h).imp fun x H1 ⟨r, F1, a1, e1, q, z⟩ => ?_
    cases hm : FS.take r with
    | none => rw [hm] at z; exact (show False from z).elim
    | some y =>
      rw [hm] at z
      dsimp only at z
      cases hb : bindTg t y ρ with
      | none => rw [hb] at z; exact (show False from z).elim
      | some ρ' =>
        rw [hb] at z
        rw [c.c.K]
        exact gT_ok a1.e.g (q.take hm) a1.env hb fun σ' fq e2 s2 _ _ => z F1 H1 σ' fq ⟨a1.e, e2, fun b hb => a1.fr b (s2 b hb), a1.lo⟩
/-! ### branches and loops -/
def iteF (c : Loc → Tr Bool) (m1 m2 : Loc → Tr Fl) : Loc → Tr Fl := fun ρ => (c ρ).bind fun b => if b then m1 ρ else m2 ρ
theorem At.stepT {F0 H0 Fb F1 H1 : Hp} {σ : L2.St} {ρ : Loc} {fp : List Addr} {D : L2.Ends} {m : Loc → Tr Bool} {K : Bool → Tr Fl} {R : Bool → Hp → Prop} (a : At W F0 H0 Fb F1 H1 σ ρ fp) (h : ((m ρ).bind K).W (PostS W E F0 H0 Fb D))
    (k : ∀ b F2 H2, At W F0 H0 Fb F2 H2 σ ρ fp → (K b).W (PostS W E F0 H0 Fb D) → R b H2) : tT W E m σ H1 R :=
  FS.stepT (P := fun F0 H0 => PostS W E F0 H0 Fb D) a.e a.env (fun _ _ _ z => z) (fun z => z) h fun b F2 H2 e z => k b F2 H2 (a.ext e) z
theorem ps_iteX {c : Expr} {s1 s2 : List Stmt} {mc : Loc → Tr Bool} {m1 m2 : Loc → Tr Fl} {p : Pos} (hc : PTX W k N sc c mc) (h1 : PBX W k N sc s1 m1) (h2 : PBX W k N sc s2 m2) : PSX W k N sc (.If c s1 s2 p) (iteF mc m1 m2) := fun X E x =>
  PS.imp (ps_if (hc X E x.c) (h1 X E x) (h2 X E x)) fun D σ H ⟨F0, H0, Fb, F, ρ, fp, a, h⟩ =>
    a.stepT h fun b F2 H2 a2 z => by
      cases b with
      | true => exact ⟨F0, H0, Fb, F2, ρ, fp, a2, z⟩
      | false => exact ⟨F0, H0, Fb, F2, ρ, fp, a2, z⟩
def loopK (again : Loc → Tr Fl) : Fl → Tr Fl
  | .nx ρ => again ρ
  | .ct ρ => again ρ
  | .bk ρ => .ok (.nx ρ)
  | .rt x => .ok (.rt x)
def whlF (c : Loc → Tr Bool) (b : Loc → Tr Fl) : Nat → Loc → Tr Fl
  | 0, _ => .bad
  | n + 1, ρ => (c ρ).bind fun k => if k then (b ρ).bind (loopK (whlF c b n)) else .ok (.nx ρ)
theorem ps_whlX {c : Expr} {ss : List Stmt} {mc : Loc → Tr Bool} {m : Loc → Tr Fl} {p : Pos} (n : Nat) (hc : PTX W k N sc c mc) (hb : PBX W k N sc ss m) : PSX W k N sc (.While c ss [] p) (whlF mc m n) := fun X E x =>
  PS.imp (ps_while x.po (hc X E x.c) (hb X E x)) fun D σ H ⟨F0, H0, Fb, F, ρ, fp, a, h⟩ => by
    refine ⟨fun n σ H => ∃ F ρ fp, At W F0 H0 Fb F H σ ρ fp ∧ (whlF mc m n ρ).W (PostS W E F0 H0 Fb D), ⟨n, F, ρ, fp, a, h⟩, ?_⟩
    rintro j σ1 H1 ⟨F1, ρ1, fp1, a1, h1⟩
    cases j with
    | zero => exact (show False from h1).elim
    | succ j =>
      refine a1.stepT h1 fun b F2 H2 a2 z => ?_
      cases b with
      | false =>
        rw [if_neg (by simp)]
        exact z F2 H2 σ1 fp1 a2
      | true =>
        rw [if_pos rfl]
        refine ⟨fun σ' H' => ∃ F ρ fp, At W F0 H0 Fb F H' σ' ρ fp ∧ (whlF mc m j ρ).W (PostS W E F0 H0 Fb D), fun σ' H' q => ⟨j, Nat.lt_succ_self j, q⟩, ?_⟩
        refine ⟨F0, H0, Fb, F2, ρ1, fp1, a2, Tr.W_imp (fun o ho => ?_) (Tr.W_bind.mp z)⟩
        cases o with
        | exn cc ns xs => exact ho
        | bad => exact ho
        | ok f =>
          cases f with
          | nx ρ' => exact fun F H σ fp a => ⟨F, ρ', fp, a, ho⟩
          | ct ρ' => exact fun F H σ fp a => ⟨F, ρ', fp, a, ho⟩
          | bk ρ' => exact ho
          | rt x => exact ho
def forL (t : Tg) (b : Loc → Tr Fl) : List PV → Loc → Tr Fl
  | [], ρ => .ok (.nx ρ)
  | x :: xs, ρ => match bindTg t x ρ with
    | none => .bad
    | some ρ' => (b ρ').bind (loopK (forL t b xs))
def forF (t : Tg) (mi : Loc → Tr (Bool × List PV)) (b : Loc → Tr Fl) : Loc → Tr Fl := fun ρ => (mi ρ).bind fun p => if p.1 then forL t b p.2 ρ else .bad
theorem ps_forX {tgt it : Expr} {ss : List Stmt} {mi : Loc → Tr (Bool × List PV)} {m : Loc → Tr Fl} {t : Tg} {p : Pos} (pl : plainB it = true) (ht : tgB (fun _ => true) N sc t tgt = true) (hi : PIX W k N sc tgt it mi) (hb : PBX W k N sc ss m) :
    PSX W k N sc (.For tgt it ss [] p) (forF t mi m) := fun X E x =>
  PS.imp (ps_for (g := gT X.K t) x.po x.c.calm (hi X E x.c) (pg_tg x.c.calm x.c.ndX x.c.N (fun y _ => x.fnA y) x.c.sc ht) (hb X E x) (plain_fold pl)) fun D σ H ⟨F0, H0, Fb, F, ρ, fp, a, h⟩ => by
    refine ⟨F, ρ, fp, a.e.g, a.env, Tr.W_imp (fun o ho => ?_) (Tr.W_bind.mp h)⟩
    cases o with
    | exn cc ns xs => exact ExP.ext a.e ho
    | bad => exact ho
    | ok q =>
      obtain ⟨b, xs⟩ := q
      cases b with
      | false => exact (show False from ho).elim
      | true =>
        intro F1 H1 J e1 src
        have ho : (forL t m xs ρ).W (PostS W E F0 H0 Fb D) := ho
        obtain ⟨G, Y, walk, hG, hY⟩ := src
        have lo1 : Same Fb F1 := fun b o q => e1.f b o (a.lo b o q)
        have sn : ∀ {F H : Hp}, Good W F H → Same F1 F → Same (sup W true F1 H1) (np W H) := fun g s a u q => g.np a u (s a u q)
        refine for_it walk (fun i σ H => ∃ F ρ fp, At W F0 H0 F1 F H σ ρ fp ∧ (forL t m (xs.drop i) ρ).W (PostS W E F0 H0 Fb D)) ⟨F1, ρ, fp, ⟨a.e.trans e1, a.env.ext e1, a.fr, fun _ _ q => q⟩, ho⟩ ?_ ?_ ?_
        · rintro i σ' H' _ ⟨F', ρ', fp', a', z⟩
          exact hG H' (sn a'.e.g a'.lo)
        · rintro i v σ' H' H'' hi ⟨F', ρ', fp', a', z⟩ y
          have hx : xs[i]? = some xs[i] := by simp [hi]
          obtain ⟨F2, e2, rx⟩ := hY F' H' i v H'' _ a'.e.g a'.lo (sn a'.e.g a'.lo) hx y
          rw [List.drop_eq_getElem_cons hi] at z
          simp only [forL] at z
          cases hb : bindTg t xs[i] ρ' with
          | none => rw [hb] at z; exact z.elim
          | some ρ2 =>
            rw [hb] at z
            dsimp only at z
            rw [x.c.K]
            refine gT_ok e2.g rx (a'.env.ext e2) hb fun σ2 fr en2 sr _ _ => ?_
            have a2 : At W F0 H0 F1 F2 H'' σ2 ρ2 fr := ⟨a'.e.trans e2, en2, fun b hb => a'.fr b (sr b hb), fun b o q => e2.f b o (a'.lo b o q)⟩
            have up : ∀ {F H σ ρ fp}, At W F0 H0 F1 F H σ ρ fp → At W F0 H0 Fb F H σ ρ fp := fun q => ⟨q.e, q.env, q.fr, fun b o z => q.lo b o (lo1 b o z)⟩
            refine ⟨F0, H0, F1, F2, ρ2, fr, a2, Tr.W_imp (fun o ho => ?_) (Tr.W_bind.mp z)⟩
            cases o with
            | exn cc ns xs => exact ho
            | bad => exact ho
            | ok f =>
              cases f with
              | nx ρ' => exact fun F H σ fp a => ⟨F, ρ', fp, a, ho⟩
              | ct ρ' => exact fun F H σ fp a => ⟨F, ρ', fp, a, ho⟩
              | bk ρ' => exact fun F H σ fp a => ho F H σ fp (up a)
              | rt x => exact ho
        · rintro σ' H' ⟨F', ρ', fp', a', z⟩
          rw [List.drop_length] at z
          exact z F' H' σ' fp' ⟨a'.e, a'.env, a'.fr, fun b o q => a'.lo b o (lo1 b o q)⟩
end
end FS

set_option Elab.async false
set_option linter.all false
set_option maxRecDepth 100000
set_option maxHeartbeats 8000000
namespace FS
open PySem PySem.Spec PyProof.Rows L2

section
variable {W : Wd} {F H : Hp}
theorem Ros.append : ∀ {vs ws : List V} {xs ys : List PV} {f g : List Addr}, Ros W F H vs xs f → Ros W F H ws ys g → (∀ a ∈ f, a ∉ g) → Ros W F H (vs ++ ws) (xs ++ ys) (f ++ g)
  | _, _, _, _, _, _, .nil, s, _ => s
  | _, _, _, _, _, g, .cons (f := f) (g := g') a t d, s, k => by
    rw [List.append_assoc]
    exact .cons a (t.append s fun b hb => k b (by simp [hb])) fun b hb hc => by
      rcases List.mem_append.mp hc with hc | hc
      · exact d b hb hc
      · exact k b (by simp [hb]) hc
theorem Ros.set : ∀ {vs : List V} {xs : List PV} {f : List Addr} {v : V} {y : PV} {g : List Addr} (j : Nat), Ros W F H vs xs f → Ro W F H v y g → (∀ a ∈ g, a ∉ f) → ∃ f', Ros W F H (vs.set j v) (xs.set j y) f' ∧ ∀ a ∈ f', a ∈ f ∨ a ∈ g
  | _, _, _, _, _, _, _, .nil, _, _ => ⟨[], .nil, fun _ h => by simp at h⟩
  | _, _, _, _, _, g, 0, .cons (f := f) (g := f2) a t d, r, k => ⟨g ++ f2, .cons r t (fun b hb hc => k b hb (by simp [hc])), fun b hb => by
      rcases List.mem_append.mp hb with hb | hb
      · exact .inr hb
      · exact .inl (by simp [hb])⟩
  | _, _, _, _, _, g, j + 1, .cons (f := f) (g := f2) a t d, r, k => by
    obtain ⟨f', h1, h2⟩ := Ros.set j t r (fun b hb hc => k b hb (by simp [hc]))
    refine ⟨f ++ f', .cons a h1 fun b hb hc => ?_, fun b hb => ?_⟩
    · rcases h2 b hc with z | z
      · exact d b hb z
      · exact k b z (by simp [hb])
    · rcases List.mem_append.mp hb with hb | hb
      · exact .inl (by simp [hb])
      · rcases h2 b hb with z | z
        · exact .inl (by simp [z])
        · exact .inr z
theorem Ro.lstI {v : V} {xs : List PV} {f : List Addr} (r : Ro W F H v (.lst true xs) f) : ∃ a vs f0, v = .ref a ∧ f = a :: f0 ∧ H a = some (.lst vs) ∧ F a = none ∧ a ≠ W.pen ∧ Ros W F H vs xs f0 ∧ a ∉ f0 := by
  cases r with
  | st r => have := r.st; cases this
  | lst h1 h2 h3 h4 h5 => exact ⟨_, _, _, rfl, rfl, h1, h2, h3, h4, h5⟩
theorem Rps.eraseIdx : ∀ {vs : List V} {xs : List PV} (i : Nat), Rps W F vs xs → Rps W F (vs.eraseIdx i) (xs.eraseIdx i)
  | _, _, _, .nil => .nil
  | _, _, 0, .cons _ t => t
  | _, _, i + 1, .cons h t => .cons h (t.eraseIdx i)
theorem Rps.dropLast {vs : List V} {xs : List PV} (r : Rps W F vs xs) : Rps W F vs.dropLast xs.dropLast := by
  rw [List.dropLast_eq_take, List.dropLast_eq_take, r.length]
  exact r.take _
end
section
variable {W : Wd} {k : Nat} {N : List Str} {sc : Scope} {E : XK}
/-- an object of a slot's own is written -/
theorem At.wr {F0 H0 Fb F H : Hp} {σ : L2.St} {ρ : Loc} {fp : List Addr} {i : Nat} {x' : PV} {v : V} {f g f' : List Addr} {b : Addr} {o : HO} (a : At W F0 H0 Fb F H σ ρ fp)
    (h1 : σ[i]? = some (some v)) (h3 : ∀ o, EnvR W F H (σ.set i o) (ρ.set i none) g) (h4 : ∀ a ∈ f, a ∉ g) (h5 : ∀ a, a ∈ fp ↔ a ∈ f ∨ a ∈ g) (hb : b ∈ f) (hF : F b = none) (hp : b ≠ W.pen)
    (r : Ro W F (upd H b o) v x' f') (hn : ∀ c ∈ f', c ∈ f ∨ (H0 c = none ∧ c ∉ fp)) (n3 : ∀ ps, o ≠ .tbl ps := by intro _ z; cases z) : ∃ fq, At W F0 H0 Fb F (upd H b o) σ (ρ.set i (some x')) fq := by
  have hb0 : H0 b = none := a.fr b ((h5 b).mpr (.inl hb))
  obtain ⟨⟨u0, hu, n1, n2⟩, _⟩ := a.env.own b ((h5 b).mpr (.inl hb))
  have e2 := a.e.put (o := o) hb0 hF hp hu n1 n2 n3
  have en : EnvR W F (upd H b o) (σ.set i none) (ρ.set i none) g := (h3 none).carry (fun _ _ q => q) fun c hc => ⟨upd_ne fun z => h4 b hb (z ▸ hc), ((h3 none).own c hc).2.1⟩
  obtain ⟨fq, e3, s3⟩ := EnvR.put r i en (fun c hc hd => by
    rcases hn c hc with z | z
    · exact h4 c z hd
    · exact z.2 ((h5 c).mpr (.inr hd)))
  have es : (σ.set i none).set i (some v) = σ := by
    rw [List.set_set]
    exact set_self h1
  rw [es, List.set_set] at e3
  exact ⟨fq, e2, e3, fun c hc => by
    rcases s3 c hc with z | z
    · rcases hn c z with y | y
      · exact a.fr c ((h5 c).mpr (.inl y))
      · exact y.1
    · exact a.fr c ((h5 c).mpr (.inr z)), a.lo⟩
theorem CxF.vis {X : Cx} (c : CxF W k N sc E X) {x : Str} (h : visB sc x = true) : Vis X.env.scope x := c.c.vis h
theorem few_of {e : Expr} {env : Env} {pos : Pos} (h : plainB e = true) : ((backTo pos (starEach [e] env)).all (fun x => !x.1) && (backToKw pos (keywordEach [] env)).all (fun x => x.1.isSome)
      && decide ([e].length + ([] : List Keyword).length + (if ([] : List Keyword).isEmpty then 0 else 1) < 30)) = true := by
  rw [star_cons h]
  rfl
/-! ### append -/
def lstAt (i : Nat) (ρ : Loc) (k : List PV → Tr Fl) : Tr Fl := match ρ[i]? with
  | some (some (.lst true xs)) => k xs
  | _ => .bad
theorem lstAt_W {i : Nat} {ρ : Loc} {k : List PV → Tr Fl} {P : Out Fl → Prop} (hb : ¬ P .bad) (h : (lstAt i ρ k).W P) : ∃ xs, ρ[i]? = some (some (.lst true xs)) ∧ (k xs).W P := by
  unfold lstAt at h
  split at h
  · exact ⟨_, by assumption, h⟩
  · exact absurd h hb
def appF (i : Nat) (m : Loc → Tr Rv) : Loc → Tr Fl := fun ρ => lstAt i ρ fun xs => (m ρ).bind fun r => match mov r with
  | some y => if xs.length < 1000000 then .ok (.nx (ρ.set i (some (.lst true (xs ++ [y]))))) else .bad
  | none => .bad
theorem big_line : 1000000 < sizeLine := by rw [sizeLine_eq]; omega
theorem app_core {F0 H0 Fb F H : Hp} {σ : L2.St} {ρ : Loc} {fp : List Addr} {i : Nat} {xs : List PV} {v w : V} {y : PV} {fy : List Addr} (a : At W F0 H0 Fb F H σ ρ fp) (hr : ρ[i]? = some (some (.lst true xs))) (hv : σ[i]? = some (some v))
    (ry : Ro W F H w y fy) (ny : ∀ a ∈ fy, H0 a = none) (dy : ∀ a ∈ fy, a ∉ fp) : ∃ p vs, v = .ref p ∧ H p = some (.lst vs) ∧ vs.length = xs.length ∧ ∃ fq, At W F0 H0 Fb F (upd H p (.lst (vs ++ [w]))) σ (ρ.set i (some (.lst true (xs ++ [y])))) fq := by
  obtain ⟨v', f, g, h1, h2, h3, h4, h5⟩ := a.env.split hr
  rw [hv] at h1
  cases h1
  obtain ⟨p, vs, f0, rfl, rfl, hp, hF, hn, rs, hnp⟩ := h2.lstI
  have npy : p ∉ fy := fun z => dy p z ((h5 p).mpr (.inl (by simp)))
  have dj : ∀ c ∈ f0, c ∉ fy := fun c hc z => dy c z ((h5 c).mpr (.inl (by simp [hc])))
  refine ⟨p, vs, rfl, hp, rs.length, ?_⟩
  refine a.wr hv h3 h4 h5 (b := p) (by simp) hF hn (f' := p :: (f0 ++ fy)) (.lst upd_same hF hn ?_ (by simp [hnp, npy])) fun c hc => ?_
  · have c1 : Ros W F (upd H p (.lst (vs ++ [w]))) vs xs f0 := rs.carry (fun _ _ q => q) fun c hc => ⟨upd_ne fun z => hnp (z ▸ hc), (rs.own c hc).2.1⟩
    have c2 : Ro W F (upd H p (.lst (vs ++ [w]))) w y fy := ry.carry (fun _ _ q => q) fun c hc => ⟨upd_ne fun z => npy (z ▸ hc), (ry.own c hc).2.1⟩
    have := c1.append (.cons c2 .nil (fun _ _ z => by simp at z)) (g := fy ++ []) (by simpa using dj)
    simpa using this
  · simp only [List.mem_cons, List.mem_append] at hc
    rcases hc with rfl | hc | hc
    · exact .inl (by simp)
    · exact .inl (by simp [hc])
    · exact .inr ⟨ny c hc, dy c hc⟩
theorem ps_appX {e : Expr} {m : Loc → Tr Rv} {i : Nat} {x : Str} {p p1 p2 p3 : Pos} (hi : N[i]? = some x) (hv : visB sc x = true) (hm : nmB x = true) (pl : plainB e = true) (hl : (p2.endLine == p3.line) = true) (he : PX W k N sc e m) :
    PSX W k N sc (.Expr (.Call (.Attribute (.Name x p1) "append" p2) [e] [] p3) p) (appF i m) := fun X E c =>
  PS.imp (ps_expr (pe_bm PySem.F.plainAttrs_list PySem.F.slot_list_append PySem.F.type_list_append mt_append (pe_var (c.at_ hi) (c.vis hv) (nmB_ok hm).1 (nmB_ok hm).2.1) (pa_cons (he X E c.c) pa_nil (star_cons pl)) rfl (few_of pl) hl (star_cons pl) (by rfl)) (by rfl))
    fun D σ H ⟨F0, H0, Fb, F, ρ, fp, a, h⟩ => by
      obtain ⟨xs, hr, h⟩ := lstAt_W pBad h
      obtain ⟨v, f, g, h1, h2, h3, h4, h5⟩ := a.env.split hr
      obtain ⟨q, vs, f0, rfl, rfl, hp, hF, hn, rs, hnp⟩ := h2.lstI
      refine ⟨_, h1, .inl ⟨rfl, _, SqL.of hp⟩, ?_⟩
      refine (a.stepN pExn pBad h).imp fun w H1 ⟨r, F1, a1, e1, qr, z⟩ => ?_
      cases hm : mov r with
      | none => rw [hm] at z; exact (show False from z).elim
      | some y =>
        rw [hm] at z
        dsimp only at z
        by_cases hz : xs.length < 1000000
        · rw [if_pos hz] at z
          obtain ⟨fy, ry, ny, dy⟩ := qr.mov a.fo hm
          obtain ⟨q', vs', eq, hp', hl', fq, a2⟩ := app_core a1 hr h1 ry (fun b hb => a.e.free (ny b hb)) dy
          cases eq
          exact ⟨q, vs', w, rfl, rfl, hp', by rw [hl']; exact Nat.lt_trans hz big_line, z F1 _ σ fq a2⟩
        · rw [if_neg hz] at z
          exact (show False from z).elim
/-! ### extend -/
def extF (i : Nat) (m : Loc → Tr Rv) : Loc → Tr Fl := fun ρ => lstAt i ρ fun xs => (m ρ).bind fun r => match shal r with
  | some (.lst _ ys) => if xs.length + ys.length < 1000000 then .ok (.nx (ρ.set i (some (.lst true (xs ++ ys))))) else .bad
  | _ => .bad
theorem ps_extX {e : Expr} {m : Loc → Tr Rv} {i : Nat} {x : Str} {p p1 p2 p3 : Pos} (hi : N[i]? = some x) (hv : visB sc x = true) (hm : nmB x = true) (pl : plainB e = true) (hl : (p2.endLine == p3.line) = true) (he : PX W k N sc e m) :
    PSX W k N sc (.Expr (.Call (.Attribute (.Name x p1) "extend" p2) [e] [] p3) p) (extF i m) := fun X E c =>
  PS.imp (ps_expr (pe_bm PySem.F.plainAttrs_list PySem.F.slot_list_extend PySem.F.type_list_extend mt_extend (pe_var (c.at_ hi) (c.vis hv) (nmB_ok hm).1 (nmB_ok hm).2.1) (pa_cons (he X E c.c) pa_nil (star_cons pl)) rfl (few_of pl) hl (star_cons pl) (by rfl)) (by rfl))
    fun D σ H ⟨F0, H0, Fb, F, ρ, fp, a, h⟩ => by
      obtain ⟨xs, hr, h⟩ := lstAt_W pBad h
      obtain ⟨v, f, g, h1, h2, h3, h4, h5⟩ := a.env.split hr
      obtain ⟨q, vs, f0, rfl, rfl, hp, hF, hn, rs, hnp⟩ := h2.lstI
      refine ⟨_, h1, .inl ⟨rfl, _, SqL.of hp⟩, ?_⟩
      refine (a.stepG pExn pBad h).imp fun w H1 ⟨r, F1, a1, e1, qr, z⟩ => ?_
      cases hs : shal r with
      | none => rw [hs] at z; exact (show False from z).elim
      | some u =>
        rw [hs] at z
        cases u with
        | lst o ys =>
          dsimp only at z
          by_cases hz : xs.length + ys.length < 1000000
          · rw [if_pos hz] at z
            obtain ⟨b, ws, rfl, hb, nb, rw_⟩ := qr.sh a1.e.g hs
            obtain ⟨v', f', g', k1, k2, k3, k4, k5⟩ := a1.env.split hr
            rw [h1] at k1
            cases k1
            obtain ⟨q', vs', f1, eq, rfl, hp', hF', hn', rs', hnp'⟩ := k2.lstI
            cases eq
            have rs2 : Ros W F1 (upd H1 q (.lst (vs' ++ ws))) vs' xs f1 := rs'.carry (fun _ _ q => q) fun c hc => ⟨upd_ne fun z => hnp' (z ▸ hc), (rs'.own c hc).2.1⟩
            have rr : Ros W F1 (upd H1 q (.lst (vs' ++ ws))) (vs' ++ ws) (xs ++ ys) (f1 ++ []) := rs2.append rw_.ros (fun _ _ z => by simp at z)
            rw [List.append_nil] at rr
            obtain ⟨fq, a2⟩ := a1.wr h1 k3 k4 k5 (b := q) (by simp) hF' hn' (f' := q :: f1) (.lst upd_same hF' hn' rr hnp') fun c hc => .inl hc
            refine ⟨q, b, vs', ws, rfl, rfl, hp', hb, ?_, z F1 _ σ fq a2⟩
            rw [rs'.length, rw_.length]
            exact Nat.le_of_lt (Nat.lt_trans hz big_line)
          · rw [if_neg hz] at z
            exact (show False from z).elim
        | _ => exact (show False from z).elim
/-! ### pop -/
def spopF (i j : Nat) : Loc → Tr Fl := fun ρ => lstAt j ρ fun xs => match xs.getLast? with
  | some y => if xs.all PV.st then .ok (.nx ((ρ.set j (some (.lst true xs.dropLast))).set i (some y))) else .bad
  | none => .bad
theorem ps_spopX {i j : Nat} {x y : Str} {p p1 p2 p3 p4 : Pos} (hi : N[i]? = some y) (hl : storeB (fun _ => true) sc y = true) (hj : N[j]? = some x) (hv : visB sc x = true) (hm : nmB x = true) (hl2 : (p2.endLine == p3.line) = true) :
    PSX W k N sc (.Assign [.Name y p4] (.Call (.Attribute (.Name x p1) "pop" p2) [] [] p3) p) (spopF i j) := fun X E c =>
  PS.imp (ps_set c.c.ndX (c.at_ hi) (storeB_ok (X := X) hl (fun y _ => c.fnA y) c.c.sc).1 (pe_bm0 PySem.F.plainAttrs_list PySem.F.slot_list_pop PySem.F.type_list_pop mt_pop (pe_var (c.at_ hj) (c.vis hv) (nmB_ok hm).1 (nmB_ok hm).2.1) rfl hl2) (by rfl) (storeB_ok (X := X) hl (fun y _ => c.fnA y) c.c.sc).2)
    fun D σ H ⟨F0, H0, Fb, F, ρ, fp, a, h⟩ => by
      obtain ⟨xs, hr, h⟩ := lstAt_W pBad h
      obtain ⟨v, f, g, h1, h2, h3, h4, h5⟩ := a.env.split hr
      obtain ⟨q, vs, f0, rfl, rfl, hp, hF, hn, rs, hnp⟩ := h2.lstI
      refine ⟨_, h1, .inl ⟨rfl, _, SqL.of hp⟩, ?_⟩
      cases hg : xs.getLast? with
      | none => rw [hg] at h; exact (show False from h).elim
      | some y =>
        rw [hg] at h
        dsimp only at h
        by_cases hz : xs.all PV.st = true
        · rw [if_pos hz] at h
          have rp := rs.stable hz
          have hg' : xs[xs.length - 1]? = some y := by rw [← List.getLast?_eq_getElem?]; exact hg
          obtain ⟨w, hw, rw_⟩ := rp.get hg'
          have rr := (rp.dropLast.ros (H := upd H q (.lst vs.dropLast)))
          obtain ⟨fq, a2⟩ := a.wr h1 h3 h4 h5 (b := q) (by simp) hF hn (f' := [q]) (.lst upd_same hF hn rr (by simp)) fun c hc => .inl (by simp at hc; simp [hc])
          obtain ⟨fr, a3⟩ := a2.put (.st rw_) (fun _ z => by simp at z) (fun _ z => by simp at z) i
          exact ⟨q, vs, w, rfl, rfl, hp, by rw [rs.length]; exact hw, h F _ _ fr a3⟩
        · rw [if_neg hz] at h
          exact (show False from h).elim
/-- i.append(j.pop(e)) -/
def apopF (i j : Nat) (m : Loc → Tr Rv) : Loc → Tr Fl := fun ρ => lstAt i ρ fun xs => lstAt j ρ fun ys => if i ≠ j ∧ ys.all PV.st = true ∧ xs.length < 1000000 ∧ ys.length < 1000000 then (m ρ).bind fun r => match r.2 with
  | .int t => if 0 ≤ t ∧ t < ys.length then (match ys[t.toNat]? with
    | some y => .ok (.nx ((ρ.set j (some (.lst true (ys.eraseIdx t.toNat)))).set i (some (.lst true (xs ++ [y])))))
    | none => .bad) else .bad
  | _ => .bad else .bad
theorem ps_apopX {e : Expr} {m : Loc → Tr Rv} {i j : Nat} {x y : Str} {p p1 p2 p3 p4 p5 p6 : Pos} (hi : N[i]? = some y) (hv : visB sc y = true) (hm : nmB y = true) (hj : N[j]? = some x) (hv2 : visB sc x = true) (hm2 : nmB x = true) (pl : plainB e = true)
    (hl : (p2.endLine == p3.line) = true) (hl2 : (p5.endLine == p6.line) = true) (he : PX W k N sc e m) :
    PSX W k N sc (.Expr (.Call (.Attribute (.Name y p1) "append" p2) [.Call (.Attribute (.Name x p4) "pop" p5) [e] [] p6] [] p3) p) (apopF i j m) := fun X E c =>
  PS.imp (ps_expr (pe_bm PySem.F.plainAttrs_list PySem.F.slot_list_append PySem.F.type_list_append mt_append (pe_var (c.at_ hi) (c.vis hv) (nmB_ok hm).1 (nmB_ok hm).2.1)
      (pa_cons (pe_bm PySem.F.plainAttrs_list PySem.F.slot_list_pop PySem.F.type_list_pop mt_popAt (pe_var (c.at_ hj) (c.vis hv2) (nmB_ok hm2).1 (nmB_ok hm2).2.1) (pa_cons (he X E c.c) pa_nil (star_cons pl)) rfl (few_of pl) hl2 (star_cons pl) (by rfl)) pa_nil (star_cons rfl)) rfl (few_of rfl) hl (star_cons rfl) (by rfl)) (by rfl))
    fun D σ H ⟨F0, H0, Fb, F, ρ, fp, a, h⟩ => by
      obtain ⟨xs, hr, h⟩ := lstAt_W pBad h
      obtain ⟨ys, hr2, h⟩ := lstAt_W pBad h
      by_cases hc : i ≠ j ∧ ys.all PV.st = true ∧ xs.length < 1000000 ∧ ys.length < 1000000
      · rw [if_pos hc] at h
        obtain ⟨hij, hst, hz, hz2⟩ := hc
        obtain ⟨v, f, g, h1, h2, h3, h4, h5⟩ := a.env.split hr
        obtain ⟨q, vs, f0, rfl, rfl, hp, hF, hn, rs, hnp⟩ := h2.lstI
        obtain ⟨v2, f2, g2, k1, k2, k3, k4, k5⟩ := a.env.split hr2
        obtain ⟨q2, vs2, f02, rfl, rfl, hp2, hF2, hn2, rs2, hnp2⟩ := k2.lstI
        refine ⟨_, h1, .inl ⟨rfl, _, SqL.of hp⟩, ?_⟩
        refine ⟨_, k1, .inl ⟨rfl, _, SqL.of hp2⟩, ?_⟩
        refine (a.stepG pExn pBad h).imp fun w H1 ⟨r, F1, a1, e1, qr, z⟩ => ?_
        obtain ⟨b, u⟩ := r
        cases u with
        | int t =>
          have := qr.plain rfl rfl
          cases this
          dsimp only at z
          by_cases ht : 0 ≤ t ∧ t < ys.length
          · rw [if_pos ht] at z
            cases hy : ys[t.toNat]? with
            | none => rw [hy] at z; exact (show False from z).elim
            | some y =>
              rw [hy] at z
              obtain ⟨v', f', g', l1, l2, l3, l4, l5⟩ := a1.env.split hr2
              rw [k1] at l1
              cases l1
              obtain ⟨q', vs', f1, eq, rfl, hp', hF', hn', rs', hnp'⟩ := l2.lstI
              cases eq
              have rp := rs'.stable hst
              obtain ⟨w, hw, rw_⟩ := rp.get hy
              have rr := ((rp.eraseIdx t.toNat).ros (H := upd H1 q2 (.lst (vs'.eraseIdx t.toNat))))
              obtain ⟨fq, a2⟩ := a1.wr k1 l3 l4 l5 (b := q2) (by simp) hF' hn' (f' := [q2]) (.lst upd_same hF' hn' rr (by simp)) fun c hc => .inl (by simp at hc; simp [hc])
              have hr3 : (ρ.set j (some (.lst true (ys.eraseIdx t.toNat))))[i]? = some (some (.lst true xs)) := by
                rw [List.getElem?_set_ne (Ne.symm hij)]
                exact hr
              obtain ⟨q3, vs3, eq3, hp3, hl3, fr, a3⟩ := app_core a2 hr3 h1 (.st rw_) (fun _ z => by simp at z) (fun _ z => by simp at z)
              cases eq3
              have hlen : vs'.length = ys.length := rs'.length
              have hsl := big_line
              have hs63 : sizeLine < 2 ^ 63 := by rw [sizeLine_eq]; decide
              refine ⟨q2, vs', t, t.toNat, w, rfl, rfl, hp', by omega, by omega, seqIndex_of ht.1 (by rw [hlen]; exact ht.2), hw, ?_⟩
              exact ⟨q, vs3, w, rfl, rfl, hp3, by rw [hl3]; omega, z F1 _ σ fr a3⟩
          · rw [if_neg ht] at z
            exact (show False from z).elim
        | _ => exact (show False from z).elim
      · rw [if_neg hc] at h
        exact (show False from h).elim
end
end FS

set_option Elab.async false
set_option linter.all false
set_option maxRecDepth 100000
set_option maxHeartbeats 8000000
namespace FS
open PySem PySem.Spec PyProof.Rows L2

section
variable {W : Wd} {k : Nat} {N : List Str} {sc : Scope} {E : XK}
/-! ### a, b = x, y -/
theorem Ros.two {F H : Hp} {vs : List V} {x y : PV} {f : List Addr} (r : Ros W F H vs [x, y] f) : ∃ v w g h, vs = [v, w] ∧ Ro W F H v x g ∧ Ro W F H w y h ∧ (∀ a ∈ g, a ∉ h) ∧ (∀ a ∈ g, a ∈ f) ∧ ∀ a ∈ h, a ∈ f := by
  cases r with
  | cons a t d => cases t with
    | cons b t2 d2 =>
      cases t2
      exact ⟨_, _, _, _, rfl, a, b, fun c hc z => d c hc (by simp [z]), fun c hc => by simp [hc], fun c hc => by simp [hc]⟩
theorem Ros.three {F H : Hp} {vs : List V} {x y z : PV} {f : List Addr} (r : Ros W F H vs [x, y, z] f) : ∃ u v w g h i, vs = [u, v, w] ∧ Ro W F H u x g ∧ Ro W F H v y h ∧ Ro W F H w z i ∧ (∀ a ∈ g, a ∉ h) ∧ (∀ a ∈ g, a ∉ i) ∧ (∀ a ∈ h, a ∉ i) ∧ (∀ a ∈ g, a ∈ f) ∧ (∀ a ∈ h, a ∈ f) ∧ ∀ a ∈ i, a ∈ f := by
  cases r with
  | cons a t d =>
    obtain ⟨v, w, g, h, rfl, r1, r2, d1, s1, s2⟩ := t.two
    exact ⟨_, v, w, _, g, h, rfl, a, r1, r2, fun c hc z => d c hc (s1 c z), fun c hc z => d c hc (s2 c z), d1, fun c hc => by simp [hc], fun c hc => by simp [s1 c hc], fun c hc => by simp [s2 c hc]⟩
theorem At.stepA {F0 H0 Fb F1 H1 : Hp} {σ : L2.St} {ρ : Loc} {fp : List Addr} {D : L2.Ends} {m : Loc → Tr (List Rv)} {K : List Rv → Tr Fl} (a : At W F0 H0 Fb F1 H1 σ ρ fp) (h : ((m ρ).bind K).W (PostS W E F0 H0 Fb D)) :
    tA W E m σ H1 fun vs H2 => ∃ rs F2 g, At W F0 H0 Fb F2 H2 σ ρ fp ∧ Ext W F1 H1 F2 H2 ∧ RRs W fp F2 H2 H1 rs vs g ∧ (K rs).W (PostS W E F0 H0 Fb D) := by
  refine ⟨F1, ρ, fp, a.e.g, a.env, Tr.W_imp (fun o ho => ?_) (Tr.W_bind.mp h)⟩
  cases o with
  | ok r => exact fun F' H' v f e' q => ⟨r, F', f, a.ext e', e', q, ho⟩
  | exn c ns xs => exact ExP.ext a.e ho
  | bad => exact ho
theorem At.put' {F0 H0 Fb F H : Hp} {σ : L2.St} {ρ : Loc} {fp : List Addr} {v : V} {y : PV} {f : List Addr} (a : At W F0 H0 Fb F H σ ρ fp) (r : Ro W F H v y f) (n : ∀ a ∈ f, H0 a = none) (d : ∀ a ∈ f, a ∉ fp) (i : Nat) :
    ∃ fq, At W F0 H0 Fb F H (σ.set i (some v)) (ρ.set i (some y)) fq ∧ ∀ a ∈ fq, a ∈ f ∨ a ∈ fp := by
  obtain ⟨fq, e2, s2⟩ := EnvR.put r i a.env d
  exact ⟨fq, ⟨a.e, e2, fun b hb => by
    rcases s2 b hb with z | z
    · exact n b z
    · exact a.fr b z, a.lo⟩, s2⟩
def par2F (i j : Nat) (m : Loc → Tr (List Rv)) : Loc → Tr Fl := fun ρ => (m ρ).bind fun rs => match movs rs with
  | some [x, y] => .ok (.nx ((ρ.set i (some x)).set j (some y)))
  | _ => .bad
def par3F (i j l : Nat) (m : Loc → Tr (List Rv)) : Loc → Tr Fl := fun ρ => (m ρ).bind fun rs => match movs rs with
  | some [x, y, z] => .ok (.nx (((ρ.set i (some x)).set j (some y)).set l (some z)))
  | _ => .bad
def notC : Expr → Bool
  | .Constant .. => false
  | .Name .. => false
  | .UnaryOp .. => false
  | .BinOp .. => false
  | .Subscript .. => false
  | .Tuple .. => false
  | _ => true
/-- the values are not all constants -/
def notCs (vs : List Expr) : Bool := !vs.all (foldedForSure 8) && !vs.all (constantsAlone 8)
theorem any_plain : ∀ {vs : List Expr}, vs.all plainB = true → (vs.any fun | .Starred .. => true | _ => false) = false
  | [], _ => rfl
  | v :: vs, h => by
    simp only [List.all_cons, Bool.and_eq_true] at h
    rw [List.any_cons, any_plain h.2]
    cases v <;> first | rfl | cases h.1
theorem swst2 {x y : Str} {px py pt pt2 : Pos} {kt k2} {a b : Expr} {env : Env} (hk : env.scope.kind = .function) (hx : env.scope.names.lookup x = some .local) (hy : env.scope.names.lookup y = some .local) (hl : (py.line == px.line) = true) (hne : x ≠ y) (pl : [a, b].all plainB = true) (nc : notCs [a, b] = true) :
    swappedStores [.Tuple [.Name x px, .Name y py] kt pt] (.Tuple [a, b] k2 pt2) env = pure (some [x, y]) := by
  have kx : env.kindOf x = some .local := hx
  have ky : env.kindOf y = some .local := hy
  have hb : env.blockKind = .function := by unfold Env.blockKind; rw [hk]; rfl
  unfold notCs at nc
  simp only [Bool.and_eq_true, Bool.not_eq_true'] at nc
  have pl2 : plainB a = true ∧ plainB b = true := by simpa using pl
  have hl' : py.line = px.line := by simpa using hl
  have ex : (x == y) = false := by simpa using hne
  have ey : (y == x) = false := by simpa using (Ne.symm hne)
  unfold swappedStores
  simp only [hb, kx, ky, nc.1, nc.2, List.filterMap, Expr.pos, List.head?, hl', List.length, List.eraseDups, List.eraseDupsBy, List.eraseDupsBy.loop, ex, ey]
  simp [hb, kx, ky, nc.1, nc.2, hl', List.eraseDups, List.eraseDupsBy, List.eraseDupsBy.loop, ex, ey, List.any, Expr.pos]
  intro h
  rcases h with h | h
  · cases a <;> first | (cases h; done) | (have := pl2.1; cases this; done)
  · cases b <;> first | (cases h; done) | (have := pl2.2; cases this; done)
theorem swst3 {x y z : Str} {px py pz pt pt2 : Pos} {kt k2} {a b c : Expr} {env : Env} (hk : env.scope.kind = .function) (hx : env.scope.names.lookup x = some .local) (hy : env.scope.names.lookup y = some .local) (hz : env.scope.names.lookup z = some .local) (hl : (py.line == px.line) = true) (hl2 : (pz.line == px.line) = true)
    (h1 : x ≠ y) (h2 : x ≠ z) (h3 : y ≠ z) (pl : [a, b, c].all plainB = true) (nc : notCs [a, b, c] = true) :
    swappedStores [.Tuple [.Name x px, .Name y py, .Name z pz] kt pt] (.Tuple [a, b, c] k2 pt2) env = pure (some [x, y, z]) := by
  have kx : env.kindOf x = some .local := hx
  have ky : env.kindOf y = some .local := hy
  have kz : env.kindOf z = some .local := hz
  have hb : env.blockKind = .function := by unfold Env.blockKind; rw [hk]; rfl
  unfold notCs at nc
  simp only [Bool.and_eq_true, Bool.not_eq_true'] at nc
  have pl2 : plainB a = true ∧ plainB b = true ∧ plainB c = true := by simpa using pl
  have hl' : py.line = px.line := by simpa using hl
  have hl2' : pz.line = px.line := by simpa using hl2
  have e1 : (x == y) = false := by simpa using h1
  have e2 : (y == x) = false := by simpa using (Ne.symm h1)
  have e3 : (x == z) = false := by simpa using h2
  have e4 : (z == x) = false := by simpa using (Ne.symm h2)
  have e5 : (y == z) = false := by simpa using h3
  have e6 : (z == y) = false := by simpa using (Ne.symm h3)
  unfold swappedStores
  simp only [hb, kx, ky, kz, nc.1, nc.2, List.filterMap, Expr.pos, List.head?, hl', hl2', List.length, List.eraseDups, List.eraseDupsBy, List.eraseDupsBy.loop, e1, e2, e3, e4, e5, e6]
  simp [hb, kx, ky, kz, nc.1, nc.2, hl', hl2', List.eraseDups, List.eraseDupsBy, List.eraseDupsBy.loop, e1, e2, e3, e4, e5, e6, List.any, Expr.pos]
  intro h
  rcases h with h | h | h
  · cases a <;> first | (cases h; done) | (have := pl2.1; cases this; done)
  · cases b <;> first | (cases h; done) | (have := pl2.2.1; cases this; done)
  · cases c <;> first | (cases h; done) | (have := pl2.2.2; cases this; done)
theorem ps_par2X {a b : Expr} {m : Loc → Tr (List Rv)} {i j : Nat} {x y : Str} {px py pt pt2 p : Pos} {kt k2} (hk : sc.kind = .function) (hi : N[i]? = some x) (hj : N[j]? = some y) (hij : i ≠ j) (hx : locB sc x = true) (hy : locB sc y = true) (hl : (py.line == px.line) = true)
    (pl : [a, b].all plainB = true) (nc : notCs [a, b] = true) (he : PAX W k N sc [a, b] m) : PSX W k N sc (.Assign [.Tuple [.Name x px, .Name y py] kt pt] (.Tuple [a, b] k2 pt2) p) (par2F i j m) := fun X E c => by
  have hne : x ≠ y := fun z => hij (((List.getElem?_inj (by rw [List.getElem?_eq_some_iff] at hi; exact hi.1) c.c.nd).mp (by rw [hi, hj, z])))
  refine PS.imp (ps_par c.c.calm c.c.ndX (c.at_ hi) (c.at_ hj) hij (c.loc hx) (c.loc hy) (he X E c.c) (swst2 (by rw [c.c.sc]; exact hk) (c.loc hx) (c.loc hy) hl hne pl nc) (by rfl)) fun D σ H ⟨F0, H0, Fb, F, ρ, fp, a, h⟩ => ?_
  refine (a.stepA h).imp fun vs H1 ⟨rs, F1, g, a1, e1, q, z⟩ => ?_
  cases hm : movs rs with
  | none => rw [hm] at z; exact (show False from z).elim
  | some l =>
    rw [hm] at z
    have ro := movs_ok q hm
    cases l with
    | nil => exact (show False from z).elim
    | cons x1 l => cases l with
      | nil => exact (show False from z).elim
      | cons x2 l => cases l with
        | cons _ _ => exact (show False from z).elim
        | nil =>
          obtain ⟨v, w, f1, f2, rfl, r1, r2, d, s1, s2⟩ := ro.two
          have nf : ∀ c ∈ g, H0 c = none ∧ c ∉ fp := fun c hc => by
            have := (q.fresh c hc).1
            exact ⟨a.e.free this, fun z => by
              obtain ⟨o, ho⟩ := a.fo c z
              rw [this] at ho
              cases ho⟩
          obtain ⟨fq, a2, sq⟩ := a1.put' r1 (fun c hc => (nf c (s1 c hc)).1) (fun c hc => (nf c (s1 c hc)).2) i
          obtain ⟨fr, a3⟩ := a2.put r2 (fun c hc => (nf c (s2 c hc)).1) (fun c hc z => by
            rcases sq c z with y | y
            · exact d c y hc
            · exact (nf c (s2 c hc)).2 y) j
          exact ⟨v, w, rfl, z F1 H1 _ fr a3⟩
theorem ps_par3X {a b b2 : Expr} {m : Loc → Tr (List Rv)} {i j l : Nat} {x y w : Str} {px py pw pt pt2 p : Pos} {kt k2} (hk : sc.kind = .function) (hi : N[i]? = some x) (hj : N[j]? = some y) (hl' : N[l]? = some w) (hij : i ≠ j) (hil : i ≠ l) (hjl : j ≠ l) (hx : locB sc x = true) (hy : locB sc y = true) (hw : locB sc w = true)
    (hl : (py.line == px.line) = true) (hl2 : (pw.line == px.line) = true)
    (pl : [a, b, b2].all plainB = true) (nc : notCs [a, b, b2] = true) (he : PAX W k N sc [a, b, b2] m) : PSX W k N sc (.Assign [.Tuple [.Name x px, .Name y py, .Name w pw] kt pt] (.Tuple [a, b, b2] k2 pt2) p) (par3F i j l m) := fun X E c => by
  have inj : ∀ {i j : Nat} {x y : Str}, N[i]? = some x → N[j]? = some y → i ≠ j → x ≠ y := fun {i j x y} hi hj hij z => hij (((List.getElem?_inj (by rw [List.getElem?_eq_some_iff] at hi; exact hi.1) c.c.nd).mp (by rw [hi, hj, z])))
  refine PS.imp (ps_par3 c.c.calm c.c.ndX (c.at_ hi) (c.at_ hj) (c.at_ hl') hij hil hjl (c.loc hx) (c.loc hy) (c.loc hw) (he X E c.c) (swst3 (by rw [c.c.sc]; exact hk) (c.loc hx) (c.loc hy) (c.loc hw) hl hl2 (inj hi hj hij) (inj hi hl' hil) (inj hj hl' hjl) pl nc) (by rfl)) fun D σ H ⟨F0, H0, Fb, F, ρ, fp, a, h⟩ => ?_
  refine (a.stepA h).imp fun vs H1 ⟨rs, F1, g, a1, e1, q, z⟩ => ?_
  cases hm : movs rs with
  | none => rw [hm] at z; exact (show False from z).elim
  | some l =>
    rw [hm] at z
    have ro := movs_ok q hm
    cases l with
    | nil => exact (show False from z).elim
    | cons x1 l => cases l with
      | nil => exact (show False from z).elim
      | cons x2 l => cases l with
        | nil => exact (show False from z).elim
        | cons x3 l => cases l with
          | cons _ _ => exact (show False from z).elim
          | nil =>
            obtain ⟨u, v, w, f1, f2, f3, rfl, r1, r2, r3, d12, d13, d23, s1, s2, s3⟩ := ro.three
            have nf : ∀ c ∈ g, H0 c = none ∧ c ∉ fp := fun c hc => by
              have := (q.fresh c hc).1
              exact ⟨a.e.free this, fun z => by
                obtain ⟨o, ho⟩ := a.fo c z
                rw [this] at ho
                cases ho⟩
            obtain ⟨fq, a2, sq⟩ := a1.put' r1 (fun c hc => (nf c (s1 c hc)).1) (fun c hc => (nf c (s1 c hc)).2) i
            obtain ⟨fr, a3, sr⟩ := a2.put' r2 (fun c hc => (nf c (s2 c hc)).1) (fun c hc z => by
              rcases sq c z with y | y
              · exact d12 c y hc
              · exact (nf c (s2 c hc)).2 y) j
            obtain ⟨ft, a4⟩ := a3.put r3 (fun c hc => (nf c (s3 c hc)).1) (fun c hc z => by
              rcases sr c z with y | y
              · exact d23 c y hc
              · rcases sq c y with y | y
                · exact d13 c y hc
                · exact (nf c (s3 c hc)).2 y) _
            exact ⟨u, v, w, rfl, z F1 H1 _ ft a4⟩
/-! ### a, b = x, y where not all names are locals -/
def notLoc (sc : Scope) : Expr → Bool
  | .Name x _ => !locB sc x
  | _ => true
theorem swst_cell {ts vs : List Expr} {kt k2} {pt p2 : Pos} {env : Env} (h : ts.any (notLoc env.scope) = true) : swappedStores [.Tuple ts kt pt] (.Tuple vs k2 p2) env = pure none := by
  have key : ∀ line : Nat, ∀ ts : List Expr, ts.any (notLoc env.scope) = true → (ts.filterMap fun
    | .Name id pos => if env.kindOf id == some .local && pos.line == line then some id else none
    | _ => none).length < ts.length := by
    intro line ts
    induction ts with
    | nil => intro h; cases h
    | cons t ts ih =>
      intro h
      rw [List.any_cons, Bool.or_eq_true] at h
      have le : (ts.filterMap fun
        | .Name id pos => if env.kindOf id == some .local && pos.line == line then some id else none
        | _ => none).length ≤ ts.length := List.length_filterMap_le _ _
      rcases h with h | h
      · rw [List.filterMap_cons]
        split
        · exact Nat.lt_succ_of_le le
        · rename_i b e
          exfalso
          cases t with
          | Name x p =>
            have hx : locB env.scope x = false := by simpa [notLoc] using h
            have : (env.kindOf x == some .local) = false := by
              have e2 : env.kindOf x = env.scope.names.lookup x := rfl
              rw [e2]
              unfold locB at hx
              split at hx
              · cases hx
              · rename_i q
                simpa using q
            simp [this] at e
          | _ => simp at e
      · rw [List.filterMap_cons]
        split
        · exact Nat.lt_succ_of_lt (ih h)
        · exact Nat.succ_lt_succ (ih h)
  have k2 := key ((ts.head?.map (·.pos.line)).getD 0) ts h
  unfold swappedStores
  dsimp only
  split
  · rfl
  split
  · rfl
  rw [if_pos]
  rw [Bool.or_eq_true]
  left
  exact bne_iff_ne.mpr (Nat.ne_of_lt k2)
theorem gNamesO {F0 : Hp} {H0 Fb F H : Hp} : ∀ {is : List Nat} {vs : List V} {xs : List PV} {σ : L2.St} {ρ ρ' : Loc} {fp g : List Addr} {Q : L2.St → Hp → Prop}, Ros W F H vs xs g → At W F0 H0 Fb F H σ ρ fp → (∀ a ∈ g, H0 a = none ∧ a ∉ fp) → bindTs is xs ρ = some ρ' →
    (∀ σ' fq, At W F0 H0 Fb F H σ' ρ' fq → Q σ' H) → gNames is vs σ H Q
  | [], _, _, σ, ρ, ρ', fp, _, Q, .nil, a, n, h, k => by
    cases h
    exact ⟨rfl, k σ fp a⟩
  | [], _, _, _, _, _, _, _, _, .cons _ _ _, _, _, h, _ => by cases h
  | _ :: _, _, _, _, _, _, _, _, _, .nil, _, _, h, _ => by cases h
  | i :: is, _, _, σ, ρ, ρ', fp, _, Q, .cons (v := v) (x := x) (f := f) (g := g) r t d, a, n, h, k => by
    obtain ⟨fq, a2, s2⟩ := a.put' r (fun b hb => (n b (by simp [hb])).1) (fun b hb => (n b (by simp [hb])).2) i
    refine ⟨_, _, rfl, ?_⟩
    refine gNamesO t a2 (fun b hb => ⟨(n b (by simp [hb])).1, fun z => ?_⟩) h k
    rcases s2 b z with y | y
    · exact d b y hb
    · exact (n b (by simp [hb])).2 y
def parNF (is : List Nat) (m : Loc → Tr (List Rv)) : Loc → Tr Fl := fun ρ => (m ρ).bind fun rs => match movs rs with
  | some xs => if xs.length ≤ 100000 then (match bindTs is xs ρ with
    | some ρ' => .ok (.nx ρ')
    | none => .bad) else .bad
  | none => .bad
theorem bindTs_len : ∀ {is : List Nat} {xs : List PV} {ρ ρ' : Loc}, bindTs is xs ρ = some ρ' → xs.length = is.length := by
  intro is
  induction is with
  | nil => intro xs ρ ρ' h; cases xs <;> first | rfl | cases h
  | cons i is ih => intro xs ρ ρ' h; cases xs with
    | nil => cases h
    | cons x xs => simp [ih (show bindTs is xs (ρ.set i (some x)) = some ρ' from h)]
theorem ps_parNX {ts vs : List Expr} {m : Loc → Tr (List Rv)} {is : List Nat} {kt k2} {pt p2 p : Pos} (ht : namesB (fun _ => true) N sc is ts = true) (hn : ts.any (notLoc sc) = true) (he : PAX W k N sc vs m) :
    PSX W k N sc (.Assign [.Tuple ts kt pt] (.Tuple vs k2 p2) p) (parNF is m) := fun X E c => by
  refine PS.imp (ps_asg (pe_tup (he X E c.c)) (pg_tg (t := .t is) c.c.calm c.c.ndX c.c.N (fun y _ => c.fnA y) c.c.sc (show tgB (fun _ => true) N sc (.t is) (.Tuple ts kt pt) = true from ht)) (by rfl) (swst_cell (by rw [c.c.sc]; exact hn)) (by rfl)) fun D σ H ⟨F0, H0, Fb, F, ρ, fp, a, h⟩ => ?_
  refine (a.stepA h).imp fun vs H1 ⟨rs, F1, g, a1, e1, q, z⟩ => ?_
  cases hm : movs rs with
  | none => rw [hm] at z; exact (show False from z).elim
  | some xs =>
    rw [hm] at z
    dsimp only at z
    by_cases hl : xs.length ≤ 100000
    · rw [if_pos hl] at z
      have ro := movs_ok q hm
      cases hb : bindTs is xs ρ with
      | none => rw [hb] at z; exact (show False from z).elim
      | some ρ' =>
        rw [hb] at z
        refine ⟨by rw [ro.length]; exact Nat.le_trans hl (by decide), fun l hl => ?_⟩
        have e2 := a1.e.g.laid (o := .tup vs) hl
        have a2 := a1.ext e2
        have ng : ∀ b ∈ g, H0 b = none ∧ b ∉ fp := fun b hb => by
          have := (q.fresh b hb).1
          exact ⟨a.e.free this, fun z => by
            obtain ⟨o, ho⟩ := a.fo b z
            rw [this] at ho
            cases ho⟩
        refine ⟨l, vs, rfl, .inl (.inl upd_same), by rw [ro.length, bindTs_len hb], gNamesO (ro.ext e2) a2 ng hb fun σ' fq a3 => z F1 _ σ' fq a3⟩
    · rw [if_neg hl] at z
      exact (show False from z).elim
end
end FS

set_option Elab.async false
set_option linter.all false
set_option maxRecDepth 100000
set_option maxHeartbeats 8000000
namespace FS
open PySem PySem.Spec PyProof.Rows L2

section
variable {W : Wd} {k : Nat} {N : List Str} {sc : Scope} {E : XK}
theorem sws_no {t e : Expr} (h : noLc e = true) {l : Nat} {env : Env} : swapsWithSole [t] e l env = pure false := by
  show swapsWith e (some t) l env = pure false
  exact sw_no h _ _ _
def intV (r : Rv) : Option Int := match r.2 with
  | .int i => some i
  | _ => none
theorem RF.intV {fe : List Addr} {F H : Hp} {r : Rv} {v : V} {i : Int} (q : RF W fe F H r v) (h : FS.intV r = some i) : v = .int i := by
  obtain ⟨b, x⟩ := r
  cases x with
  | int j =>
    have e : j = i := by simpa [FS.intV] using h
    subst e
    have := q.plain rfl rfl
    cases this
    rfl
  | _ => simp [FS.intV] at h
/-- list[i] = value -/
def putF (i : Nat) (mk mv : Loc → Tr Rv) : Loc → Tr Fl := fun ρ => lstAt i ρ fun xs => (mv ρ).bind fun r => (mk ρ).bind fun q => match mov r, intV q with
  | some y, some t => (match ixN xs.length t with
    | some j => .ok (.nx (ρ.set i (some (.lst true (xs.set j y)))))
    | none => .bad)
  | _, _ => .bad
theorem ps_putX {e kx : Expr} {me mk : Loc → Tr Rv} {i : Nat} {x : Str} {p p1 p2 : Pos} (hi : N[i]? = some x) (hv : visB sc x = true) (hm : nmB x = true) (h1 : noLc e = true) (h2 : noTup e = true) (pl : plainB kx = true) (he : PX W k N sc e me) (hk : PX W k N sc kx mk) :
    PSX W k N sc (.Assign [.Subscript (.Name x p1) kx p2] e p) (putF i mk me) := fun X E c =>
  PS.imp (ps_asg (he X E c.c) (pg_sub (pe_var (c.at_ hi) (c.vis hv) (nmB_ok hm).1 (nmB_ok hm).2.1) (hk X E c.c) set_list (by intro v; cases kx <;> first | rfl | cases pl)) (sws_no h1) (swst_no h2 _ _) (by rfl))
    fun D σ H ⟨F0, H0, Fb, F, ρ, fp, a, h⟩ => by
      obtain ⟨xs, hr, h⟩ := lstAt_W pBad h
      refine (a.stepN pExn pBad h).imp fun w H1 ⟨r, F1, a1, e1, qr, z⟩ => ?_
      obtain ⟨v, f, g, h1, h2, h3, h4, h5⟩ := a1.env.split hr
      obtain ⟨q, vs, f0, rfl, rfl, hp, hF, hn, rs, hnp⟩ := h2.lstI
      refine ⟨_, h1, ?_⟩
      refine (a1.stepG pExn pBad z).imp fun w2 H2 ⟨r2, F2, a2, e2, q2, z2⟩ => ?_
      cases hm : mov r with
      | none => rw [hm] at z2; exact (show False from z2).elim
      | some y =>
        cases ht : intV r2 with
        | none => rw [hm, ht] at z2; exact (show False from z2).elim
        | some t =>
          rw [hm, ht] at z2
          dsimp only at z2
          cases hj : ixN xs.length t with
          | none => rw [hj] at z2; exact (show False from z2).elim
          | some j =>
            rw [hj] at z2
            have := q2.intV ht
            subst this
            obtain ⟨fy, ry, ny, dy⟩ := qr.mov a.fo hm
            obtain ⟨v', f', g', l1, l2, l3, l4, l5⟩ := a2.env.split hr
            rw [h1] at l1
            cases l1
            obtain ⟨q', vs', f1, eq, rfl, hp', hF', hn', rs', hnp'⟩ := l2.lstI
            cases eq
            have npy : q ∉ fy := fun z => dy q z ((l5 q).mpr (.inl (by simp)))
            have c1 : Ros W F2 (upd H2 q (.lst (vs'.set j w))) vs' xs f1 := rs'.carry (fun _ _ q => q) fun c hc => ⟨upd_ne fun z => hnp' (z ▸ hc), (rs'.own c hc).2.1⟩
            have ry2 := ry.ext e2
            have c2 : Ro W F2 (upd H2 q (.lst (vs'.set j w))) w y fy := ry2.carry (fun _ _ q => q) fun c hc => ⟨upd_ne fun z => npy (z ▸ hc), (ry2.own c hc).2.1⟩
            obtain ⟨f2, c3, s3⟩ := c1.set j c2 fun c hc z => dy c hc ((l5 c).mpr (.inl (by simp [z])))
            obtain ⟨fq, a3⟩ := a2.wr h1 l3 l4 l5 (b := q) (by simp) hF' hn' (f' := q :: f2) (.lst upd_same hF' hn' c3 fun z => by
              rcases s3 q z with y | y
              · exact hnp' y
              · exact npy y) fun c hc => by
                rcases List.mem_cons.mp hc with rfl | hc
                · exact .inl (by simp)
                · rcases s3 c hc with y | y
                  · exact .inl (by simp [y])
                  · exact .inr ⟨a.e.free (ny c y), dy c y⟩
            exact ⟨q, vs', t, j, rfl, rfl, hp', by rw [rs'.length]; exact hj, z2 F2 _ σ fq a3⟩
/-- list[i][k] = a stable value -/
def rowAt (xs : List PV) (q : Rv) (k : Nat → List PV → Tr Fl) : Tr Fl := match intV q with
  | some t => (match ixN xs.length t with
    | some j => (match xs[j]? with
      | some (.lst true ys) => k j ys
      | _ => .bad)
    | none => .bad)
  | none => .bad
theorem rowAt_W {xs : List PV} {q : Rv} {k : Nat → List PV → Tr Fl} {P : Out Fl → Prop} (hb : ¬ P .bad) (h : (rowAt xs q k).W P) : ∃ t j ys, intV q = some t ∧ ixN xs.length t = some j ∧ xs[j]? = some (.lst true ys) ∧ (k j ys).W P := by
  unfold rowAt at h
  split at h
  · split at h
    · split at h
      · exact ⟨_, _, _, by assumption, by assumption, by assumption, h⟩
      · exact absurd h hb
    · exact absurd h hb
  · exact absurd h hb
def put2F (i : Nat) (mk mj mv : Loc → Tr Rv) : Loc → Tr Fl := fun ρ => lstAt i ρ fun xs => (mv ρ).bind fun r => (mk ρ).bind fun q => rowAt xs q fun j ys => (mj ρ).bind fun q2 => match take r, intV q2 with
  | some y, some u => (match ixN ys.length u with
    | some l => .ok (.nx (ρ.set i (some (.lst true (xs.set j (.lst true (ys.set l y)))))))
    | none => .bad)
  | _, _ => .bad
/-- an item of a list of one's own, apart from the others -/
theorem Ros.item {F H : Hp} : ∀ {vs : List V} {xs : List PV} {f : List Addr} {j : Nat} {x : PV}, Ros W F H vs xs f → xs[j]? = some x →
    ∃ v g, vs[j]? = some v ∧ Ro W F H v x g ∧ (∀ a ∈ g, a ∈ f) ∧ ∀ (F' H' : Hp) (w : V) (y : PV) (g' : List Addr), Same F F' → (∀ a ∈ f, a ∉ g → H' a = H a ∧ F' a = none) → Ro W F' H' w y g' → (∀ a ∈ g', a ∈ g ∨ a ∉ f) → ∃ f', Ros W F' H' (vs.set j w) (xs.set j y) f' ∧ ∀ a ∈ f', a ∈ f ∨ a ∈ g'
  | _, _, _, _, _, .nil, e => by simp at e
  | _, _, _, 0, _, .cons (f := f) (g := g) r t d, e => by
    simp at e
    subst e
    refine ⟨_, f, rfl, r, fun a h => by simp [h], fun F' H' w y g' s k r' n => ⟨g' ++ g, .cons r' (t.carry s fun a ha => k a (by simp [ha]) fun z => d a z ha) fun a ha hb => ?_, fun a ha => ?_⟩⟩
    · rcases n a ha with z | z
      · exact d a z hb
      · exact z (by simp [hb])
    · rcases List.mem_append.mp ha with ha | ha
      · exact .inr ha
      · exact .inl (by simp [ha])
  | _, _, _, j + 1, x, .cons (f := f) (g := g) r t d, e => by
    obtain ⟨v, g0, h1, h2, h3, h4⟩ := Ros.item (j := j) (x := x) t (by simpa using e)
    refine ⟨v, g0, by simpa using h1, h2, fun a h => by simp [h3 a h], fun F' H' w y g' s k r' n => ?_⟩
    obtain ⟨f', k1, k2⟩ := h4 F' H' w y g' s (fun a ha hb => k a (by simp [ha]) hb) r' (fun a ha => by
      rcases n a ha with z | z
      · exact .inl z
      · exact .inr fun y => z (by simp [y]))
    have r2 : Ro W F' H' _ _ f := r.carry s fun a ha => k a (by simp [ha]) fun z => d a ha (h3 a z)
    refine ⟨f ++ f', .cons r2 k1 fun a ha hb => ?_, fun a ha => ?_⟩
    · rcases k2 a hb with z | z
      · exact d a ha z
      · rcases n a z with y | y
        · exact d a ha (h3 a y)
        · exact y (by simp [ha])
    · rcases List.mem_append.mp ha with ha | ha
      · exact .inl (by simp [ha])
      · rcases k2 a ha with z | z
        · exact .inl (by simp [z])
        · exact .inr z
theorem ps_put2X {e kx jx : Expr} {me mk mj : Loc → Tr Rv} {i : Nat} {x : Str} {p p1 p2 p3 : Pos} (hi : N[i]? = some x) (hv : visB sc x = true) (hm : nmB x = true) (h1 : noLc e = true) (h2 : noTup e = true) (pl : plainB kx = true) (pl2 : plainB jx = true) (he : PX W k N sc e me) (hk : PX W k N sc kx mk) (hj : PX W k N sc jx mj) :
    PSX W k N sc (.Assign [.Subscript (.Subscript (.Name x p1) kx p2) jx p3] e p) (put2F i mk mj me) := fun X E c =>
  PS.imp (ps_asg (he X E c.c) (pg_sub (pe_ix ix_list (pe_var (c.at_ hi) (c.vis hv) (nmB_ok hm).1 (nmB_ok hm).2.1) (hk X E c.c) (plain_ix pl)) (hj X E c.c) set_list (by intro v; cases jx <;> first | rfl | cases pl2)) (sws_no h1) (swst_no h2 _ _) (by rfl))
    fun D σ H ⟨F0, H0, Fb, F, ρ, fp, a, h⟩ => by
      obtain ⟨xs, hr, h⟩ := lstAt_W pBad h
      refine (a.stepG pExn pBad h).imp fun w H1 ⟨r, F1, a1, e1, qr, z⟩ => ?_
      obtain ⟨v, f, g, h1, h2, h3, h4, h5⟩ := a1.env.split hr
      obtain ⟨q, vs, f0, rfl, rfl, hp, hF, hn, rs, hnp⟩ := h2.lstI
      refine ⟨_, h1, ?_⟩
      refine (a1.stepG pExn pBad z).imp fun w2 H2 ⟨r2, F2, a2, e2, q2, z2⟩ => ?_
      obtain ⟨t, j, ys, ht, hj, hy, z3⟩ := rowAt_W pBad z2
      have := q2.intV ht
      subst this
      obtain ⟨v', f', g', l1, l2, l3, l4, l5⟩ := a2.env.split hr
      rw [h1] at l1
      cases l1
      obtain ⟨q', vs', f1, eq, rfl, hp', hF', hn', rs', hnp'⟩ := l2.lstI
      cases eq
      obtain ⟨u, gi, hu, ri, si, _⟩ := rs'.item hy
      obtain ⟨b, ws, f2, rfl, rfl, hb, hFb, hnb, rsb, hnpb⟩ := ri.lstI
      refine ⟨q, vs', t, .ref b, rfl, rfl, .inl (.inl hp'), by unfold atI; rw [rs'.length, hj]; exact hu, ?_⟩
      refine (a2.stepG pExn pBad z3).imp fun w3 H3 ⟨r3, F3, a3, e3, q3, z4⟩ => ?_
      cases hm : FS.take r with
      | none => rw [hm] at z4; exact (show False from z4).elim
      | some y =>
        cases ht2 : intV r3 with
        | none => rw [hm, ht2] at z4; exact (show False from z4).elim
        | some u2 =>
          rw [hm, ht2] at z4
          dsimp only at z4
          cases hl : ixN ys.length u2 with
          | none => rw [hl] at z4; exact (show False from z4).elim
          | some l =>
            rw [hl] at z4
            have := q3.intV ht2
            subst this
            have ry : Rp W F3 w y := ((qr.ext e2).ext e3).take hm
            obtain ⟨v3, f3, g3, m1, m2, m3, m4, m5⟩ := a3.env.split hr
            rw [h1] at m1
            cases m1
            obtain ⟨q3', vs3, f4, eq, rfl, hp3, hF3, hn3, rs3, hnp3⟩ := m2.lstI
            cases eq
            have hv3 : vs3 = vs' := by
              have := (e3.own hp' hF' hn').1
              rw [hp3, hp'] at this
              cases this
              rfl
            subst hv3
            obtain ⟨u', gi', hu', ri', si', ki⟩ := rs3.item hy
            rw [hu] at hu'
            cases hu'
            obtain ⟨b', ws', f5, eq, rfl, hb', hFb', hnb', rsb', hnpb'⟩ := ri'.lstI
            cases eq
            have nqb : q ≠ b := fun z => hnp3 (si' q (by rw [z]; simp))
            have c0 : Ros W F3 (upd H3 b (.lst (ws'.set l w))) ws' ys f5 := rsb'.carry (fun _ _ q => q) fun c hc => ⟨upd_ne fun z => hnpb' (z ▸ hc), (rsb'.own c hc).2.1⟩
            obtain ⟨f6, c1, s1⟩ := c0.set l (.st ry) (fun _ z => by simp at z)
            have s1' : ∀ c ∈ f6, c ∈ f5 := fun c hc => by
              rcases s1 c hc with z | z
              · exact z
              · simp at z
            have cb : Ro W F3 (upd H3 b (.lst (ws'.set l w))) (.ref b) (.lst true (ys.set l y)) (b :: f6) := .lst upd_same hFb' hnb' c1 fun z => hnpb' (s1' b z)
            obtain ⟨f7, c2, s2⟩ := ki F3 (upd H3 b (.lst (ws'.set l w))) (.ref b) (.lst true (ys.set l y)) (b :: f6) (fun _ _ q => q)
              (fun c hc hd => ⟨upd_ne fun z => hd (by rw [z]; simp), (rs3.own c hc).2.1⟩) cb (fun c hc => .inl (by
                rcases List.mem_cons.mp hc with rfl | hc
                · simp
                · simp [s1' c hc]))
            have s2' : ∀ c ∈ f7, c ∈ f4 := fun c hc => by
              rcases s2 c hc with z | z
              · exact z
              · rcases List.mem_cons.mp z with rfl | z
                · exact si' _ (by simp)
                · exact si' _ (by simp [s1' c z])
            have same : vs3.set j (.ref b) = vs3 := set_self hu
            rw [same] at c2
            have bf : b ∈ f4 := si' b (by simp)
            obtain ⟨fq, a4⟩ := a3.wr h1 m3 m4 m5 (b := b) (by simp [bf]) hFb' hnb' (f' := q :: f7) (.lst (by rw [upd_ne nqb]; exact hp3) hF3 hn3 c2 fun z => hnp3 (s2' q z)) fun c hc => by
              rcases List.mem_cons.mp hc with rfl | hc
              · exact .inl (by simp)
              · exact .inl (by simp [s2' c hc])
            exact ⟨b, ws', u2, l, rfl, rfl, hb', by rw [rsb'.length]; exact hl, z4 F3 _ σ fq a4⟩
/-! ### a dict's entry -/
theorem putK_ros {F H : Hp} {α : Type} [DecidableEq α] {kp : α → PV} (hk : ∀ a b, PV.keq (kp a) (kp b) = decide (a = b)) {kvs : List (α × V)} {xs : List PV} {f : List Addr} {key : α} {v : V} {y : PV} (r : Ros W F H (kvs.map (·.2)) xs f) (ry : Rp W F v y) :
    ∃ f', Ros W F H ((putK kvs key v).map (·.2)) (putP (kvs.map fun p => kp p.1) xs (kp key) y).2 f' ∧ (putK kvs key v).map (fun p => kp p.1) = (putP (kvs.map fun p => kp p.1) xs (kp key) y).1 ∧ ∀ a ∈ f', a ∈ f := by
  have hany : (kvs.map fun p => kp p.1).any (PV.keq · (kp key)) = kvs.any fun kv => decide (kv.1 = key) := by
    rw [List.any_map]
    congr 1
    funext p
    exact hk _ _
  unfold putP putK
  rw [hany]
  by_cases h : (kvs.any fun kv => decide (kv.1 = key)) = true
  · rw [if_pos h, if_pos h]
    clear h hany
    have key2 : ∀ {kvs : List (α × V)} {xs : List PV} {f : List Addr}, Ros W F H (kvs.map (·.2)) xs f → ∃ f', Ros W F H ((kvs.map fun kv => if kv.1 = key then (kv.1, v) else kv).map (·.2)) (putV (kvs.map fun p => kp p.1) xs (kp key) y) f' ∧ (kvs.map fun kv => if kv.1 = key then (kv.1, v) else kv).map (fun p => kp p.1) = kvs.map (fun p => kp p.1) ∧ ∀ a ∈ f', a ∈ f := by
      intro kvs
      induction kvs with
      | nil =>
        intro xs f r
        cases r
        exact ⟨[], .nil, rfl, fun _ z => z⟩
      | cons p kvs ih =>
        intro xs f r
        cases r with
        | cons a t d =>
          obtain ⟨f', h1, h2, h3⟩ := ih t
          simp only [List.map_cons, putV, hk]
          by_cases e : p.1 = key
          · rw [if_pos e, if_pos (by simpa using e)]
            exact ⟨[] ++ f', .cons (.st ry) h1 (fun _ z => by simp at z), by simp only [h2], fun c hc => by simp [h3 c (by simpa using hc)]⟩
          · rw [if_neg e, if_neg (by simpa using e)]
            exact ⟨_, .cons a h1 fun c hc z => d c hc (h3 c z), by simp only [h2], fun c hc => by
              rcases List.mem_append.mp hc with hc | hc
              · simp [hc]
              · simp [h3 c hc]⟩
    exact key2 r
  · rw [if_neg h, if_neg h]
    refine ⟨f ++ [], ?_, by simp, fun a ha => by simpa using ha⟩
    rw [List.map_append]
    exact r.append (.cons (.st ry) .nil (fun _ z => by simp at z)) (fun _ _ z => by simp at z)
def dctAt (i : Nat) (ρ : Loc) (k : Bool → List PV → List PV → Tr Fl) : Tr Fl := match ρ[i]? with
  | some (some (.dct true T ks vs)) => k T ks vs
  | _ => .bad
theorem dctAt_W {i : Nat} {ρ : Loc} {k : Bool → List PV → List PV → Tr Fl} {P : Out Fl → Prop} (hb : ¬ P .bad) (h : (dctAt i ρ k).W P) : ∃ T ks vs, ρ[i]? = some (some (.dct true T ks vs)) ∧ (k T ks vs).W P := by
  unfold dctAt at h
  split at h
  · exact ⟨_, _, _, by assumption, h⟩
  · exact absurd h hb
/-- dict[key] = a stable value -/
def dputF (i : Nat) (mk mv : Loc → Tr Rv) : Loc → Tr Fl := fun ρ => dctAt i ρ fun T ks vs => (mv ρ).bind fun r => (mk ρ).bind fun q => match take r, take q with
  | some y, some x => if isKey T x = true ∧ ks.length < 1000000 then .ok (.nx (ρ.set i (some (.dct true T (putP ks vs x y).1 (putP ks vs x y).2)))) else .bad
  | _, _ => .bad
theorem ps_dputX {e kx : Expr} {me mk : Loc → Tr Rv} {i : Nat} {x : Str} {p p1 p2 : Pos} (hi : N[i]? = some x) (hv : visB sc x = true) (hm : nmB x = true) (h1 : noLc e = true) (he : PX W k N sc e me) (hk : PX W k N sc kx mk) :
    PSX W k N sc (.Assign [.Subscript (.Name x p1) kx p2] e p) (dputF i mk me) := fun X E c =>
  PS.imp (ps_dput (by have := c.c.hu; omega) (pe_var (c.at_ hi) (c.vis hv) (nmB_ok hm).1 (nmB_ok hm).2.1) (hk X E c.c) (he X E c.c) (sw_no h1 _ _ _))
    fun D σ H ⟨F0, H0, Fb, F, ρ, fp, a, h⟩ => by
      obtain ⟨T, ks, xs, hr, h⟩ := dctAt_W pBad h
      refine (a.stepG pExn pBad h).imp fun w H1 ⟨r, F1, a1, e1, qr, z⟩ => ?_
      obtain ⟨v, f, g1, g2, _⟩ := a1.env.get hr
      refine ⟨v, g1, ?_⟩
      refine (a1.stepG pExn pBad z).imp fun w2 H2 ⟨r2, F2, a2, e2, q2, z2⟩ => ?_
      cases hm : FS.take r with
      | none => rw [hm] at z2; exact (show False from z2).elim
      | some y =>
        cases ht : FS.take r2 with
        | none => rw [hm, ht] at z2; exact (show False from z2).elim
        | some kk =>
          rw [hm, ht] at z2
          dsimp only at z2
          by_cases hz : isKey T kk = true ∧ ks.length < 1000000
          · rw [if_pos hz] at z2
            have ry : Rp W F2 w y := (qr.ext e2).take hm
            have rk : Rp W F2 w2 kk := q2.take ht
            obtain ⟨v', f', g', l1, l2, l3, l4, l5⟩ := a2.env.split hr
            rw [g1] at l1
            cases l1
            cases l2 with
            | st q => have := q.st; cases this
            | @dK b kvs _ f1 hp hF hn rs hnp =>
              obtain ⟨key, hx⟩ : ∃ k, keyOf kk = some k := by
                have := hz.1
                cases kk <;> simp [isKey] at this <;> exact ⟨_, rfl⟩
              have q1 := rk.key hx
              have q3 := keyOf_kP hx
              subst q1 q3
              have rs2 : Ros W F2 (upd H2 b (.dK (putK kvs key w))) (kvs.map (·.2)) xs f1 := rs.carry (fun _ _ q => q) fun c hc => ⟨upd_ne fun z => hnp (z ▸ hc), (rs.own c hc).2.1⟩
              obtain ⟨f2, c1, c2, c3⟩ := putK_ros keq_kP (key := key) rs2 ry
              have cc := Ro.dK (W := W) (F := F2) (H := upd H2 b (.dK (putK kvs key w))) (a := b) upd_same hF hn c1 fun z => hnp (c3 b z)
              rw [c2] at cc
              obtain ⟨fq, a3⟩ := a2.wr g1 l3 l4 l5 (b := b) (by simp) hF hn cc fun c hc => by
                rcases List.mem_cons.mp hc with rfl | hc
                · exact .inl (by simp)
                · exact .inl (by simp [c3 c hc])
              exact ⟨b, _, rfl, DPut.k hp (by have := hz.2; rw [List.length_map] at this; exact Nat.lt_trans this big_line), z2 F2 _ σ fq a3⟩
            | @dT b kvs _ f1 hp hF hn rs hnp =>
              cases rk with
              | @tup d ws zs hb q =>
                obtain ⟨key, hx⟩ : ∃ k, keysOf zs = some k := Option.isSome_iff_exists.mp hz.1
                have q1 := q.keys hx
                have q3 := keysOf_kP hx
                subst q1 q3
                have rs2 : Ros W F2 (upd H2 b (.dT (putK kvs key w))) (kvs.map (·.2)) xs f1 := rs.carry (fun _ _ q => q) fun c hc => ⟨upd_ne fun z => hnp (z ▸ hc), (rs.own c hc).2.1⟩
                obtain ⟨f2, c1, c2, c3⟩ := putK_ros keq_tP (key := key) rs2 ry
                have cc := Ro.dT (W := W) (F := F2) (H := upd H2 b (.dT (putK kvs key w))) (a := b) upd_same hF hn c1 fun z => hnp (c3 b z)
                rw [c2] at cc
                obtain ⟨fq, a3⟩ := a2.wr g1 l3 l4 l5 (b := b) (by simp) hF hn cc fun c hc => by
                  rcases List.mem_cons.mp hc with rfl | hc
                  · exact .inl (by simp)
                  · exact .inl (by simp [c3 c hc])
                exact ⟨b, _, rfl, DPut.t hp (a2.e.g.sub _ _ hb) (by have := hz.2; rw [List.length_map] at this; exact Nat.lt_trans this big_line), z2 F2 _ σ fq a3⟩
              | _ => have := hz.1; simp [isKey] at this
          · rw [if_neg hz] at z2
            exact (show False from z2).elim
/-! ### name += int -/
def augF (i : Nat) (f : Int → Int → Int) (m : Loc → Tr Rv) : Loc → Tr Fl := fun ρ => match ρ[i]? with
  | some (some (.int n)) => (m ρ).bind fun r => (match intV r with
    | some t => .ok (.nx (ρ.set i (some (.int (f n t)))))
    | none => .bad)
  | _ => .bad
def augOp (neg : Bool) : Int → Int → Int := fun i j => if neg then i - j else i + j
theorem ps_augX {e : Expr} {m : Loc → Tr Rv} {i : Nat} {x : Str} {neg : Bool} {p p1 : Pos} (hi : N[i]? = some x) (hl : storeB (fun _ => true) sc x = true) (he : PX W k N sc e m) :
    PSX W k N sc (.AugAssign (.Name x p1) (if neg then .Sub else .Add) e p) (augF i (augOp neg) m) := fun X E c => by
  have ip : PIp X (if neg then .Sub else .Add) (ipI (augOp neg)) := by
    cases neg with
    | true => exact ip_sub
    | false => exact ip_add
  refine PS.imp (ps_aug c.c.ndX (c.at_ hi) (storeB_ok (X := X) hl (fun y _ => c.fnA y) c.c.sc).1 (he X E c.c) ip (storeB_ok (X := X) hl (fun y _ => c.fnA y) c.c.sc).2) fun D σ H ⟨F0, H0, Fb, F, ρ, fp, a, h⟩ => ?_
  unfold augF at h
  split at h
  · rename_i n hr
    obtain ⟨v, f, h1, h2, _⟩ := a.env.get hr
    have r0 := h2.stable rfl
    cases r0
    refine ⟨_, h1, (a.stepG pExn pBad h).imp fun w H1 ⟨r, F1, a1, e1, q, z⟩ => ?_⟩
    cases ht : intV r with
    | none => rw [ht] at z; exact (show False from z).elim
    | some t =>
      rw [ht] at z
      have := q.intV ht
      subst this
      obtain ⟨fq, a2⟩ := a1.put (v := .int (augOp neg n t)) (y := .int (augOp neg n t)) (.st .int) (fun _ z => by simp at z) (fun _ z => by simp at z) i
      exact ⟨n, t, rfl, rfl, z F1 H1 _ fq a2⟩
  · exact (show False from h).elim
end
end FS

set_option Elab.async false
set_option linter.all false
set_option maxRecDepth 100000
set_option maxHeartbeats 8000000
namespace FS
open PySem PySem.Spec PyProof.Rows L2

section
variable {W : Wd} {k : Nat} {N : List Str} {sc : Scope} {E : XK}
/-! ### __init__ of an error of one's own -/
/-- ns: the fields, the last one first -/
def spI (W : Wd) (C : Addr) (ns : List Str) : Sp := fun vs H Q E => ∃ a us, vs = .ref a :: us ∧ us.length = ns.length ∧ H a = some (exo a C none) ∧
  ∀ d H', H d = none → d ≠ a → H' a = some (exo a C (some d)) → H' d = some (exd d (ns.zip us.reverse)) → (∀ b, b ≠ a → b ≠ d → H' b = H b) → Q .non H'
def initS (N : List Str) (sc : Scope) (f : Str) (i : Nat) (st : Stmt) : Bool := match st with
  | .Assign [.Attribute (.Name s _) g _] (.Name x _) _ => decide (N[0]? = some s) && (visB sc s && (nmB s && (decide (f = g) && (decide (N[i]? = some x) && (visB sc x && nmB x)))))
  | _ => false
def initB (N : List Str) (sc : Scope) : List (Str × Nat) → List Stmt → Bool
  | [], ss => ss.isEmpty
  | (f, i) :: l, ss => (match ss with
    | s :: ss => initS N sc f i s && initB N sc l ss
    | [] => false)
def tInit (K : PySem.W.Frag) : List (Str × Nat) → TS
  | [] => tNext
  | (f, i) :: l => tSeq (tOst K f (tVar 0) (tVar i)) (tInit K l)
theorem ps_initS {X : Cx} (eN : X.N = N) (eS : X.env.scope = sc) {f : Str} {i : Nat} {st : Stmt} (h : initS N sc f i st = true) : PS X st (tOst X.K f (tVar 0) (tVar i)) := by
  unfold initS at h
  split at h
  · simp only [Bool.and_eq_true, decide_eq_true_eq] at h
    obtain ⟨h1, h2, h3, rfl, h4, h5, h6⟩ := h
    exact ps_ost (pe_var (by rw [eN]; exact h1) (by rw [eS]; exact visB_ok h2) (nmB_ok h3).1 (nmB_ok h3).2.1) (pe_var (by rw [eN]; exact h4) (by rw [eS]; exact visB_ok h5) (nmB_ok h6).1 (nmB_ok h6).2.1) (by rfl)
  · cases h
theorem pss_init {X : Cx} (eN : X.N = N) (eS : X.env.scope = sc) : ∀ {l : List (Str × Nat)} {ss : List Stmt}, initB N sc l ss = true → PSs X ss (tInit X.K l)
  | [], [], _ => pss_nil
  | [], _ :: _, h => by simp [initB] at h
  | (f, i) :: l, [], h => by simp [initB] at h
  | (f, i) :: l, s :: ss, h => by
    unfold initB at h
    have h := bt h
    exact pss_cons (ps_initS eN eS h.1) (pss_init eN eS h.2)
theorem tInit_ok {K : PySem.W.Frag} {C a d : Addr} (T : OexC K C) (da : d ≠ a) {D : L2.Ends} {σ : L2.St} (h0 : σ[0]? = some (some (.ref a))) : ∀ (L : List (Str × Nat × V)) (H : Hp) (fs : List (Str × V)), (∀ t ∈ L, PySem.W.findIn K (.ref C) t.1 = some none ∧ σ[t.2.1]? = some (some t.2.2)) →
    H a = some (exo a C (some d)) → H d = some (exd d fs) → fs.length + L.length ≤ 900 → (∀ H', H' a = some (exo a C (some d)) → H' d = some (exd d ((L.map fun t => (t.1, t.2.2)).reverse ++ fs)) → (∀ b, b ≠ a → b ≠ d → H' b = H b) → D.nx σ H') →
    tInit K (L.map fun t => (t.1, t.2.1)) D σ H
  | [], H, fs, _, ha, hd, _, q => q H ha hd fun _ _ _ => rfl
  | (f, i, y) :: L, H, fs, hL, ha, hd, hz, q => by
    obtain ⟨hf, hy⟩ := hL _ List.mem_cons_self
    refine ⟨y, hy, .ref a, h0, a, C, rfl, T, hf, .inr ⟨d, fs, ha, hd, by simp at hz; omega, ?_⟩⟩
    refine tInit_ok T da h0 L _ ((f, y) :: fs) (fun t ht => hL t (List.mem_cons_of_mem _ ht)) (by rw [upd_ne (Ne.symm da)]; exact ha) upd_same (by simp at hz ⊢; omega) fun H' h1 h2 h3 => ?_
    refine q H' h1 (by rw [h2]; simp) fun b hb1 hb2 => ?_
    rw [h3 b hb1 hb2, upd_ne hb2]
/-- its promise -/
theorem init_ok {K : PySem.W.Frag} {C : Addr} {f : Str} {i : Nat} {L : List (Str × Nat × V)} {y : V} {a : Addr} (T : OexC K C) {D : L2.Ends} {σ : L2.St} {H : Hp} (h0 : σ[0]? = some (some (.ref a))) (ha : H a = some (exo a C none)) (hn : L.length ≤ 800)
    (hL : ∀ t ∈ (f, i, y) :: L, PySem.W.findIn K (.ref C) t.1 = some none ∧ σ[t.2.1]? = some (some t.2.2))
    (q : ∀ d H', H d = none → d ≠ a → H' a = some (exo a C (some d)) → H' d = some (exd d (((f, i, y) :: L).map fun t => (t.1, t.2.2)).reverse) → (∀ b, b ≠ a → b ≠ d → H' b = H b) → D.nx σ H') :
    tInit K (((f, i, y) :: L).map fun t => (t.1, t.2.1)) D σ H := by
  obtain ⟨hf, hy⟩ := hL _ List.mem_cons_self
  refine ⟨y, hy, .ref a, h0, a, C, rfl, T, hf, .inl ⟨ha, fun d hd da => ?_⟩⟩
  refine tInit_ok T da h0 L _ [(f, y)] (fun t ht => hL t (List.mem_cons_of_mem _ ht)) upd_same (by rw [upd_ne da]; exact upd_same) (by simp; omega) fun H' h1 h2 h3 => ?_
  refine q d H' hd da h1 (by rw [h2]; simp) fun b hb1 hb2 => ?_
  rw [h3 b hb1 hb2, upd_ne hb1, upd_ne hb2]
structure RsS (W : Wd) (k : Nat) (c : Str) (ns : List Str) : Prop where
  ex : ∃ C fI fd ps j, W.mg c = some (.ref C) ∧ OexC W.K C ∧ PySem.W.findIn W.K (.ref C) "__init__" = some (some (.ref fI)) ∧ PySem.W.typeIn W.K (.ref fI) = some (.type "function") ∧
    FnOk W.P W.w W.K W.mg W.base (L2.CX W.P W.w) j fI fd ps (spI W C ns) ∧ j + 1 ≤ k ∧ Binds W.K fd ps [] ∧ ns.length ≤ 900
theorem Rps.reverse {F : Hp} : ∀ {vs : List V} {xs : List PV}, Rps W F vs xs → Rps W F vs.reverse xs.reverse
  | _, _, .nil => .nil
  | _, _, .cons h t => by
    rw [List.reverse_cons, List.reverse_cons]
    exact t.reverse.append (.cons h .nil)
def rsF (c : Str) (ns : List Str) (m : Loc → Tr (List Rv)) : Loc → Tr Fl := fun ρ => (m ρ).bind fun rs => match takes rs with
  | some xs => if xs.length = ns.length then .ret (.exn c ns xs.reverse) else .bad
  | none => .bad
theorem ps_rsX {a0 : Expr} {as : List Expr} {m : Loc → Tr (List Rv)} {c : Str} {ns : List Str} {p p2 pos : Pos} (R : RsS W k c ns) (g : glB sc c = true) (nm : nmB c = true) (pl : (a0 :: as).all plainB = true) (ha : PAX W k N sc (a0 :: as) m) :
    PSX W k N sc (.Raise (some (.Call (.Name c p) (a0 :: as) [] pos)) none p2) (rsF c ns m) := fun X E x => by
  obtain ⟨C, fI, fd, ps, j, h1, T, h2, h3, h4, h5, h6, h7⟩ := R.ex
  obtain ⟨p1, p2⟩ := pl_cons pl
  have F1 : FnOk X.prog X.w X.K X.mg X.base (L2.CX X.prog X.w) j fI fd ps (spI W C ns) := by
    rw [x.c.prog, x.c.w, x.c.K, x.c.mg, x.c.base]
    exact h4
  have mk := pmk_oex (X := X) (p := p) (pos := pos) (x := c) (dvs := []) (ds := []) (by rw [x.c.K]; exact T) (by rw [x.c.K]; exact h2) (by rw [x.c.K]; exact h3) F1 (x.c.room.mono h5) (by rw [x.c.K]; exact h6) .nil passL (x.c.gl g) (by rw [x.c.mg]; exact h1) (ha X E x.c) (nm1 nm) (star_cons p1) (star_all p2)
  refine PS.imp (ps_raise x.c.calm x.tk mk) fun D σ H ⟨F0, H0, Fb, F, ρ, fp, a, h⟩ => ?_
  refine (a.stepA h).imp fun vs H1 ⟨rs, F1, gg, a1, e1, q, z⟩ => ?_
  obtain ⟨F2, e2, q2⟩ := q.froze e1 a.fo
  cases ht : takes rs with
  | none => rw [ht] at z; exact (show False from z).elim
  | some xs =>
    rw [ht] at z
    dsimp only at z
    by_cases hl : xs.length = ns.length
    · rw [if_pos hl] at z
      have t := takes_ok q2 ht
      have tl := t.length
      refine ⟨by omega, fun b hb => ⟨b, vs, by rw [List.append_nil], by omega, upd_same, fun d H' hd db k1 k2 k3 => ⟨rfl, d, ns.zip vs.reverse, k1, k2, ?_, ?_⟩⟩⟩
      · rw [upd_ne db] at hd
        exact hd
      · have hd1 : H1 d = none := by
          rw [upd_ne db] at hd
          exact hd
        have eH : upd (del H' b) d (.xd (ns.zip vs.reverse)) = upd H1 d (.xd (ns.zip vs.reverse)) := by
          funext y
          by_cases y1 : y = d
          · rw [y1, upd_same, upd_same]
          · rw [upd_ne y1, upd_ne y1]
            by_cases y2 : y = b
            · rw [y2, del_same, hb]
            · rw [del_ne y2, k3 y y2 y1, upd_ne y2]
        rw [eH]
        have e := (a.e.trans e2)
        have el := e.g.laid (o := .xd (ns.zip vs.reverse)) hd1
        refine z F2 _ C (some d) (e.trans el) h1 ⟨e.free hd1, _, upd_same, ?_, ?_⟩
        · exact List.map_fst_zip (by rw [List.length_reverse]; omega)
        · rw [List.map_snd_zip (by rw [List.length_reverse]; omega)]
          exact t.reverse
    · rw [if_neg hl] at z
      exact (show False from z).elim
/-- an error class without an __init__ of its own -/
structure Rs0 (W : Wd) (c : Str) : Prop where
  ex : ∃ C, W.mg c = some (.ref C) ∧ PySem.W.excIn W.K C [.type "ValueError", .type "Exception", .type "BaseException", .type "object"] "ValueError.__new__" = true ∧ PySem.W.keepIn W.K (.ref C) = true ∧ PySem.W.subIn W.K (.ref C) (.type "BaseException") = some true ∧ PySem.W.typeIn W.K (.ref C) = some (.type "type")
theorem pmk_own0 {X : Cx} {C : Addr} {bmB : List Value} {B newId initId : String} {x : Str} {p pos : Pos} (F : ExcBaseFacts B newId initId bmB) (q : PySem.W.excIn X.K C bmB newId = true) (gC : X.mg x = some (.ref C)) (kC : PySem.W.keepIn X.K (.ref C) = true) (r : Raises X (.ref C)) (hg : Gl X x) (hdb : (x == ("__debug__" : Str)) = false) :
    PMk X (.Call (.Name x p) [] [] pos) (fun σ H Q => Q (.ref C) none H) := by
  intro pins s σ H Q I h
  refine wpAny_Call_Name_kw (ld_glob I hg gC (PySem.W.callWith_K0 I.kIn kC ?_) hdb)
  obtain ⟨bm, N, nm, qn, bs, hdct, sn, sub, ab, col, dd, k0, k1, k2, k3, k5, mN, hC, hN, hni, T⟩ := exc_obj I.kIn q
  exact wpAny_call_exc_subT F T hC hN hni (fun h' e hm => mk_of I hm r h (I.hok.gone hm.new)) (Nat.zero_le _)
theorem ps_rs0X {c : Str} {p p2 pos : Pos} (R : Rs0 W c) (g : glB sc c = true) (nm : nmB c = true) : PSX W k N sc (.Raise (some (.Call (.Name c p) [] [] pos)) none p2) (fun _ => .ret (.exn c [] [])) := fun X E x => by
  obtain ⟨C, h1, h2, h3, h4, h5⟩ := R.ex
  have mk := pmk_own0 (X := X) (p := p) (pos := pos) PySem.F.excBase_ValueError (by rw [x.c.K]; exact h2) (by rw [x.c.mg]; exact h1) (by rw [x.c.K]; exact h3) (raises_own (by rw [x.c.K]; exact h4) (by rw [x.c.K]; exact h5)) (x.c.gl g) (nm1 nm)
  refine PS.imp (ps_raise x.c.calm x.tk mk) fun D σ H ⟨F0, H0, Fb, F, ρ, fp, a, h⟩ => ?_
  exact h F H C none a.e h1 ⟨rfl, rfl⟩
end
end FS

set_option Elab.async false
set_option linter.all false
set_option maxRecDepth 100000
set_option maxHeartbeats 8000000
namespace FS
open PySem PySem.Spec PyProof.Rows L2

/-! ### a call whose fault is told -/
structure FltP where
  cls : List Str
  res : Str → List Str → List PV → Option (List PV)
def faultV (p : FltP) : Tr Rv → Tr Rv
  | .ret (.ok _) => .ok (false, .non)
  | .ret (.exn c ns xs) => if c ∈ p.cls then (match p.res c ns xs with
    | some [y] => if y.st = true then .ok (false, y) else .bad
    | _ => .bad) else .bad
  | .ret .bad => .bad
  | .draw n k => .draw n fun i => faultV p (k i)
theorem faultV_W {p : FltP} {P : Out Rv → Prop} : ∀ {m : Tr Rv}, (faultV p m).W P → m.W fun o => (faultV p (.ret o)).W P
  | .ret o, h => h
  | .draw n k, ⟨a, g⟩ => ⟨a, fun i x y => faultV_W (g i x y)⟩
def fltB (N : List Str) (sc : Scope) (e : Ex) : Expr → Bool
  | .Call (.Name f _) [.Lambda ⟨[], [], none, [], [], none, []⟩ body scope _] [] _ => decide (f = "_law_fault") && (glB sc f && (hasCell sc && (LamX.lamSB sc scope && chkE N scope e body)))
  | _ => false
def FltS (W : Wd) (k : Nat) (p : FltP) (e : Ex) : Prop := ∀ (N : List Str) (sc : Scope) (x : Expr) (X : Cx) (E : XK), fltB N sc e x = true → CxF W k N sc E X → PE X x (tE W E fun ρ => faultV p (evE e ρ))
mutual
inductive S where
  | ex (e : Ex)
  | doc
  | pass
  | brk
  | cnt
  | ret (e : Ex)
  | retN
  | nev
  | set (i : Nat) (e : Ex)
  | unp (t : Tg) (e : Ex)
  | par2 (i j : Nat) (es : Exs)
  | par3 (i j l : Nat) (es : Exs)
  | parN (is : List Nat) (es : Exs)
  | ite (c : Te) (a b : Ss)
  | fr (t : Tg) (it : ItX) (b : Ss)
  | whl (n : Nat) (c : Te) (b : Ss)
  | app (i : Nat) (e : Ex)
  | ext (i : Nat) (e : Ex)
  | spop (i j : Nat)
  | apop (i j : Nat) (e : Ex)
  | put (i : Nat) (k e : Ex)
  | put2 (i : Nat) (k j e : Ex)
  | dput (i : Nat) (k e : Ex)
  | aug (i : Nat) (neg : Bool) (e : Ex)
  | rs (c : Str) (ns : List Str) (es : Exs)
  | rs0 (c : Str)
  | retF (p : FltP) (e : Ex)
inductive Ss where
  | nil
  | cons (s : S) (ss : Ss)
  | frz (i : Nat) (ss : Ss)
end
mutual
def exS : S → Loc → Tr Fl
  | .ex e => fun ρ => (evE e ρ).bind fun _ => .ok (.nx ρ)
  | .doc => fun ρ => .ok (.nx ρ)
  | .pass => fun ρ => .ok (.nx ρ)
  | .brk => fun ρ => .ok (.bk ρ)
  | .cnt => fun ρ => .ok (.ct ρ)
  | .ret e => fun ρ => (evE e ρ).bind fun r => .ok (.rt r.2)
  | .retN => fun ρ => .ok (.rt .non)
  | .nev => fun ρ => .bad
  | .set i e => setF i (evE e)
  | .unp t e => unpF t (evE e)
  | .par2 i j es => par2F i j (evs es)
  | .par3 i j l es => par3F i j l (evs es)
  | .parN is es => parNF is (evs es)
  | .ite c a b => iteF (evT c) (exB a) (exB b)
  | .fr t it b => forF t (evI it) (exB b)
  | .whl n c b => whlF (evT c) (exB b) n
  | .app i e => appF i (evE e)
  | .ext i e => extF i (evE e)
  | .spop i j => spopF i j
  | .apop i j e => apopF i j (evE e)
  | .put i k e => putF i (evE k) (evE e)
  | .put2 i k j e => put2F i (evE k) (evE j) (evE e)
  | .dput i k e => dputF i (evE k) (evE e)
  | .aug i neg e => augF i (augOp neg) (evE e)
  | .rs c ns es => rsF c ns (evs es)
  | .rs0 c => fun _ => .ret (.exn c [] [])
  | .retF p e => fun ρ => (faultV p (evE e ρ)).bind fun r => .ok (.rt r.2)
def exB : Ss → Loc → Tr Fl
  | .nil => fun ρ => .ok (.nx ρ)
  | .cons s ss => sqF (exS s) (exB ss)
  | .frz i ss => sqF (frzL i) (exB ss)
end
def runF (l : Nat) (n : Nat) (ss : Ss) : Fn := fun xs => (exB ss (xs.map some ++ List.replicate (l - n) none)).bind fun f => match f with
  | .rt x => .ok x
  | .nx _ => .ok .non
  | _ => .bad
mutual
def ndS : S → List Need
  | .ex e => ndE e
  | .ret e => ndE e
  | .set _ e => ndE e
  | .unp _ e => ndE e
  | .par2 _ _ es => nds es
  | .par3 _ _ _ es => nds es
  | .parN _ es => nds es
  | .ite c a b => ndT c ++ (ndB a ++ ndB b)
  | .fr _ it b => ndI it ++ ndB b
  | .whl _ c b => ndT c ++ ndB b
  | .app _ e => ndE e
  | .ext _ e => ndE e
  | .apop _ _ e => ndE e
  | .put _ k e => ndE k ++ ndE e
  | .put2 _ k j e => ndE k ++ (ndE j ++ ndE e)
  | .dput _ k e => ndE k ++ ndE e
  | .aug _ _ e => ndE e
  | .rs _ _ es => nds es
  | .doc => []
  | .pass => []
  | .brk => []
  | .cnt => []
  | .retN => []
  | .nev => []
  | .spop _ _ => []
  | .rs0 _ => []
  | .retF _ _ => []
def ndB : Ss → List Need
  | .nil => []
  | .cons s ss => ndS s ++ ndB ss
  | .frz _ ss => ndB ss
end
/-- what raising, faults ask -/
inductive RN where
  | rs (c : Str) (ns : List Str)
  | flt (p : FltP) (e : Ex)
mutual
def rsS : S → List RN
  | .ite _ a b => rsB a ++ rsB b
  | .fr _ _ b => rsB b
  | .whl _ _ b => rsB b
  | .rs c ns _ => [.rs c ns]
  | .rs0 c => [.rs c []]
  | .retF p e => [.flt p e]
  | _ => []
def rsB : Ss → List RN
  | .nil => []
  | .cons s ss => rsS s ++ rsB ss
  | .frz _ ss => rsB ss
end
def RN.holds (W : Wd) (k : Nat) : RN → Prop
  | .rs c [] => Rs0 W c
  | .rs c (n :: ns) => RsS W k c (n :: ns)
  | .flt p e => FltS W k p e
def AllR (W : Wd) (k : Nat) : List RN → Prop
  | [] => True
  | p :: r => p.holds W k ∧ AllR W k r
theorem AllR.app {W : Wd} {k : Nat} : ∀ {a b : List RN}, AllR W k (a ++ b) → AllR W k a ∧ AllR W k b
  | [], b, h => ⟨trivial, h⟩
  | n :: a, b, ⟨h, t⟩ => ⟨⟨h, (AllR.app t).1⟩, (AllR.app t).2⟩
def isComp : Ex → Bool
  | .comp .. => true
  | _ => false
def swB (y : Str) (py : Pos) : Expr → Bool
  | .ListComp _ _ scope pos => swapB y py pos scope
  | _ => false
def anyB : Str → Bool := fun _ => true
def mB (N : List Str) (sc : Scope) (i : Nat) (x : Str) : Bool := decide (N[i]? = some x) && (visB sc x && nmB x)
mutual
def chkS (N : List Str) (sc : Scope) : S → Stmt → Bool
  | .ex e, x => (match x with | .Expr y _ => noLc y && chkE N sc e y | _ => false)
  | .doc, x => (match x with | .Expr (.Constant (.str _) _ _) _ => true | _ => false)
  | .pass, x => (match x with | .Pass _ => true | _ => false)
  | .brk, x => (match x with | .Break _ => true | _ => false)
  | .cnt, x => (match x with | .Continue _ => true | _ => false)
  | .ret e, x => (match x with | .Return (some y) _ => chkE N sc e y | _ => false)
  | .retN, x => (match x with | .Return none _ => true | _ => false)
  | .nev, _ => true
  | .set i e, x => (match x with
    | .Assign [.Name y p2] ex _ => decide (N[i]? = some y) && (chkE N sc e ex && ((noLc ex && storeB anyB sc y) || (cellB sc y || (isComp e && (locB sc y && (swB y p2 ex && decide (sc.kind = .function)))))))
    | _ => false)
  | .unp t e, x => (match x with | .Assign [tg] ex _ => tgB anyB N sc t tg && (isTupE tg && (noLc ex && (noTup ex && chkE N sc e ex))) | _ => false)
  | .par2 i j es, x => (match x with
    | .Assign [.Tuple [.Name x px, .Name y py] _ _] (.Tuple [a, b] _ _) _ => decide (sc.kind = .function) && (decide (N[i]? = some x) && (decide (N[j]? = some y) && (decide (i ≠ j) && (locB sc x && (locB sc y && ((py.line == px.line) && ([a, b].all plainB && (notCs [a, b] && chks N sc es [a, b]))))))))
    | _ => false)
  | .par3 i j l es, x => (match x with
    | .Assign [.Tuple [.Name x px, .Name y py, .Name z pz] _ _] (.Tuple [a, b, c] _ _) _ => decide (sc.kind = .function) && (decide (N[i]? = some x) && (decide (N[j]? = some y) && (decide (N[l]? = some z) && (decide (i ≠ j) && (decide (i ≠ l) && (decide (j ≠ l) && (locB sc x && (locB sc y && (locB sc z && ((py.line == px.line) && ((pz.line == px.line) && ([a, b, c].all plainB && (notCs [a, b, c] && chks N sc es [a, b, c])))))))))))))
    | _ => false)
  | .parN is es, x => (match x with | .Assign [.Tuple ts _ _] (.Tuple vs _ _) _ => namesB anyB N sc is ts && (ts.any (notLoc sc) && chks N sc es vs) | _ => false)
  | .ite c a b, x => (match x with | .If t p q _ => chkT N sc c t && (chkB N sc a p && chkB N sc b q) | _ => false)
  | .fr t it b, x => (match x with | .For tg i body [] _ => plainB i && (tgB anyB N sc t tg && ((!needT it || isTupE tg) && (chkI N sc tg it i && chkB N sc b body))) | _ => false)
  | .whl _ c b, x => (match x with | .While t body [] _ => chkT N sc c t && chkB N sc b body | _ => false)
  | .app i e, x => (match x with | .Expr (.Call (.Attribute (.Name y _) m p2) [a] [] p3) _ => decide (m = "append") && (mB N sc i y && (plainB a && ((p2.endLine == p3.line) && chkE N sc e a))) | _ => false)
  | .ext i e, x => (match x with | .Expr (.Call (.Attribute (.Name y _) m p2) [a] [] p3) _ => decide (m = "extend") && (mB N sc i y && (plainB a && ((p2.endLine == p3.line) && chkE N sc e a))) | _ => false)
  | .spop i j, x => (match x with | .Assign [.Name y _] (.Call (.Attribute (.Name z _) m p2) [] [] p3) _ => decide (m = "pop") && (decide (N[i]? = some y) && (storeB anyB sc y && (mB N sc j z && (p2.endLine == p3.line)))) | _ => false)
  | .apop i j e, x => (match x with | .Expr (.Call (.Attribute (.Name y _) m p2) [.Call (.Attribute (.Name z _) m2 p5) [a] [] p6] [] p3) _ => decide (m = "append") && (decide (m2 = "pop") && (mB N sc i y && (mB N sc j z && (plainB a && ((p2.endLine == p3.line) && ((p5.endLine == p6.line) && chkE N sc e a)))))) | _ => false)
  | .put i k e, x => (match x with | .Assign [.Subscript (.Name y _) kx _] ex _ => mB N sc i y && (noLc ex && (noTup ex && (plainB kx && (chkE N sc e ex && chkE N sc k kx)))) | _ => false)
  | .put2 i k j e, x => (match x with | .Assign [.Subscript (.Subscript (.Name y _) kx _) jx _] ex _ => mB N sc i y && (noLc ex && (noTup ex && (plainB kx && (plainB jx && (chkE N sc e ex && (chkE N sc k kx && chkE N sc j jx)))))) | _ => false)
  | .dput i k e, x => (match x with | .Assign [.Subscript (.Name y _) kx _] ex _ => mB N sc i y && (noLc ex && (chkE N sc e ex && chkE N sc k kx)) | _ => false)
  | .aug i neg e, x => (match x with | .AugAssign (.Name y _) op ex _ => decide (op = if neg then .Sub else .Add) && (decide (N[i]? = some y) && (storeB anyB sc y && chkE N sc e ex)) | _ => false)
  | .rs c ns es, x => (!ns.isEmpty) && (match x with | .Raise (some (.Call (.Name y _) (a :: as) [] _)) none _ => decide (y = c) && (glB sc y && (nmB y && ((a :: as).all plainB && chks N sc es (a :: as)))) | _ => false)
  | .rs0 c, x => (match x with | .Raise (some (.Call (.Name y _) [] [] _)) none _ => decide (y = c) && (glB sc y && nmB y) | _ => false)
  | .retF _ e, x => (match x with | .Return (some y) _ => fltB N sc e y | _ => false)
def chkB (N : List Str) (sc : Scope) : Ss → List Stmt → Bool
  | .nil, xs => xs.isEmpty
  | .cons s ss, xs => (match xs with | x :: xs => chkS N sc s x && chkB N sc ss xs | [] => false)
  | .frz _ ss, xs => chkB N sc ss xs
end
section
variable {W : Wd} {k : Nat} {N : List Str} {sc : Scope}
theorem ps_retFX {x : Expr} {e : Ex} {pp : FltP} {p : Pos} (he : FltS W k pp e) (h : fltB N sc e x = true) : PSX W k N sc (.Return (some x) p) (fun ρ => (faultV pp (evE e ρ)).bind fun r => .ok (.rt r.2)) := fun X E c =>
  PS.imp (ps_ret (he N sc x X E h c)) fun D σ H ⟨F0, H0, Fb, F, ρ, fp, a, h⟩ =>
    (a.stepN pExn pBad h).imp fun x H1 ⟨r, F1, a1, e1, q, z⟩ => by
      obtain ⟨f, ro, n, m⟩ := q
      refine z F1 H1 x f a1.e ro fun b hb => ?_
      cases hr : r.1 with
      | false => exact a.e.free (n hr b hb)
      | true => exact a.fr b (m hr b hb)
theorem mB_ok {i : Nat} {x : Str} (h : mB N sc i x = true) : N[i]? = some x ∧ visB sc x = true ∧ nmB x = true := ⟨dt (bt h).1, (bt (bt h).2).1, (bt (bt h).2).2⟩
theorem set_comp {e : Ex} {ex : Expr} {j : Nat} {y : Str} {p p2 : Pos} (hc : isComp e = true) (h : chkE N sc e ex = true) (nd : AllN W k (ndE e)) (hj : N[j]? = some y) (hl : locB sc y = true) (hsw : swB y p2 ex = true) (hk : sc.kind = .function) : PSX W k N sc (.Assign [.Name y p2] ex p) (setF j (evE e)) := by
  cases e with
  | comp elt tg it cond own =>
    unfold chkE at h
    split at h
    · rename_i e t i ifs z scope p
      have h := bt h
      have e0 := dt h.1; subst e0
      have h1 := bt h.2
      have h2 := bt h1.2
      have h3 := bt h2.2
      have h4 := bt h3.2
      have h5 := bt h4.2
      have h6 := bt h5.2
      have h7 := bt h6.2
      have nd := AllN.app nd
      have nd2 := AllN.app nd.2
      have hc : PCX W k N (relS scope sc) ifs (evT cond) := by
        have h8 := h7.1
        split at h8
        · split at h8
          · have : evT .yes = fun _ => Tr.ok true := by funext ρ; simp only [evT]
            rw [this]; exact pc_yes
          · cases h8
        · exact pc_one (soT cond h8 nd2.1)
        · cases h8
      have hs : ∀ j ∈ tgIs tg, j ∈ own.map (·.2) := fun j hj => by
        have := List.all_eq_true.mp h5.1 j hj
        simpa using this
      have hi := soI it h6.1 (t := t) (fun q => by
        have := h3.1
        rw [q] at this
        simpa using this) nd.1
      refine (ps_setLcX (sce := sc) hj hl hsw hk h1.1 h2.1 h4.1 hs hi hc (soE elt h7.2 nd2.2)).cast fun ρ => ?_
      unfold setF
      simp only [evE]
      rfl
    · cases h
  | _ => cases hc
mutual
theorem soS : ∀ (s : S) {st : Stmt}, chkS N sc s st = true → AllN W k (ndS s) → AllR W k (rsS s) → PSX W k N sc st (exS s)
  | .ex e, st, h, nd, rs => by
    unfold chkS at h
    split at h
    · have h := bt h
      exact (ps_exX h.1 (soE e h.2 nd)).cast fun ρ => by simp only [exS]
    · cases h
  | .doc, st, h, nd, rs => by
    unfold chkS at h
    split at h
    · exact ps_docX.cast fun ρ => by simp only [exS]
    · cases h
  | .pass, st, h, nd, rs => by
    unfold chkS at h
    split at h
    · exact ps_passX.cast fun ρ => by simp only [exS]
    · cases h
  | .brk, st, h, nd, rs => by
    unfold chkS at h
    split at h
    · exact ps_brkX.cast fun ρ => by simp only [exS]
    · cases h
  | .cnt, st, h, nd, rs => by
    unfold chkS at h
    split at h
    · exact ps_cntX.cast fun ρ => by simp only [exS]
    · cases h
  | .ret e, st, h, nd, rs => by
    unfold chkS at h
    split at h
    · exact (ps_retX (soE e h nd)).cast fun ρ => by simp only [exS]
    · cases h
  | .retN, st, h, nd, rs => by
    unfold chkS at h
    split at h
    · exact ps_retNX.cast fun ρ => by simp only [exS]
    · cases h
  | .nev, st, h, nd, rs => ps_nevX.cast fun ρ => by simp only [exS]
  | .set i e, st, h, nd, rs => by
    unfold chkS at h
    split at h
    · have h := bt h
      have h2 := bt h.2
      rcases Bool.or_eq_true _ _ |>.mp h2.2 with h3 | h3
      · have h3 := bt h3
        exact (ps_setCX (dt h.1) h3.2 h3.1 (soE e h2.1 nd)).cast fun ρ => by simp only [exS]
      · rcases Bool.or_eq_true _ _ |>.mp h3 with h3 | h3
        · exact (ps_setLcC (dt h.1) h3 (soE e h2.1 nd)).cast fun ρ => by simp only [exS]
        have h3 := bt h3
        have h4 := bt h3.2
        have h5 := bt h4.2
        exact (set_comp h3.1 h2.1 nd (dt h.1) h4.1 h5.1 (dt h5.2)).cast fun ρ => by simp only [exS]
    · cases h
  | .unp t e, st, h, nd, rs => by
    unfold chkS at h
    split at h
    · have h := bt h
      have h2 := bt h.2
      have h3 := bt h2.2
      have h4 := bt h3.2
      exact (ps_unpX h.1 h2.1 h3.1 h4.1 (soE e h4.2 nd)).cast fun ρ => by simp only [exS]
    · cases h
  | .par2 i j es, st, h, nd, rs => by
    unfold chkS at h
    split at h
    · have h := bt h
      have h1 := bt h.2
      have h2 := bt h1.2
      have h3 := bt h2.2
      have h4 := bt h3.2
      have h5 := bt h4.2
      have h6 := bt h5.2
      have h7 := bt h6.2
      have h8 := bt h7.2
      exact (ps_par2X (dt h.1) (dt h1.1) (dt h2.1) (dt h3.1) h4.1 h5.1 h6.1 h7.1 h8.1 (soA es h8.2 nd)).cast fun ρ => by simp only [exS]
    · cases h
  | .par3 i j l es, st, h, nd, rs => by
    unfold chkS at h
    split at h
    · have h := bt h
      have h1 := bt h.2
      have h2 := bt h1.2
      have h3 := bt h2.2
      have h4 := bt h3.2
      have h5 := bt h4.2
      have h6 := bt h5.2
      have h7 := bt h6.2
      have h8 := bt h7.2
      have h9 := bt h8.2
      have h10 := bt h9.2
      have h11 := bt h10.2
      have h12 := bt h11.2
      have h13 := bt h12.2
      exact (ps_par3X (dt h.1) (dt h1.1) (dt h2.1) (dt h3.1) (dt h4.1) (dt h5.1) (dt h6.1) h7.1 h8.1 h9.1 h10.1 h11.1 h12.1 h13.1 (soA es h13.2 nd)).cast fun ρ => by simp only [exS]
    · cases h
  | .parN is es, st, h, nd, rs => by
    unfold chkS at h
    split at h
    · have h := bt h
      have h1 := bt h.2
      exact (ps_parNX h.1 h1.1 (soA es h1.2 nd)).cast fun ρ => by simp only [exS]
    · cases h
  | .ite c a b, st, h, nd, rs => by
    unfold chkS at h
    split at h
    · have h := bt h
      have h2 := bt h.2
      have nd := AllN.app nd
      have nd2 := AllN.app nd.2
      have rs := AllR.app rs
      exact (ps_iteX (soT c h.1 nd.1) (soB a h2.1 nd2.1 rs.1) (soB b h2.2 nd2.2 rs.2)).cast fun ρ => by simp only [exS]
    · cases h
  | .fr t it b, st, h, nd, rs => by
    unfold chkS at h
    split at h
    · have h := bt h
      have h2 := bt h.2
      have h3 := bt h2.2
      have h4 := bt h3.2
      have nd := AllN.app nd
      refine (ps_forX h.1 h2.1 (soI it h4.1 (fun q => ?_) nd.1) (soB b h4.2 nd.2 rs)).cast fun ρ => by simp only [exS]
      have := h3.1
      rw [q] at this
      simpa using this
    · cases h
  | .whl n c b, st, h, nd, rs => by
    unfold chkS at h
    split at h
    · have h := bt h
      have nd := AllN.app nd
      exact (ps_whlX n (soT c h.1 nd.1) (soB b h.2 nd.2 rs)).cast fun ρ => by simp only [exS]
    · cases h
  | .app i e, st, h, nd, rs => by
    unfold chkS at h
    split at h
    · have h := bt h
      have e0 := dt h.1; subst e0
      have h1 := bt h.2
      obtain ⟨m1, m2, m3⟩ := mB_ok h1.1
      have h2 := bt h1.2
      have h3 := bt h2.2
      exact (ps_appX m1 m2 m3 h2.1 h3.1 (soE e h3.2 nd)).cast fun ρ => by simp only [exS]
    · cases h
  | .ext i e, st, h, nd, rs => by
    unfold chkS at h
    split at h
    · have h := bt h
      have e0 := dt h.1; subst e0
      have h1 := bt h.2
      obtain ⟨m1, m2, m3⟩ := mB_ok h1.1
      have h2 := bt h1.2
      have h3 := bt h2.2
      exact (ps_extX m1 m2 m3 h2.1 h3.1 (soE e h3.2 nd)).cast fun ρ => by simp only [exS]
    · cases h
  | .spop i j, st, h, nd, rs => by
    unfold chkS at h
    split at h
    · have h := bt h
      have e0 := dt h.1; subst e0
      have h1 := bt h.2
      have h2 := bt h1.2
      have h3 := bt h2.2
      obtain ⟨m1, m2, m3⟩ := mB_ok h3.1
      exact (ps_spopX (dt h1.1) h2.1 m1 m2 m3 h3.2).cast fun ρ => by simp only [exS]
    · cases h
  | .apop i j e, st, h, nd, rs => by
    unfold chkS at h
    split at h
    · have h := bt h
      have e0 := dt h.1; subst e0
      have h0 := bt h.2
      have e0 := dt h0.1; subst e0
      have h1 := bt h0.2
      obtain ⟨m1, m2, m3⟩ := mB_ok h1.1
      have h2 := bt h1.2
      obtain ⟨l1, l2, l3⟩ := mB_ok h2.1
      have h3 := bt h2.2
      have h4 := bt h3.2
      have h5 := bt h4.2
      exact (ps_apopX m1 m2 m3 l1 l2 l3 h3.1 h4.1 h5.1 (soE e h5.2 nd)).cast fun ρ => by simp only [exS]
    · cases h
  | .put i kx e, st, h, nd, rs => by
    unfold chkS at h
    split at h
    · have h := bt h
      obtain ⟨m1, m2, m3⟩ := mB_ok h.1
      have h1 := bt h.2
      have h2 := bt h1.2
      have h3 := bt h2.2
      have h4 := bt h3.2
      have nd := AllN.app nd
      exact (ps_putX m1 m2 m3 h1.1 h2.1 h3.1 (soE e h4.1 nd.2) (soE kx h4.2 nd.1)).cast fun ρ => by simp only [exS]
    · cases h
  | .put2 i kx jx e, st, h, nd, rs => by
    unfold chkS at h
    split at h
    · have h := bt h
      obtain ⟨m1, m2, m3⟩ := mB_ok h.1
      have h1 := bt h.2
      have h2 := bt h1.2
      have h3 := bt h2.2
      have h4 := bt h3.2
      have h5 := bt h4.2
      have h6 := bt h5.2
      have nd := AllN.app nd
      have nd2 := AllN.app nd.2
      exact (ps_put2X m1 m2 m3 h1.1 h2.1 h3.1 h4.1 (soE e h5.1 nd2.2) (soE kx h6.1 nd.1) (soE jx h6.2 nd2.1)).cast fun ρ => by simp only [exS]
    · cases h
  | .dput i kx e, st, h, nd, rs => by
    unfold chkS at h
    split at h
    · have h := bt h
      obtain ⟨m1, m2, m3⟩ := mB_ok h.1
      have h1 := bt h.2
      have h2 := bt h1.2
      have nd := AllN.app nd
      exact (ps_dputX m1 m2 m3 h1.1 (soE e h2.1 nd.2) (soE kx h2.2 nd.1)).cast fun ρ => by simp only [exS]
    · cases h
  | .aug i neg e, st, h, nd, rs => by
    unfold chkS at h
    split at h
    · have h := bt h
      have e0 := dt h.1; subst e0
      have h1 := bt h.2
      have h2 := bt h1.2
      exact (ps_augX (dt h1.1) h2.1 (soE e h2.2 nd)).cast fun ρ => by simp only [exS]
    · cases h
  | .rs0 c, st, h, nd, rs => by
    unfold chkS at h
    split at h
    · have h := bt h
      have e0 := dt h.1; subst e0
      exact (ps_rs0X rs.1 (bt h.2).1 (bt h.2).2).cast fun ρ => by simp only [exS]
    · cases h
  | .rs c [] es, st, h, nd, rs => by
    unfold chkS at h
    cases h
  | .rs c (n0 :: nr) es, st, h, nd, rs => by
    unfold chkS at h
    have h := (bt h).2
    split at h
    · have h := bt h
      have e0 := dt h.1; subst e0
      have h1 := bt h.2
      have h2 := bt h1.2
      have h3 := bt h2.2
      exact (ps_rsX rs.1 h1.1 h2.1 h3.1 (soA es h3.2 nd)).cast fun ρ => by simp only [exS]
    · cases h
  | .retF p e, st, h, nd, rs => by
    unfold chkS at h
    split at h
    · exact (ps_retFX rs.1 h).cast fun ρ => by simp only [exS]
    · cases h
theorem soB : ∀ (s : Ss) {st : List Stmt}, chkB N sc s st = true → AllN W k (ndB s) → AllR W k (rsB s) → PBX W k N sc st (exB s)
  | .nil, st, h, nd, rs => by
    unfold chkB at h
    have : st = [] := by cases st <;> first | rfl | cases h
    subst this
    exact pb_nil.cast fun ρ => by simp only [exB]
  | .cons s ss, st, h, nd, rs => by
    unfold chkB at h
    split at h
    · have h := bt h
      have nd := AllN.app nd
      have rs := AllR.app rs
      exact (pb_cons (soS s h.1 nd.1 rs.1) (soB ss h.2 nd.2 rs.2)).cast fun ρ => by simp only [exB]
    · cases h
  | .frz i ss, st, h, nd, rs => by
    unfold chkB at h
    exact (pb_ghost (gh_frz i) (soB ss h nd rs)).cast fun ρ => by simp only [exB]
end
end
/-! ### a def by its body -/
theorem EnvR.nones {W : Wd} {F H : Hp} : ∀ n : Nat, EnvR W F H (List.replicate n Option.none) (List.replicate n Option.none) []
  | 0 => .nil
  | n + 1 => .none (EnvR.nones n)
theorem EnvR.start {W : Wd} {F H : Hp} (n : Nat) : ∀ {vs : List V} {xs : List PV}, Rps W F vs xs → EnvR W F H (vs.map Option.some ++ List.replicate n Option.none) (xs.map Option.some ++ List.replicate n Option.none) []
  | _, _, .nil => EnvR.nones n
  | _, _, .cons h t => EnvR.some (f := []) (.st h) (EnvR.start n t) (fun _ z => by simp at z)
theorem FnS.of {W : Wd} {k n : Nat} {x qual : Str} {params : Arguments} {body : List Stmt} {scope : Scope} {fa : Addr} {fd : FuncData} {N ps : List Str} (F : FunD W.K x qual params body scope [] [] fa fd) (hm : W.mg x = some (.ref fa)) (b : Binds W.K fd ps []) (sc : FnScope N ps scope) (hps : ps.length = n)
    (ss : Ss) (hc : chkB N scope ss body = true) (nd : AllN W k (ndB ss)) (rs : AllR W k (rsB ss)) (hl : W.T ≠ [] → hasCell scope = true → LamAt W fd.code (qual ++ ".<locals>.") := by exact fun _ z => by cases z) : FnS W (k + 1) x n (runF N.length n ss) := by
  refine ⟨⟨fa, fd, ps, hm, F.kp, b, hps, ?_⟩⟩
  refine fn_ofG F sc (fun vs H Q E h => ?_) fun cdv hcd A outer s H vs Q E hgd hr h => ?_
  · obtain ⟨_, _, h1, _⟩ := h
    rw [h1, hps]
  · obtain ⟨F0, xs, h1, g, r, h⟩ := h
    let X := cxOf (L2.CX W.P W.w) W.P W.w W.K W.mg W.base N qual scope fa cdv A outer s H E
    have tk : L2.Takes X (fun cls d _ H => E cls d H) := takes_of rfl rfl rfl rfl
    have cx : CxF W k N scope E X := ⟨⟨rfl, rfl, rfl, rfl, rfl, sc.nd, rfl, rfl, rfl, hr, fun pins σ H s e s' I c => passAt tk σ pins H s e s' I c, hgd⟩, passes_of rfl, fun _ => rfl, tk, fun z y => by have h0 := hl z y; rw [hcd] at h0; exact h0⟩
    refine ⟨_, soB ss hc nd rs X E cx, F0, H, F0, F0, xs.map some ++ List.replicate (N.length - n) none, [], ⟨Ext.refl g, ?_, fun _ z => by simp at z, fun _ _ q => q⟩, Tr.W_imp (fun o ho => ?_) (Tr.W_bind.mp h)⟩
    · show EnvR W F0 H (vs.map some ++ List.replicate (N.length - vs.length) none) _ []
      rw [h1]
      exact EnvR.start _ r
    · cases o with
      | exn c ns xs => exact ho
      | bad => exact ho
      | ok f =>
        cases f with
        | nx ρ => exact fun F1 H1 σ fp a => ho F1 H1 .non [] a.e (.st .non) (fun _ z => by simp at z)
        | rt x => exact fun F1 H1 v fp e r n => ho F1 H1 v fp e r n
        | bk ρ => exact (show False from ho).elim
        | ct ρ => exact (show False from ho).elim
end FS

set_option Elab.async false
set_option linter.all false
set_option maxRecDepth 100000
set_option maxHeartbeats 8000000
namespace FS
open PySem PySem.Spec PyProof.Rows L2

/-! ### the pen -/
abbrev rPl : R2 := rI0 fun i j => .int (i + j)
abbrev rMi : R2 := rI0 fun i j => .int (i - j)
abbrev rMu : R2 := rI CMul fun i j => .int (i * j)
abbrev rMo : R2 := rI (fun _ j => 0 < j) fun i j => .int (i % j)
abbrev rDi : R2 := rI CDivW fun i j => .int (i / j)
abbrev rPw : R2 := rI CPow fun i j => .int (i ^ j.toNat)
abbrev rInt1 : List V → Hp → VK → Prop := fun xs H Q => (∃ i, xs = [.int i] ∧ Q (.int i) H) ∨ ∃ k, xs = [.bl k] ∧ Q (.int (if k then 1 else 0)) H
abbrev tInt (t : TE) : TE := tCB rInt1 (tCons t tNil)
abbrev tG (f : Str) : TE := tDGet (tVar 0) (tC (.str f))
abbrev sP (f : Str) (t : TE) : TS := sDPut (tVar 0) (tC (.str f)) t
abbrev rLen1 (K : PySem.W.Frag) : List V → Hp → VK → Prop := fun xs H Q => ∃ x n, xs = [x] ∧ LenV K x H n ∧ Q (.int n) H
abbrev tN (i : Int) : TE := tC (.int i)
def t_tail : TS :=
  (tSeq (tIfS (tTest (tOp (rI0 fun i j => .bl (decide (j < i))) (tG "digits") (tN 0)))
    (tSeq (tAsg (tOp rMo (tInt (tG "digits")) (tVar 1)) (gName 3))
      (tSeq (sP "digits" (tOp rDi (tG "digits") (tVar 1))) (tRet (tVar 3)))) tNext)
  (tSeq (tAsg (tOp rMo (tInt (tOp rPl (tOp rPl (tOp rMu (tG "fold") (tN 48271)) (tOp rMu (tG "count") (tN 7919))) (tN 13))) (tN 2147483647)) (gName 4))
  (tSeq (tAsg (tOp rMo (tInt (tOp rPl (tOp rPl (tOp rMu (tVar 4) (tVar 4)) (tOp rMu (tN 31) (tVar 4))) (tG "count"))) (tN 2147483629)) (gName 4))
  (tSeq (sP "fold" (tOp rMo (tInt (tOp rPl (tOp rMu (tVar 4) (tN 16807)) (tN 7))) (tN 2147483647)))
  (tRet (tOp rMo (tInt (tOp rDi (tVar 4) (tN 64))) (tVar 1)))))))
def t_draw (K : PySem.W.Frag) : TS :=
  tSeq (sP "count" (tOp rPl (tG "count") (tN 1)))
  (tSeq (tIfS (tAnd (tTest (tOp rEq (tG "digits") (tN 0))) (tTest (tOp (rI0 fun i j => .bl (decide (i < j))) (tG "at") (tCB (rLen1 K) (tCons (tG "cells") tNil)))))
    (tSeq (tAsg (tOp (rIxL K) (tG "cells") (tG "at")) (gName 2))
      (tSeq (sP "at" (tOp rPl (tG "at") (tN 1)))
        (tIfS (tTest (tOp (rI0 fun i j => .bl (decide (j ≤ i))) (tVar 2) (tOp rPw (tN 10) (tN 18))))
          (sP "digits" (tOp rMi (tVar 2) (tOp rPw (tN 10) (tN 18))))
          (sP "fold" (tOp rMo (tInt (tOp rPl (tOp rMu (tG "fold") (tN 69069)) (tVar 2))) (tN 2147483587)))))) tNext) t_tail)
section
variable {H : Hp} {p l : Addr} {at_ dg ct fd x : Int}
theorem g_cells (h : H p = some (.dK (penKvs l at_ dg ct fd))) : DGet H p (.str "cells") (some (.ref l)) := DGet.k (k := .inr "cells") h
theorem g_at (h : H p = some (.dK (penKvs l at_ dg ct fd))) : DGet H p (.str "at") (some (.int at_)) := DGet.k (k := .inr "at") h
theorem g_dg (h : H p = some (.dK (penKvs l at_ dg ct fd))) : DGet H p (.str "digits") (some (.int dg)) := DGet.k (k := .inr "digits") h
theorem g_ct (h : H p = some (.dK (penKvs l at_ dg ct fd))) : DGet H p (.str "count") (some (.int ct)) := DGet.k (k := .inr "count") h
theorem g_fd (h : H p = some (.dK (penKvs l at_ dg ct fd))) : DGet H p (.str "fold") (some (.int fd)) := DGet.k (k := .inr "fold") h
theorem five : 5 < sizeLine := by rw [sizeLine_eq]; decide
theorem p_at (h : H p = some (.dK (penKvs l at_ dg ct fd))) : DPut H p (.str "at") (.int x) (upd H p (.dK (penKvs l x dg ct fd))) := DPut.k (k := .inr "at") h five
theorem p_dg (h : H p = some (.dK (penKvs l at_ dg ct fd))) : DPut H p (.str "digits") (.int x) (upd H p (.dK (penKvs l at_ x ct fd))) := DPut.k (k := .inr "digits") h five
theorem p_ct (h : H p = some (.dK (penKvs l at_ dg ct fd))) : DPut H p (.str "count") (.int x) (upd H p (.dK (penKvs l at_ dg x fd))) := DPut.k (k := .inr "count") h five
theorem p_fd (h : H p = some (.dK (penKvs l at_ dg ct fd))) : DPut H p (.str "fold") (.int x) (upd H p (.dK (penKvs l at_ dg ct x))) := DPut.k (k := .inr "fold") h five
end
theorem upd_upd {H : Hp} {p : Addr} {a b : HO} : upd (upd H p a) p b = upd H p b := by
  funext y
  by_cases h : y = p
  · rw [h, upd_same, upd_same]
  · rw [upd_ne h, upd_ne h, upd_ne h]
theorem pos_a : (0 : Int) < 2147483647 := by decide
theorem pos_b : (0 : Int) < 2147483629 := by decide
theorem pos_c : (0 : Int) < 2147483587 := by decide
theorem cpow18 : CPow 10 18 := ⟨by decide, by decide, by decide⟩
theorem cdiv64 {i n : Int} (h0 : 0 < n) (h : n < 2 ^ 64) : CDivW i n := by
  refine ⟨h0, ?_⟩
  have : n.natAbs < 2 ^ 64 := by omega
  exact Nat.lt_of_lt_of_le (Nat.log2_lt (by omega) |>.mpr this) (by decide)
/-- what a draw does -/
theorem draw_pure {K : PySem.W.Frag} {H : Hp} {p l : Addr} {at_ dg ct fd n : Int} {cells : List Int} {D : L2.Ends} (h : H p = some (.dK (penKvs l at_ dg ct fd))) (hs : ∀ o, SqL K (upd H p o) l (cells.map V.int)) (n0 : 0 < n) (n1 : n < 2 ^ 64)
    (a0 : 0 ≤ at_) (d0 : 0 ≤ dg) (c0 : 0 ≤ ct) (f0 : 0 ≤ fd) (f1 : fd < 2147483647) (a1 : at_ ≤ 63) (cl : cells.length ≤ 63)
    (q : ∀ i at' dg' ct' fd', 0 ≤ i → i < n → 0 ≤ at' → at' ≤ 63 → 0 ≤ dg' → 0 ≤ ct' → 0 ≤ fd' → fd' < 2147483647 → D.rt (.int i) (upd H p (.dK (penKvs l at' dg' ct' fd')))) :
    t_draw K D (L2.start ["pen", "many", "cell", "digit", "blend"] [.ref p, .int n]) H := by
  have bl : ∀ (σ : L2.St) (at' dg' fd' : Int), σ[0]? = some (some (.ref p)) → σ[1]? = some (some (.int n)) → σ.length = 5 → 0 ≤ at' → at' ≤ 63 → 0 ≤ dg' → 0 ≤ fd' → fd' < 2147483647 →
      t_tail D σ (upd H p (.dK (penKvs l at' dg' (ct + 1) fd'))) := by
    intro σ at' dg' fd' s0 s1 sl b0 b1 b2 b3 b4
    have hp : (upd H p (.dK (penKvs l at' dg' (ct + 1) fd'))) p = some (.dK (penKvs l at' dg' (ct + 1) fd')) := upd_same
    refine ⟨.ref p, s0, p, _, rfl, g_dg hp, _, _, rfl, rfl, _, rfl, ?_⟩
    dsimp only
    by_cases hd : 0 < dg'
    · rw [if_pos (by simpa using hd)]
      refine ⟨.ref p, s0, p, _, rfl, g_dg hp, .inl ⟨_, rfl, .int n, s1, _, _, rfl, rfl, n0, ?_⟩⟩
      have t0 : (σ.set 3 (some (.int (dg' % n))))[0]? = some (some (.ref p)) := by rw [List.getElem?_set_ne (by decide)]; exact s0
      have t1 : (σ.set 3 (some (.int (dg' % n))))[1]? = some (some (.int n)) := by rw [List.getElem?_set_ne (by decide)]; exact s1
      refine ⟨.ref p, t0, p, _, rfl, g_dg hp, .int n, t1, _, _, rfl, rfl, cdiv64 n0 n1, .ref p, t0, p, _, rfl, p_dg hp, ?_⟩
      rw [upd_upd]
      refine ⟨.int (dg' % n), by rw [List.getElem?_set_self (by omega)], ?_⟩
      exact q _ _ _ _ _ (Int.emod_nonneg _ (by omega)) (Int.emod_lt_of_pos _ n0) b0 b1 (Int.ediv_nonneg b2 (by omega)) (by omega) b3 b4
    · rw [if_neg (by simpa using hd)]
      refine ⟨.ref p, s0, p, _, rfl, g_fd hp, _, _, rfl, rfl, .inr (by decide), .ref p, s0, p, _, rfl, g_ct hp, _, _, rfl, rfl, .inr (by decide), _, _, rfl, rfl, _, _, rfl, rfl, .inl ⟨_, rfl, _, _, rfl, rfl, pos_a, ?_⟩⟩
      show tSeq _ _ D (σ.set 4 (some (.int ((fd' * 48271 + (ct + 1) * 7919 + 13) % 2147483647)))) _
      generalize hb : (fd' * 48271 + (ct + 1) * 7919 + 13) % 2147483647 = b
      have b5 : 0 ≤ b ∧ b < 2147483647 := by subst hb; exact ⟨Int.emod_nonneg _ (by decide), Int.emod_lt_of_pos _ (by decide)⟩
      have t0 : (σ.set 4 (some (.int b)))[0]? = some (some (.ref p)) := by rw [List.getElem?_set_ne (by decide)]; exact s0
      have t1 : (σ.set 4 (some (.int b)))[1]? = some (some (.int n)) := by rw [List.getElem?_set_ne (by decide)]; exact s1
      have t4 : (σ.set 4 (some (.int b)))[4]? = some (some (.int b)) := by rw [List.getElem?_set_self (by omega)]
      refine ⟨.int b, t4, .int b, t4, _, _, rfl, rfl, .inl ⟨by omega, by omega⟩, .int b, t4, _, _, rfl, rfl, .inl (by decide), _, _, rfl, rfl, .ref p, t0, p, _, rfl, g_ct hp, _, _, rfl, rfl, .inl ⟨_, rfl, _, _, rfl, rfl, pos_b, ?_⟩⟩
      show tSeq _ _ D ((σ.set 4 (some (.int b))).set 4 (some (.int ((b * b + 31 * b + (ct + 1)) % 2147483629)))) _
      generalize hc : (b * b + 31 * b + (ct + 1)) % 2147483629 = c
      have c5 : 0 ≤ c ∧ c < 2147483629 := by subst hc; exact ⟨Int.emod_nonneg _ (by decide), Int.emod_lt_of_pos _ (by decide)⟩
      show tSeq _ _ D ((σ.set 4 (some (.int b))).set 4 (some (.int c))) _
      rw [List.set_set]
      have u0 : (σ.set 4 (some (.int c)))[0]? = some (some (.ref p)) := by rw [List.getElem?_set_ne (by decide)]; exact s0
      have u1 : (σ.set 4 (some (.int c)))[1]? = some (some (.int n)) := by rw [List.getElem?_set_ne (by decide)]; exact s1
      have u4 : (σ.set 4 (some (.int c)))[4]? = some (some (.int c)) := by rw [List.getElem?_set_self (by omega)]
      refine ⟨.int c, u4, _, _, rfl, rfl, .inr (by decide), _, _, rfl, rfl, .inl ⟨_, rfl, _, _, rfl, rfl, pos_a, .ref p, u0, p, _, rfl, p_fd hp, ?_⟩⟩
      rw [upd_upd]
      refine ⟨.int c, u4, _, _, rfl, rfl, cdiv64 (by decide) (by decide), .inl ⟨_, rfl, .int n, u1, _, _, rfl, rfl, n0, ?_⟩⟩
      exact q _ _ _ _ _ (Int.emod_nonneg _ (by omega)) (Int.emod_lt_of_pos _ n0) b0 b1 b2 (by omega) (Int.emod_nonneg _ (by decide)) (Int.emod_lt_of_pos _ (by decide))
  refine ⟨.ref p, rfl, p, _, rfl, g_ct h, _, _, rfl, rfl, .ref p, rfl, p, _, rfl, p_ct h, ?_⟩
  have hp : (upd H p (.dK (penKvs l at_ dg (ct + 1) fd))) p = some (.dK (penKvs l at_ dg (ct + 1) fd)) := upd_same
  refine ⟨.ref p, rfl, p, _, rfl, g_dg hp, rfl, _, rfl, ?_⟩
  dsimp only
  by_cases hd : dg = 0
  · rw [if_pos (by simp [hd])]
    refine ⟨.ref p, rfl, p, _, rfl, g_at hp, .ref p, rfl, p, _, rfl, g_cells hp, _, _, rfl, .inl ⟨_, hs _, rfl⟩, _, _, rfl, rfl, _, rfl, ?_⟩
    dsimp only
    by_cases hl : at_ < ((cells.map V.int).length : Int)
    · rw [if_pos (by simpa using hl)]
      have hl2 : at_ < cells.length := by simpa using hl
      have hx : ∃ cell, atI (cells.map V.int) at_ = some (.int cell) := by
        have hb : at_.toNat < cells.length := by omega
        refine ⟨cells[at_.toNat], ?_⟩
        unfold atI ixN
        rw [if_pos a0, if_pos hl]
        simp [hb]
      obtain ⟨cell, hx⟩ := hx
      refine ⟨.ref p, rfl, p, _, rfl, g_cells hp, .ref p, rfl, p, _, rfl, g_at hp, l, _, at_, _, rfl, rfl, hs _, hx, ?_⟩
      refine ⟨.ref p, rfl, p, _, rfl, g_at hp, _, _, rfl, rfl, .ref p, rfl, p, _, rfl, p_at hp, ?_⟩
      rw [upd_upd]
      have hq : (upd H p (.dK (penKvs l (at_ + 1) dg (ct + 1) fd))) p = some (.dK (penKvs l (at_ + 1) dg (ct + 1) fd)) := upd_same
      refine ⟨.int cell, rfl, _, _, rfl, rfl, cpow18, _, _, rfl, rfl, _, rfl, ?_⟩
      dsimp only
      by_cases hc : (10 : Int) ^ (18 : Int).toNat ≤ cell
      · rw [if_pos (by simpa using hc)]
        refine ⟨.int cell, rfl, _, _, rfl, rfl, cpow18, _, _, rfl, rfl, .ref p, rfl, p, _, rfl, p_dg hq, ?_⟩
        rw [upd_upd]
        exact bl _ _ _ _ rfl rfl rfl (by omega) (by omega) (by omega) f0 f1
      · rw [if_neg (by simpa using hc)]
        refine ⟨.ref p, rfl, p, _, rfl, g_fd hq, _, _, rfl, rfl, .inr (by decide), .int cell, rfl, _, _, rfl, rfl, .inl ⟨_, rfl, _, _, rfl, rfl, pos_c, .ref p, rfl, p, _, rfl, p_fd hq, ?_⟩⟩
        rw [upd_upd]
        exact bl _ _ _ _ rfl rfl rfl (by omega) (by omega) d0 (Int.emod_nonneg _ (by decide)) (Int.lt_trans (Int.emod_lt_of_pos _ (by decide)) (by decide))
    · rw [if_neg (by simpa using hl)]
      exact bl _ _ _ _ rfl rfl rfl a0 a1 d0 f0 f1
  · rw [if_neg (by simp [hd])]
    exact bl _ _ _ _ rfl rfl rfl a0 a1 d0 f0 f1
def drawM : Fn := fun xs => match xs with
  | [.pen, .int n] => if 0 < n ∧ n < 2 ^ 64 then .draw n fun i => .ok (.int i) else .bad
  | _ => .bad
/-- its promise -/
theorem draw_of {W : Wd} {D : L2.Ends} {vs : List V} {H : Hp} {Q : VK} {E : XK} (h : spF W 2 drawM vs H Q E) (hD : D.rt = Q) : t_draw W.K D (L2.start ["pen", "many", "cell", "digit", "blend"] vs) H := by
  obtain ⟨F, xs, h1, g, r, h⟩ := h
  unfold drawM at h
  split at h
  · rename_i n
    by_cases hn : 0 < n ∧ n < 2 ^ 64
    · rw [if_pos hn] at h
      cases r with
      | cons a t => cases t with
        | cons b t => cases t; cases a; cases b; 
                      obtain ⟨⟨l, cells, at_, dg, ct, fd, hp, hs, hc, a0, d0, f0, f1, c0, a1⟩, out⟩ := g.pen
                      have sub : ∀ o, Same F (upd H W.pen o) := fun o a u q => by
                        rw [upd_ne]
                        · exact g.sub a u q
                        · rintro rfl
                          rw [out] at q
                          cases q
                      refine draw_pure hp (fun o => Same.seq (sub o) hs) hn.1 hn.2 a0 d0 c0 f0 f1 a1 hc fun i at' dg' ct' fd' i0 i1 b0 b1 b2 b3 b4 b5 => ?_
                      rw [hD]
                      have gg : Good W F (upd H W.pen (.dK (penKvs l at' dg' ct' fd'))) := ⟨sub _, ⟨⟨l, cells, at', dg', ct', fd', upd_same, hs, hc, b0, b2, b4, b5, b3, b1⟩, out⟩, g.nt, tabs_keep g.tab hp (fun _ z => by cases z) (fun _ _ z => by unfold LamX.CodeO at z; cases z) (fun b u n q => by rw [upd_ne n]; exact q), tin_upd g.tin (fun _ z => by cases z)⟩
                      exact h.2 i i0 i1 F _ (.int i) [] ⟨fun _ _ q => q, fun a o n q _ => by rw [upd_ne n]; exact q, fun a ps q => ⟨ps, by
                        rw [upd_ne]
                        · exact q
                        · rintro rfl
                          rw [hp] at q
                          cases q⟩, fun _ q => .inl q, gg⟩ (.st .int) (fun _ z => by simp at z)
    · rw [if_neg hn] at h
      exact (show False from h).elim
  · exact (show False from h).elim
end FS

set_option Elab.async false
set_option linter.all false
set_option maxRecDepth 100000
set_option maxHeartbeats 8000000
namespace FS
open PySem PySem.Spec PyProof.Rows L2

abbrev rListOf (K : PySem.W.Frag) : List V → Hp → VK → Prop := fun xs H Q => ∃ p ys, xs = [.ref p] ∧ (SqL K H p ys ∨ SqT K H p ys) ∧ ∀ l, H l = none → Q (.ref l) (upd H l (.lst ys))
def t_pen (K : PySem.W.Frag) : TS :=
  tSeq (tAsg (tN 0) (gName 1))
  (tSeq (tFor (iSeqA K (tVar 0)) (gName 2) (tAsg (tOp rMo (tInt (tOp rPl (tOp rMu (tVar 1) (tN 47)) (tVar 2))) (tN 1000000007)) (gName 1)))
  (tRet (tDisp [(tC (.str "cells"), tCB (rListOf K) (tCons (tVar 0) tNil)), (tC (.str "at"), tN 0), (tC (.str "digits"), tN 0), (tC (.str "count"), tN 0), (tC (.str "fold"), tVar 1)])))
theorem SqL.new {K : PySem.W.Frag} {H : Hp} {a p : Addr} {o : HO} {xs : List V} (h : SqL K H a xs) (n : H p = none) : SqL K (upd H p o) a xs := by
  have s : Same H (upd H p o) := fun b u q => by
    rw [upd_ne (ne_of_none q n)]
    exact q
  exact Same.seq s h
theorem pen_pure {K : PySem.W.Frag} {H : Hp} {a : Addr} {cells : List Int} {D : L2.Ends} (hs : SqL K H a (cells.map V.int))
    (q : ∀ p l fold, H p = none → l ≠ p → H l = none → 0 ≤ fold → fold < 1000000007 → D.rt (.ref p) (upd (upd (upd H p (.dK [])) l (.lst (cells.map V.int))) p (.dK (penKvs l 0 0 0 fold)))) :
    t_pen K D (L2.start ["script", "fold", "cell"] [.ref a]) H := by
  have fin : ∀ (σ : L2.St) (fold : Int), σ[0]? = some (some (.ref a)) → σ[1]? = some (some (.int fold)) → 0 ≤ fold → fold < 1000000007 →
      tRet (tDisp [(tC (.str "cells"), tCB (rListOf K) (tCons (tVar 0) tNil)), (tC (.str "at"), tN 0), (tC (.str "digits"), tN 0), (tC (.str "count"), tN 0), (tC (.str "fold"), tVar 1)]) D σ H := by
    intro σ fold s0 s1 f0 f1 p hp
    refine ⟨.ref a, s0, a, _, rfl, .inl (SqL.new hs hp), fun l hl => ?_⟩
    have nl : l ≠ p := by
      rintro rfl
      rw [upd_same] at hl
      cases hl
    have hl0 : H l = none := by rwa [upd_ne nl] at hl
    refine ⟨.int fold, s1, ?_⟩
    refine ⟨by rw [upd_ne (Ne.symm nl), upd_same], penKvs l 0 0 0 fold, rfl, (show 5 ≤ 15 by decide), ?_⟩
    exact q p l fold hp nl hl0 f0 f1
  refine ⟨.ref a, rfl, a, rfl, .inl ⟨⟨_, hs⟩, ?_⟩⟩
  dsimp only
  refine for_list (xs := cells.map V.int) (D := { D with nx := tRet (tDisp [(tC (.str "cells"), tCB (rListOf K) (tCons (tVar 0) tNil)), (tC (.str "at"), tN 0), (tC (.str "digits"), tN 0), (tC (.str "count"), tN 0), (tC (.str "fold"), tVar 1)]) D }) (fun i σ H' => H' = H ∧ ∃ fold, σ[0]? = some (some (.ref a)) ∧ σ[1]? = some (some (.int fold)) ∧ σ.length = 3 ∧ 0 ≤ fold ∧ fold < 1000000007) ⟨rfl, 0, rfl, rfl, rfl, by decide, by decide⟩ ?_ ?_ ?_
  · rintro i σ H' _ ⟨rfl, _⟩
    exact hs
  · rintro i x σ H' hx ⟨rfl, fold, s0, s1, sl, f0, f1⟩
    obtain ⟨c, hc⟩ : ∃ c, x = .int c := by
      rw [List.getElem?_map] at hx
      obtain ⟨c, _, rfl⟩ := Option.map_eq_some_iff.mp hx
      exact ⟨c, rfl⟩
    subst hc
    have t1 : (σ.set 2 (some (.int c)))[1]? = some (some (.int fold)) := by rw [List.getElem?_set_ne (by decide)]; exact s1
    have t2 : (σ.set 2 (some (.int c)))[2]? = some (some (.int c)) := by rw [List.getElem?_set_self (by omega)]
    refine ⟨.int fold, t1, _, _, rfl, rfl, .inr (by decide), .int c, t2, _, _, rfl, rfl, .inl ⟨_, rfl, _, _, rfl, rfl, (show (0 : Int) < 1000000007 by decide), ?_⟩⟩
    refine ⟨rfl, (fold * 47 + c) % 1000000007, ?_, ?_, by simp [sl], Int.emod_nonneg _ (by decide), Int.emod_lt_of_pos _ (by decide)⟩
    · rw [List.getElem?_set_ne (by decide), List.getElem?_set_ne (by decide)]
      exact s0
    · rw [List.getElem?_set_self (by simp [sl])]
  · rintro σ H' ⟨rfl, fold, s0, s1, sl, f0, f1⟩
    exact fin σ fold s0 s1 f0 f1
def spPen (K : PySem.W.Frag) : Sp := fun vs H Q _ => ∃ (a : Addr) (cells : List Int), vs = [.ref a] ∧ SqL K H a (cells.map V.int) ∧
  ∀ p l fold, H p = none → l ≠ p → H l = none → 0 ≤ fold → fold < 1000000007 → Q (.ref p) (upd (upd (upd H p (.dK [])) l (.lst (cells.map V.int))) p (.dK (penKvs l 0 0 0 fold)))
/-- the law -/
def spLaw (K : PySem.W.Frag) (T : List (Addr × Str)) : Sp := fun vs H Q _ => ∃ (a : Addr) (ns : List Int), vs = [.ref a] ∧ ns.length ≤ 63 ∧ SqL K H a (ns.map V.int) ∧ LamX.Tabs T H ∧ (∀ a ps, H a = some (.tbl ps) → ∃ q, (a, q) ∈ T) ∧ ∀ H', Q (.bl true) H'
theorem EnvR.any {W : Wd} {F H : Hp} : ∀ σ : L2.St, EnvR W F H σ (σ.map fun _ => Option.none) []
  | [] => .nil
  | _ :: σ => .none (EnvR.any σ)
structure Wb where
  P : Program
  w : World
  K : PySem.W.Frag
  mg : Str → Option Value
  base : Heap
  T : List (Addr × Str) := []
def Wb.at_ (B : Wb) (p : Addr) : Wd := ⟨B.P, B.w, B.K, B.mg, B.base, p, B.T⟩
def isTrueEnd : Out Fl → Prop
  | .ok (.rt (.bl true)) => True
  | _ => False
theorem law_ok {B : Wb} {k n : Nat} {qual : Str} {params : Arguments} {body : List Stmt} {scope : Scope} {fa fp : Addr} {fd fdp : FuncData} {N : List Str} {p0 p1 p2 p3 pos : Pos} (F : FunD B.K "law" qual params (.Assign [.Name "pen" p0] (.Call (.Name "_law_pen" p1) [.Name "script" p2] [] p3) pos :: body) scope [] [] fa fd) (sc : FnScope N ["script"] scope)
    (h0 : N[0]? = some ("script" : Str)) (h1 : N[n]? = some ("pen" : Str)) (v0 : visB scope "script" = true) (v1 : locB scope "pen" = true) (g1 : glB scope "_law_pen" = true)
    (FP : FnOk B.P B.w B.K B.mg B.base CX0 k fp fdp ["script"] (spPen B.K)) (mP : B.mg "_law_pen" = some (.ref fp)) (kP : PySem.W.keepIn B.K (.ref fp) = true) (bP : Binds B.K fdp ["script"] [])
    (ss : Ss) (hc : chkB N scope ss body = true) (nd : ∀ p, AllN (B.at_ p) k (ndB ss)) (rs : ∀ p, AllR (B.at_ p) k (rsB ss))
    (hl : (exB ss ((List.replicate N.length none).set n (some .pen))).W isTrueEnd) (hlam : B.T ≠ [] → hasCell scope = true → ∀ p, LamAt (B.at_ p) fd.code (qual ++ ".<locals>.") := by exact fun _ z => by cases z) : FnG B.P B.w B.K B.mg B.base CX0 (k + 1) fa fd ["script"] (spLaw B.K B.T) := by
  refine fn_ofG F sc (fun vs H Q E h => ?_) fun cdv hcd A outer s H vs Q E hgd hr h => ?_
  · obtain ⟨a, ns, rfl, _⟩ := h
    rfl
  · obtain ⟨a, ns, rfl, hn, hS, hT, hI, hQ⟩ := h
    let X := (cxOf CX0 B.P B.w B.K B.mg B.base N qual scope fa cdv A outer s H E).nox
    have cx : ∀ p, CxF (B.at_ p) k N scope (fun _ _ _ => False) X := fun p => ⟨⟨rfl, rfl, rfl, rfl, rfl, sc.nd, rfl, rfl, rfl, hr, passL, hgd⟩, PassesOwn.never, fun _ => rfl, takes0, fun z y => by have h0 := hlam z y p; rw [hcd] at h0; exact h0⟩
    have hrest : PSs X body (fun D σ H => ∃ p, tSx (B.at_ p) (fun _ _ _ => False) (exB ss) D σ H) := ⟨fun pins s σ H D I ⟨p, h⟩ => (soB ss hc (nd p) (rs p) X _ (cx p)).run pins s σ H D I h⟩
    have hpen : PS X (.Assign [.Name "pen" p0] (.Call (.Name "_law_pen" p1) [.Name "script" p2] [] p3) pos) (tAsg (tCall (spPen B.K) [] E0 (tCons (tVar 0) tNil)) (gName n)) :=
      ps_set sc.nd h1 (.inl (locB_ok v1)) (pe_call (CX := CX0) FP hr (glB_ok g1) mP kP bP .nil pass0 (pa_cons (pe_var h0 (visB_ok v0)) pa_nil)) (by rfl) (.inr (locB_ok v1))
    refine ⟨_, PSs.nox (pss_cons hpen hrest), ?_⟩
    have hN0 : N.length ≠ 0 := by
      intro z
      rw [List.length_eq_zero_iff.mp z] at h0
      cases h0
    refine ⟨.ref a, rfl, a, ns, rfl, hS, fun p l fold hp nl hl0 f0 f1 => ⟨p, ?_⟩⟩
    let H1 := upd (upd (upd H p (.dK [])) l (.lst (ns.map V.int))) p (.dK (penKvs l 0 0 0 fold))
    let F1 : Hp := fun b => if b = l then H1 b else none
    have e1 : H1 l = some (.lst (ns.map V.int)) := by
      show upd (upd (upd H p (.dK [])) l (.lst (ns.map V.int))) p (.dK (penKvs l 0 0 0 fold)) l = _
      rw [upd_ne nl, upd_same]
    have gs : Same F1 H1 := fun b o q => by
      by_cases z : b = l
      · have e2 : F1 b = H1 b := if_pos z
        rw [← e2]
        exact q
      · have e2 : F1 b = none := if_neg z
        rw [e2] at q
        cases q
    have f1l : F1 l = some (.lst (ns.map V.int)) := (if_pos rfl).trans e1
    have gp : PenOk (B.at_ p) F1 H1 := ⟨⟨l, ns, 0, 0, 0, fold, upd_same, SqL.of f1l, hn, by decide, by decide, f0, by omega, by decide, by decide⟩, if_neg (Ne.symm nl)⟩
    have f1n : ∀ b ps, F1 b ≠ some (.tbl ps) := fun b ps z => by
      by_cases y : b = l
      · rw [y, f1l] at z
        cases z
      · have e2 : F1 b = none := if_neg y
        rw [e2] at z
        cases z
    have hk : ∀ b o, H b = some o → H1 b = some o := fun b o q => by
      have n1 := ne_of_none q hp
      have n2 := ne_of_none q hl0
      show upd (upd (upd H p (.dK [])) l (.lst (ns.map V.int))) p (.dK (penKvs l 0 0 0 fold)) b = _
      rw [upd_ne n1, upd_ne n2, upd_ne n1]
      exact q
    have gd : Good (B.at_ p) F1 H1 := ⟨gs, gp, f1n, hT.ext hk, tin_upd (tin_upd (tin_upd hI (fun _ z => by cases z)) (fun _ z => by cases z)) (fun _ z => by cases z)⟩
    have en0 := EnvR.any (W := B.at_ p) (F := F1) (H := H1) (L2.start N [V.ref a])
    obtain ⟨fq, en, sq⟩ := EnvR.put (Ro.st (W := B.at_ p) (F := F1) (H := H1) (v := .ref p) (x := .pen) .pen) n en0 (fun _ z => by simp at z)
    have fqe : ∀ b ∈ fq, H1 b = none := fun b hb => by
      rcases sq b hb with z | z
      · simp at z
      · simp at z
    have eρ : (L2.start N [V.ref a]).map (fun _ => (none : Option PV)) = List.replicate N.length none := by
      rw [List.map_const']
      congr 1
      unfold L2.start
      simp
      omega
    rw [eρ] at en
    refine ⟨F1, H1, F1, F1, _, fq, ⟨Ext.refl gd, en, fqe, fun _ _ q => q⟩, Tr.W_imp (fun o ho => ?_) hl⟩
    cases o with
    | exn c ns xs => exact (show False from ho).elim
    | bad => exact (show False from ho).elim
    | ok f =>
      cases f with
      | rt x =>
        cases x with
        | bl b =>
          cases b with
          | true =>
            intro F2 H2 v fp2 e r n
            have := r.stable rfl
            cases this
            exact hQ H2
          | false => exact (show False from ho).elim
        | _ => exact (show False from ho).elim
      | nx ρ => exact (show False from ho).elim
      | bk ρ => exact (show False from ho).elim
      | ct ρ => exact (show False from ho).elim
end FS

set_option Elab.async false
set_option linter.all false
set_option maxRecDepth 100000
set_option maxHeartbeats 8000000
namespace FS
open PySem PySem.Spec PyProof.Rows L2

/-! ### the law's end -/
theorem gd_caller : Gd callerA := rfl
abbrev frzO (vs : List Value) (ns : List Int) : HO := .frz { cls := .type "list", data := .seq vs.toArray } (.lst (ns.map V.int))
abbrev emptyO : Obj := { cls := .none, data := .fields #[] }
/-- the abstract heap at the start: the script, the tables ts of code objects -/
def scriptH (K : PySem.W.Frag) (ts : List Addr) (a : Addr) (vs : List Value) (ns : List Int) : Hp := fun b => if b ∈ ts then some (.tbl #[]) else if b = a ∧ K.lookup a = none then some (frzO vs ns) else none
section
variable {P : Program} {w : World} {K : PySem.W.Frag} {mg mb : Str → Option Value} {k : Nat} {fa a : Addr} {fd : FuncData} {x : Str} {sp : Sp} {s₁ : Shared} {vs : List Value} {ns : List Int} {ts : List Addr} {cs : List (Addr × Addr)}
theorem scriptH_some {b : Addr} {o : HO} (h : scriptH K ts a vs ns b = some o) : (b ∈ ts ∧ o = .tbl #[]) ∨ (b ∉ ts ∧ b = a ∧ K.lookup a = none ∧ o = frzO vs ns) := by
  unfold scriptH at h
  by_cases y : b ∈ ts
  · rw [if_pos y] at h
    exact .inl ⟨y, (Option.some.inj h).symm⟩
  · rw [if_neg y] at h
    by_cases z : b = a ∧ K.lookup a = none
    · rw [if_pos z] at h
      exact .inr ⟨y, z.1, z.2, (Option.some.inj h).symm⟩
    · rw [if_neg z] at h
      cases h
theorem scriptH_tab {b : Addr} (h : b ∈ ts) : scriptH K ts a vs ns b = some (.tbl #[]) := if_pos h
theorem law_callG (KX : K.In s₁.heap) (hns : s₁.heap.Ns mainGlobals mg) (hb : s₁.heap.Ns builtinsNs mb) (hbb : ∀ x : Str, x ≠ "__name__" → mb x = bootBuiltins x) (hlim : s₁.heap.NoLimit) (hg : s₁.gens = #[])
    (hT : ∀ p ∈ cs, s₁.heap.get? p.2 = some emptyO) (nT : ∀ p ∈ cs, K.lookup p.2 = none) (C : ∀ p ∈ cs, PySem.W.CodeHd s₁.heap p.1 p.2)
    (hm : ∃ (bm : Addr) (o : Obj), mg "__builtins__" = some (.ref bm) ∧ bm ≠ builtinsNs ∧ s₁.heap.get? bm = some o ∧ o.cls = .type "module" ∧ o.dict = some builtinsNs ∧ o.data = .plain)
    (ha : s₁.heap.get? a = some { cls := .type "list", data := .seq vs.toArray }) (hi : IntsAre vs ns) (hl : ns.length ≤ sizeLine) (hr : Room k callerA)
    (F : ∀ base : Heap, K.In base → base.Ns mainGlobals mg → (∀ p ∈ cs, LamX.TabB base mg p.1 p.2) → FnG P w K mg base CX0 k fa fd [x] sp) (hbind : ∀ (s : Shared) (u : Value), BindsTo s fd ⟨[u], []⟩ [(x, u)])
    (hsp : ∀ H : Hp, (∀ p ∈ cs, H p.2 = some (.tbl #[])) → (∀ b qs, H b = some (.tbl qs) → b ∈ cs.map (·.2)) → SqL K H a (ns.map V.int) → sp [.ref a] H (fun v _ => v = .bl true) fun _ _ _ => False) :
    codeAny (model P w) callerA (.call (.ref fa) ⟨[.ref a], []⟩) (fun r s' => r = .ok (.ret (.bool true)) ∧ OldK s₁.heap s'.heap ∧ s'.os = s₁.os ∧ AllBare s'.gens) s₁ := by
  have rv := vals_ints hi
  let H := scriptH K (cs.map (·.2)) a vs ns
  have inT : ∀ {p}, p ∈ cs → p.2 ∈ cs.map (·.2) := fun hp => List.mem_map_of_mem hp
  have ofT : ∀ {b}, b ∈ cs.map (·.2) → s₁.heap.get? b = some emptyO ∧ K.lookup b = none := fun hb => by
    obtain ⟨p, hp, rfl⟩ := List.mem_map.mp hb
    exact ⟨hT p hp, nT p hp⟩
  -- what the base keeps
  have hH : ∀ {b : Addr} {o : Obj}, s₁.heap.get? b = some o → (b = a → K.lookup a ≠ none ∨ ∀ ws n, o.data ≠ .seq ws n) → (K.lookup b ≠ none ∨ o.data ≠ .fields #[]) → H b = none := fun {b o} e c d => by
    cases q : H b with
    | none => rfl
    | some u =>
      rcases scriptH_some q with ⟨y, _⟩ | ⟨_, rfl, h2, _⟩
      · obtain ⟨y1, y2⟩ := ofT y
        rcases d with d | d
        · exact absurd y2 d
        · rw [y1] at e
          cases e
          exact absurd rfl d
      · rcases c rfl with z | z
        · exact absurd h2 z
        · rw [ha] at e
          cases e
          exact absurd rfl (z _ _)
  have hD : ∀ {b : Addr} {o : Obj} {es ep}, s₁.heap.get? b = some o → o.data = .dict es ep → H b = none := fun {b o es ep} e d => hH e (fun _ => .inr fun ws n z => by rw [d] at z; cases z) (.inr fun z => by rw [d] at z; cases z)
  have seen : ∀ {b : Addr} {m : Str → Option Value}, s₁.heap.Ns b m → (hidT s₁.heap H).Ns b m := fun {b m} ⟨o, es, ep, e, d, r⟩ => ⟨o, es, ep, hidT_get e (hD e d), d, r⟩
  have kin : K.In (hidT s₁.heap H) := fun b o e => hidT_get (KX b o e) (hH (KX b o e) (fun z => .inl (by rw [← z, e]; simp)) (.inl (by rw [e]; simp)))
  have tb : ∀ p ∈ cs, LamX.TabB (hidT s₁.heap H) mg p.1 p.2 := fun p hp => by
    have e2 := hT p hp
    have nd : ∀ {q o}, s₁.heap.get? q = some o → (∀ z, o.data ≠ .fields z) → q ≠ p.2 := fun {q o} e n z => by
      rw [z, e2] at e
      cases e
      exact n _ rfl
    refine ⟨?_, ?_, fun z => ?_⟩
    · obtain ⟨o, us, file, tf, flags, tg, inF, text, tt, e1, r1, r2, r3, r⟩ := C p hp
      refine ⟨o, us, file, tf, flags, tg, inF, text, tt, hidT_get e1 (hH e1 (fun _ => .inr fun ws n z => by rw [r2] at z; cases z) (.inr fun z => ?_)), r1, r2, r3, r⟩
      rw [r2] at z
      cases z
      simp at r3
    · obtain ⟨bm, ob, b1, b2, b3, b4, b5, b6⟩ := hm
      refine ⟨bm, ob, b1, b2, fun q => ?_, nd b3 fun z q => (by rw [b6] at q; cases q), hidT_get b3 (hH b3 (fun _ => .inr fun ws n q => by rw [b6] at q; cases q) (.inr fun q => by rw [b6] at q; cases q)), b4, b5, b6⟩
      obtain ⟨o, es, ep, e, d, _⟩ := hns
      rw [q, e] at b3
      cases b3
      rw [d] at b6
      cases b6
    · obtain ⟨o, es, ep, e, d, _⟩ := hns
      exact nd e (fun y q => by rw [d] at q; cases q) z
  have hok : HOk P w H s₁.heap := fun b u z => by
    rcases scriptH_some z with ⟨y, rfl⟩ | ⟨_, rfl, _, rfl⟩
    · exact (ofT y).1
    · exact ⟨ha, by rw [List.length_map]; exact hl, vs, _, rv, ha⟩
  have na : a ∉ cs.map (·.2) := fun z => by
    have := (ofT z).1
    rw [ha] at this
    cases this
  have sq : SqL K H a (ns.map V.int) := by
    cases hk : K.lookup a with
    | some o =>
      have e := KX a o hk
      rw [ha] at e
      cases e
      exact .inr ⟨_, vs.toArray, _, hk, rfl, rfl, rfl, by rw [List.size_toArray, hi.length]; exact hl, by simpa using rv⟩
    | none => exact .inl (.inr ⟨_, (if_neg na).trans (if_pos ⟨rfl, hk⟩)⟩)
  have e0 : Env0 P w K mg (hidT s₁.heap H) callerA [] s₁ H :=
    ⟨rfl, ⟨kin, seen hns, ⟨mb, seen hb, hbb⟩, let ⟨mc, h1, h2⟩ := hlim; ⟨mc, seen h1, h2⟩⟩, fun b o e => of_hidT e, Nat.le_of_eq (hidT_size _ _), trivial, fun b z => absurd (show b ∈ ([] : List Addr) from z) (by simp), hok, .of_eq hg⟩
  refine codeAny_mono ((F _ kin (seen hns) tb).run callerA [] s₁ _ ⟨[.ref a], []⟩ [.ref a] [.ref a] _ _ gd_caller hr e0 (hbind s₁ (.ref a)) (.cons rfl .nil) (hsp _ (fun p hp => scriptH_tab (inT hp)) (fun b qs z => by
    rcases scriptH_some z with ⟨y, _⟩ | ⟨_, _, _, y⟩
    · exact y
    · cases y) sq)) fun r s' h => ?_
  cases r with
  | error e => exact False.elim h
  | ok fl => cases fl with
    | ret u =>
      obtain ⟨v, H', os, bare, un, hok', r', q⟩ := h
      have q' : v = .bl true := q
      subst q'
      obtain rfl : u = Value.bool true := r'
      have kp : ∀ b o, b ∉ cs.map (·.2) → s₁.heap.get? b = some o → s'.heap.get? b = some o := fun b o nb e => by
        cases q : H b with
        | none => exact un.keep b o e q (fun z => absurd (show b ∈ ([] : List Addr) from z) (by simp)) (by simp)
        | some u =>
          rcases scriptH_some q with ⟨y, _⟩ | ⟨_, rfl, _, rfl⟩
          · exact absurd y nb
          · have e1 := (hok b _ q).1
            have e2 := (hok' b _ (un.frzs b _ _ q)).1
            rw [e] at e1
            cases e1
            exact e2
      have gr : ∀ p ∈ cs, ∃ more : Array Value, s'.heap.get? p.2 = some { cls := .none, data := .fields more } := fun p hp => by
        obtain ⟨more, z⟩ := un.tbls p.2 #[] (scriptH_tab (inT hp))
        exact ⟨_, hok' p.2 _ z⟩
      refine ⟨rfl, ⟨fun b o e => ?_, fun b o e => ?_⟩, os, bare⟩
      · by_cases y : b ∈ cs.map (·.2)
        · obtain ⟨p, hp, rfl⟩ := List.mem_map.mp y
          obtain ⟨more, z⟩ := gr p hp
          rw [hT p hp] at e
          cases e
          exact .inr (.inl ⟨((C p hp).tab (hT p hp)).isCodeTable, rfl, #[], more, rfl, by rw [Array.empty_append]; exact z⟩)
        · exact .inl (kp b o y e)
      · by_cases y : b ∈ cs.map (·.2)
        · obtain ⟨p, hp, rfl⟩ := List.mem_map.mp y
          obtain ⟨more, z⟩ := gr p hp
          exact ⟨_, z⟩
        · exact ⟨o, kp b o y e⟩
    | _ => exact False.elim h
/-- a law: F gives the written part, the function object, the tables, the promise over every base -/
theorem walk_ofG {l : PySem.W.OpenLaw} {n k : Nat} {q : Program} {loose : List Str} {XP : (Str → Option Value) → Heap → Prop} {YP : World → Heap → Prop} {d : DefRec} {x : Str}
    (hn : l.most = some n) (hn2 : n ≤ sizeLine) (hdf : d.params.defaults = []) (hr : Room k callerA)
    (F : ∀ (w : World) (mg : Str → Option Value) (fa : Addr) (h : Heap), YP w h → h.Ns mainGlobals mg → mg d.name = some (.ref fa) →
      ∃ (K : PySem.W.Frag) (fd : FuncData) (cs : List (Addr × Addr)) (sp : Sp), K.In h ∧ (∀ p ∈ cs, h.get? p.2 = some emptyO) ∧ (∀ p ∈ cs, K.lookup p.2 = none) ∧ (∀ p ∈ cs, PySem.W.CodeHd h p.1 p.2) ∧ (∀ (s : Shared) (u : Value), BindsTo s fd ⟨[u], []⟩ [(x, u)]) ∧
        (∀ (H : Hp) (a : Addr) (ns : List Int), ns.length ≤ n → (∀ p ∈ cs, H p.2 = some (.tbl #[])) → (∀ b qs, H b = some (.tbl qs) → b ∈ cs.map (·.2)) → SqL K H a (ns.map V.int) → sp [.ref a] H (fun v _ => v = .bl true) fun _ _ _ => False) ∧
        ∀ base : Heap, K.In base → base.Ns mainGlobals mg → (∀ p ∈ cs, LamX.TabB base mg p.1 p.2) → FnG l.prog w K mg base CX0 k fa fd [x] sp) :
    PySem.W.WalkO q loose XP YP l.row.toRowW d [] (fun f vs => PySem.call f vs) := by
  refine Att.attach_call hn hdf fun w s₀ s₁ mg mb fa o pm cd doc a vs ns G Y ho hd hcd hmg hobj hints hlen hg => ?_
  obtain ⟨K, fd, cs, sp, KX, hT, nT, C, hb, hsp, hF⟩ := F w mg fa _ Y G.T.g hmg
  exact law_callG KX G.T.g G.T.b G.T.builtins G.T.nolimit hg hT nT C G.T.bmain hobj hints (Nat.le_trans hlen hn2) hr hF hb fun H hH hI hS => hsp H a ns hlen hH hI hS
end
end FS

set_option Elab.async false
set_option linter.all false
set_option maxRecDepth 100000
set_option maxHeartbeats 8000000
namespace FS
open PySem PySem.Spec PyProof.Rows L2

/-! ### repr -/
mutual
def PV.rd : PV → Option PyData
  | .non => some .none
  | .bl b => some (.bool b)
  | .int i => some (.int i)
  | .str s => some (.str s)
  | .tup xs => (PV.rds xs).map .tuple
  | .lst _ xs => (PV.rds xs).map .list
  | .dct _ false ks vs => match PV.rds ks, PV.rds vs with
    | some a, some b => if a.length = b.length then some (.dict (a.zip b)) else none
    | _, _ => none
  | _ => none
def PV.rds : List PV → Option (List PyData)
  | [] => some []
  | x :: xs => match PV.rd x, PV.rds xs with
    | some d, some ds => some (d :: ds)
    | _, _ => none
end
def reprS (x : PV) : Option PV := match x.rd with
  | some d => if d.showable = true ∧ d.depth ≤ 100 ∧ d.shown.length ≤ 1000000 then some (.str d.shown) else none
  | none => none
def keyD : Key → PyData
  | .inl i => .int i
  | .inr x => .str x
theorem rds_keys : ∀ {ks : List Key} {a : List PyData}, PV.rds (ks.map kP) = some a → a = ks.map keyD
  | [], a, h => by
    simp only [List.map_nil, PV.rds, Option.some.injEq] at h
    exact h.symm
  | k :: ks, a, h => by
    simp only [List.map_cons, PV.rds] at h
    cases hs : PV.rds (ks.map kP) with
    | none => rw [hs] at h; cases k <;> simp [kP, PV.rd] at h
    | some ds =>
      rw [hs] at h
      rw [List.map_cons, ← rds_keys hs]
      cases k <;> simp [kP, PV.rd] at h <;> exact h.symm
theorem dict_vals {P : Program} {w : World} : ∀ {es : List DictEntry} {vs : List (Key × Value)} {kvs : List (Key × V)}, Pairs (mixKind P w) es vs → KV kvs vs → Vals (kvs.map (·.2)) (es.map (·.val))
  | _, _, _, .nil, h => by
    cases h
    exact .nil
  | _, _, _, .cons hk hv t, h => by
    cases h with
    | cons a b =>
      refine .cons ?_ (dict_vals t b)
      dsimp only
      rw [hv]
      exact a.2
theorem dict_keys {P : Program} {w : World} {h0 : Heap} : ∀ {es : List DictEntry} {vs : List (Key × Value)} {kvs : List (Key × V)}, Pairs (mixKind P w) es vs → KV kvs vs → ReadsAll h0 (es.map (·.key)) (kvs.map fun p => keyD p.1) []
  | _, _, _, .nil, h => by
    cases h
    exact .nil
  | _, _, _, .cons (e := e) (kv := kv) hk hv t, h => by
    cases h with
    | cons a b =>
      have r : Reads h0 e.key (keyD kv.1) [] := by
        rcases keyIs_shape (show keyIs kv.1 e.key = true from hk) with ⟨i, t, e1, e2⟩ | ⟨x, t, e1, e2⟩
        · rw [e1, e2]
          exact .int i t
        · rw [e1, e2]
          exact .str x t
      have := ReadsAll.cons r (dict_keys (h0 := h0) t b)
      rw [← a.1] at this
      exact this
mutual
theorem Rp.reads {W : Wd} {X : Cx} {pins : List (Addr × Obj)} {σ : L2.St} {H S : Hp} {s : Shared} (I : Inv X pins σ H s) (hy : ∀ a o, H a = some o → a ≠ sysModules) (e : Same S H) : ∀ {v : V} {x : PV} {d : PyData} {u : Value}, Rp W S v x → x.rd = some d → RelV v u → ∃ as, Reads s.heap u d as ∧ sysModules ∉ as
  | _, _, d, u, .non, h, r => by
    cases h; cases r
    exact ⟨_, .none, by simp⟩
  | _, _, d, u, .bl, h, r => by
    cases h; cases r
    exact ⟨_, .bool _, by simp⟩
  | _, _, d, u, .int, h, r => by
    cases h
    obtain ⟨t, rfl⟩ := r
    exact ⟨_, .int _ t, by simp⟩
  | _, _, d, u, .str, h, r => by
    cases h
    obtain ⟨t, rfl⟩ := r
    exact ⟨_, .str _ t, by simp⟩
  | _, _, d, u, .tup a t, h, r => by
    simp only [PV.rd, Option.map_eq_some_iff] at h
    obtain ⟨ds, h, rfl⟩ := h
    cases r
    obtain ⟨its, rv, ⟨o, ho, hc, n, hd⟩, _⟩ := I.tuple (.inl (.inl (e _ _ a)))
    obtain ⟨as, q1, q2⟩ := t.reads I hy e h rv
    exact ⟨_, .tuple ho hc hd q1, q2⟩
  | _, _, d, u, .lst a t, h, r => by
    simp only [PV.rd, Option.map_eq_some_iff] at h
    obtain ⟨ds, h, rfl⟩ := h
    cases r
    obtain ⟨its, rv, ⟨o, n, ho, hc, _, hd⟩, _⟩ := I.list (.inl (.inl (e _ _ a)))
    obtain ⟨as, q1, q2⟩ := t.reads I hy e h rv
    exact ⟨_, .list ho hc hd q1, by simp [q2, Ne.symm (hy _ _ (e _ _ a))]⟩
  | _, _, d, u, .dK (kvs := kvs) (xs := xs) a t, h, r => by
    simp only [PV.rd] at h
    cases hk : PV.rds (kvs.map fun p => kP p.1) with
    | none => rw [hk] at h; simp at h
    | some ka =>
      cases hv : PV.rds xs with
      | none => rw [hk, hv] at h; simp at h
      | some va =>
        rw [hk, hv] at h
        dsimp only at h
        by_cases hl : ka.length = va.length
        · rw [if_pos hl] at h
          cases h
          cases r
          obtain ⟨_, _, vs, kv, o, es, ep, ho, hx, hd, _, hp, _⟩ := I.hok _ _ (e _ _ a)
          have hk2 : ka = kvs.map fun p => keyD p.1 := by
            have := rds_keys (ks := kvs.map (·.1)) (a := ka) (by rw [List.map_map]; exact hk)
            rw [this, List.map_map]
            rfl
          have r1 := dict_keys (h0 := s.heap) hp kv
          obtain ⟨bs, r2, q2⟩ := t.reads I hy e hv (dict_vals hp kv)
          have z1 : (ka.zip va).map (·.1) = ka := List.map_fst_zip (by omega)
          have z2 : (ka.zip va).map (·.2) = va := List.map_snd_zip (by omega)
          refine ⟨_, Reads.dict (as := []) (bs := bs) ho hx.1 hd ?_ ?_, ?_⟩
          · rw [z1, hk2]
            exact r1
          · rw [z2]
            exact r2
          · simp [q2, Ne.symm (hy _ _ (e _ _ a))]
        · rw [if_neg hl] at h
          cases h
  | _, _, d, u, .dT a t, h, r => by simp [PV.rd] at h
  | _, _, d, u, .ins _ _ _, h, r => by simp [PV.rd] at h
  | _, _, d, u, .gl _, h, r => by simp [PV.rd] at h
  | _, _, d, u, .ty, h, r => by simp [PV.rd] at h
  | _, _, d, u, .pen, h, r => by simp [PV.rd] at h
theorem Rps.reads {W : Wd} {X : Cx} {pins : List (Addr × Obj)} {σ : L2.St} {H S : Hp} {s : Shared} (I : Inv X pins σ H s) (hy : ∀ a o, H a = some o → a ≠ sysModules) (e : Same S H) : ∀ {vs : List V} {xs : List PV} {ds : List PyData} {us : List Value}, Rps W S vs xs → PV.rds xs = some ds → Vals vs us → ∃ as, ReadsAll s.heap us ds as ∧ sysModules ∉ as
  | _, _, ds, us, .nil, h, r => by
    simp only [PV.rds, Option.some.injEq] at h
    subst h
    cases r
    exact ⟨_, .nil, by simp⟩
  | _, _, ds, us, .cons (x := x) (xs := xs) a t, h, r => by
    simp only [PV.rds] at h
    cases hx : PV.rd x with
    | none => rw [hx] at h; simp at h
    | some d =>
      cases hs : PV.rds xs with
      | none => rw [hx, hs] at h; simp at h
      | some ds' =>
        rw [hx, hs] at h
        cases h
        cases r with
        | cons r1 r2 =>
          obtain ⟨as, q1, q2⟩ := a.reads I hy e hx r1
          obtain ⟨bs, q3, q4⟩ := t.reads I hy e hs r2
          exact ⟨_, .cons q1 q3, by simp [q2, q4]⟩
end
/-- sys.modules is known, so nothing tracked stands there -/
theorem not_sys {X : Cx} {pins : List (Addr × Obj)} {σ : L2.St} {H : Hp} {s : Shared} (I : Inv X pins σ H s) (h : (X.K.lookup sysModules).isSome = true) : ∀ a o, H a = some o → a ≠ sysModules := by
  rintro a o ha rfl
  obtain ⟨oo, hk⟩ := Option.isSome_iff_exists.mp h
  have hb := I.ok.mod.kin _ _ hk
  have := I.bs _ _ hb
  rw [this.2] at ha
  cases ha
def rRepr (W : Wd) : List V → Hp → VK → Prop := fun xs H Q => ∃ v x y, xs = [v] ∧ Rp W (np W H) v x ∧ reprS x = some (.str y) ∧ Q (.str y) H
theorem call_reprX {W : Wd} {X : Cx} {k : Nat} (gd : Gd X.A) (hr : X.A.units + 150 < cLine) (hs : (X.K.lookup sysModules).isSome = true) : CallR X (.builtin "repr") (rRepr W) := by
  intro pins s σ H xs us Q I r h
  obtain ⟨v, x, y, rfl, rx, hy, q⟩ := h
  obtain ⟨u, rfl, ru⟩ := vals1 r
  unfold reprS at hy
  cases hd : x.rd with
  | none => rw [hd] at hy; cases hy
  | some d =>
    rw [hd] at hy
    dsimp only at hy
    by_cases hz : d.showable = true ∧ d.depth ≤ 100 ∧ d.shown.length ≤ 1000000
    · rw [if_pos hz] at hy
      have ey : d.shown = y := by simpa using hy
      subst ey
      obtain ⟨h1, h2, h3⟩ := hz
      have h4 : d.shown.length ≤ sizeLine := Nat.le_trans h3 (Nat.le_of_lt big_line)
      obtain ⟨as, hreads, hno⟩ := rx.reads I (not_sys I hs) np_sub hd ru
      cases hreads with
      | none => exact P.repr_of_none ⟨.str "None", H, I.tok _, ⟨_, rfl⟩, q⟩
      | bool b => exact P.repr_of_bool ⟨.str (if b then "True" else "False"), H, I.tok _, ⟨_, rfl⟩, q⟩
      | int i t => exact P.repr_of_int (by simpa [PyData.showable] using h1) ⟨.str (toString i), H, I.tok _, ⟨_, rfl⟩, q⟩
      | str z t => exact P.repr_of_str ⟨.str (reprText z), H, I.tok _, ⟨_, rfl⟩, q⟩ h4
      | list a b c dd => exact repr_of_reads' (.list a b c dd) h1 (fun _ => hno) gd (by omega) (fun _ _ z => z) (fun h' t tk k => ⟨.str _, H, I.kept (t' := tk) k, ⟨_, rfl⟩, q⟩) h4
      | tuple a b c dd => exact repr_of_reads' (.tuple a b c dd) h1 (fun _ => hno) gd (by omega) (fun _ _ z => z) (fun h' t tk k => ⟨.str _, H, I.kept (t' := tk) k, ⟨_, rfl⟩, q⟩) h4
      | dict a b c dd ee => exact repr_of_reads' (.dict a b c dd ee) h1 (fun _ => hno) gd (by omega) (fun _ _ z => z) (fun h' t tk k => ⟨.str _, H, I.kept (t' := tk) k, ⟨_, rfl⟩, q⟩) h4
    · rw [if_neg hz] at hy
      cases hy
def reprPrim : Prim where
  chk := fun _ sc x => match x with
    | .Call (.Name y _) [e] [] _ => if (decide (y = "repr") && (glB sc y && plainB e)) = true then some [(sc, e)] else none
    | _ => none
  m := fun ms ρ => match ms with
    | [me] => (me ρ).bind fun r => ofV (reprS r.2.fz)
    | _ => .bad
theorem repr_boot : bootBuiltins "repr" = some (.builtin "repr") := by decide +kernel
theorem reprS_str {x y : PV} (h : reprS x = some y) : ∃ z, y = .str z := by
  unfold reprS at h
  split at h
  · split at h
    · exact ⟨_, (Option.some.inj h).symm⟩
    · cases h
  · cases h
theorem repr_need {W : Wd} {k : Nat} (hm : W.mg "repr" = none) (hs : (W.K.lookup sysModules).isSome = true) : Need.holds W k (.prim reprPrim) := by
  intro N sc x ss ms hc hp
  unfold reprPrim at hc ⊢
  dsimp only at hc
  split at hc
  · rename_i y p e pos
    split at hc
    · rename_i hb
      have hb := bt hb
      have e0 := dt hb.1
      subst e0
      have hb2 := bt hb.2
      cases hc
      cases hp with
      | cons pl he t =>
        cases t
        intro X E c
        refine PE.imp (pe_callB (call_reprX (W := W) (k := k) c.gd (by have := c.room.un; omega) (by rw [c.K]; exact hs)) (c.gl hb2.1) (c.fr hm) repr_boot (pa_cons (he X E c) pa_nil (star_cons pl)) (by decide) (by decide) (star_cons pl) (by rfl)) fun σ H Q h => ?_
        refine (op1 h).imp fun v H1 ⟨fe, F0, H0, F', r, e, q, z⟩ => ?_
        cases hr : reprS r.2.fz with
        | none => rw [hr] at z; exact (show False from z).elim
        | some y =>
          rw [hr] at z
          obtain ⟨s, rfl⟩ := reprS_str hr
          exact ⟨v, _, s, rfl, q.read e.g, hr, giveS z e .str⟩
    · cases hc
  · cases hc
end FS

set_option Elab.async false
set_option linter.all false
set_option maxRecDepth 100000
set_option maxHeartbeats 8000000
namespace FS
open PySem PySem.Spec PyProof.Rows L2

/-! ### defs called with the caught error -/
structure FnE (P : Program) (w : World) (K : PySem.W.Frag) (mg : Str → Option Value) (base : Heap) (k : Nat) (f : Addr) (fd : FuncData) (ps : List Str) (sp : Addr × Obj → Sp) : Prop where
  len : ∀ p vs H Q E, sp p vs H Q E → vs.length = ps.length
  run : ∀ (A : Around) (outer : List Env) (s : Shared) (H : Hp) (args : Args) (us : List Value) (vs : List V) (Q : VK) (E : XK) (p : Addr × Obj), Gd A → L2H.RoomH k A → L2H.PinOk outer H s p → Env0 P w K mg base A outer s H → BindsTo s fd args (ps.zip us) → Vals vs us → sp p vs H Q E →
    codeAny (model P w) A (.call (.ref f) args) (CR CX0 outer P w H s Q E) s
abbrev cxE (P : Program) (w : World) (K : PySem.W.Frag) (mg : Str → Option Value) (base : Heap) (N : List Str) (qual : Str) (scope : Scope) (f : Addr) (cd : Value) (A : Around) (outer : List Env) (s : Shared) (H : Hp) (E : XK) (p : Addr × Obj) : Cx :=
  L2H.cxH CX0 P w K mg base N qual scope f cd A outer s H E p
theorem fn_ofE {P : Program} {w : World} {K : PySem.W.Frag} {mg : Str → Option Value} {base : Heap} {k : Nat} {f : Addr} {x qual : Str} {params : Arguments} {body : List Stmt} {scope : Scope} {fd : FuncData} {N ps : List Str} {sp : Addr × Obj → Sp} (F : FunD K x qual params body scope [] [] f fd) (S : FnScope N ps scope)
    (len : ∀ p vs H Q E, sp p vs H Q E → vs.length = ps.length)
    (hbody : ∀ (cdv : Value) (A : Around) (outer : List Env) (s : Shared) (H : Hp) (vs : List V) (Q : VK) (E : XK) (p : Addr × Obj), Gd (A.deeper (envOfC qual scope s.heap.objs.size f cdv)) → L2H.RoomH k (A.deeper (envOfC qual scope s.heap.objs.size f cdv)) → sp p vs H Q E →
      ∃ t, PSs (cxE P w K mg base N qual scope f cdv A outer s H E p).nox body t ∧ t { nx := fun _ H' => Q .non H', rt := Q } (L2.start N vs) H) : FnE P w K mg base (k + 1) f fd ps sp := by
  obtain ⟨oc, od, dV, kV, doc, pm, an, cdv, ct, osl, rfl, lk, hcd, _, _⟩ := F.ex
  refine ⟨len, fun A outer s H args us vs Q E p hg hr hpin e0 hb r hsp => ?_⟩
  have hl := len _ _ _ _ _ hsp
  have old : ∀ b o, base.get? b = some o → s.heap.get? b = some o := fun b o e => (e0.bs b o e).1
  have kin : K.In s.heap := e0.mod.kin.keeps old
  have hkind : ∀ y ∈ ps.zip us, scope.names.lookup y.1 = some .local ∨ (scope.names.lookup y.1 = some .cell ∧ ((cellsFrom (s.heap.objs.size + 1) scope.names []).lookup y.1).isSome = true) := by
    rintro ⟨n, v⟩ hy
    exact (S.par n (List.of_mem_zip hy).1).imp id fun q => ⟨q, PySem.W.cellsFrom_some _ _ _ (.inl q)⟩
  refine codeAny_call_function hr.depth (kin _ _ lk) rfl S.co S.gen rfl (PySem.W.codeRec_of kin hcd) (hb _ _ _ _ (wpAny_newFunctionEnv_cells S.kind hkind fun env he s1 z => ?_))
  subst he
  obtain ⟨t, ht, hq⟩ := hbody cdv A outer s H vs Q E p hg (hr.deeper _) hsp
  have ht := PSs.nox ht
  refine ⟨(e0.mod.nolimit.keeps old).keeps z.toInCall.keep, codeAny_func (wpAny_mono (ht.run [] s1 (L2.start N vs) H _ (L2H.inv_startH S hpin e0 hl r z) hq) (fun fl s' hs => ?_) fun e s' hs => hs)⟩
  cases fl with
  | ret u => exact let ⟨v, σ', H', J, rv, q⟩ := hs; ⟨v, H', J.os, J.bare, J.base, J.hok, rv, q⟩
  | next => exact let ⟨σ', H', J, q⟩ := hs; ⟨V.non, H', J.os, J.bare, J.base, J.hok, rfl, q⟩
  | brk => exact let ⟨_, _, _, q⟩ := hs; False.elim q
  | cont => exact let ⟨_, _, _, q⟩ := hs; False.elim q
section
variable {X : Cx} {k : Nat} {f : Addr} {fd : FuncData} {ps : List Str} {sp : Addr × Obj → Sp} {x : Str} {q pos : Pos} {e : Expr} {es : List Expr} {t : TA}
theorem pe_callE {E : XK} {p : Addr × Obj} (hp : p ∈ X.pn) (F : FnE X.prog X.w X.K X.mg X.base k f fd ps sp) (gd : Gd X.A) (hr : L2H.RoomH k X.A) (hg : Gl X x) (hm : X.mg x = some (.ref f)) (hk : PySem.W.keepIn X.K (.ref f) = true) (hb : Binds X.K fd ps [])
    (ha : PA X (e :: es) t) (hdb : (x == ("__debug__" : Str)) = false := by decide) (he : starEach (e :: es) X.env = (false, eval e X.env) :: starEach es X.env := by rfl) (hpl : (backTo pos (starEach es X.env)).any (·.1) = false := by rfl) :
    PE X (.Call (.Name x q) (e :: es) [] pos) (fun σ H Q => t σ H fun vs H1 => sp p vs H1 Q E) := by
  refine ⟨fun pins s σ H Q I h => wpAny_Call_Name_kw (ld_glob I hg hm (PySem.W.callWith_K (h₀ := X.base) I.ok.mod.kin hk (thn (ha.run pos pins s σ H _ I h) fun us s1 ⟨vs, H1, I1, r, z⟩ => ⟨I1.kIn, ?_⟩) he hpl) hdb)⟩
  have hl : us.length = ps.length := by rw [← r.length]; exact F.len _ _ _ _ _ z
  have b := hb s1 us I1.kIn (by rw [List.append_nil]; exact hl)
  rw [List.append_nil] at b
  have P1 := I1.pin p (List.mem_append_left _ hp)
  have hpin : L2H.PinOk X.stack H1 s1 p := ⟨P1.1, P1.2.1, fun hm => (List.mem_cons.mp (I1.stkSub p.1 hm)).elim P1.2.2.1 P1.2.2.2.1, P1.2.2.2.2⟩
  refine wpAny_call (codeAny_mono (F.run X.A X.stack s1 H1 ⟨us, []⟩ us vs Q E p gd hr hpin I1.env0 b r z) fun r s' hq => ?_)
  cases r with
  | error e => exact False.elim hq
  | ok fl => cases fl with
    | ret u => exact I1.after hq
    | _ => exact False.elim hq
/-- isinstance(e, c), e the caught error -/
def rIsP (K : PySem.W.Frag) (D a : Addr) (d : Option Addr) : List V → Hp → VK → Prop := fun xs H Q => ∃ (c : V) (cv : Value) (b : Bool), xs = [.ref a, c] ∧ (∀ u, RelV c u → u = cv) ∧ PySem.W.kitOne K (.ref D) cv = some b ∧ (∀ dd, d = some dd → ∃ fs, H dd = some (.xd fs)) ∧ Q (.bl b) H
theorem call_isP {a D : Addr} {oe : Obj} {d : Option Addr} (hp : (a, oe) ∈ X.pn) (C : ExcC X.K D) (hz : Zc (.ref D) d oe) (hf : ∃ vs, oe.data = .fields vs) : CallR X (.builtin "isinstance") (rIsP X.K D a d) := by
  intro pins s σ H xs us Q I r h
  obtain ⟨c, cv, b, rfl, hcv, e, hd, q⟩ := h
  cases r with
  | cons rx rr =>
    cases rr with
    | cons rt rr =>
      cases rr
      cases rx
      have ec := hcv _ rt
      subst ec
      obtain ⟨hget, _⟩ := I.pin (a, oe) (List.mem_append_left _ hp)
      obtain ⟨vs, hv⟩ := hf
      obtain ⟨od, J⟩ : ∃ od, PySem.W.InstAt s.heap a oe D od := by
        obtain ⟨oc, odd, oda, osl⟩ := oe
        obtain ⟨h1, h2⟩ := hz
        dsimp only at h1 h2 hv
        subst h1 h2 hv
        cases odd with
        | none => exact ⟨none, hget, rfl, rfl, trivial⟩
        | some dd =>
          obtain ⟨fs, hdd⟩ := hd dd rfl
          obtain ⟨mA, hns, _⟩ : ObjOk X.prog X.w H s.heap dd (.xd fs) := I.hok dd _ hdd
          obtain ⟨od, ho, _⟩ := lookIn_ns hns
          exact ⟨some od, hget, rfl, rfl, ho⟩
      have hcl : (PySem.W.clsIn X.K D).isSome = true := by
        have := C.hd
        unfold PySem.W.hasDictIn at this
        cases hc : PySem.W.clsIn X.K D with
        | none => rw [hc] at this; cases this
        | some _ => rfl
      exact PySem.W.kia_one (PySem.W.kitx_exc hcl C.hg C.hk C.hs C.ha C.hn C.ht C.hm) I.kIn J e (fun z => nomatch z) fun tk => ⟨.bl b, H, I.kept (t' := tk) fun _ _ z => z, rfl, q⟩
/-- e.f, e the caught error -/
theorem pe_xfP {a C dd : Addr} {oe : Obj} {e : Expr} {te : TE} {pos : Pos} {n : Str} (hp : (a, oe) ∈ X.pn) (T : XfC X.K C) (hno : PySem.W.findIn X.K (.ref C) n = some none)
    (hz : Zc (.ref C) (some dd) oe) (hf : ∃ vs, oe.data = .fields vs) (he : PE X e te) (hb : attributeBase e n X.env (eval e X.env) = eval e X.env := by rfl) :
    PE X (.Attribute e n pos) (fun σ H Q => te σ H fun x H1 => x = .ref a ∧ ∃ (fs : List (Str × V)) (v : V), H1 dd = some (.xd fs) ∧ fs.lookup n = some v ∧ Q v H1) := by
  refine ⟨fun pins s σ H Q I h => ?_⟩
  refine attr_of hb (thn (he.run pins s σ H _ I h) fun u s1 hh => ?_)
  obtain ⟨x, H1, I1, rx, ex, fs, v, ea, l, q⟩ := hh
  subst ex
  obtain rfl : u = Value.ref a := rx
  obtain ⟨ha, _⟩ := I1.pin (a, oe) (List.mem_append_left _ hp)
  obtain ⟨vs, hd⟩ := hf
  obtain ⟨mA, hns, hr⟩ : ObjOk X.prog X.w H1 s1.heap dd (.xd fs) := I1.hok dd _ ea
  obtain ⟨od, ho, hl⟩ := lookIn_ns hns
  obtain ⟨u, hu, ru⟩ := RelO.some_of (v := v) (o := mA n) (by rw [← l]; exact hr n)
  have J : PySem.W.InstAt s1.heap a oe C (some od) := ⟨ha, hz.1, by unfold PySem.W.notCls; rw [hd] <;> rfl, by rw [hz.2]; exact ho⟩
  exact HandSPX.exc_get I1.kIn J T.ga T.gg T.exC (PySem.W.findObj_own T.hdC hno rfl (by rw [hl, hu])) (handed_of ru) ⟨v, H1, I1.tok _, ru, q⟩
end
end FS

set_option Elab.async false
set_option linter.all false
set_option maxRecDepth 100000
set_option maxHeartbeats 8000000
namespace FS
open PySem PySem.Spec PyProof.Rows L2

/-! ### what is told of an error: class by class -/
/-- class, word, fields (and whether shown) -/
abbrev KE := Str × Str × List (Str × Bool)
def kField (ns : List Str) (xs : List PV) (p : Str × Bool) : Option PV := match (ns.zip xs).lookup p.1 with
  | some v => if p.2 then reprS v else some v
  | none => none
def kFields (ns : List Str) (xs : List PV) : List (Str × Bool) → Option (List PV)
  | [] => some []
  | p :: r => match kField ns xs p, kFields ns xs r with
    | some v, some vs => some (v :: vs)
    | _, _ => none
def kStep (c : Str) (ns : List Str) (xs : List PV) (e : KE) (ys : List PV) : Option (List PV) :=
  if e.1 = c then (match kFields ns xs e.2.2 with
    | some vs => if ys.length < 1000 ∧ vs.length < 1000 then some (ys ++ [.tup (.str e.2.1 :: vs)]) else none
    | none => none) else some ys
def kRun (c : Str) (ns : List Str) (xs : List PV) : List KE → List PV → Option (List PV)
  | [], ys => some ys
  | e :: r, ys => (kStep c ns xs e ys).bind (kRun c ns xs r)
structure CxE (W : Wd) (k : Nat) (N : List Str) (sc : Scope) (X : Cx) (a : Addr) (oe : Obj) : Prop where
  prog : X.prog = W.P
  w : X.w = W.w
  K : X.K = W.K
  mg : X.mg = W.mg
  base : X.base = W.base
  nd : N.Nodup
  N : X.N = N
  sc : X.env.scope = sc
  gd : Gd X.A
  room : L2H.RoomH k X.A
  pn : (a, oe) ∈ X.pn
  fl : ∃ vs, oe.data = .fields vs
/-- the class of the error, as the written part tells it -/
structure EcS (W : Wd) (C : Addr) (c : Str) : Prop where
  mg : W.mg c = some (.ref C)
  is : ExcC W.K C
  xf : XfC W.K C
  sys : (W.K.lookup sysModules).isSome = true
  frR : W.mg "repr" = none
  frI : W.mg "isinstance" = none
structure EntS (W : Wd) (C : Addr) (c : Str) (e : KE) : Prop where
  is : ∃ C', W.mg e.1 = some (.ref C') ∧ PySem.W.kitOne W.K (.ref C) (.ref C') = some (decide (e.1 = c))
  fs : e.1 = c → ∀ p ∈ e.2.2, PySem.W.findIn W.K (.ref C) p.1 = some none
def KI (W : Wd) (d : Option Addr) (ns : List Str) (xs : List PV) (F0 H0 : Hp) : Prop := match d with
  | none => ns = [] ∧ xs = []
  | some dd => dd ≠ W.pen ∧ ∃ fs : List (Str × V), H0 dd = some (.xd fs) ∧ fs.map (·.1) = ns ∧ Rps W F0 (fs.map (·.2)) xs
def fldB (N : List Str) (sc : Scope) (p : Str × Bool) (e : Expr) : Bool := match p.2, e with
  | false, .Attribute (.Name s _) f _ => decide (N[0]? = some s) && (visB sc s && (nmB s && decide (f = p.1)))
  | true, .Call (.Name r _) [.Attribute (.Name s _) f _] [] _ => decide (r = "repr") && (glB sc r && (decide (N[0]? = some s) && (visB sc s && (nmB s && decide (f = p.1)))))
  | _, _ => false
def fldsB (N : List Str) (sc : Scope) : List (Str × Bool) → List Expr → Bool
  | [], es => es.isEmpty
  | p :: r, es => (match es with | e :: es => plainB e && (fldB N sc p e && fldsB N sc r es) | [] => false)
section
variable {W : Wd} {k : Nat} {N : List Str} {sc : Scope} {X : Cx} {a : Addr} {oe : Obj} {C dd : Addr} {c : Str}
def tFd (W : Wd) (a dd : Addr) (p : Str × Bool) : TE :=
  let t : TE := fun σ H Q => tVar 0 σ H fun x H1 => x = .ref a ∧ ∃ (fs : List (Str × V)) (v : V), H1 dd = some (.xd fs) ∧ fs.lookup p.1 = some v ∧ Q v H1
  if p.2 then tCB (rRepr W) (tCons t tNil) else t
def tFds (W : Wd) (a dd : Addr) : List (Str × Bool) → TA
  | [] => tNil
  | p :: r => tCons (tFd W a dd p) (tFds W a dd r)
theorem pe_fd (x : CxE W k N sc X a oe) (ec : EcS W C c) (hz : Zc (.ref C) (some dd) oe) {p : Str × Bool} {e : Expr} (hn : PySem.W.findIn W.K (.ref C) p.1 = some none) (h : fldB N sc p e = true) : PE X e (tFd W a dd p) := by
  have go : ∀ {s : Str} {f : Str} {p1 pos : Pos}, N[0]? = some s → visB sc s = true → nmB s = true → f = p.1 → PE X (.Attribute (.Name s p1) f pos) (fun σ H Q => tVar 0 σ H fun x H1 => x = .ref a ∧ ∃ (fs : List (Str × V)) (v : V), H1 dd = some (.xd fs) ∧ fs.lookup p.1 = some v ∧ Q v H1) := by
    rintro s f p1 pos h1 h2 h3 rfl
    exact pe_xfP x.pn (by rw [x.K]; exact ec.xf) (by rw [x.K]; exact hn) hz x.fl (pe_var (by rw [x.N]; exact h1) (by rw [x.sc]; exact visB_ok h2) (nmB_ok h3).1 (nmB_ok h3).2.1) (by rfl)
  obtain ⟨f, b⟩ := p
  unfold fldB at h
  cases b with
  | false =>
    dsimp only at h
    split at h
    · simp only [Bool.and_eq_true, decide_eq_true_eq] at h
      exact go h.1 h.2.1 h.2.2.1 h.2.2.2
    · rename_i q
      cases q
    · cases h
  | true =>
    dsimp only at h
    split at h
    · rename_i q
      cases q
    · simp only [Bool.and_eq_true, decide_eq_true_eq] at h
      obtain ⟨rfl, h1, h2, h3, h4, h5⟩ := h
      exact pe_callB (call_reprX (k := k) x.gd (by have := x.room.un; omega) (by rw [x.K]; exact ec.sys)) (by show X.env.scope.names.lookup _ = _; rw [x.sc]; exact glB_ok h1) (by rw [x.mg]; exact ec.frR) repr_boot (pa_cons (go h2 h3 h4 h5) pa_nil (by rfl)) (by decide) (by decide) (by rfl) (by rfl)
    · cases h
theorem pa_fds (x : CxE W k N sc X a oe) (ec : EcS W C c) (hz : Zc (.ref C) (some dd) oe) : ∀ {ps : List (Str × Bool)} {es : List Expr}, (∀ p ∈ ps, PySem.W.findIn W.K (.ref C) p.1 = some none) → fldsB N sc ps es = true → PA X es (tFds W a dd ps)
  | [], [], _, _ => pa_nil
  | [], _ :: _, _, h => by simp [fldsB] at h
  | p :: r, [], _, h => by simp [fldsB] at h
  | p :: r, e :: es, hn, h => by
    unfold fldsB at h
    have h := bt h
    have h2 := bt h.2
    exact pa_cons (pe_fd x ec hz (hn p (by simp)) h2.1) (pa_fds x ec hz (fun q hq => hn q (by simp [hq])) h2.2) (star_cons h.1)
theorem lookup_zip {F : Hp} : ∀ {fs : List (Str × V)} {xs : List PV} {f : Str} {x : PV}, Rps W F (fs.map (·.2)) xs → ((fs.map (·.1)).zip xs).lookup f = some x → ∃ v, fs.lookup f = some v ∧ Rp W F v x
  | [], _, _, _, r, h => by cases r; simp at h
  | (g, v) :: fs, _, f, x, r, h => by
    cases r with
    | @cons _ _ y ys a t =>
      simp only [List.map_cons, List.zip_cons_cons, List.lookup_cons] at h ⊢
      cases e : (f == g) with
      | true =>
        rw [e] at h
        cases h
        exact ⟨v, by simp [e], a⟩
      | false =>
        rw [e] at h
        obtain ⟨w, h1, h2⟩ := lookup_zip t h
        exact ⟨w, by simp [e, h1], h2⟩
/-- the fields, read -/
theorem fds_ok {σ : L2.St} {H F : Hp} {fs : List (Str × V)} {xs : List PV} (g : Good W F H) (h0 : σ[0]? = some (some (.ref a))) (hd : H dd = some (.xd fs)) (r : Rps W F (fs.map (·.2)) xs) : ∀ {ps : List (Str × Bool)} {ys : List PV} {Q : List V → Hp → Prop},
    kFields (fs.map (·.1)) xs ps = some ys → (∀ vs, Rps W F vs ys → Q vs H) → tFds W a dd ps σ H Q
  | [], ys, Q, h, q => by
    cases h
    exact q [] .nil
  | p :: ps, ys, Q, h, q => by
    simp only [kFields] at h
    cases h1 : kField (fs.map (·.1)) xs p with
    | none => rw [h1] at h; simp at h
    | some y =>
      cases h2 : kFields (fs.map (·.1)) xs ps with
      | none => rw [h1, h2] at h; simp at h
      | some ys' =>
        rw [h1, h2] at h
        cases h
        unfold kField at h1
        cases hl : ((fs.map (·.1)).zip xs).lookup p.1 with
        | none => rw [hl] at h1; cases h1
        | some x =>
          rw [hl] at h1
          dsimp only at h1
          obtain ⟨v, l1, l2⟩ := lookup_zip r hl
          have rest : ∀ w, Rp W F w y → tFds W a dd ps σ H (fun vs H' => Q (w :: vs) H') := fun w rw_ => fds_ok g h0 hd r h2 fun vs rv => q (w :: vs) (.cons rw_ rv)
          obtain ⟨f, b⟩ := p
          cases b with
          | false =>
            have e : x = y := by simpa using h1
            subst e
            exact ⟨.ref a, h0, rfl, fs, v, hd, l1, rest v l2⟩
          | true =>
            have h1 : reprS x = some y := by simpa using h1
            obtain ⟨z, rfl⟩ := reprS_str h1
            exact ⟨.ref a, h0, rfl, fs, v, hd, l1, v, x, z, rfl, l2.mono g.np, h1, rest (.str z) .str⟩
/-- if isinstance(e, class): found.append((word, ..)) -/
def kStB (N : List Str) (sc : Scope) (e : KE) (st : Stmt) : Bool := match st with
  | .If (.Call (.Name i _) [.Name s _, .Name cl _] [] _) [.Expr (.Call (.Attribute (.Name fnd _) m p2) [.Tuple (.Constant (.str w) _ _ :: fs) _ _] [] p3) _] [] _ =>
    decide (i = "isinstance") && (glB sc i && (decide (N[0]? = some s) && (visB sc s && (nmB s && (decide (cl = e.1) && (glB sc cl && (nmB cl && (mB N sc 1 fnd && (decide (m = "append") && ((p2.endLine == p3.line) && (decide (w = e.2.1) && fldsB N sc e.2.2 fs)))))))))))
  | _ => false
def kStsB (N : List Str) (sc : Scope) : List KE → List Stmt → Bool
  | [], ss => ss.isEmpty
  | e :: r, ss => (match ss with | s :: ss => kStB N sc e s && kStsB N sc r ss | [] => false)
abbrev kρ (ys : List PV) : Loc := [none, some (.lst true ys)]
/-- behind some of them -/
def tKs (W : Wd) (a : Addr) (d : Option Addr) (c : Str) (tbl : List KE) : TS := fun D σ H => ∃ F0 H0 Fb F fp ns xs ys ys', At W F0 H0 Fb F H σ (kρ ys) fp ∧ KI W d ns xs F0 H0 ∧ σ[0]? = some (some (.ref a)) ∧ kRun c ns xs tbl ys = some ys' ∧
  ∀ F H σ fp, At W F0 H0 Fb F H σ (kρ ys') fp → σ[0]? = some (some (.ref a)) → D.nx σ H
def tK1 (W : Wd) (a : Addr) (d : Option Addr) (c : Str) (e : KE) : TS := fun D σ H => ∃ F0 H0 Fb F fp ns xs ys ys', At W F0 H0 Fb F H σ (kρ ys) fp ∧ KI W d ns xs F0 H0 ∧ σ[0]? = some (some (.ref a)) ∧ kStep c ns xs e ys = some ys' ∧
  ∀ F H σ fp, At W F0 H0 Fb F H σ (kρ ys') fp → σ[0]? = some (some (.ref a)) → D.nx σ H
/-- the error's dict stands -/
theorem KI.at_ {F0 H0 F H : Hp} {d : Option Addr} {ns : List Str} {xs : List PV} (e : Ext W F0 H0 F H) (k : KI W d ns xs F0 H0) : ∀ dd, d = some dd → ∃ fs : List (Str × V), H dd = some (.xd fs) ∧ fs.map (·.1) = ns ∧ Rps W F (fs.map (·.2)) xs := by
  rintro dd rfl
  obtain ⟨h1, fs, h2, h3, h4⟩ := k
  exact ⟨fs, e.h _ _ h1 h2 (fun _ z => by cases z), h3, h4.mono e.f⟩
theorem kFields_none {p : Str × Bool} {r : List (Str × Bool)} : kFields [] [] (p :: r) = none := by
  simp [kFields, kField]
theorem ps_k1 (x : CxE W k N sc X a oe) (ec : EcS W C c) {d : Option Addr} (hz : Zc (.ref C) d oe) {e : KE} (es : EntS W C c e) {st : Stmt} (h : kStB N sc e st = true) : PS X st (tK1 W a d c e) := by
  unfold kStB at h
  split at h
  · rename_i i pi s ps cl pc pp fnd pf m p2 w wj wp fs fj fp p3 pe pif
    simp only [Bool.and_eq_true, decide_eq_true_eq] at h
    obtain ⟨rfl, g1, n0, n1, n2, rfl, g2, g3, m0, rfl, l0, rfl, hf⟩ := h
    obtain ⟨m1, m2, m3⟩ := mB_ok m0
    obtain ⟨C', c1, c2⟩ := es.is
    have pv0 : PE X (.Name s ps) (tVar 0) := pe_var (by rw [x.N]; exact n0) (by rw [x.sc]; exact visB_ok n1) (nmB_ok n2).1 (nmB_ok n2).2.1
    have pv1 : PE X (.Name fnd pf) (tVar 1) := pe_var (by rw [x.N]; exact m1) (by rw [x.sc]; exact visB_ok m2) (nmB_ok m3).1 (nmB_ok m3).2.1
    have gl : ∀ {y : Str}, glB sc y = true → Gl X y := fun hy => by
      show X.env.scope.names.lookup _ = _
      rw [x.sc]
      exact glB_ok hy
    have test : PT X (.Call (.Name "isinstance" pi) [.Name s ps, .Name e.1 pc] [] pp) (tB (tCB (rIsP W.K C a d) (tCons (tVar 0) (tCons (tC (.ref C')) tNil)))) := by
      have := call_isP (X := X) (D := C) (d := d) x.pn (by rw [x.K]; exact ec.is) hz x.fl
      rw [x.K] at this
      exact pt_val (pe_callB this (gl g1) (by rw [x.mg]; exact ec.frI) boot_isinstance (pa_cons pv0 (pa_cons (pe_glob (v := .ref C') (gl g2) (by rw [x.mg]; exact c1) rfl (nm1 g3)) pa_nil)) (by decide) (by decide) (by rfl) (by rfl))
    have run : ∀ {σ : L2.St} {H F0 H0 F : Hp} {ns : List Str} {xs : List PV} {Q : Bool → Hp → Prop}, Ext W F0 H0 F H → KI W d ns xs F0 H0 → σ[0]? = some (some (.ref a)) → Q (decide (e.1 = c)) H → tB (tCB (rIsP W.K C a d) (tCons (tVar 0) (tCons (tC (.ref C')) tNil))) σ H Q := fun {σ H F0 H0 F ns xs Q} ee ki h0 q =>
      ⟨.ref a, h0, .ref C', .ref C', decide (e.1 = c), rfl, fun u r => r, c2, fun dd hd => let ⟨fs, z, _⟩ := ki.at_ ee dd hd; ⟨fs, z⟩, _, rfl, q⟩
    by_cases hc : e.1 = c
    · by_cases hd : d = none ∧ e.2.2 ≠ []
      · refine PS.imp (ps_if test pss_never pss_nil) fun D σ H ⟨F0, H0, Fb, F, fq, ns, xs, ys, ys', at_, ki, h0, hk, q⟩ => ?_
        obtain ⟨rfl, hne⟩ := hd
        obtain ⟨rfl, rfl⟩ := ki
        unfold kStep at hk
        rw [if_pos hc] at hk
        cases he : e.2.2 with
        | nil => exact absurd he hne
        | cons p r =>
          rw [he, kFields_none] at hk
          cases hk
      · have pa : PA X fs (tFds W a (d.getD 0) e.2.2) := by
          cases d with
          | some dd => exact pa_fds x ec hz (es.fs hc) hf
          | none =>
            have hn : e.2.2 = [] := by
              cases he : e.2.2 with
              | nil => rfl
              | cons p r => exact absurd ⟨rfl, by rw [he]; simp⟩ hd
            rw [hn] at hf ⊢
            cases fs with
            | nil => exact pa_nil
            | cons _ _ => simp [fldsB] at hf
        refine PS.imp (ps_if test (pss_one (ps_expr (pe_bm PySem.F.plainAttrs_list PySem.F.slot_list_append PySem.F.type_list_append mt_append pv1 (pa_cons (pe_tup (pa_cons pe_str pa (by rfl))) pa_nil (by rfl)) rfl (by rfl) l0 (by rfl) (by rfl)) (by rfl))) pss_nil) fun D σ H ⟨F0, H0, Fb, F, fq, ns, xs, ys, ys', at_, ki, h0, hk, q⟩ => ?_
        refine run at_.e ki h0 ?_
        rw [if_pos (by simp [hc])]
        unfold kStep at hk
        rw [if_pos hc] at hk
        cases hks : kFields ns xs e.2.2 with
        | none => rw [hks] at hk; cases hk
        | some vs =>
          rw [hks] at hk
          dsimp only at hk
          by_cases hl : ys.length < 1000 ∧ vs.length < 1000
          · rw [if_pos hl] at hk
            cases hk
            obtain ⟨v, f, g, k1, k2, k3, k4, k5⟩ := at_.env.split (i := 1) (x := .lst true ys) rfl
            obtain ⟨l, us, f0, rfl, rfl, hp, hF, hn, rs, hnp⟩ := k2.lstI
            refine ⟨.ref l, k1, .inl ⟨rfl, _, SqL.of hp⟩, ?_⟩
            have go : tFds W a (d.getD 0) e.2.2 σ H fun ws H1 => (V.str e.2.1 :: ws).length ≤ sizeLine ∧ ∀ p, H1 p = none → rAppend (.ref l) [.ref p] (upd H1 p (.tup (.str e.2.1 :: ws))) fun _ H2 => D.nx σ H2 := by
              have fin : ∀ ws, Rps W F ws vs → (V.str e.2.1 :: ws).length ≤ sizeLine ∧ ∀ p, H p = none → rAppend (.ref l) [.ref p] (upd H p (.tup (.str e.2.1 :: ws))) fun _ H2 => D.nx σ H2 := fun ws rw_ => by
                have hb := big_line
                refine ⟨by rw [List.length_cons, rw_.length]; omega, fun p hp0 => ?_⟩
                have e2 := at_.e.g.laidF (o := .tup (.str e.2.1 :: ws)) hp0
                have a2 := at_.ext e2
                obtain ⟨l', us', eq, hp', hl', fr, a3⟩ := app_core a2 (i := 1) (xs := ys) rfl k1 (.st (.tup upd_same (.cons .str (rw_.mono e2.f)))) (fun _ z => by simp at z) (fun _ z => by simp at z)
                cases eq
                exact ⟨l, us', .ref p, rfl, rfl, hp', by rw [hl']; omega, q _ _ _ fr a3 h0⟩
              cases d with
              | none =>
                have hn : e.2.2 = [] := by
                  cases he : e.2.2 with
                  | nil => rfl
                  | cons p r => exact absurd ⟨rfl, by rw [he]; simp⟩ hd
                rw [hn] at hks ⊢
                cases hks
                exact fin [] .nil
              | some dd =>
                obtain ⟨fs', z1, z2, z3⟩ := ki.at_ at_.e dd rfl
                subst z2
                exact fds_ok at_.e.g h0 z1 z3 hks fin
            exact go
          · rw [if_neg hl] at hk
            cases hk
    · refine PS.imp (ps_if test pss_never pss_nil) fun D σ H ⟨F0, H0, Fb, F, fq, ns, xs, ys, ys', at_, ki, h0, hk, q⟩ => ?_
      refine run at_.e ki h0 ?_
      rw [if_neg (by simp [hc])]
      unfold kStep at hk
      rw [if_neg hc] at hk
      cases hk
      exact q _ _ _ _ at_ h0
  · cases h
theorem pss_ks (x : CxE W k N sc X a oe) (ec : EcS W C c) {d : Option Addr} (hz : Zc (.ref C) d oe) : ∀ {tbl : List KE} {ss : List Stmt}, (∀ e ∈ tbl, EntS W C c e) → kStsB N sc tbl ss = true → PSs X ss (tKs W a d c tbl)
  | [], [], _, _ => PSs.imp pss_nil fun D σ H ⟨F0, H0, Fb, F, fq, ns, xs, ys, ys', at_, ki, h0, hk, q⟩ => by
    cases hk
    exact q _ _ _ _ at_ h0
  | [], _ :: _, _, h => by simp [kStsB] at h
  | e :: r, [], _, h => by simp [kStsB] at h
  | e :: r, s :: ss, he, h => by
    unfold kStsB at h
    have h := bt h
    refine PSs.imp (pss_cons (ps_k1 x ec hz (he e (by simp)) h.1) (pss_ks x ec hz (fun e' h' => he e' (by simp [h'])) h.2)) fun D σ H ⟨F0, H0, Fb, F, fq, ns, xs, ys, ys', at_, ki, h0, hk, q⟩ => ?_
    unfold kRun at hk
    obtain ⟨y1, k1, k2⟩ := Option.bind_eq_some_iff.mp hk
    exact ⟨F0, H0, Fb, F, fq, ns, xs, ys, y1, at_, ki, h0, k1, fun F H σ fp a2 h2 => ⟨F0, H0, Fb, F, fp, ns, xs, y1, ys', a2, ki, h2, k2, q⟩⟩
end
end FS

set_option Elab.async false
set_option linter.all false
set_option maxRecDepth 100000
set_option maxHeartbeats 8000000
namespace FS
open PySem PySem.Spec PyProof.Rows L2

section
variable {W : Wd} {k : Nat} {N : List Str} {sc : Scope} {X : Cx} {a : Addr} {oe : Obj} {C dd : Addr} {c : Str}
theorem pss_ksT (x : CxE W k N sc X a oe) (ec : EcS W C c) {d : Option Addr} (hz : Zc (.ref C) d oe) {tail : List Stmt} {t : TS} (ht : PSs X tail t) : ∀ {tbl : List KE} {ss : List Stmt}, (∀ e ∈ tbl, EntS W C c e) → kStsB N sc tbl ss = true → PSs X (ss ++ tail) (tSeq (tKs W a d c tbl) t)
  | [], [], _, _ => PSs.imp ht fun D σ H ⟨F0, H0, Fb, F, fq, ns, xs, ys, ys', at_, ki, h0, hk, q⟩ => by
    cases hk
    exact q _ _ _ _ at_ h0
  | [], _ :: _, _, h => by simp [kStsB] at h
  | e :: r, [], _, h => by simp [kStsB] at h
  | e :: r, s :: ss, he, h => by
    unfold kStsB at h
    have h := bt h
    refine PSs.imp (pss_cons (ps_k1 x ec hz (he e (by simp)) h.1) (pss_ksT x ec hz ht (fun e' h' => he e' (by simp [h'])) h.2)) fun D σ H ⟨F0, H0, Fb, F, fq, ns, xs, ys, ys', at_, ki, h0, hk, q⟩ => ?_
    unfold kRun at hk
    obtain ⟨y1, k1, k2⟩ := Option.bind_eq_some_iff.mp hk
    exact ⟨F0, H0, Fb, F, fq, ns, xs, ys, y1, at_, ki, h0, k1, fun F H σ fp a2 h2 => ⟨F0, H0, Fb, F, fp, ns, xs, y1, ys', a2, ki, h2, k2, q⟩⟩
end
theorem kRun_st {c : Str} {ns : List Str} {xs : List PV} : ∀ {tbl : List KE} {ys ys' : List PV}, kRun c ns xs tbl ys = some ys' → ys.all PV.st = true → ys'.all PV.st = true
  | [], ys, ys', h, s => by
    cases h
    exact s
  | e :: r, ys, ys', h, s => by
    unfold kRun at h
    obtain ⟨y1, k1, k2⟩ := Option.bind_eq_some_iff.mp h
    refine kRun_st k2 ?_
    unfold kStep at k1
    split at k1
    · split at k1
      · split at k1
        · cases k1
          simp [s, PV.st]
        · cases k1
      · cases k1
    · cases k1
      exact s
theorem kRun_len {c : Str} {ns : List Str} {xs : List PV} : ∀ {tbl : List KE} {ys ys' : List PV}, kRun c ns xs tbl ys = some ys' → ys'.length ≤ ys.length + tbl.length
  | [], ys, ys', h => by
    cases h
    simp
  | e :: r, ys, ys', h => by
    unfold kRun at h
    obtain ⟨y1, k1, k2⟩ := Option.bind_eq_some_iff.mp h
    have := kRun_len k2
    have : y1.length ≤ ys.length + 1 := by
      unfold kStep at k1
      split at k1
      · split at k1
        · split at k1
          · cases k1
            simp
          · cases k1
        · cases k1
      · cases k1
        omega
    simp
    omega
/-- the promise of the defs that tell of an error -/
def spK (W : Wd) (tbl : List KE) (res : Str → List Str → List PV → Option (List PV)) : Addr × Obj → Sp := fun p vs H Q _ => ∃ F C c d ns xs ys, vs = [.ref p.1] ∧ Good W F H ∧ EcS W C c ∧ Zc (.ref C) d p.2 ∧ (∃ vs, p.2.data = .fields vs) ∧ KI W d ns xs F H ∧ (∀ e ∈ tbl, EntS W C c e) ∧ res c ns xs = some ys ∧
  ∀ F' H' v fp, Ext W F H F' H' → Ro W F' H' v (.lst true ys) fp → (∀ a ∈ fp, H a = none) → Q v H'
def setB (N : List Str) (sc : Scope) (st : Stmt) : Bool := match st with
  | .Assign [.Name f _] (.List [] _) _ => decide (N[1]? = some f) && locB sc f
  | _ => false
def retB (N : List Str) (sc : Scope) (st : Stmt) : Bool := match st with
  | .Return (some (.Name f _)) _ => mB N sc 1 f
  | _ => false
def retMB (N : List Str) (sc : Scope) (st : Stmt) : Bool := match st with
  | .Return (some (.BinOp (.Name f _) .Add (.Call (.Name g _) [.Name s _] [] _) _)) _ => mB N sc 1 f && (decide (g = "_law_more_kinds") && (glB sc g && mB N sc 0 s))
  | _ => false
section
variable {B : Wb} {k : Nat} {N : List Str} {f : Addr} {x qual : Str} {params : Arguments} {body ifs : List Stmt} {s0 sr : Stmt} {scope : Scope} {fd : FuncData} {pe pf : Str}
/-- the context at the entry -/
theorem cxE_ok {W : Wd} {scope : Scope} {N : List Str} {qual : Str} {f : Addr} {cdv : Value} {A : Around} {outer : List Env} {s : Shared} {H : Hp} {E : XK} {p : Addr × Obj} (nd : N.Nodup) (gd : Gd (A.deeper (envOfC qual scope s.heap.objs.size f cdv))) (hr : L2H.RoomH k (A.deeper (envOfC qual scope s.heap.objs.size f cdv))) (hf : ∃ vs, p.2.data = .fields vs) :
    CxE W k N scope (cxE W.P W.w W.K W.mg W.base N qual scope f cdv A outer s H E p).nox p.1 p.2 :=
  ⟨rfl, rfl, rfl, rfl, rfl, nd, rfl, rfl, gd, hr, List.mem_singleton.mpr rfl, hf⟩
/-- found = [] at the entry -/
theorem set_empty {W : Wd} {F H : Hp} {σ : L2.St} {a : Addr} {D : L2.Ends} (g : Good W F H) (hσ : σ = L2.start ["e", "found"] [.ref a]) (q : ∀ p, H p = none → ∃ fp, At W F H F F (upd H p (.lst [])) (σ.set 1 (some (.ref p))) (kρ []) fp → D.nx (σ.set 1 (some (.ref p))) (upd H p (.lst []))) (p : Addr) (hp : H p = none) : ∃ fp, At W F H F F (upd H p (.lst [])) (σ.set 1 (some (.ref p))) (kρ []) fp := by
  subst hσ
  have e := g.laid (o := .lst []) hp
  have r : Ro W F (upd H p (.lst [])) (.ref p) (.lst true []) [p] := .lst upd_same (g.fn hp) (ne_pen g hp) .nil (by simp)
  refine ⟨[p] ++ [], e, ?_, fun b hb => ?_, fun _ _ z => z⟩
  · show EnvR W F _ [some (.ref a), some (.ref p)] [none, some (.lst true [])] _
    exact .none (.some r .nil (fun _ _ z => by simp at z))
  · have : b = p := by simpa using hb
    rw [this]
    exact hp
/-- the def that tells of the rarer ones -/
theorem more_ok {W : Wd} {tbl : List KE} (F : FunD W.K x qual params (s0 :: (ifs ++ [sr])) scope [] [] f fd) (S : FnScope ["e", "found"] ["e"] scope) (h0 : setB ["e", "found"] scope s0 = true) (hi : kStsB ["e", "found"] scope tbl ifs = true) (hr : retB ["e", "found"] scope sr = true) :
    FnE W.P W.w W.K W.mg W.base (k + 1) f fd ["e"] (spK W tbl fun c ns xs => kRun c ns xs tbl []) := by
  refine fn_ofE F S (fun p vs H Q E ⟨_, _, _, _, _, _, _, h, _⟩ => by rw [h]; rfl) fun cdv A outer s H vs Q E p gd hroom h => ?_
  obtain ⟨F1, C, c, d, ns, xs, ys, rfl, g, ec, hz, hf, ki, he, hk, hq⟩ := h
  have x := cxE_ok (W := W) (N := ["e", "found"]) (outer := outer) (H := H) (E := E) (p := p) S.nd gd hroom hf
  unfold setB at h0
  split at h0
  · rename_i fn p1 p2 p3
    have h0 := bt h0
    unfold retB at hr
    split at hr
    · rename_i fn2 p4 p5
      obtain ⟨m1, m2, m3⟩ := mB_ok hr
      have t0 := ps_set (X := (cxE W.P W.w W.K W.mg W.base ["e", "found"] qual scope f cdv A outer s H E p).nox) (i := 1) (pos := p3) (pos' := p1) S.nd (dt h0.1) (.inl (locB_ok h0.2)) (pe_lst (pos := p2) pa_nil) (by rfl) (.inr (locB_ok h0.2))
      have tr := ps_ret (pos := p5) (pe_var (X := (cxE W.P W.w W.K W.mg W.base ["e", "found"] qual scope f cdv A outer s H E p).nox) (i := 1) (pos := p4) m1 (visB_ok m2) (nmB_ok m3).1 (nmB_ok m3).2.1)
      refine ⟨_, pss_cons t0 (pss_ksT x ec hz (pss_one tr) he hi), by decide, fun l hl => ?_⟩
      obtain ⟨fp, at_⟩ := set_empty (D := { nx := fun _ _ => True, rt := fun _ _ => True }) g rfl (fun p hp => ⟨[], fun _ => trivial⟩) l hl
      refine ⟨F1, H, F1, F1, fp, ns, xs, [], ys, at_, ki, rfl, hk, fun F2 H2 σ2 fp2 a2 s2 => ?_⟩
      obtain ⟨v, f1, e1, e2, e3⟩ := a2.env.get (i := 1) (x := .lst true ys) rfl
      exact ⟨v, e1, hq F2 H2 v f1 a2.e e2 fun b hb => a2.fr b (e3 b hb)⟩
    · cases hr
  · cases h0
/-- the def that tells of all -/
theorem kinds_ok {W : Wd} {tblK tblM : List KE} {j : Nat} {g : Addr} {gd' : FuncData} (F : FunD W.K x qual params (s0 :: (ifs ++ [sr])) scope [] [] f fd) (S : FnScope ["e", "found"] ["e"] scope) (h0 : setB ["e", "found"] scope s0 = true) (hi : kStsB ["e", "found"] scope tblK ifs = true) (hr : retMB ["e", "found"] scope sr = true)
    (hM : FnE W.P W.w W.K W.mg W.base j g gd' ["e"] (spK W tblM fun c ns xs => kRun c ns xs tblM [])) (hj : j ≤ k) (mM : W.mg "_law_more_kinds" = some (.ref g)) (kM : PySem.W.keepIn W.K (.ref g) = true) (bM : Binds W.K gd' ["e"] []) (hlen : tblK.length + tblM.length ≤ 1000) :
    FnE W.P W.w W.K W.mg W.base (k + 1) f fd ["e"] (spK W (tblK ++ tblM) fun c ns xs => match kRun c ns xs tblK [], kRun c ns xs tblM [] with | some a, some b => some (a ++ b) | _, _ => none) := by
  refine fn_ofE F S (fun p vs H Q E ⟨_, _, _, _, _, _, _, h, _⟩ => by rw [h]; rfl) fun cdv A outer s H vs Q E p gd hroom h => ?_
  obtain ⟨F1, C, c, d, ns, xs, ys, rfl, g1, ec, hz, hf, ki, he, hk, hq⟩ := h
  have x := cxE_ok (W := W) (N := ["e", "found"]) (outer := outer) (H := H) (E := E) (p := p) S.nd gd hroom hf
  dsimp only at hk
  cases hk1 : kRun c ns xs tblK [] with
  | none => rw [hk1] at hk; cases hk
  | some y1 =>
    cases hk2 : kRun c ns xs tblM [] with
    | none => rw [hk1, hk2] at hk; cases hk
    | some y2 =>
      rw [hk1, hk2] at hk
      cases hk
      unfold setB at h0
      split at h0
      · rename_i fn p1 p2 p3
        have h0 := bt h0
        unfold retMB at hr
        split at hr
        · rename_i fn2 p4 gn p5 sn p6 p7 p8 p9
          have hr := bt hr
          obtain ⟨m1, m2, m3⟩ := mB_ok hr.1
          have hr2 := bt hr.2
          have e0 := dt hr2.1
          subst e0
          have hr3 := bt hr2.2
          obtain ⟨n1, n2, n3⟩ := mB_ok hr3.2
          let X := (cxE W.P W.w W.K W.mg W.base ["e", "found"] qual scope f cdv A outer s H E p).nox
          have t0 := ps_set (X := X) (i := 1) (pos := p3) (pos' := p1) S.nd (dt h0.1) (.inl (locB_ok h0.2)) (pe_lst (pos := p2) pa_nil) (by rfl) (.inr (locB_ok h0.2))
          have tc := pe_callE (X := X) (q := p5) (pos := p7) (E := fun _ _ _ => False) x.pn hM gd (hroom.mono hj) (glB_ok hr3.1) mM kM bM (pa_cons (pe_var (X := X) (i := 0) (pos := p6) n1 (visB_ok n2) (nmB_ok n3).1 (nmB_ok n3).2.1) pa_nil (by rfl)) (by decide) (by rfl) (by rfl)
          have tr := ps_ret (X := X) (pos := p9) (pe_op (pos := p8) op_cat (pe_var (X := X) (i := 1) (pos := p4) m1 (visB_ok m2) (nmB_ok m3).1 (nmB_ok m3).2.1) tc)
          refine ⟨_, pss_cons t0 (pss_ksT x ec hz (pss_one tr) (fun e h => he e (by simp [h])) hi), by decide, fun l hl => ?_⟩
          obtain ⟨fp, at_⟩ := set_empty (D := { nx := fun _ _ => True, rt := fun _ _ => True }) g1 rfl (fun p hp => ⟨[], fun _ => trivial⟩) l hl
          refine ⟨F1, H, F1, F1, fp, ns, xs, [], y1, at_, ki, rfl, hk1, fun F2 H2 σ2 fp2 a2 s2 => ?_⟩
          obtain ⟨v, f1, e1, e2, e3⟩ := a2.env.get (i := 1) (x := .lst true y1) rfl
          obtain ⟨l1, vs1, f0, rfl, rfl, q1, q2, q3, q4, q5⟩ := e2.lstI
          refine ⟨.ref l1, e1, .ref p.1, s2, F2, C, c, d, ns, xs, y2, rfl, a2.e.g, ec, hz, hf, ?_, fun e h => he e (by simp [h]), hk2, fun F3 H3 v3 fp3 e4 r3 n4 => ?_⟩
          · cases d with
            | none => exact ki
            | some dd =>
              obtain ⟨z1, fs, z2, z3, z4⟩ := ki
              exact ⟨z1, fs, a2.e.h _ _ z1 z2 (fun _ z => by cases z), z3, z4.mono a2.e.f⟩
          · obtain ⟨l3, vs3, f3, rfl, rfl, r1, r2, r4, r5, r6⟩ := r3.lstI
            have l1' := (e4.own q1 q2 q3).1.trans q1
            have hb := big_line
            have b1 := kRun_len hk1
            have b2 := kRun_len hk2
            refine ⟨l1, l3, vs1, vs3, rfl, rfl, l1', r1, by rw [q4.length, r5.length]; simp at b1 b2; omega, fun pp hpp => ?_⟩
            have p1 := (q4.ext e4).stable (kRun_st hk1 rfl)
            have p2 := r5.stable (kRun_st hk2 rfl)
            have e5 := e4.g.laid (o := .lst (vs1 ++ vs3)) hpp
            have eT := (a2.e.trans e4).trans e5
            refine hq F3 _ (.ref pp) [pp] eT (.lst upd_same (e4.g.fn hpp) (ne_pen e4.g hpp) (p1.append p2).ros (by simp)) fun b hb => ?_
            have : b = pp := by simpa using hb
            rw [this]
            exact (a2.e.trans e4).free hpp
        · cases hr
      · cases h0
end
end FS

set_option Elab.async false
set_option linter.all false
set_option maxRecDepth 100000
set_option maxHeartbeats 8000000
namespace FS
open PySem PySem.Spec PyProof.Rows L2

/-! ### a try whose suite tells of the error -/
theorem takes_len {X : Cx} {Wx : WX} (t : Takes X Wx) : Takes X (fun cls d σ H => σ.length = X.N.length → Wx cls d σ H) := fun u s' ⟨a, B, sI, pins, σ, H, cls, d, e, I, nb, up, sky, na, os, ag, w⟩ =>
  t u s' ⟨a, B, sI, pins, σ, H, cls, d, e, I, nb, up, sky, na, os, ag, w I.len⟩
structure ClsS (W : Wd) (SE : Addr) (tbl : List KE) (c : Str) (C : Addr) : Prop where
  ec : EcS W C c
  se : PySem.W.exmOne W.K (.ref C) (.ref SE) = some true
  ve : PySem.W.kitOne W.K (.ref C) (.type "ValueError") = some true
  en : ∀ e ∈ tbl, EntS W C c e
def Tr.tell (fi : Nat) (cls : List Str) (res : Str → List Str → List PV → Option (List PV)) : Tr Fl → Tr PV
  | .ret (.ok (.nx ρ)) => (match ρ[fi]? with
    | some (some .non) => .ok .non
    | _ => .bad)
  | .ret (.exn c ns xs) => if c ∈ cls then (match res c ns xs with
    | some ys => .ok (.lst true ys)
    | none => .bad) else .bad
  | .ret _ => .bad
  | .draw n k => .draw n fun i => (k i).tell fi cls res
theorem tell_W {fi : Nat} {cls : List Str} {res : Str → List Str → List PV → Option (List PV)} {P : Out PV → Prop} : ∀ {m : Tr Fl}, (m.tell fi cls res).W P → m.W fun o => (Tr.tell fi cls res (.ret o)).W P
  | .ret o, h => h
  | .draw n k, ⟨a, g⟩ => ⟨a, fun i p q => tell_W (g i p q)⟩
def toldM (l n fi : Nat) (ss : Ss) (cls : List Str) (res : Str → List Str → List PV → Option (List PV)) : Fn := fun xs => (exB ss ((xs.map some ++ List.replicate (l - n) none).set fi (some .non))).tell fi cls res
def toldB (N : List Str) (sc : Scope) (fi ei : Nat) (ss : Ss) (st : List Stmt) : Bool := match st with
  | [.Assign [.Name f _] (.Constant .none _ _) _, .Try body [.ExceptHandler (some (.Name se _)) (some en) [.If (.Call (.Name i _) [.Name e _, .Name v _] [] _) [.Assign [.Name f2 _] (.Call (.Name g _) [.Name e2 _] [] _) _] [] _] _] [] [] _, .Return (some (.Name f3 _)) _] =>
    decide (N[fi]? = some f) && (locB sc f && (decide (f2 = f) && (decide (f3 = f) && (visB sc f && (nmB f && (decide (N[ei]? = some en) && (locB sc en && (decide (e = en) && (decide (e2 = en) && (visB sc en && (nmB en && (decide (se = "ShiftError") && (glB sc se && (decide (i = "isinstance") && (glB sc i && (decide (v = "ValueError") && (glB sc v && (decide (g = "_law_kinds") && (glB sc g && (decide (fi ≠ ei) && chkB N sc ss body))))))))))))))))))))
  | _ => false
theorem boot_ve : bootBuiltins "ValueError" = some (.type "ValueError") := by decide +kernel
section
variable {W : Wd} {k n : Nat} {x qual : Str} {params : Arguments} {body : List Stmt} {scope : Scope} {fa : Addr} {fd : FuncData} {N ps : List Str}
/-- what the suite's reading is -/
def tSuite (W : Wd) (tbl : List KE) (res : Str → List Str → List PV → Option (List PV)) (fi ei : Nat) (a : Addr) (cls : Value) (d : Option Addr) : TS := fun D σ H => ∃ F C c ns xs ys, cls = .ref C ∧ Good W F H ∧ EcS W C c ∧ PySem.W.kitOne W.K (.ref C) (.type "ValueError") = some true ∧ KI W d ns xs F H ∧ (∀ e ∈ tbl, EntS W C c e) ∧ res c ns xs = some ys ∧ σ[ei]? = some (some (.ref a)) ∧
  ∀ F' H' v fp, Ext W F H F' H' → Ro W F' H' v (.lst true ys) fp → (∀ a ∈ fp, H a = none) → D.nx (σ.set fi (some v)) H'
theorem told_ok {fi ei : Nat} {ss : Ss} {cls : List Str} {tbl : List KE} {res : Str → List Str → List PV → Option (List PV)} {SE gk : Addr} {fdk : FuncData} {j : Nat} (F : FunD W.K x qual params body scope [] [] fa fd) (hm : W.mg x = some (.ref fa)) (b : Binds W.K fd ps []) (sc : FnScope N ps scope) (hl : ps.length = n)
    (hc : toldB N scope fi ei ss body = true) (nd : AllN W k (ndB ss)) (rs : AllR W k (rsB ss)) (mSE : W.mg "ShiftError" = some (.ref SE)) (mVE : W.mg "ValueError" = none) (hcls : ∀ c ∈ cls, ∀ C, W.mg c = some (.ref C) → ClsS W SE tbl c C)
    (FK : FnE W.P W.w W.K W.mg W.base j gk fdk ["e"] (spK W tbl res)) (hj : j ≤ k) (mK : W.mg "_law_kinds" = some (.ref gk)) (kK : PySem.W.keepIn W.K (.ref gk) = true) (bK : Binds W.K fdk ["e"] []) (hlam : W.T ≠ [] → hasCell scope = true → LamAt W fd.code (qual ++ ".<locals>.") := by exact fun _ z => by cases z) : FnS W (k + 1) x n (toldM N.length n fi ss cls res) := by
  refine ⟨⟨fa, fd, ps, hm, F.kp, b, hl, ?_⟩⟩
  refine fn_ofG F sc (fun vs H Q E h => ?_) fun cdv hcd A outer s H vs Q E hgd hr h => ?_
  · obtain ⟨_, _, h1, _⟩ := h
    rw [h1, hl]
  obtain ⟨F0, xs, h1, g, r, h⟩ := h
  unfold toldB at hc
  split at hc
  · rename_i st0 f p1 p4 p2 p3 bd se p5 en i p6 e p7 v p8 p9 f2 p10 gn p11 e2 p12 p13 p14 p15 p16 p17 f3 p18 p19
    simp only [Bool.and_eq_true, decide_eq_true_eq] at hc
    obtain ⟨a1, a2, rfl, rfl, a3, a4, b1, b2, rfl, rfl, b3, b4, rfl, c1, rfl, c2, rfl, c3, rfl, c4, hne, hb⟩ := hc
    let X := (cxOf (L2.CX W.P W.w) W.P W.w W.K W.mg W.base N qual scope fa cdv A outer s H E).nox
    have ts : ∀ (a : Addr) (oe : Obj) (cl : Value) (d : Option Addr) (pn : List (Addr × Obj)), Zc cl d oe → (∃ vs, oe.data = .fields vs) →
        PSs (X.suite a ((a, oe) :: pn)) [.If (.Call (.Name "isinstance" p6) [.Name e2 p7, .Name "ValueError" p8] [] p9) [.Assign [.Name f3 p10] (.Call (.Name "_law_kinds" p11) [.Name e2 p12] [] p13) p14] [] p15] (tSuite W tbl res fi ei a cl d) := by
      intro a oe cl d pn hz hf
      refine ⟨fun pins s σ H D I ⟨F1, C, c, ns, xs, ys, ec, gd, es, kv, ki, en, hres, s5, q⟩ => ?_⟩
      subst ec
      have hp : (a, oe) ∈ (X.suite a ((a, oe) :: pn)).pn := List.mem_cons_self
      have pv : ∀ p, PE (X.suite a ((a, oe) :: pn)) (.Name e2 p) (tVar ei) := fun p => pe_var b1 (visB_ok b3) (nmB_ok b4).1 (nmB_ok b4).2.1
      have test := pt_val (pe_callB (X := X.suite a ((a, oe) :: pn)) (p := p6) (pos := p9) (call_isP (X := X.suite a ((a, oe) :: pn)) (D := C) (d := d) hp es.is hz hf) (glB_ok c2) es.frI boot_isinstance (pa_cons (pv p7) (pa_cons (pe_bltn (X := X.suite a ((a, oe) :: pn)) (pos := p8) (v := .ty "ValueError") (glB_ok c3) mVE boot_ve rfl (by decide) (by decide)) pa_nil (by rfl)) (by rfl)) (by decide) (by decide) (by rfl) (by rfl)) (fun _ => rfl)
      have asg := ps_set (X := X.suite a ((a, oe) :: pn)) (pos := p14) (pos' := p10) sc.nd a1 (.inl (locB_ok a2)) (pe_callE (X := X.suite a ((a, oe) :: pn)) (q := p11) (pos := p13) (E := fun _ _ _ => False) hp FK hgd (L2H.RoomH.mono (show L2H.RoomH k _ from ⟨hr.dp, hr.un⟩) hj) (glB_ok c4) mK kK bK (pa_cons (pv p12) pa_nil (by rfl)) (by decide) (by rfl) (by rfl)) (by rfl) (.inr (locB_ok a2))
      refine (pss_one (ps_if (pos := p15) test (pss_one asg) pss_nil)).run pins s σ H D I ?_
      refine ⟨.ref a, s5, .ty "ValueError", .type "ValueError", true, rfl, fun u r => r, kv, fun dd hd => let ⟨fs, z, _⟩ := ki.at_ (Ext.refl gd) dd hd; ⟨fs, z⟩, true, rfl, ?_⟩
      dsimp only
      rw [if_pos rfl]
      exact ⟨.ref a, s5, F1, C, c, d, ns, xs, ys, rfl, gd, es, hz, hf, ki, en, hres, q⟩
    have t0 := ps_set (X := X) (pos := p3) (pos' := p1) sc.nd a1 (.inl (locB_ok a2)) (pe_non (X := X) (j := p4) (pos := p2)) (by rfl) (.inr (locB_ok a2))
    have tr := ps_ret (X := X) (pos := p19) (pe_var (X := X) (pos := p18) a1 (visB_ok a3) (nmB_ok a4).1 (nmB_ok a4).2.1)
    have nb : Names X "ShiftError" (.ref SE) := ⟨glB_ok c1, by decide, .inl mSE⟩
    have tt := ps_try_as (X := X) (Wout := fun _ _ _ _ => False) (np := p5) (pos' := p16) (pos := p17) (tb := fun Wx => tSx W (fun cl d H => ∀ σ, σ.length = N.length → Wx cl d σ H) (exB ss)) (ts := fun a cl d => tSuite W tbl res fi ei a cl d) rfl rfl sc.nd b1 (locB_ok b2) nb takes0 (fun Wx pn xe tk po => by
        have tk2 : Takes (X.tr pn xe) (fun cl d _ H => ∀ σ, σ.length = N.length → Wx cl d σ H) := (takes_len tk).imp fun c d σ H h hl => h σ hl
        exact soB ss hb nd rs _ _ ⟨⟨rfl, rfl, rfl, rfl, rfl, sc.nd, rfl, rfl, rfl, hr, fun pins σ H s e s' I c => passAt tk2 σ pins H s e s' I c, hgd⟩, po, fun _ => rfl, tk2, fun z y => by have h0 := hlam z y; rw [hcd] at h0; exact h0⟩) ts
    refine ⟨_, PSs.nox (pss_cons t0 (pss_cons tt (pss_one tr))), ?_⟩
    have at0 : At W F0 H F0 F0 H (L2.start N vs) (xs.map some ++ List.replicate (N.length - n) none) [] := ⟨Ext.refl g, by
      show EnvR W F0 H (vs.map some ++ List.replicate (N.length - vs.length) none) _ []
      rw [h1]
      exact EnvR.start _ r, fun _ z => by simp at z, fun _ _ q => q⟩
    obtain ⟨fq, at1⟩ := at0.put (v := .non) (y := .non) (.st .non) (fun _ z => by simp at z) (fun _ z => by simp at z) fi
    have fil : fi < N.length := by
      rw [List.getElem?_eq_some_iff] at a1
      exact a1.1
    have eil : ei < N.length := by
      rw [List.getElem?_eq_some_iff] at b1
      exact b1.1
    refine ⟨F0, H, F0, F0, _, fq, at1, Tr.W_imp (fun o ho => ?_) (tell_W h)⟩
    cases o with
    | bad => exact ho
    | ok fl =>
      cases fl with
      | nx ρ' =>
        intro F1 H1 σ1 fp1 a1'
        have ho : (match ρ'[fi]? with | some (some .non) => Tr.ok PV.non | _ => Tr.bad : Tr PV).W (PostF W E F0 H Q) := ho
        split at ho
        · rename_i hρ
          obtain ⟨v, f1, e1, e2, e3⟩ := a1'.env.get hρ
          exact ⟨v, e1, ho F1 H1 v f1 a1'.e e2 fun b hb => a1'.fr b (e3 b hb)⟩
        · exact (show False from ho).elim
      | rt x => exact (show False from ho).elim
      | bk ρ => exact (show False from ho).elim
      | ct ρ => exact (show False from ho).elim
    | exn c ns xs =>
      have ho : (if c ∈ cls then (match res c ns xs with | some ys => Tr.ok (PV.lst true ys) | none => Tr.bad) else Tr.bad : Tr PV).W (PostF W E F0 H Q) := ho
      by_cases hcc : c ∈ cls
      · rw [if_pos hcc] at ho
        cases hr2 : res c ns xs with
        | none => rw [hr2] at ho; exact (show False from ho).elim
        | some ys =>
          rw [hr2] at ho
          intro F1 H1 C d e1 hC hx σ hl2
          have K := hcls c hcc C hC
          refine ⟨true, K.se, fun _ a ha => ?_, fun z => Bool.noConfusion z⟩
          refine ⟨F1, C, c, ns, xs, ys, rfl, e1.g, K.ec, K.ve, ?_, K.en, hr2, by rw [List.getElem?_set_self (by omega)], fun F2 H2 v fp e2 r2 n2 => ?_⟩
          · cases d with
            | none => exact hx
            | some dd =>
              obtain ⟨z1, fs, z2, z3, z4⟩ := hx
              exact ⟨ne_pen g z1, fs, z2, z3, z4⟩
          · refine ⟨v, ?_, ho F2 H2 v fp (e1.trans e2) r2 fun b hb => e1.free (n2 b hb)⟩
            show ((((σ.set ei (some (.ref a))).set fi (some v)).set ei none)[fi]? = some (some v))
            rw [List.getElem?_set_ne (Ne.symm hne), List.getElem?_set_self (by simp; omega)]
      · rw [if_neg hcc] at ho
        exact (show False from ho).elim
  · cases hc
end
end FS

set_option Elab.async false
set_option linter.all false
set_option maxRecDepth 100000
set_option maxHeartbeats 8000000
namespace FS
open PySem PySem.Spec PyProof.Rows L2

/-! ### {'k': 1} -/
def dictPrim (k : Str) (v : Int) : Prim where
  chk := fun _ sc x => match x with
    | .Dict [some (.Constant (.str a) _ _)] [.Constant (.int b) _ _] _ => if (decide (a = k) && decide (b = v)) = true then some [] else none
    | _ => none
  m := fun ms ρ => match ms with
    | [] => vB (.dct true false [.str k] [.int v])
    | _ => .bad
theorem upd2 {H : Hp} {p : Addr} {a b : HO} : upd (upd H p a) p b = upd H p b := by
  funext x
  unfold upd
  by_cases h : x = p
  · simp [h]
  · simp [h]
theorem dict_need {W : Wd} {k : Nat} {kk : Str} {v : Int} : Need.holds W k (.prim (dictPrim kk v)) := by
  intro N sc x ss ms hc hp
  unfold dictPrim at hc ⊢
  dsimp only at hc
  split at hc
  · rename_i a j1 p1 b j2 p2 p
    split at hc
    · rename_i hb
      have hb := bt hb
      have e0 := dt hb.1
      have e1 := dt hb.2
      subst e0 e1
      cases hc
      cases hp
      intro X E c
      refine PE.imp (pe_disp (pps_cons pe_str pe_int pps_nil) (by rfl) (by rfl) (by simp) (by simp)) fun σ H Q ⟨F, ρ, fp, g, env, h⟩ => fun d hd => ?_
      have e := g.laid (o := .dK [(.inr a, .int b)]) hd
      refine ⟨upd_same, [(.inr a, .int b)], rfl, by simp, ?_⟩
      rw [upd2]
      exact give h e (fp := [d]) (.dK (kvs := [(.inr a, .int b)]) upd_same (g.fn hd) (ne_pen g hd) (.cons (.st .int) .nil (by simp)) (by simp)) fun a ha => by
        have : a = d := by simpa using ha
        rw [this]; exact hd
    · cases hc
  · cases hc
end FS

set_option Elab.async false
set_option linter.all false
set_option maxRecDepth 100000
set_option maxHeartbeats 8000000
namespace FS
open PySem PySem.Spec PyProof.Rows L2

/-! ### the bodies of _law_draw and _law_pen, wherever they stand -/
abbrev nDraw : List Str := ["pen", "many", "cell", "digit", "blend"]
abbrev nPen : List Str := ["script", "fold", "cell"]
def drawSc (sc : Scope) : Bool := visB sc "pen" && visB sc "many" && visB sc "cell" && visB sc "digit" && visB sc "blend" && locB sc "cell" && locB sc "digit" && locB sc "blend" && glB sc "len" && glB sc "int"
def penSc (sc : Scope) : Bool := visB sc "script" && visB sc "fold" && visB sc "cell" && locB sc "fold" && locB sc "cell" && glB sc "int" && glB sc "list"
theorem boot_int : bootBuiltins "int" = some (.type "int") := by decide +kernel
theorem boot_list : bootBuiltins "list" = some (.type "list") := by decide +kernel
section
variable {p1 p2 p3 p4 p5 p6 p7 p8 p9 p10 p11 p12 p13 p14 p15 p16 p17 p18 p19 p20 p21 p22 p23 p24 p25 p26 p27 p28 p29 p30 p31 p32 p33 p34 p35 p36 p37 p38 p39 p40 p41 p42 p43 p44 p45 p46 p47 p48 p49 p50 p51 p52 p53 p54 p55 p56 p57 p58 p59 p60 p61 p62 p63 p64 p65 p66 p67 p68 p69 p70 p71 p72 p73 p74 p75 p76 p77 p78 p79 p80 p81 p82 p83 p84 p85 p86 p87 p88 p89 p90 p91 p92 p93 p94 p95 p96 p97 p98 p99 p100 p101 p102 p103 p104 p105 p106 p107 p108 p109 p110 p111 p112 p113 p114 p115 p116 p117 p118 p119 p120 p121 p122 p123 p124 p125 p126 p127 p128 p129 p130 p131 p132 p133 p134 p135 p136 p137 p138 p139 p140 p141 p142 p143 p144 p145 p146 p147 p148 p149 p150 p151 p152 p153 p154 p155 p156 : Pos}
abbrev bDraw (p1 p2 p3 p4 p5 p6 p7 p8 p9 p10 p11 p12 p13 p14 p15 p16 p17 p18 p19 p20 p21 p22 p23 p24 p25 p26 p27 p28 p29 p30 p31 p32 p33 p34 p35 p36 p37 p38 p39 p40 p41 p42 p43 p44 p45 p46 p47 p48 p49 p50 p51 p52 p53 p54 p55 p56 p57 p58 p59 p60 p61 p62 p63 p64 p65 p66 p67 p68 p69 p70 p71 p72 p73 p74 p75 p76 p77 p78 p79 p80 p81 p82 p83 p84 p85 p86 p87 p88 p89 p90 p91 p92 p93 p94 p95 p96 p97 p98 p99 p100 p101 p102 p103 p104 p105 p106 p107 p108 p109 p110 p111 p112 p113 p114 p115 p116 p117 p118 p119 p120 p121 p122 p123 p124 p125 p126 p127 p128 p129 p130 p131 p132 p133 p134 p135 p136 p137 p138 p139 p140 p141 p142 p143 p144 p145 p146 p147 p148 p149 p150 p151 p152 p153 p154 p155 p156 : Pos) : List Stmt := [(.Assign [.Subscript (.Name "pen" p6) (.Constant (.str "count") 0 p7) p8] (.BinOp (.Subscript (.Name "pen" p1) (.Constant (.str "count") 0 p2) p3) .Add (.Constant (.int 1) 0 p4) p5) p9),
    (.If (.BoolOp .And [(.Compare (.Subscript (.Name "pen" p10) (.Constant (.str "digits") 0 p11) p12) [.Eq] [(.Constant (.int 0) 0 p13)] p14), (.Compare (.Subscript (.Name "pen" p15) (.Constant (.str "at") 0 p16) p17) [.Lt] [(.Call (.Name "len" p21) [(.Subscript (.Name "pen" p18) (.Constant (.str "cells") 0 p19) p20)] [] p22)] p23)] p24) [(.Assign [.Name "cell" p32] (.Subscript (.Subscript (.Name "pen" p25) (.Constant (.str "cells") 0 p26) p27) (.Subscript (.Name "pen" p28) (.Constant (.str "at") 0 p29) p30) p31) p33),
    (.Assign [.Subscript (.Name "pen" p39) (.Constant (.str "at") 0 p40) p41] (.BinOp (.Subscript (.Name "pen" p34) (.Constant (.str "at") 0 p35) p36) .Add (.Constant (.int 1) 0 p37) p38) p42),
    (.If (.Compare (.Name "cell" p43) [.GtE] [(.BinOp (.Constant (.int 10) 0 p44) .Pow (.Constant (.int 18) 0 p45) p46)] p47) [(.Assign [.Subscript (.Name "pen" p53) (.Constant (.str "digits") 0 p54) p55] (.BinOp (.Name "cell" p48) .Sub (.BinOp (.Constant (.int 10) 0 p49) .Pow (.Constant (.int 18) 0 p50) p51) p52) p56)] [(.Assign [.Subscript (.Name "pen" p68) (.Constant (.str "fold") 0 p69) p70] (.BinOp (.Call (.Name "int" p64) [(.BinOp (.BinOp (.Subscript (.Name "pen" p57) (.Constant (.str "fold") 0 p58) p59) .Mult (.Constant (.int 69069) 0 p60) p61) .Add (.Name "cell" p62) p63)] [] p65) .Mod (.Constant (.int 2147483587) 0 p66) p67) p71)] p72)] [] p73),
    (.If (.Compare (.Subscript (.Name "pen" p74) (.Constant (.str "digits") 0 p75) p76) [.Gt] [(.Constant (.int 0) 0 p77)] p78) [(.Assign [.Name "digit" p86] (.BinOp (.Call (.Name "int" p82) [(.Subscript (.Name "pen" p79) (.Constant (.str "digits") 0 p80) p81)] [] p83) .Mod (.Name "many" p84) p85) p87),
    (.Assign [.Subscript (.Name "pen" p93) (.Constant (.str "digits") 0 p94) p95] (.BinOp (.Subscript (.Name "pen" p88) (.Constant (.str "digits") 0 p89) p90) .FloorDiv (.Name "many" p91) p92) p96),
    (.Return (some (.Name "digit" p97)) p98)] [] p99),
    (.Assign [.Name "blend" p117] (.BinOp (.Call (.Name "int" p113) [(.BinOp (.BinOp (.BinOp (.Subscript (.Name "pen" p100) (.Constant (.str "fold") 0 p101) p102) .Mult (.Constant (.int 48271) 0 p103) p104) .Add (.BinOp (.Subscript (.Name "pen" p105) (.Constant (.str "count") 0 p106) p107) .Mult (.Constant (.int 7919) 0 p108) p109) p110) .Add (.Constant (.int 13) 0 p111) p112)] [] p114) .Mod (.Constant (.int 2147483647) 0 p115) p116) p118),
    (.Assign [.Name "blend" p134] (.BinOp (.Call (.Name "int" p130) [(.BinOp (.BinOp (.BinOp (.Name "blend" p119) .Mult (.Name "blend" p120) p121) .Add (.BinOp (.Constant (.int 31) 0 p122) .Mult (.Name "blend" p123) p124) p125) .Add (.Subscript (.Name "pen" p126) (.Constant (.str "count") 0 p127) p128) p129)] [] p131) .Mod (.Constant (.int 2147483629) 0 p132) p133) p135),
    (.Assign [.Subscript (.Name "pen" p145) (.Constant (.str "fold") 0 p146) p147] (.BinOp (.Call (.Name "int" p141) [(.BinOp (.BinOp (.Name "blend" p136) .Mult (.Constant (.int 16807) 0 p137) p138) .Add (.Constant (.int 7) 0 p139) p140)] [] p142) .Mod (.Constant (.int 2147483647) 0 p143) p144) p148),
    (.Return (some (.BinOp (.Call (.Name "int" p152) [(.BinOp (.Name "blend" p149) .FloorDiv (.Constant (.int 64) 0 p150) p151)] [] p153) .Mod (.Name "many" p154) p155)) p156)]
theorem pss_draw {X : Cx} {sc : Scope} (eN : X.N = nDraw) (eS : X.env.scope = sc) (h : drawSc sc = true) (nd : X.N.Nodup) (hu : X.A.units + 1 < cLine) (mL : X.mg "len" = none) (mI : X.mg "int" = none) : PSs X (bDraw p1 p2 p3 p4 p5 p6 p7 p8 p9 p10 p11 p12 p13 p14 p15 p16 p17 p18 p19 p20 p21 p22 p23 p24 p25 p26 p27 p28 p29 p30 p31 p32 p33 p34 p35 p36 p37 p38 p39 p40 p41 p42 p43 p44 p45 p46 p47 p48 p49 p50 p51 p52 p53 p54 p55 p56 p57 p58 p59 p60 p61 p62 p63 p64 p65 p66 p67 p68 p69 p70 p71 p72 p73 p74 p75 p76 p77 p78 p79 p80 p81 p82 p83 p84 p85 p86 p87 p88 p89 p90 p91 p92 p93 p94 p95 p96 p97 p98 p99 p100 p101 p102 p103 p104 p105 p106 p107 p108 p109 p110 p111 p112 p113 p114 p115 p116 p117 p118 p119 p120 p121 p122 p123 p124 p125 p126 p127 p128 p129 p130 p131 p132 p133 p134 p135 p136 p137 p138 p139 p140 p141 p142 p143 p144 p145 p146 p147 p148 p149 p150 p151 p152 p153 p154 p155 p156) (t_draw X.K) := by
  unfold drawSc at h
  simp only [Bool.and_eq_true] at h
  obtain ⟨⟨⟨⟨⟨⟨⟨⟨⟨h0, h1⟩, h2⟩, h3⟩, h4⟩, c2⟩, c3⟩, c4⟩, gl⟩, gi⟩ := h
  have n0 : X.N[0]? = some ("pen" : Str) := by rw [eN]; rfl
  have n1 : X.N[1]? = some ("many" : Str) := by rw [eN]; rfl
  have n2 : X.N[2]? = some ("cell" : Str) := by rw [eN]; rfl
  have n3 : X.N[3]? = some ("digit" : Str) := by rw [eN]; rfl
  have n4 : X.N[4]? = some ("blend" : Str) := by rw [eN]; rfl
  have v0 : ∀ p, PE X (.Name "pen" p) (tVar 0) := fun p => pe_var n0 (by rw [eS]; exact visB_ok h0) (by decide) (by decide)
  have v1 : ∀ p, PE X (.Name "many" p) (tVar 1) := fun p => pe_var n1 (by rw [eS]; exact visB_ok h1) (by decide) (by decide)
  have v2 : ∀ p, PE X (.Name "cell" p) (tVar 2) := fun p => pe_var n2 (by rw [eS]; exact visB_ok h2) (by decide) (by decide)
  have v3 : ∀ p, PE X (.Name "digit" p) (tVar 3) := fun p => pe_var n3 (by rw [eS]; exact visB_ok h3) (by decide) (by decide)
  have v4 : ∀ p, PE X (.Name "blend" p) (tVar 4) := fun p => pe_var n4 (by rw [eS]; exact visB_ok h4) (by decide) (by decide)
  have l2 : L2.Loc X.env.scope "cell" := by rw [eS]; exact .inl (locB_ok c2)
  have lc2 : X.env.scope.names.lookup ("cell" : Str) = some .local := by rw [eS]; exact locB_ok c2
  have l3 : L2.Loc X.env.scope "digit" := by rw [eS]; exact .inl (locB_ok c3)
  have lc3 : X.env.scope.names.lookup ("digit" : Str) = some .local := by rw [eS]; exact locB_ok c3
  have l4 : L2.Loc X.env.scope "blend" := by rw [eS]; exact .inl (locB_ok c4)
  have lc4 : X.env.scope.names.lookup ("blend" : Str) = some .local := by rw [eS]; exact locB_ok c4
  have gL : Gl X "len" := by show X.env.scope.names.lookup _ = _; rw [eS]; exact glB_ok gl
  have gI : Gl X "int" := by show X.env.scope.names.lookup _ = _; rw [eS]; exact glB_ok gi
  exact (pss_cons (ps_dput hu (v0 _) pe_str (pe_op op_add (pe_dget hu (v0 _) pe_str (fun _ _ => rfl)) pe_int) (by rfl)) (pss_cons (ps_if (PW.pt (pw_and (pt_cmpR op_eq (pe_dget hu (v0 _) pe_str (fun _ _ => rfl)) pe_int (nomark _)) (pw_and1 (pos := p24) (pt_cmpR op_lt (pe_dget hu (v0 _) pe_str (fun _ _ => rfl)) (pe_callB call_len gL mL boot_len (pa_cons (pe_dget hu (v0 _) pe_str (fun _ _ => rfl)) pa_nil) (by decide) (by decide) (by rfl) (by rfl)) (nomark _))))) (pss_cons (ps_set nd n2 l2 (pe_ix ix_list (pe_dget hu (v0 _) pe_str (fun _ _ => rfl)) (pe_dget hu (v0 _) pe_str (fun _ _ => rfl)) (fun _ _ => rfl)) (by rfl) (.inr lc2)) (pss_cons (ps_dput hu (v0 _) pe_str (pe_op op_add (pe_dget hu (v0 _) pe_str (fun _ _ => rfl)) pe_int) (by rfl)) (pss_one (ps_if (pt_cmpR op_ge (v2 _) (pe_op op_pow pe_int pe_int) (nomark _)) (pss_one (ps_dput hu (v0 _) pe_str (pe_op op_sub (v2 _) (pe_op op_pow pe_int pe_int)) (by rfl))) (pss_one (ps_dput hu (v0 _) pe_str (pe_op op_mod (pe_callTy call_int1 gI mI boot_int (pa_cons (pe_op op_add (pe_op op_mul (pe_dget hu (v0 _) pe_str (fun _ _ => rfl)) pe_int) (v2 _)) pa_nil) (by decide) (by decide) (by rfl) (by rfl)) pe_int) (by rfl))))))) pss_nil) (pss_cons (ps_if (pt_cmpR op_gt (pe_dget hu (v0 _) pe_str (fun _ _ => rfl)) pe_int (nomark _)) (pss_cons (ps_set nd n3 l3 (pe_op op_mod (pe_callTy call_int1 gI mI boot_int (pa_cons (pe_dget hu (v0 _) pe_str (fun _ _ => rfl)) pa_nil) (by decide) (by decide) (by rfl) (by rfl)) (v1 _)) (by rfl) (.inr lc3)) (pss_cons (ps_dput hu (v0 _) pe_str (pe_op op_fdivW (pe_dget hu (v0 _) pe_str (fun _ _ => rfl)) (v1 _)) (by rfl)) (pss_one (ps_ret (v3 _))))) pss_nil) (pss_cons (ps_set nd n4 l4 (pe_op op_mod (pe_callTy call_int1 gI mI boot_int (pa_cons (pe_op op_add (pe_op op_add (pe_op op_mul (pe_dget hu (v0 _) pe_str (fun _ _ => rfl)) pe_int) (pe_op op_mul (pe_dget hu (v0 _) pe_str (fun _ _ => rfl)) pe_int)) pe_int) pa_nil) (by decide) (by decide) (by rfl) (by rfl)) pe_int) (by rfl) (.inr lc4)) (pss_cons (ps_set nd n4 l4 (pe_op op_mod (pe_callTy call_int1 gI mI boot_int (pa_cons (pe_op op_add (pe_op op_add (pe_op op_mul (v4 _) (v4 _)) (pe_op op_mul pe_int (v4 _))) (pe_dget hu (v0 _) pe_str (fun _ _ => rfl))) pa_nil) (by decide) (by decide) (by rfl) (by rfl)) pe_int) (by rfl) (.inr lc4)) (pss_cons (ps_dput hu (v0 _) pe_str (pe_op op_mod (pe_callTy call_int1 gI mI boot_int (pa_cons (pe_op op_add (pe_op op_mul (v4 _) pe_int) pe_int) pa_nil) (by decide) (by decide) (by rfl) (by rfl)) pe_int) (by rfl)) (pss_one (ps_ret (pe_op op_mod (pe_callTy call_int1 gI mI boot_int (pa_cons (pe_op op_fdivW (v4 _) pe_int) pa_nil) (by decide) (by decide) (by rfl) (by rfl)) (v1 _))))))))))
end
section
variable {p1 p2 p3 p4 p5 p6 p7 p8 p9 p10 p11 p12 p13 p14 p15 p16 p17 p18 p19 p20 p21 p22 p23 p24 p25 p26 p27 p28 p29 p30 p31 : Pos}
abbrev bPen (p1 p2 p3 p4 p5 p6 p7 p8 p9 p10 p11 p12 p13 p14 p15 p16 p17 p18 p19 p20 p21 p22 p23 p24 p25 p26 p27 p28 p29 p30 p31 : Pos) : List Stmt := [(.Assign [.Name "fold" p2] (.Constant (.int 0) 0 p1) p3),
    (.For (.Name "cell" p16) (.Name "script" p4) [(.Assign [.Name "fold" p14] (.BinOp (.Call (.Name "int" p10) [(.BinOp (.BinOp (.Name "fold" p5) .Mult (.Constant (.int 47) 0 p6) p7) .Add (.Name "cell" p8) p9)] [] p11) .Mod (.Constant (.int 1000000007) 0 p12) p13) p15)] [] p17),
    (.Return (some (.Dict [some (.Constant (.str "cells") 0 p18), some (.Constant (.str "at") 0 p19), some (.Constant (.str "digits") 0 p20), some (.Constant (.str "count") 0 p21), some (.Constant (.str "fold") 0 p22)] [(.Call (.Name "list" p24) [(.Name "script" p23)] [] p25), (.Constant (.int 0) 0 p26), (.Constant (.int 0) 0 p27), (.Constant (.int 0) 0 p28), (.Name "fold" p29)] p30)) p31)]
theorem pss_pen {X : Cx} {sc : Scope} (eN : X.N = nPen) (eS : X.env.scope = sc) (h : penSc sc = true) (nd : X.N.Nodup) (hp : PassesOwn (model X.prog X.w) X.A X.env X.xe) (hc : X.calm = true) (mI : X.mg "int" = none) (mT : X.mg "list" = none) : PSs X (bPen p1 p2 p3 p4 p5 p6 p7 p8 p9 p10 p11 p12 p13 p14 p15 p16 p17 p18 p19 p20 p21 p22 p23 p24 p25 p26 p27 p28 p29 p30 p31) (t_pen X.K) := by
  unfold penSc at h
  simp only [Bool.and_eq_true] at h
  obtain ⟨⟨⟨⟨⟨⟨h0, h1⟩, h2⟩, c1⟩, c2⟩, gi⟩, gt⟩ := h
  have n0 : X.N[0]? = some ("script" : Str) := by rw [eN]; rfl
  have n1 : X.N[1]? = some ("fold" : Str) := by rw [eN]; rfl
  have n2 : X.N[2]? = some ("cell" : Str) := by rw [eN]; rfl
  have v0 : ∀ p, PE X (.Name "script" p) (tVar 0) := fun p => pe_var n0 (by rw [eS]; exact visB_ok h0) (by decide) (by decide)
  have v1 : ∀ p, PE X (.Name "fold" p) (tVar 1) := fun p => pe_var n1 (by rw [eS]; exact visB_ok h1) (by decide) (by decide)
  have v2 : ∀ p, PE X (.Name "cell" p) (tVar 2) := fun p => pe_var n2 (by rw [eS]; exact visB_ok h2) (by decide) (by decide)
  have l1 : L2.Loc X.env.scope "fold" := by rw [eS]; exact .inl (locB_ok c1)
  have lc1 : X.env.scope.names.lookup ("fold" : Str) = some .local := by rw [eS]; exact locB_ok c1
  have l2 : L2.Loc X.env.scope "cell" := by rw [eS]; exact .inl (locB_ok c2)
  have lc2 : X.env.scope.names.lookup ("cell" : Str) = some .local := by rw [eS]; exact locB_ok c2
  have gI : Gl X "int" := by show X.env.scope.names.lookup _ = _; rw [eS]; exact glB_ok gi
  have gT : Gl X "list" := by show X.env.scope.names.lookup _ = _; rw [eS]; exact glB_ok gt
  exact (pss_cons (ps_set nd n1 l1 pe_int (by rfl) (.inr lc1)) (pss_cons (ps_for hp hc (pi_seqA (v0 _)) (pg_name nd n2 l2 (.inr lc2)) (pss_one (ps_set nd n1 l1 (pe_op op_mod (pe_callTy call_int1 gI mI boot_int (pa_cons (pe_op op_add (pe_op op_mul (v1 _) pe_int) (v2 _)) pa_nil) (by decide) (by decide) (by rfl) (by rfl)) pe_int) (by rfl) (.inr lc1)))) (pss_one (ps_ret (pe_disp (pps_cons pe_str (pe_callTy call_list_of gT mT boot_list (pa_cons (v0 _) pa_nil) (by decide) (by decide) (by rfl) (by rfl)) (pps_cons pe_str pe_int (pps_cons pe_str pe_int (pps_cons pe_str pe_int (pps_cons pe_str (v1 _) pps_nil))))) rfl rfl (by simp) (show 5 ≤ 15 by decide))))))
end
theorem draw_fn {W : Wd} {fa : Addr} {fd : FuncData} {scope : Scope} {x qual : Str} {params : Arguments} {p1 p2 p3 p4 p5 p6 p7 p8 p9 p10 p11 p12 p13 p14 p15 p16 p17 p18 p19 p20 p21 p22 p23 p24 p25 p26 p27 p28 p29 p30 p31 p32 p33 p34 p35 p36 p37 p38 p39 p40 p41 p42 p43 p44 p45 p46 p47 p48 p49 p50 p51 p52 p53 p54 p55 p56 p57 p58 p59 p60 p61 p62 p63 p64 p65 p66 p67 p68 p69 p70 p71 p72 p73 p74 p75 p76 p77 p78 p79 p80 p81 p82 p83 p84 p85 p86 p87 p88 p89 p90 p91 p92 p93 p94 p95 p96 p97 p98 p99 p100 p101 p102 p103 p104 p105 p106 p107 p108 p109 p110 p111 p112 p113 p114 p115 p116 p117 p118 p119 p120 p121 p122 p123 p124 p125 p126 p127 p128 p129 p130 p131 p132 p133 p134 p135 p136 p137 p138 p139 p140 p141 p142 p143 p144 p145 p146 p147 p148 p149 p150 p151 p152 p153 p154 p155 p156 : Pos} (F : FunD W.K x qual params (bDraw p1 p2 p3 p4 p5 p6 p7 p8 p9 p10 p11 p12 p13 p14 p15 p16 p17 p18 p19 p20 p21 p22 p23 p24 p25 p26 p27 p28 p29 p30 p31 p32 p33 p34 p35 p36 p37 p38 p39 p40 p41 p42 p43 p44 p45 p46 p47 p48 p49 p50 p51 p52 p53 p54 p55 p56 p57 p58 p59 p60 p61 p62 p63 p64 p65 p66 p67 p68 p69 p70 p71 p72 p73 p74 p75 p76 p77 p78 p79 p80 p81 p82 p83 p84 p85 p86 p87 p88 p89 p90 p91 p92 p93 p94 p95 p96 p97 p98 p99 p100 p101 p102 p103 p104 p105 p106 p107 p108 p109 p110 p111 p112 p113 p114 p115 p116 p117 p118 p119 p120 p121 p122 p123 p124 p125 p126 p127 p128 p129 p130 p131 p132 p133 p134 p135 p136 p137 p138 p139 p140 p141 p142 p143 p144 p145 p146 p147 p148 p149 p150 p151 p152 p153 p154 p155 p156) scope [] [] fa fd) (sc : FnScope nDraw ["pen", "many"] scope) (h : drawSc scope = true)
    (hm : W.mg x = some (.ref fa)) (b : Binds W.K fd ["pen", "many"] []) (mL : W.mg "len" = none) (mI : W.mg "int" = none) : FnS W 1 x 2 drawM := by
  refine ⟨⟨fa, fd, ["pen", "many"], hm, F.kp, b, rfl, ?_⟩⟩
  refine fn_ofG F sc (fun vs H Q E h => ?_) fun cdv hcd A outer s H vs Q E hgd hr h' => ?_
  · obtain ⟨_, _, h1, _⟩ := h
    exact h1
  · exact ⟨_, PSs.nox (pss_draw rfl rfl h sc.nd (show (A.deeper (envOfC qual scope s.heap.objs.size fa cdv)).units + 1 < cLine from by have := hr.un; omega) mL mI), draw_of h' rfl⟩
theorem pen_fn {P : Program} {w : World} {K : PySem.W.Frag} {mg : Str → Option Value} {base : Heap} {C : CXT} {fa : Addr} {fd : FuncData} {scope : Scope} {x qual : Str} {params : Arguments} {p1 p2 p3 p4 p5 p6 p7 p8 p9 p10 p11 p12 p13 p14 p15 p16 p17 p18 p19 p20 p21 p22 p23 p24 p25 p26 p27 p28 p29 p30 p31 : Pos} (F : FunD K x qual params (bPen p1 p2 p3 p4 p5 p6 p7 p8 p9 p10 p11 p12 p13 p14 p15 p16 p17 p18 p19 p20 p21 p22 p23 p24 p25 p26 p27 p28 p29 p30 p31) scope [] [] fa fd) (sc : FnScope nPen ["script"] scope) (h : penSc scope = true)
    (mI : mg "int" = none) (mT : mg "list" = none) : FnOk P w K mg base C 1 fa fd ["script"] (spPen K) := by
  refine F.ok sc (fun vs H Q E h => ?_) fun cdv A outer s H vs Q E hr h' => ?_
  · obtain ⟨_, _, rfl, _⟩ := h
    rfl
  · refine ⟨_, PSs.nox (pss_pen rfl rfl h sc.nd PassesOwn.never rfl mI mT), ?_⟩
    obtain ⟨a, cells, rfl, hs, q⟩ := h'
    exact pen_pure hs q
end FS

set_option Elab.async false
set_option linter.all false
set_option maxRecDepth 100000
set_option maxHeartbeats 8000000
namespace FS
open PySem PySem.Spec PyProof.Rows L2

/-! ### what the head tells of error classes -/
def isV (o : Option (Option Value)) (v : Value) : Bool := He.eqO o (some (some v))
def oexB (K : PySem.W.Frag) (C : Addr) : Bool := (match K.lookup C with
  | some ⟨.type t, _, .cls cd, sl⟩ => (match cd.mro, sl.toList with
    | .ref C' :: bm, [_, _, _, _, some (.builtin n), _] => decide (t = "type") && (decide (C' = C) && (decide (n = "ValueError.__new__") && (!cd.hasDel && (cd.hasDict && PySem.HandSPX.refsVE bm))))
    | _, _ => false)
  | _ => false) && (isV (PySem.W.findIn K (.ref C) "__setattr__") (.builtin "object.__setattr__") && (decide (PySem.W.subIn K (.ref C) (.type "BaseException") = some true) && (decide (PySem.W.typeIn K (.ref C) = some (.type "type")) && PySem.W.keepIn K (.ref C))))
theorem oexB_ok {K : PySem.W.Frag} {C : Addr} (h : oexB K C = true) : OexC K C := by
  unfold oexB at h
  obtain ⟨h1, h⟩ := bt h
  obtain ⟨h2, h⟩ := bt h
  obtain ⟨h3, h⟩ := bt h
  obtain ⟨h4, h5⟩ := bt h
  refine ⟨?_, of_decide_eq_true h2, of_decide_eq_true h3, of_decide_eq_true h4, h5⟩
  split at h1
  · rename_i t dd cd sl ho
    split at h1
    · rename_i C' bm k0 k1 k2 k3 n k5 hm hs
      obtain ⟨g0, h1⟩ := bt h1
      obtain ⟨g1, h1⟩ := bt h1
      obtain ⟨g2, h1⟩ := bt h1
      obtain ⟨g3, h1⟩ := bt h1
      obtain ⟨g4, g5⟩ := bt h1
      have e0 : t = "type" := of_decide_eq_true g0
      have e1 : C' = C := of_decide_eq_true g1
      have e2 : n = "ValueError.__new__" := of_decide_eq_true g2
      have e3 : cd.hasDel = false := by simpa using g3
      obtain ⟨nm, bs, mro, ns, qn, hd, sn, sub, ab, col, del⟩ := cd
      dsimp only at hm e3 g4
      subst hm e3 g4 e0 e1 e2
      have hsl : sl = #[k0, k1, k2, k3, some (.builtin "ValueError.__new__"), k5] := by
        obtain ⟨l⟩ := sl
        simp only at hs
        rw [hs]
      subst hsl
      exact ⟨nm, qn, ns, bs, bm, sn, sub, ab, col, dd, k0, k1, k2, k3, k5, ho, g5⟩
    · cases h1
  · cases h1
def excB (K : PySem.W.Frag) (D : Addr) : Bool := isV (PySem.W.findIn K (.ref D) "__getattribute__") (.builtin "BaseException.__getattribute__") && (He.eqO (PySem.W.findIn K (.ref D) "__getattr__") (some none) && (decide (PySem.W.subIn K (.ref D) (.type "BaseException") = some true) && (PySem.W.hasDictIn K D &&
  (isV (PySem.W.findIn K (.ref D) "__class__") (.builtin "object.__class__") && (isV (PySem.W.specialIn K (.builtin "object.__class__") "__get__") (.builtin "getset_descriptor.__get__") && (decide (PySem.W.takesIn K (.builtin "object.__class__") = some true) && decide (PySem.W.mroIn K D (.type "object") = some true)))))))
theorem excB_ok {K : PySem.W.Frag} {D : Addr} (h : excB K D = true) : ExcC K D ∧ XfC K D := by
  unfold excB at h
  obtain ⟨h1, h⟩ := bt h
  obtain ⟨h2, h⟩ := bt h
  obtain ⟨h3, h⟩ := bt h
  obtain ⟨h4, h⟩ := bt h
  obtain ⟨h5, h⟩ := bt h
  obtain ⟨h6, h⟩ := bt h
  obtain ⟨h7, h8⟩ := bt h
  have a1 := of_decide_eq_true h1
  have a2 := of_decide_eq_true h2
  have a3 := of_decide_eq_true h3
  exact ⟨⟨a1, a2, a3, h4, of_decide_eq_true h5, of_decide_eq_true h6, of_decide_eq_true h7, of_decide_eq_true h8⟩, ⟨a1, a2, a3, h4⟩⟩
/-- all that is asked of the class c by a suite over the table -/
def clsB (K : PySem.W.Frag) (SE : Str) (tbl : List KE) (c : Str) : Bool := excB K (He.ga K c) && (decide (PySem.W.exmOne K (.ref (He.ga K c)) (.ref (He.ga K SE)) = some true) && (decide (PySem.W.kitOne K (.ref (He.ga K c)) (.type "ValueError") = some true) &&
  tbl.all fun e => isV (PySem.W.nsIn K mainGlobals e.1) (.ref (He.ga K e.1)) && (decide (PySem.W.kitOne K (.ref (He.ga K c)) (.ref (He.ga K e.1)) = some (decide (e.1 = c))) && (!decide (e.1 = c) || e.2.2.all fun p => He.eqO (PySem.W.findIn K (.ref (He.ga K c)) p.1) (some none)))))
theorem clsB_ok {W : Wd} {h : Heap} {SE c : Str} {tbl : List KE} (X : W.K.In h) (G : h.Ns mainGlobals W.mg) (sys : (W.K.lookup sysModules).isSome = true) (fR : W.mg "repr" = none) (fI : W.mg "isinstance" = none) (mc : W.mg c = some (.ref (He.ga W.K c))) (b : clsB W.K SE tbl c = true) :
    ∀ C, W.mg c = some (.ref C) → ClsS W (He.ga W.K SE) tbl c C := by
  intro C hC
  rw [mc] at hC
  cases hC
  unfold clsB at b
  obtain ⟨b1, b⟩ := bt b
  obtain ⟨b2, b⟩ := bt b
  obtain ⟨b3, b4⟩ := bt b
  obtain ⟨e1, e2⟩ := excB_ok b1
  refine ⟨⟨mc, e1, e2, sys, fR, fI⟩, of_decide_eq_true b2, of_decide_eq_true b3, fun e he => ?_⟩
  obtain ⟨c1, c2⟩ := bt (List.all_eq_true.mp b4 e he)
  obtain ⟨c3, c4⟩ := bt c2
  refine ⟨⟨He.ga W.K e.1, PySem.W.mg_of X G (He.eqO_ok c1), of_decide_eq_true c3⟩, fun ee p hp => ?_⟩
  rw [Bool.or_eq_true] at c4
  rcases c4 with c4 | c4
  · rw [ee] at c4
    simp at c4
  · exact He.eqO_ok (List.all_eq_true.mp c4 p hp)
/-- a class with an __init__ -/
def mkB (K : PySem.W.Frag) (c : Str) (fs : List Str) : Bool := oexB K (He.ga K c) && (isV (PySem.W.findIn K (.ref (He.ga K c)) "__init__") (.ref (He.ma K (He.ga K c) "__init__")) && (decide (PySem.W.typeIn K (.ref (He.ma K (He.ga K c) "__init__")) = some (.type "function")) && fs.all fun f => He.eqO (PySem.W.findIn K (.ref (He.ga K c)) f) (some none)))
/-- fields and their places -/
def idx : List Str → Nat → List (Str × Nat)
  | [], _ => []
  | f :: r, i => (f, i) :: idx r (i + 1)
def idxV : List Str → List V → Nat → List (Str × Nat × V)
  | f :: r, u :: us, i => (f, i, u) :: idxV r us (i + 1)
  | _, _, _ => []
theorem idxV_idx : ∀ {fs : List Str} {us : List V} {i : Nat}, us.length = fs.length → (idxV fs us i).map (fun t => (t.1, t.2.1)) = idx fs i
  | [], us, i, h => by cases us <;> rfl
  | f :: r, [], i, h => by simp at h
  | f :: r, u :: us, i, h => by
    simp only [idxV, idx, List.map_cons]
    rw [idxV_idx (by simpa using h)]
theorem idxV_zip : ∀ {fs : List Str} {us : List V} {i : Nat}, (idxV fs us i).map (fun t => (t.1, t.2.2)) = fs.zip us
  | [], us, i => by cases us <;> rfl
  | f :: r, [], i => rfl
  | f :: r, u :: us, i => by
    simp only [idxV, List.map_cons, List.zip_cons_cons]
    rw [idxV_zip]
theorem idxV_len : ∀ {fs : List Str} {us : List V} {i : Nat}, (idxV fs us i).length ≤ fs.length
  | [], us, i => by cases us <;> simp [idxV]
  | f :: r, [], i => by simp [idxV]
  | f :: r, u :: us, i => by
    simp only [idxV, List.length_cons]
    have := idxV_len (fs := r) (us := us) (i := i + 1)
    omega
theorem idxV_at : ∀ {fs : List Str} {us : List V} {i : Nat} {t : Str × Nat × V}, t ∈ idxV fs us i → t.1 ∈ fs ∧ i ≤ t.2.1 ∧ us[t.2.1 - i]? = some t.2.2
  | [], us, i, t, h => by cases us <;> simp [idxV] at h
  | f :: r, [], i, t, h => by simp [idxV] at h
  | f :: r, u :: us, i, t, h => by
    simp only [idxV, List.mem_cons] at h
    rcases h with rfl | h
    · exact ⟨List.mem_cons_self, Nat.le_refl _, by simp⟩
    · obtain ⟨a, b, c⟩ := idxV_at h
      refine ⟨List.mem_cons_of_mem _ a, by omega, ?_⟩
      rw [show t.2.1 - i = (t.2.1 - (i + 1)) + 1 by omega, List.getElem?_cons_succ]
      exact c
theorem rs_ok {W : Wd} {c qual : Str} {params : Arguments} {body : List Stmt} {scope : Scope} {fd : FuncData} {N : List Str} {f0 : Str} {fr : List Str} (mc : W.mg c = some (.ref (He.ga W.K c))) (b : mkB W.K c (f0 :: fr) = true)
    (F : FunD W.K "__init__" qual params body scope [] [] (He.ma W.K (He.ga W.K c) "__init__") fd) (sc : FnScope N N scope) (hN : N.length = fr.length + 2) (hb : initB N scope (idx (f0 :: fr) 1) body = true) (bd : Binds W.K fd N []) (hl : fr.length ≤ 700) : RsS W 2 c (f0 :: fr).reverse := by
  unfold mkB at b
  obtain ⟨b1, b⟩ := bt b
  obtain ⟨b2, b⟩ := bt b
  obtain ⟨b3, b4⟩ := bt b
  have T := oexB_ok b1
  refine ⟨⟨He.ga W.K c, He.ma W.K (He.ga W.K c) "__init__", fd, N, 1, mc, T, He.eqO_ok b2, of_decide_eq_true b3, ?_, Nat.le_refl _, bd, by simp; omega⟩⟩
  refine F.ok sc (fun vs H Q E h => ?_) fun cdv A outer s H vs Q E hr h => ?_
  · obtain ⟨a, us, rfl, h1, _⟩ := h
    rw [hN]
    simp at h1 ⊢
    omega
  · obtain ⟨a, us, rfl, h1, h2, q⟩ := h
    refine ⟨_, pss_init rfl rfl hb, ?_⟩
    cases us with
    | nil => simp at h1
    | cons u ur =>
      have h1' : ur.length = fr.length := by simpa using h1
      have e0 : idx (f0 :: fr) 1 = (((f0, 1, u) :: idxV fr ur 2)).map fun t => (t.1, t.2.1) := by
        rw [List.map_cons, idxV_idx h1']
        rfl
      have st : ∀ i y, (u :: ur)[i]? = some y → (L2.start N (V.ref a :: u :: ur))[i + 1]? = some (some y) := fun i y hy => by
        unfold L2.start
        rw [List.map_cons, List.cons_append, List.getElem?_cons_succ, List.getElem?_append_left (by
          rw [List.length_map]
          exact (List.getElem?_eq_some_iff.mp hy).1), List.getElem?_map, hy]
        rfl
      show tInit W.K (idx (f0 :: fr) 1) _ _ H
      rw [e0]
      refine init_ok T (a := a) (by rfl) h2 (Nat.le_trans idxV_len (by omega)) (fun t ht => ?_) fun d H' hd da k1 k2 k3 => ?_
      · have ht' : t ∈ idxV (f0 :: fr) (u :: ur) 1 := ht
        obtain ⟨a1, a2, a3⟩ := idxV_at ht'
        refine ⟨He.eqO_ok (List.all_eq_true.mp b4 t.1 a1), ?_⟩
        have := st _ _ a3
        rwa [show t.2.1 - 1 + 1 = t.2.1 by omega] at this
      · refine q d H' hd da k1 ?_ k3
        rw [k2]
        have e1 : ((f0, 1, u) :: idxV fr ur 2).map (fun t => (t.1, t.2.2)) = (f0 :: fr).zip (u :: ur) := idxV_zip (i := 1) (fs := f0 :: fr) (us := u :: ur)
        rw [e1, List.zip_eq_zipWith, List.zip_eq_zipWith, List.reverse_zipWith (by simpa using h1'.symm)]
def rs0B (K : PySem.W.Frag) (c : Str) : Bool := PySem.W.excIn K (He.ga K c) He.veBase "ValueError.__new__" && (PySem.W.keepIn K (.ref (He.ga K c)) && (decide (PySem.W.subIn K (.ref (He.ga K c)) (.type "BaseException") = some true) && decide (PySem.W.typeIn K (.ref (He.ga K c)) = some (.type "type"))))
theorem rs0_ok {W : Wd} {c : Str} (mc : W.mg c = some (.ref (He.ga W.K c))) (b : rs0B W.K c = true) : Rs0 W c := by
  unfold rs0B at b
  obtain ⟨b1, b⟩ := bt b
  obtain ⟨b2, b⟩ := bt b
  obtain ⟨b3, b4⟩ := bt b
  exact ⟨⟨_, mc, b1, b2, of_decide_eq_true b3, of_decide_eq_true b4⟩⟩

/-! ### the hook -/
def asF (g : Addr → Option Obj) (n : Nat) : List Addr := sysModules :: He.asD g n
def obsF (n : Nat) (fn : List He.DefD) (ex : PySem.W.Frag → Bool) (g : Addr → Option Obj) : He.AlD := (ex (He.frG g (asF g n)) && fn.all fun d => d.ok (He.frG g (asF g n)), fn.map fun d => He.fnW (He.frG g (asF g n)) d.at_)
structure SaysF (fn : List He.DefD) (ex : PySem.W.Frag → Bool) (K : PySem.W.Frag) : Prop where
  ex : ex K = true
  ok : (fn.all fun d => d.ok K) = true
  fn : (fn.map fun d => He.fnW K d.at_) = fn.map He.DefD.val
def hookF (n : Nat) (fn : List He.DefD) (ex : PySem.W.Frag → Bool) : PySem.W.Hook where
  α := He.AlD
  obs := fun s => obsF n fn ex s.heap.get?
  val := fun _ => He.valD fn
  says := fun _ h => ∃ K : PySem.W.Frag, K.In h ∧ SaysF fn ex K
  of := fun _ _ e => ⟨_, He.frG_in, by
    have e1 := congrArg (fun z : He.AlD => z.1) e
    obtain ⟨e2, e3⟩ := bt (show (_ && _) = true from e1)
    exact ⟨e2, e3, congrArg (fun z : He.AlD => z.2) e⟩⟩
  keeps := fun _ _ _ ⟨K, hK, c⟩ k => ⟨K, PySem.W.Frag.In.keeps hK k, c⟩
theorem obsF_eq {n : Nat} {fn : List He.DefD} {ex : PySem.W.Frag → Bool} {g : Addr → Option Obj} {s : Shared} (h : ∀ a, g a = s.heap.get? a) : obsF n fn ex g = (hookF n fn ex).obs s := by
  have e : g = s.heap.get? := funext h
  rw [e] <;> rfl
theorem SaysF.def_ {fn : List He.DefD} {ex : PySem.W.Frag → Bool} {K : PySem.W.Frag} (c : SaysF fn ex K) (i : Nat) {d : He.DefD} (h : fn[i]? = some d := by rfl) : ∃ fd, FunD K d.name d.qual d.params d.body d.scope (d.dvs K) (d.kws K) (He.fAd K d.at_) fd := by
  have e2 : (fn.map fun d => He.fnW K d.at_)[i]? = (fn.map He.DefD.val)[i]? := by rw [c.fn]
  rw [List.getElem?_map, List.getElem?_map, h] at e2
  exact He.DefD.funD (Option.some.inj e2) (List.all_eq_true.mp c.ok d (List.mem_of_getElem? h))
/-- names of the module: those bound to an object, those free -/
def gloB (K : PySem.W.Frag) (xs : List Str) : Bool := xs.all fun x => isV (PySem.W.nsIn K mainGlobals x) (.ref (He.ga K x))
def freeB (K : PySem.W.Frag) (xs : List Str) : Bool := xs.all fun x => He.eqO (PySem.W.nsIn K mainGlobals x) (some none)
theorem gloB_ok {K : PySem.W.Frag} {h : Heap} {mg : Str → Option Value} {xs : List Str} (X : K.In h) (G : h.Ns mainGlobals mg) (b : gloB K xs = true) {x : Str} (hx : x ∈ xs) : mg x = some (.ref (He.ga K x)) := PySem.W.mg_of X G (He.eqO_ok (List.all_eq_true.mp b x hx))
theorem freeB_ok {K : PySem.W.Frag} {h : Heap} {mg : Str → Option Value} {xs : List Str} (X : K.In h) (G : h.Ns mainGlobals mg) (b : freeB K xs = true) {x : Str} (hx : x ∈ xs) : mg x = none := PySem.W.mg_none_of X G (He.eqO_ok (List.all_eq_true.mp b x hx))
end FS

set_option Elab.async false
set_option linter.all false
set_option maxRecDepth 100000
set_option maxHeartbeats 8000000
namespace FS
open PySem PySem.Spec PyProof.Rows L2

/-! ### a lambda is made -/
abbrev lamO (X : Cx) (ar : Arguments) (bd : Expr) (ls : Scope) (pm : Value) (k : Addr) (ct : Value) : Obj := PySem.W.kla_obj "<lambda>" (X.env.qual ++ "<lambda>") ar bd ls (cloFrom X.env.cells ls.names []) pm k ct
section
variable {X : Cx} {pins : List (Addr × Obj)} {σ : L2.St} {H : Hp} {s : Shared}
theorem lam_new {T : List (Addr × Str)} {c P : Addr} {ar : Arguments} {bd : Expr} {ls : Scope} {lp : Pos} {E Q : Value → Shared → Prop} (I : Inv X pins σ H s) (TB : LamX.TabB X.base X.mg c P) (hco : X.env.code = .ref c)
    (hm : (P, X.env.qual ++ "<lambda>") ∈ T) (hu : ∀ p ∈ T, p.1 = P → p.2 = X.env.qual ++ "<lambda>") (hT : LamX.Tabs T H) (hd : defaultsOf ar X.env = ([], [])) (hf : ∀ y ∈ ls.names, y.2 = .free → ∃ c, X.env.cells.lookup y.1 = some c)
    (go : ∀ (f k : Addr) (pm ct : Value) (H1 : Hp) (s1 : Shared), Inv X pins σ H1 s1 → LamX.ExtN H H1 → LamX.Tabs T H1 → (∀ b qs, H1 b = some (.tbl qs) → b = P ∨ H b = some (.tbl qs)) →
      s1.heap.get? f = some (lamO X ar bd ls pm k ct) → H1 f = none → f ∉ frs X.stack → H1 k = some (LamX.CodeO k (X.env.qual ++ "<lambda>")) → Q (.ref f) s1) :
    wpAny (model X.prog X.w) X.A (eval (.Lambda ar bd ls lp) X.env) Q E s := by
  obtain ⟨ps, hP, tr, am⟩ := hT _ hm
  have bP : s.heap.BuiltinsAt X.mg P := TB.bm.keeps I.bk
  have oP : s.heap.get? P = some { cls := .none, data := .fields ps } := I.hok P _ hP
  have out : ∀ b, s.heap.objs.size ≤ b → b ∉ frs X.stack := fun b hb z => (List.mem_cons.mp (I.stkSub _ z)).elim (fun e => by
    have l := I.lt
    rw [← e] at l
    exact absurd (Nat.lt_of_lt_of_le l hb) (Nat.lt_irrefl _)) (I.nofs hb)
  refine PySem.W.kla_eval hd ?_
  cases hca : codeAmong lp ps.toList with
  | some cv =>
    obtain ⟨k, e, hk⟩ := am lp cv hca
    subst e
    refine PySem.W.kla_makeFunctionHit (mg := X.mg) (c := c) (P := P) (ps := ps) (closure_ok hf) I.ok.glob (I.mod.glob.keeps I.bk) hco (TB.code.keeps I.bk) oP tr hca bP fun ct h' tk hx hsz => ?_
    have J : Inv X pins σ H { s with heap := h'.push (lamO X ar bd ls ((X.mg "__name__").getD .none) k ct), toks := tk } := I.kept fun b o e => Heap.get?_push_of_some _ (hx b o e)
    exact go h'.objs.size k _ ct H _ J (fun _ _ q _ => q) hT (fun _ _ q => .inr q) (Heap.get?_push_size _ rfl) (I.hok.fresh hsz) (out _ hsz) hk
  | none =>
    refine PySem.W.kla_makeFunction (mg := X.mg) (c := c) (P := P) (ps := ps) (closure_ok hf) I.ok.glob (I.mod.glob.keeps I.bk) hco (TB.code.keeps I.bk) oP tr hca TB.gP bP fun k ct h' tk hx hge hlt hrec htb => ?_
    obtain ⟨k2, oc, vs, t, e2, o1, o2, o3⟩ := hrec
    cases e2
    have hsz : s.heap.objs.size ≤ h'.objs.size := Nat.le_of_lt (Nat.lt_of_le_of_lt hge hlt)
    have nk : H k = none := I.hok.fresh hge
    let ps2 : Array Value := ps ++ #[rawInt lp.line, rawInt lp.col, .ref k]
    let H1 : Hp := upd (upd H P (.tbl ps2)) k (LamX.CodeO k (X.env.qual ++ "<lambda>"))
    have J := LamX.inv_table (t' := tk) (more := #[rawInt lp.line, rawInt lp.col, .ref k]) (h' := h'.push (lamO X ar bd ls ((X.mg "__name__").getD .none) k ct)) I hP
      (fun b o hb e => Heap.get?_push_of_some _ (hx b o hb e)) (Heap.get?_push_of_some _ htb) hge ⟨oc, vs, t, Heap.get?_push_of_some _ o1, o2, o3⟩
    have at_ : ∀ b, b ≠ P → b ≠ k → H1 b = H b := fun b z1 z2 => (upd_ne z2).trans (upd_ne z1)
    have hE : LamX.ExtN H H1 := fun b o e n => by
      rw [at_ b (fun z => n ps (Option.some.inj (e.symm.trans (z ▸ hP)))) (ne_of_none e nk)]
      exact e
    have hP1 : H1 P = some (.tbl ps2) := (upd_ne (ne_of_none hP nk)).trans upd_same
    have hk1 : H1 k = some (LamX.CodeO k (X.env.qual ++ "<lambda>")) := upd_same
    have el : ps2.toList = ps.toList ++ [rawInt lp.line, rawInt lp.col, .ref k] := by simp [ps2]
    refine go h'.objs.size k _ ct H1 _ J hE (fun p hp => ?_) (fun b qs q => ?_) (Heap.get?_push_size _ rfl) ?_ (out _ hsz) hk1
    · by_cases y : p.1 = P
      · rw [hu p hp y, y]
        refine ⟨ps2, hP1, by rw [el]; exact PySem.TriplesOk_snoc _ _ _ _ tr, fun p' cv hcv => ?_⟩
        rw [el] at hcv
        rcases LamX.among_app _ tr hcv with z | z
        · obtain ⟨a, e1, e2⟩ := am p' cv z
          exact ⟨a, e1, hE _ _ e2 LamX.codeO_ne⟩
        · exact ⟨k, z, hk1⟩
      · obtain ⟨qs, a1, a2, a3⟩ := hT p hp
        refine ⟨qs, (at_ _ y (ne_of_none a1 nk)).trans a1, a2, fun p' cv hcv => ?_⟩
        obtain ⟨a, e1, e2⟩ := a3 p' cv hcv
        exact ⟨a, e1, hE _ _ e2 LamX.codeO_ne⟩
    · by_cases y : b = P
      · exact .inl y
      · by_cases z : b = k
        · rw [z, hk1] at q
          exact absurd (Option.some.inj q) (LamX.codeO_ne qs)
        · rw [at_ b y z] at q
          exact .inr q
    · have n1 : h'.objs.size ≠ k := Nat.ne_of_gt hlt
      have n2 : h'.objs.size ≠ P := Nat.ne_of_gt (Nat.lt_of_lt_of_le (Heap.lt_size oP) hsz)
      rw [at_ _ n2 n1]
      exact I.hok.fresh hsz
end
end FS

set_option Elab.async false
set_option linter.all false
set_option maxRecDepth 100000
set_option maxHeartbeats 8000000
namespace FS
open PySem PySem.Spec PyProof.Rows L2

/-! ### the lambda is called by the def that got it -/
section
variable {X : Cx} {pins : List (Addr × Obj)} {σ : L2.St} {H : Hp} {s : Shared}
abbrev zCx (X : Cx) (C : CXT) (Ng : List Str) (qg : Str) (sg : Scope) (g : Addr) (cdg : Value) (s : Shared) (H : Hp) (Eg : XK) : Cx := cxOf C X.prog X.w X.K X.mg X.base Ng qg sg g cdg X.A X.stack s H Eg
theorem pe_actG {C : CXT} {Eg El : XK} {Ng : List Str} {qg a : Str} {sg ls : Scope} {g f c' : Addr} {cdg pm ct : Value} {ar : Arguments} {bd : Expr} {k i : Nat} {pn : List (Addr × Obj)} {xe : Value → Shared → Prop} {Wx : WX} {tb : TE} {p1 p2 : Pos}
    (I : Inv X pins σ H s) (L : LamX.LamS X.env.scope ls) (hf : s.heap.get? f = some (lamO X ar bd ls pm c' ct)) (hn : H f = none) (hs : f ∉ frs X.stack)
    (hb : bindArgs (PySem.W.kla_fn "<lambda>" (X.env.qual ++ "<lambda>") ar bd ls (cloFrom X.env.cells ls.names []) pm (.ref c') ct) ⟨[], []⟩ = pure [])
    (tk : Takes ((zCx X C Ng qg sg g cdg s H Eg).tr pn xe) Wx) (hW : ∀ cls d σ' H', El cls d H' → Wx cls d σ' H') (hg : Gd X.A) (hr : Room (k + 1) (X.A.deeper (envOfC qg sg s.heap.objs.size g cdg)))
    (go : ∀ (A : Around) (outer : List Env) (s : Shared) (H : Hp), Gd A → Room k (A.deeper (LamX.lamEnv X ls s.heap.objs.size f c')) → PE (LamX.lamCx X A outer s H El ls f c') bd tb)
    (hi : Ng[i]? = some a) (hv : Vis sg a) (hd : (a == ("__debug__" : Str)) = false) (hc : (a == ("__classdict__" : Str)) = false) :
    PE ((zCx X C Ng qg sg g cdg s H Eg).tr pn xe) (.Call (.Name a p1) [] [] p2) (fun σZ HZ Q => σZ[i]? = some (some (.ref f)) ∧ HZ c' = some (LamX.CodeO c' (X.env.qual ++ "<lambda>")) ∧ tb σ HZ Q) := by
  refine ⟨fun pz sz σZ HZ Q IZ ⟨q1, q2, q3⟩ => ?_⟩
  refine wpAny_Call_Name_kw (thn ((pe_var (pos := p1) (i := i) hi hv hd hc).run pz sz σZ HZ (fun v H1 => v = .ref f ∧ H1 = HZ) IZ ⟨.ref f, q1, rfl, rfl⟩) fun u s1 ⟨v, H1, I1, rv, ev, eH⟩ => ?_)
  subst ev eH
  obtain rfl : u = Value.ref f := rv
  have o1 : s1.heap.get? f = some (lamO X ar bd ls pm c' ct) := I1.base.keep f _ hf hn hs (fun z => nomatch (show f ∈ ([] : List Addr) from z))
  have un : Un (frs X.stack) [] H H1 s.heap s1.heap := I1.base
  obtain ⟨⟨oc, vs, t, k1, k2, k3⟩, _, _⟩ := I1.hok c' _ q2
  refine PySem.W.callWith_F0 ⟨_, _, _, _, o1⟩ ?_
  have rc : codeAny (model X.prog X.w) (X.A.deeper (envOfC qg sg s.heap.objs.size g cdg)) (.call (.ref f) ⟨[], []⟩) (CR (L2.CX X.prog X.w) (envOfC qg sg s.heap.objs.size g cdg :: X.stack) X.prog X.w H1 s1 Q El) s1 := by
    refine PySem.W.kla_callFunE hr.depth o1 rfl L.co L.gen rfl ⟨c', oc, vs, t, rfl, k1, k2, k3⟩ ?_
    rw [hb]
    refine wpAny_pure (wpAny_newFunctionEnv (fun y z => (L.own y z).2) (fun y z => absurd z (by simp)) (fun h₁ hns hsb => ⟨I1.nolimit.fresh _ hsb, ?_⟩) L.kind)
    have kp : ∀ b o, s1.heap.get? b = some o → h₁.get? b = some o := fun b o e => hsb.extBut b o (Nat.ne_of_lt (Heap.lt_size e)) (Heap.get?_push_of_some _ e)
    have J := LamX.lam_start2 (tk := s1.toks + ([] : List (Str × Value)).length) (A := X.A.deeper (envOfC qg sg s.heap.objs.size g cdg)) (outer := envOfC qg sg s.heap.objs.size g cdg :: X.stack) (E := El) (f := f) (c' := c') I L I1.env0 hr.hd un hns kp
    refine PySem.W.kla_codeExpr (wpAny_mono ((go (X.A.deeper (envOfC qg sg s.heap.objs.size g cdg)) (envOfC qg sg s.heap.objs.size g cdg :: X.stack) s1 H1 hg (hr.deeper _)).run [] _ _ H1 Q J q3) (fun v s' ⟨w', H', J', rv, q⟩ => ⟨w', H', J'.os, J'.bare, J'.base, J'.hok, rv, q⟩) fun e s' z => z)
  refine wpAny_call (codeAny_mono rc fun r s' z => ?_)
  cases r with
  | error e => exact passes_call tk hW pz σZ H1 s1 e s' I1 z
  | ok fl => cases fl with
    | ret u => exact I1.after z
    | _ => exact False.elim z
end
end FS

set_option Elab.async false
set_option linter.all false
set_option maxRecDepth 100000
set_option maxHeartbeats 8000000
namespace FS
open PySem PySem.Spec PyProof.Rows L2

/-! ### _law_fault, its tables -/
abbrev bFault (p1 p2 p3 p4 p5 p6 p7 p8 p9 p10 p11 p12 p13 p14 p15 p16 p17 p18 p19 p20 p21 p22 p23 p24 p25 p26 p27 p28 p29 p30 p31 p32 p33 p34 p35 p36 p37 : Pos) : List Stmt := [(.Assign [(.Name "found" p1)] (.Constant .none 0 p2) p3),
    (.Try [(.Expr (.Call (.Name "call" p4) [] [] p5) p6)] [.ExceptHandler (some (.Name "ShiftError" p7)) (some "e") [(.Assign [(.Name "found" p8)] (.Call (.Name "_law_kinds" p9) [(.Name "e" p10)] [] p11) p12), (.Assign [(.Name "found" p13)] (.IfExp (.BoolOp .And [(.Compare (.Call (.Name "len" p14) [(.Name "found" p15)] [] p16) [.Eq] [(.Constant (.int 1) 0 p17)] p18), (.Call (.Name "isinstance" p19) [(.Name "e" p20), (.Name "ValueError" p21)] [] p22)] p23) (.Subscript (.Name "found" p24) (.Constant (.int 0) 0 p25) p26) (.Tuple [(.Constant (.str "several") 0 p27), (.Call (.Name "len" p28) [(.Name "found" p29)] [] p30)] 0 p31) p32) p33)] p34] [] [] p35),
    (.Return (some (.Name "found" p36)) p37)]
def kTblK : List KE := [("BadNumber", "number", [("what", false), ("number", true)]),
  ("BadRow", "row", [("what", false), ("row", true)]),
  ("BadWord", "word", [("what", false), ("word", true)]),
  ("BadTable", "table", [("what", false)]),
  ("BadBook", "book", [("what", false)]),
  ("BadName", "badname", [("name", true)]),
  ("BadText", "text", [("line", false), ("token", false)])]
def kTblM : List KE := [("NoPlace", "place", [("what", false), ("index", true)]),
  ("NoName", "noname", [("name", true)]),
  ("TakenName", "taken", [("name", true)]),
  ("Unlike", "unlike", [("what", false)]),
  ("NotThere", "notthere", [("paper", false)]),
  ("TooMany", "many", [("what", false), ("many", false), ("limit", false)]),
  ("NotKept", "kept", [("promise", false), ("witness", false)]),
  ("NothingToUndo", "undo", []),
  ("NothingToRedo", "redo", [])]
def kCls : List Str := ["BadNumber", "BadRow", "BadWord", "BadTable", "BadBook", "BadName", "BadText", "NoPlace", "NoName", "TakenName", "Unlike", "NotThere", "TooMany", "NotKept", "NothingToUndo", "NothingToRedo"]
def kRes (c : Str) (ns : List Str) (xs : List PV) : Option (List PV) := match kRun c ns xs kTblK [], kRun c ns xs kTblM [] with | some a, some b => some (a ++ b) | _, _ => none
def kTbl : List KE := kTblK ++ kTblM
def kF : FltP := ⟨kCls, kRes⟩
abbrev nFault : List Str := ["call", "found", "e"]
def fltSc (sc : Scope) : Bool := visB sc "call" && (visB sc "found" && (visB sc "e" && (locB sc "found" && (locB sc "e" && (glB sc "ShiftError" && (glB sc "_law_kinds" && (glB sc "len" && (glB sc "isinstance" && glB sc "ValueError"))))))))
theorem pe_never {X : Cx} {e : Expr} : PE X e (fun _ _ _ => False) := ⟨fun _ _ _ _ _ _ h => h.elim⟩
/-- the suite's reading -/
def tSuiF (W : Wd) (a : Addr) (cls : Value) (d : Option Addr) : TS := fun D σ H => ∃ F C c ns xs y, cls = .ref C ∧ Good W F H ∧ EcS W C c ∧ PySem.W.kitOne W.K (.ref C) (.type "ValueError") = some true ∧ KI W d ns xs F H ∧ (∀ e ∈ kTbl, EntS W C c e) ∧
  kRes c ns xs = some [y] ∧ y.st = true ∧ σ.length = 3 ∧ σ[2]? = some (some (.ref a)) ∧ ∀ F' H' v σ', Ext W F H F' H' → Rp W F' v y → σ'.length = 3 → σ'[1]? = some (some v) → D.nx σ' H'
section
variable {W : Wd} {j k : Nat} {e : Ex} {g SE gk : Addr} {fd fdk : FuncData} {params : Arguments} {scope : Scope} {p1 p2 p3 p4 p5 p6 p7 p8 p9 p10 p11 p12 p13 p14 p15 p16 p17 p18 p19 p20 p21 p22 p23 p24 p25 p26 p27 p28 p29 p30 p31 p32 p33 p34 p35 p36 p37 : Pos}
theorem flt_ok (F : FunD W.K "_law_fault" "_law_fault" params (bFault p1 p2 p3 p4 p5 p6 p7 p8 p9 p10 p11 p12 p13 p14 p15 p16 p17 p18 p19 p20 p21 p22 p23 p24 p25 p26 p27 p28 p29 p30 p31 p32 p33 p34 p35 p36 p37) scope [] [] g fd) (S : FnScope nFault ["call"] scope) (hs : fltSc scope = true) (mG : W.mg "_law_fault" = some (.ref g)) (bG : Binds W.K fd ["call"] [])
    (mSE : W.mg "ShiftError" = some (.ref SE)) (mVE : W.mg "ValueError" = none) (mL : W.mg "len" = none) (hcls : ∀ c ∈ kCls, ∀ C, W.mg c = some (.ref C) → ClsS W SE kTbl c C)
    (FK : FnE W.P W.w W.K W.mg W.base j gk fdk ["e"] (spK W kTbl kRes)) (hj : j ≤ k + 1) (mK : W.mg "_law_kinds" = some (.ref gk)) (kK : PySem.W.keepIn W.K (.ref gk) = true) (bK : Binds W.K fdk ["e"] [])
    (nT : W.T ≠ []) (nd : AllN W k (ndE e)) : FltS W (k + 2) kF e := by
  intro N sc x X E hx cx
  obtain ⟨P, w, K, mg, base, pen, T⟩ := W
  have eP : X.prog = P := cx.c.prog
  have ew : X.w = w := cx.c.w
  have eK : X.K = K := cx.c.K
  have em : X.mg = mg := cx.c.mg
  have eb : X.base = base := cx.c.base
  subst eP ew eK em eb
  let W : Wd := ⟨X.prog, X.w, X.K, X.mg, X.base, pen, T⟩
  unfold fltB at hx
  split at hx
  · rename_i f p body lsc lpos pos
    have h := bt hx
    have e0 := dt h.1; subst e0
    obtain ⟨h1, h2⟩ := bt h.2
    obtain ⟨h3, h4⟩ := bt h2
    obtain ⟨h5, h6⟩ := bt h4
    obtain ⟨c0, P0, hcode, TB, hmT, hu⟩ := cx.lam nT (by rw [cx.c.sc]; exact h3)
    have L : LamX.LamS X.env.scope lsc := LamX.lamS_by (by rw [cx.c.sc]; exact h5)
    have hbody := soE e h6 nd
    unfold fltSc at hs
    simp only [Bool.and_eq_true] at hs
    obtain ⟨v0, v1, v2, c1, c2, g1, g2, g3, g4, g5⟩ := hs
    obtain ⟨oc, od, dV, kV, doc, pm0, an, cdv, ct0, osl, rfl, lk, hcd, _, _⟩ := F.ex
    refine ⟨fun pins s σ H Q I ⟨Fz, ρ, fp, gd, env, hq⟩ => ?_⟩
    refine wpAny_Call_Name_kw (ld_glob I (cx.c.gl h1) mG ?_ (by decide))
    refine PySem.W.callWith_K (h₀ := X.base) I.ok.mod.kin F.kp ?_ (by rfl) (by rfl)
    show wpAny _ _ (spliced ((false, eval (.Lambda ⟨[], [], none, [], [], none, []⟩ body lsc lpos) X.env) :: backTo pos (starEach [] X.env))) _ _ s
    refine Calls.spliced_cons (lam_new (T := T) I TB hcode hmT hu gd.tab rfl (L.has I.ok) fun f c' pm ct H1 s1 I1 eN T1 tn hf hfn hfr hco => ?_)
    refine Calls.spliced_nil ⟨I1.kIn, ?_⟩
    have e1 : Ext W Fz H Fz H1 := by
      refine ⟨fun _ _ q => q, fun a o _ q t => eN a o q t, fun a qs q => ?_, fun _ q => .inl q, ⟨fun a o q => eN a o (gd.sub a o q) fun qs z => gd.nt a qs (z ▸ q), ?_, gd.nt, T1, fun a qs q => ?_⟩⟩
      · obtain ⟨qn, hm⟩ := gd.tin a qs q
        obtain ⟨rs, hr, _⟩ := T1 _ hm
        exact ⟨rs, hr⟩
      · obtain ⟨⟨l, cs, x1, x2, x3, x4, q, r⟩, out⟩ := gd.pen
        exact ⟨⟨l, cs, x1, x2, x3, x4, eN _ _ q (fun _ z => by cases z), r⟩, out⟩
      · rcases tn a qs q with z | z
        · exact ⟨_, z ▸ hmT⟩
        · exact gd.tin a qs z
    have rm : Room (k + 2) X.A := cx.c.room
    have rc : codeAny (model X.prog X.w) X.A (.call (.ref g) ⟨[.ref f], []⟩) (CR CX0 X.stack X.prog X.w H1 s1 Q fun _ _ _ => False) s1 := by
      refine LamX.run_ofS (N := nFault) (ps := ["call"]) (us := [.ref f]) (vs := [.ref f]) lk hcd S (k := k + 1) rm I1.env0 (bG s1 [.ref f] I1.kIn rfl) (.cons rfl .nil) rfl fun hr' => ?_
      let Z := (zCx X CX0 nFault "_law_fault" scope g cdv s1 H1 fun _ _ _ => False).nox
      have gz : Gd Z.A := cx.c.gd
      have l1 : Z.env.scope.names.lookup ("found" : Str) = some .local := locB_ok c1
      have ts : ∀ (a : Addr) (oe : Obj) (cl : Value) (d : Option Addr) (pn : List (Addr × Obj)), Zc cl d oe → (∃ vs, oe.data = .fields vs) →
          PSs (Z.suite a ((a, oe) :: pn)) [(.Assign [(.Name "found" p8)] (.Call (.Name "_law_kinds" p9) [(.Name "e" p10)] [] p11) p12), (.Assign [(.Name "found" p13)] (.IfExp (.BoolOp .And [(.Compare (.Call (.Name "len" p14) [(.Name "found" p15)] [] p16) [.Eq] [(.Constant (.int 1) 0 p17)] p18), (.Call (.Name "isinstance" p19) [(.Name "e" p20), (.Name "ValueError" p21)] [] p22)] p23) (.Subscript (.Name "found" p24) (.Constant (.int 0) 0 p25) p26) (.Tuple [(.Constant (.str "several") 0 p27), (.Call (.Name "len" p28) [(.Name "found" p29)] [] p30)] 0 p31) p32) p33)] (tSuiF W a cl d) := by
        intro a oe cl d pn hz hfl
        refine ⟨fun pins s σ H D I ⟨F1, C, c, ns, xs, y, ec, gd, es, kv, ki, en, hres, yst, sl, s5, q⟩ => ?_⟩
        subst ec
        have hp : (a, oe) ∈ (Z.suite a ((a, oe) :: pn)).pn := List.mem_cons_self
        have pe : ∀ p, PE (Z.suite a ((a, oe) :: pn)) (.Name "e" p) (tVar 2) := fun p => pe_var rfl (visB_ok v2) (by decide) (by decide)
        have pf : ∀ p, PE (Z.suite a ((a, oe) :: pn)) (.Name "found" p) (tVar 1) := fun p => pe_var rfl (visB_ok v1) (by decide) (by decide)
        have a1 := ps_set (X := Z.suite a ((a, oe) :: pn)) (i := 1) (pos := p12) (pos' := p8) S.nd rfl (.inl l1) (pe_callE (X := Z.suite a ((a, oe) :: pn)) (q := p9) (pos := p11) (E := fun _ _ _ => False) hp FK gz (L2H.RoomH.mono (show L2H.RoomH (k + 1) _ from ⟨hr'.dp, hr'.un⟩) hj) (glB_ok g2) mK kK bK (pa_cons (pe p10) pa_nil (by rfl)) (by decide) (by rfl) (by rfl)) (by rfl) (.inr l1)
        have t1 := pt_cmpR (X := Z.suite a ((a, oe) :: pn)) (pos := p18) op_eq (pe_callB (X := Z.suite a ((a, oe) :: pn)) (p := p14) (pos := p16) call_len (glB_ok g3) mL boot_len (pa_cons (pf p15) pa_nil (by rfl)) (by decide) (by decide) (by rfl) (by rfl)) (pe_int (i := 1) (j := 0) (pos := p17)) (nomark _)
        have t2 := pt_val (pe_callB (X := Z.suite a ((a, oe) :: pn)) (p := p19) (pos := p22) (call_isP (X := Z.suite a ((a, oe) :: pn)) (D := C) (d := d) hp es.is hz hfl) (glB_ok g4) es.frI boot_isinstance (pa_cons (pe p20) (pa_cons (pe_bltn (X := Z.suite a ((a, oe) :: pn)) (pos := p21) (v := .ty "ValueError") (glB_ok g5) mVE boot_ve rfl (by decide) (by decide)) pa_nil (by rfl)) (by rfl)) (by decide) (by decide) (by rfl) (by rfl)) (fun _ => rfl)
        have a2 := ps_set (X := Z.suite a ((a, oe) :: pn)) (i := 1) (pos := p33) (pos' := p13) S.nd rfl (.inl l1) (pe_ifExp (pos := p32) (PW.pt (pw_and (pos := p23) t1 (pw_and1 (pos := p23) t2))) (pe_ix (pos := p26) ix_list (pf p24) (pe_int (i := 0) (j := 0) (pos := p25)) (fun _ _ => rfl)) (pe_never (e := .Tuple [.Constant (.str "several") 0 p27, .Call (.Name "len" p28) [.Name "found" p29] [] p30] 0 p31))) (by rfl) (.inr l1)
        refine (pss_cons a1 (pss_one a2)).run pins s σ H D I ?_
        refine ⟨.ref a, s5, F1, C, c, d, ns, xs, [y], rfl, gd, es, hz, hfl, ki, en, hres, fun F2 H2 v fq e2 ro nf => ?_⟩
        cases ro with
        | lst hl hF hn rs hna =>
          rename_i l vs fl
          cases rs with
          | cons r0 rt dj =>
            rename_i v0 vt f0 f1
            cases rt
            have rp := r0.stable yst
            have sq : SqL X.K H2 l [v0] := SqL.of hl
            have h1' : (σ.set 1 (some (.ref l)))[1]? = some (some (.ref l)) := by rw [List.getElem?_set_self (by omega)]
            have h2' : (σ.set 1 (some (.ref l)))[2]? = some (some (.ref a)) := by rw [List.getElem?_set_ne (by decide)]; exact s5
            have kid : ∀ dd, d = some dd → ∃ fs, H2 dd = some (.xd fs) := fun dd hd => let ⟨fs, z, _⟩ := ki.at_ e2 dd hd; ⟨fs, z⟩
            refine ⟨.ref l, h1', _, _, rfl, .inl ⟨_, sq, rfl⟩, rfl, true, by simp, ?_⟩
            dsimp only
            rw [if_pos rfl]
            refine ⟨.ref a, h2', .ty "ValueError", .type "ValueError", true, rfl, fun u r => r, kv, kid, true, rfl, ?_⟩
            dsimp only
            rw [if_pos rfl]
            refine ⟨.ref l, h1', l, _, 0, v0, rfl, rfl, sq, rfl, ?_⟩
            exact q _ _ v0 _ e2 rp (by simp [sl]) (by rw [List.getElem?_set_self (by simp; omega)])
        | st r => cases r
      have t0 := ps_set (X := Z) (i := 1) (pos := p3) (pos' := p1) S.nd rfl (.inl l1) (pe_non (X := Z) (j := 0) (pos := p2)) (by rfl) (.inr l1)
      have tr := ps_ret (X := Z) (pos := p37) (pe_var (X := Z) (i := 1) (pos := p36) rfl (visB_ok v1) (by decide) (by decide))
      have nb : Names Z "ShiftError" (.ref SE) := ⟨glB_ok g1, by decide, .inl mSE⟩
      have tt := ps_try_as (X := Z) (i := 2) (Wout := fun _ _ _ _ => False) (np := p7) (pos' := p34) (pos := p35)
        (tb := fun Wx D σZ HZ => σZ[0]? = some (some (.ref f)) ∧ HZ c' = some (LamX.CodeO c' (X.env.qual ++ "<lambda>")) ∧ tE W (fun cl d H => ∀ σ, σ.length = 3 → Wx cl d σ H) (evE e) σ HZ fun _ H' => D.nx σZ H') (ts := fun a cl d => tSuiF W a cl d) rfl rfl S.nd rfl (locB_ok c2) nb takes0 (fun Wx pn xe tk po => by
          have tk2 : Takes (Z.tr pn xe) (fun cl d _ H => ∀ σ, σ.length = 3 → Wx cl d σ H) := (takes_len tk).imp fun c d σ H h hl => h σ hl
          have hp := pe_actG (X := X) (C := CX0) (Eg := fun _ _ _ => False) (El := fun cl d H => ∀ σ, σ.length = 3 → Wx cl d σ H) (Ng := nFault) (qg := "_law_fault") (a := "call") (sg := scope) (g := g) (cdg := cdv) (k := k) (i := 0) (pn := pn) (xe := xe) (tb := tE W (fun cl d H => ∀ σ, σ.length = 3 → Wx cl d σ H) (evE e)) (p1 := p4) (p2 := p5)
            I1 L hf hfn hfr (by rfl) tk2 (fun cls d σ' H' z => z) cx.c.gd hr' (fun A outer s H ga hr2 => ?_) rfl (visB_ok v0) (by decide) (by decide)
          · exact ⟨fun pz sz σZ HZ D IZ ⟨q1, q2, q3⟩ => (pss_one (ps_expr (pos := p6) hp (by rfl))).run pz sz σZ HZ D IZ ⟨q1, q2, q3⟩⟩
          · have tkL : Takes (LamX.lamCx X A outer s H (fun cl d H => ∀ σ, σ.length = 3 → Wx cl d σ H) lsc f c') (fun cls d _ H => ∀ σ, σ.length = 3 → Wx cls d σ H) := takes_of rfl rfl rfl rfl
            exact hbody _ _ ⟨rfl, rfl, rfl, rfl, rfl, cx.c.nd, cx.c.N, rfl, rfl, hr2, fun pins σ H s e s' I c => passAt tkL σ pins H s e s' I c, ga⟩) ts
      refine ⟨_, PSs.nox (pss_cons t0 (pss_cons tt (pss_one tr))), ?_⟩
      refine ⟨rfl, hco, Fz, ρ, fp, e1.g, env.ext e1, Tr.W_imp (fun o ho => ?_) (faultV_W hq)⟩
      cases o with
      | bad => exact ho
      | ok r =>
        intro F2 H2 v e2 q
        have ho : ∀ (F' H' : Hp) (v : V), Ext W Fz H F' H' → RR W fp F' H' H (false, .non) v → Q v H' := ho
        exact ⟨.non, rfl, ho F2 H2 .non (e1.trans e2) ⟨[], .st .non, fun _ _ z => by simp at z, fun z => by cases z⟩⟩
      | exn c ns xs =>
        have ho : (if c ∈ kCls then (match kRes c ns xs with | some [y] => if y.st = true then Tr.ok (false, y) else Tr.bad | _ => Tr.bad) else Tr.bad : Tr Rv).W (PostE W E fp Fz H Q) := ho
        by_cases hcc : c ∈ kCls
        · rw [if_pos hcc] at ho
          split at ho
          · rename_i y hres
            by_cases yst : y.st = true
            · rw [if_pos yst] at ho
              have ho : ∀ (F' H' : Hp) (v : V), Ext W Fz H F' H' → RR W fp F' H' H (false, y) v → Q v H' := ho
              intro F2 H2 C d e2 hC hxr σ' hl
              have Kc := hcls c hcc C hC
              refine ⟨true, Kc.se, fun _ a ha => ?_, fun z => Bool.noConfusion z⟩
              refine ⟨F2, C, c, ns, xs, y, rfl, e2.g, Kc.ec, Kc.ve, ?_, Kc.en, hres, yst, by simp [hl], by rw [List.getElem?_set_self (by omega)], fun F3 H3 v σ'' e3 rv hl3 hv1 => ?_⟩
              · cases d with
                | none => exact hxr
                | some dd =>
                  obtain ⟨z1, fs, z2, z3, z4⟩ := hxr
                  exact ⟨ne_pen e1.g z1, fs, z2, z3, z4⟩
              · refine ⟨v, ?_, ho F3 H3 v ((e1.trans e2).trans e3) ⟨[], .st rv, fun _ _ z => by simp at z, fun z => by cases z⟩⟩
                show (σ''.set 2 none)[1]? = some (some v)
                rw [List.getElem?_set_ne (by decide)]
                exact hv1
            · rw [if_neg yst] at ho
              exact (show False from ho).elim
          · exact (show False from ho).elim
        · rw [if_neg hcc] at ho
          exact (show False from ho).elim
    refine wpAny_call (codeAny_mono rc fun r s2 z => ?_)
    cases r with
    | error e => exact (show False from z).elim
    | ok fl => cases fl with
      | ret u => exact I1.after z
      | _ => exact False.elim z
  · cases hx
end
end FS

set_option Elab.async false
set_option linter.all false
set_option maxRecDepth 100000
set_option maxHeartbeats 8000000
namespace FS
open PySem PySem.Spec PyProof.Rows L2

/-! ### a def that calls itself: the ground -/
theorem FnS.nil {W : Wd} {k n : Nat} {x qual : Str} {params : Arguments} {body : List Stmt} {scope : Scope} {fa : Addr} {fd : FuncData} {ps : List Str} (F : FunD W.K x qual params body scope [] [] fa fd) (hm : W.mg x = some (.ref fa)) (b : Binds W.K fd ps []) (hl : ps.length = n) : FnS W k x n (fun _ => .bad) :=
  ⟨⟨fa, fd, ps, hm, F.kp, b, hl, ⟨fun vs H Q E ⟨_, _, h1, _⟩ => by rw [h1, hl], fun A outer s H args us vs Q E _ _ _ _ _ ⟨_, _, _, _, _, h⟩ => (show False from h).elim⟩⟩⟩

/-! ### a def that a name stands for is called -/
def look (f : Str) : List (Str × Nat × Fn) → Option (Nat × Fn)
  | [] => none
  | p :: r => if p.1 = f then some p.2 else look f r
theorem look_mem {f : Str} {q : Nat × Fn} : ∀ {tbl : List (Str × Nat × Fn)}, look f tbl = some q → (f, q) ∈ tbl
  | [], h => by cases h
  | p :: r, h => by
    unfold look at h
    by_cases e : p.1 = f
    · rw [if_pos e] at h
      have e2 := Option.some.inj h
      obtain ⟨a, b⟩ := p
      dsimp only at e e2
      subst e e2
      exact List.mem_cons_self
    · rw [if_neg e] at h
      exact List.mem_cons_of_mem _ (look_mem h)
def evM : List (Loc → Tr Rv) → Loc → Tr (List Rv)
  | [], _ => .ok []
  | m :: ms, ρ => (m ρ).bind fun r => (evM ms ρ).bind fun rs => .ok (r :: rs)
def apM (q : Nat × Fn) (rs : List Rv) : Tr Rv := match takes rs with
  | some xs => if xs.length = q.1 then (q.2 xs).bind fun x => vB x else .bad
  | none => .bad
def callV (i : Nat) (tbl : List (Str × Nat × Fn)) (me : Loc → Tr (List Rv)) (ρ : Loc) : Tr Rv := match ρ[i]? with
  | some (some (.gl f)) => (match look f tbl with
    | some q => (me ρ).bind (apM q)
    | none => .bad)
  | _ => .bad
section
variable {W : Wd} {k : Nat} {N : List Str} {sc : Scope}
theorem pax_of : ∀ {es : List Expr} {ms : List (Loc → Tr Rv)}, PXL W k N (es.map fun e => (sc, e)) ms → PAX W k N sc es (evM ms)
  | [], ms, h => by
    cases h
    exact pax_nil
  | e :: es, ms, h => by
    cases h with
    | cons pl he t => exact pax_cons pl he (pax_of t)
theorem px_callV {i : Nat} {y : Str} {tbl : List (Str × Nat × Fn)} {a0 : Expr} {as : List Expr} {me : Loc → Tr (List Rv)} {p pos : Pos} (ht : ∀ q ∈ tbl, FnS W k q.1 q.2.1 q.2.2) (hi : N[i]? = some y) (hv : visB sc y = true) (nm : nmB y = true) (pl : (a0 :: as).all plainB = true) (ha : PAX W k N sc (a0 :: as) me) :
    PX W k N sc (.Call (.Name y p) (a0 :: as) [] pos) (callV i tbl me) := by
  intro X E c
  refine ⟨fun pins s σ H Q I ⟨F, ρ, fp, gd, env, h⟩ => ?_⟩
  unfold callV at h
  split at h
  · rename_i f hρ
    cases hl : look f tbl with
    | none => rw [hl] at h; exact (show False from h).elim
    | some q =>
      rw [hl] at h
      dsimp only at h
      obtain ⟨v, f0, hσ, ro, _⟩ := env.get hρ
      have rp := ro.stable rfl
      cases rp with
      | gl hm =>
        rename_i av
        obtain ⟨a, fd, ps, h1, h2, h3, h4, h5⟩ := (ht _ (look_mem hl)).ex
        rw [hm] at h1
        cases h1
        have Fg : FnG X.prog X.w X.K X.mg X.base (L2.CX X.prog X.w) k av fd ps (spF W q.1 q.2) := by
          rw [c.prog, c.w, c.K, c.mg, c.base]
          exact h5
        obtain ⟨p1, p2⟩ := pl_cons pl
        refine wpAny_Call_Name_kw (thn ((pe_var (pos := p) (i := i) (c.at_ hi) (c.vis hv) (nmB_ok nm).1 (nmB_ok nm).2.1).run pins s σ H (fun v H1 => v = .ref av ∧ H1 = H) I ⟨.ref av, hσ, rfl, rfl⟩) fun u s1 ⟨v, H1, I1, rv, ev, eH⟩ => ?_)
        subst ev eH
        obtain rfl : u = Value.ref av := rv
        have hA := (stepAF (W := W) (E := E) (m := me) (K := apM q) (σ := σ) (H := H1) (Q := Q) ⟨F, ρ, fp, gd, env, h⟩).imp fun vs H2 ⟨fe, F0, H0, F1, rs, e, qq, z⟩ => fn_fin (k := k) (n := q.1) (m := q.2) (E := E) (Q := Q) e qq z
        exact PySem.W.callWith_K (h₀ := X.base) I1.ok.mod.kin (by rw [c.K]; exact h2) (thn ((ha X E c).run pos pins s1 σ H1 _ I1 hA) fun us s2 ⟨vs, H2, I2, r, z⟩ => ⟨I2.kIn, run_fnG Fg c.gd c.room (by rw [c.K]; exact h3) c.pass I2 r z⟩) (star_cons p1) (star_all p2)
  · exact (show False from h).elim
/-- i: the slot that holds the def -/
def callPrim (i : Nat) (tbl : List (Str × Nat × Fn)) : Prim where
  chk := fun N sc x => match x with
    | .Call (.Name y _) (a0 :: as) [] _ => if (decide (N[i]? = some y) && (visB sc y && (nmB y && (a0 :: as).all plainB))) = true then some ((a0 :: as).map fun e => (sc, e)) else none
    | _ => none
  m := fun ms => callV i tbl (evM ms)
theorem call_need {i : Nat} {tbl : List (Str × Nat × Fn)} (ht : ∀ q ∈ tbl, FnS W k q.1 q.2.1 q.2.2) : Need.holds W k (.prim (callPrim i tbl)) := by
  intro N sc x ss ms hc hp
  unfold callPrim at hc ⊢
  dsimp only at hc
  split at hc
  · split at hc
    · rename_i hb
      obtain ⟨b1, hb⟩ := bt hb
      obtain ⟨b2, hb⟩ := bt hb
      obtain ⟨b3, b4⟩ := bt hb
      cases hc
      exact px_callV ht (of_decide_eq_true b1) b2 b3 b4 (pax_of hp)
    · cases hc
  · cases hc

/-! ### sorted(d), d a dict of few ints -/
def srt (is : List Int) : List Int := is.mergeSort (fun a b => decide (a ≤ b))
theorem srt_perm (is : List Int) : (srt is).Perm is := List.mergeSort_perm _ _
theorem srt_le (is : List Int) : (srt is).Pairwise (· ≤ ·) := by
  have h := List.pairwise_mergeSort (le := fun a b : Int => decide (a ≤ b)) (fun a b c h1 h2 => by simp at h1 h2 ⊢; omega) (fun a b => by simp; omega) is
  exact h.imp fun h => by simpa using h
theorem srt_unique {xs ys : List Int} (h : xs.Perm ys) (a : xs.Pairwise (· ≤ ·)) (b : ys.Pairwise (· ≤ ·)) : xs = ys := List.Perm.eq_of_pairwise (fun x y _ _ h1 h2 => Int.le_antisymm h1 h2) a b h
def sortD (r : PV) : Option PV := match r with
  | .dct _ false ks _ => (match intsP ks with
    | some is => if is.length < 64 then some (.lst true ((srt is).map .int)) else none
    | none => none)
  | _ => none
theorem keys_ints : ∀ {kvs : List (Key × V)} {is : List Int}, intsP (kvs.map fun p => kP p.1) = some is → kvs.map (·.1) = is.map Sum.inl
  | [], is, h => by cases h; rfl
  | (.inl i, v) :: r, is, h => by
    simp only [List.map_cons, kP, intsP, Option.map_eq_some_iff] at h
    obtain ⟨js, h, rfl⟩ := h
    rw [List.map_cons, keys_ints h]
    rfl
  | (.inr x, v) :: r, is, h => by simp [kP, intsP] at h
theorem rps_ints {F : Hp} : ∀ is : List Int, Rps W F (is.map V.int) (is.map PV.int)
  | [] => .nil
  | i :: is => .cons .int (rps_ints is)
theorem sorted_boot : bootBuiltins "sorted" = some (.builtin "sorted") := by decide +kernel
def sortPrim : Prim where
  chk := fun _ sc x => match x with
    | .Call (.Name y _) [e] [] _ => if (decide (y = "sorted") && (glB sc y && plainB e)) = true then some [(sc, e)] else none
    | _ => none
  m := fun ms ρ => match ms with
    | [me] => (me ρ).bind fun r => ofV (sortD r.2.fz)
    | _ => .bad
theorem sort_need (hm : W.mg "sorted" = none) : Need.holds W k (.prim sortPrim) := by
  intro N sc x ss ms hc hp
  unfold sortPrim at hc ⊢
  dsimp only at hc
  split at hc
  · rename_i y p e pos
    split at hc
    · rename_i hb
      have hb := bt hb
      have e0 := dt hb.1
      subst e0
      have hb2 := bt hb.2
      cases hc
      cases hp with
      | cons pl he t =>
        cases t
        intro X E c
        refine PE.imp (pe_callB (call_sortedDI c.calm) (c.gl hb2.1) (c.fr hm) sorted_boot (pa_cons (he X E c) pa_nil (star_cons pl)) (by decide) (by decide) (star_cons pl) (by rfl)) fun σ H Q h => ?_
        refine (op1 h).imp fun v H1 ⟨fe, F0, H0, F', r, e, q, z⟩ => ?_
        cases hr : sortD r.2.fz with
        | none => rw [hr] at z; exact (show False from z).elim
        | some y =>
          rw [hr] at z
          have rp := q.read e.g
          unfold sortD at hr
          split at hr
          · rename_i o ks vs hfz
            split at hr
            · rename_i is hi
              split at hr
              · rename_i hl
                cases hr
                rw [hfz] at rp
                cases rp with
                | dK ha rs => exact ⟨_, _, is, rfl, .inl (np_sub _ _ ha), keys_ints hi, hl, fun ys p pm pw hp => by
                    have := srt_unique (pm.trans (srt_perm is).symm) pw (srt_le is)
                    subst this
                    exact giveL z e hp (rps_ints _)⟩
              · cases hr
            · cases hr
          · cases hr
    · cases hc
  · cases hc
end
end FS

set_option Elab.async false
set_option linter.all false
set_option maxRecDepth 100000
set_option maxHeartbeats 8000000
namespace K06
open PySem PySem.Spec PyProof.Rows L2 FS
def top (i : Nat) : Stmt := PySem.Challenge.pw_flowshifts_k06_whole_rooms.main.body.getD i (.Pass ⟨0, 0, 0, 0⟩)
def m__law_draw : Fn := drawM
def N_as_tuples : List Str := ["value", "one"]
def ss_as_tuples (self : Fn) : Ss := (.cons (.ite (.tru (.isi (.var 0) ["list", "tuple"])) (.cons (.ret (.blt .tuple (.cons (.comp (.call "as_tuples" 1 self (.cons (.var 1) .nil)) (.v 1) (.seq (.var 0)) .yes [("one", 1)]) .nil)))
  .nil) .nil)
  (.cons (.ret (.var 0))
  .nil))
def m_as_tuples : Nat → Fn
  | 0 => fun _ => .bad
  | d + 1 => runF 2 1 (ss_as_tuples (m_as_tuples d))
def N_is_list : List Str := ["value"]
def ss_is_list : Ss := (.cons (.ret (.isi (.var 0) ["list", "tuple"]))
  .nil)
def m_is_list : Fn := runF 1 1 ss_is_list
def N_is_integer : List Str := ["value"]
def ss_is_integer : Ss := (.cons (.ret (.an (.isi (.var 0) ["int"]) (.one (.nt (.isi (.var 0) ["bool"])))))
  .nil)
def m_is_integer : Fn := runF 1 1 ss_is_integer
def N_is_index : List Str := ["value", "many"]
def ss_is_index : Ss := (.cons (.ret (.an (.call "is_integer" 1 m_is_integer (.cons (.var 0) .nil)) (.one (.chn .le .lt (.int 0) (.var 0) (.var 1)))))
  .nil)
def m_is_index : Fn := runF 2 2 ss_is_index
def N_is_between : List Str := ["value", "low", "high"]
def ss_is_between : Ss := (.cons (.ret (.an (.call "is_integer" 1 m_is_integer (.cons (.var 0) .nil)) (.one (.chn .le .le (.var 1) (.var 0) (.var 2)))))
  .nil)
def m_is_between : Fn := runF 3 3 ss_is_between
def N_is_indexes : List Str := ["value", "many", "one"]
def ss_is_indexes : Ss := (.cons (.ret (.an (.call "is_list" 1 m_is_list (.cons (.var 0) .nil)) (.one (.blt .all (.cons (.comp (.call "is_index" 2 m_is_index (.cons (.var 2) (.cons (.var 1) .nil))) (.v 2) (.seq (.var 0)) .yes [("one", 2)]) .nil)))))
  .nil)
def m_is_indexes : Fn := runF 3 2 ss_is_indexes
def N_is_lot : List Str := ["value", "many", "at"]
def ss_is_lot : Ss := (.cons (.ret (.an (.call "is_indexes" 2 m_is_indexes (.cons (.var 0) (.cons (.var 1) .nil))) (.one (.blt .all (.cons (.comp (.cmp .lt (.sub (.var 0) (.var 2)) (.sub (.var 0) (.bin .add (.var 2) (.int 1)))) (.v 2) (.rng (.bin .sub (.blt .len (.cons (.var 0) .nil)) (.int 1))) .yes [("at", 2)]) .nil)))))
  .nil)
def m_is_lot : Fn := runF 3 2 ss_is_lot
def N_is_row_of : List Str := ["value", "many", "one"]
def ss_is_row_of : Ss := (.cons (.ret (.an (.call "is_list" 1 m_is_list (.cons (.var 0) .nil)) (.an (.cmp .eq (.blt .len (.cons (.var 0) .nil)) (.var 1)) (.one (.blt .all (.cons (.comp (.call "is_between" 3 m_is_between (.cons (.var 2) (.cons (.int 0) (.cons (.gi "MOST_ENTRY" 1000000000000000000000000000000000000000000000000000000000000) .nil)))) (.v 2) (.seq (.var 0)) .yes [("one", 2)]) .nil))))))
  .nil)
def m_is_row_of : Fn := runF 3 2 ss_is_row_of
def N_is_table : List Str := ["value", "row"]
def ss_is_table : Ss := (.cons (.ite (.orr (.nt (.tru (.call "is_list" 1 m_is_list (.cons (.var 0) .nil)))) (.one (.nt (.chn .le .le (.int 1) (.blt .len (.cons (.var 0) .nil)) (.gi "MOST_PLACES" 12))))) (.cons (.ret (.bl false))
  .nil) .nil)
  (.cons (.ret (.blt .all (.cons (.comp (.call "is_row_of" 2 m_is_row_of (.cons (.var 1) (.cons (.blt .len (.cons (.var 0) .nil)) .nil))) (.v 1) (.seq (.var 0)) .yes [("row", 1)]) .nil)))
  .nil))
def m_is_table : Fn := runF 2 1 ss_is_table
def N_need_table : List Str := ["table", "what"]
def ss_need_table : Ss := (.cons (.ite (.nt (.tru (.call "is_table" 1 m_is_table (.cons (.var 0) .nil)))) (.cons (.rs "BadTable" ["what"] (.cons (.var 1) .nil))
  .nil) .nil)
  (.cons (.ret (.call "as_tuples" 1 (m_as_tuples 4) (.cons (.var 0) .nil)))
  .nil))
def m_need_table : Fn := runF 2 2 ss_need_table
def N_goals_of : List Str := ["table", "place", "goal", "many"]
def ss_goals_of : Ss := (.cons (.ret (.comp (.var 2) (.t [2, 3]) (.enum (.sub (.var 0) (.var 1))) (.cmp .gt (.var 3) (.int 0)) [("goal", 2), ("many", 3)]))
  .nil)
def m_goals_of : Fn := runF 4 2 ss_goals_of
def N_walks_from : List Str := ["table", "start", "found", "order", "at", "goal", "place"]
def ss_walks_from : Ss := (.cons (.par3 2 3 4 (.cons (.dnew false) (.cons (.lst .nil) (.cons (.int 0) .nil))))
  (.cons (.fr (.v 5) (.seq (.call "goals_of" 2 m_goals_of (.cons (.var 0) (.cons (.var 1) .nil)))) (.cons (.dput 2 (.var 5) (.tup (.cons (.var 1) (.cons (.var 5) .nil))))
  (.cons (.app 3 (.var 5))
  .nil)))
  (.cons (.whl 100 (.cmp .lt (.var 4) (.blt .len (.cons (.var 3) .nil))) (.cons (.par2 6 4 (.cons (.sub (.var 3) (.var 4)) (.cons (.bin .add (.var 4) (.int 1)) .nil)))
  (.cons (.fr (.v 5) (.seq (.call "goals_of" 2 m_goals_of (.cons (.var 0) (.cons (.var 6) .nil)))) (.cons (.ite (.cmp .notin (.var 5) (.var 2)) (.cons (.dput 2 (.var 5) (.bin .add (.sub (.var 2) (.var 6)) (.tup (.cons (.var 5) .nil))))
  (.cons (.app 3 (.var 5))
  .nil)) .nil)
  .nil))
  .nil)))
  (.cons (.ret (.var 2))
  .nil))))
def m_walks_from : Fn := runF 7 2 ss_walks_from
def N_rooms_by : List Str := ["table", "reach", "place", "found", "seen", "room", "one"]
def ss_rooms_by : Ss := (.cons (.set 1 (.comp (.call "walks_from" 2 m_walks_from (.cons (.var 0) (.cons (.var 2) .nil))) (.v 2) (.rng (.blt .len (.cons (.var 0) .nil))) .yes [("place", 2)]))
  (.cons (.par2 3 4 (.cons (.lst .nil) (.cons (.dnew false) .nil)))
  (.cons (.fr (.v 2) (.rng (.blt .len (.cons (.var 0) .nil))) (.cons (.ite (.an (.cmp .in_ (.var 2) (.sub (.var 1) (.var 2))) (.one (.cmp .notin (.var 2) (.var 4)))) (.cons (.set 5 (.comp (.var 6) (.v 6) (.rng (.blt .len (.cons (.var 0) .nil))) (.an (.cmp .in_ (.var 6) (.sub (.var 1) (.var 2))) (.one (.cmp .in_ (.var 2) (.sub (.var 1) (.var 6))))) [("one", 6)]))
  (.cons (.app 3 (.blt .tuple (.cons (.var 5) .nil)))
  (.frz 5 (.cons (.fr (.v 6) (.seq (.var 5)) (.cons (.dput 4 (.var 6) (.bl true))
  .nil))
  .nil)))) .nil)
  .nil))
  (.cons (.ret (.blt .tuple (.cons (.var 3) .nil)))
  .nil))))
def m_rooms_by : Fn := runF 7 1 ss_rooms_by
def N_rooms : List Str := ["table"]
def ss_rooms : Ss := (.cons (.ret (.call "rooms_by" 1 m_rooms_by (.cons (.call "need_table" 2 m_need_table (.cons (.var 0) (.cons (.str "table") .nil))) .nil)))
  .nil)
def m_rooms : Fn := runF 1 1 ss_rooms
def N_room_ways : List Str := ["table", "told", "lots", "reach", "lot", "found", "i", "k"]
def ss_room_ways : Ss := (.cons (.set 1 (.call "need_table" 2 m_need_table (.cons (.var 0) (.cons (.str "table") .nil))))
  (.cons (.set 2 (.call "rooms_by" 1 m_rooms_by (.cons (.var 1) .nil)))
  (.cons (.set 3 (.comp (.call "walks_from" 2 m_walks_from (.cons (.var 1) (.cons (.sub (.var 4) (.int 0)) .nil))) (.v 4) (.seq (.var 2)) .yes [("lot", 4)]))
  (.cons (.set 5 (.lst .nil))
  (.cons (.fr (.v 6) (.rng (.blt .len (.cons (.var 2) .nil))) (.cons (.ext 5 (.comp (.tup (.cons (.var 6) (.cons (.var 7) .nil))) (.v 7) (.rng (.blt .len (.cons (.var 2) .nil))) (.an (.cmp .ne (.var 6) (.var 7)) (.one (.cmp .in_ (.sub (.sub (.var 2) (.var 7)) (.int 0)) (.sub (.var 3) (.var 6))))) [("k", 7)]))
  .nil))
  (.cons (.ret (.blt .tuple (.cons (.var 5) .nil)))
  .nil))))))
def m_room_ways : Fn := runF 8 1 ss_room_ways
def N_cut_by : List Str := ["table", "lot", "k", "i"]
def ss_cut_by : Ss := (.cons (.ret (.blt .tuple (.cons (.comp (.blt .tuple (.cons (.comp (.sub (.sub (.var 0) (.var 3)) (.var 2)) (.v 2) (.seq (.var 1)) .yes [("k", 2)]) .nil)) (.v 3) (.seq (.var 1)) .yes [("i", 3)]) .nil)))
  .nil)
def m_cut_by : Fn := runF 4 2 ss_cut_by
def N_cut_to : List Str := ["table", "lot", "told"]
def ss_cut_to : Ss := (.cons (.set 2 (.call "need_table" 2 m_need_table (.cons (.var 0) (.cons (.str "table") .nil))))
  (.cons (.ite (.orr (.nt (.tru (.call "is_lot" 2 m_is_lot (.cons (.var 1) (.cons (.blt .len (.cons (.var 2) .nil)) .nil))))) (.one (.cmp .eq (.blt .len (.cons (.var 1) .nil)) (.int 0)))) (.cons (.rs "BadRow" ["row", "what"] (.cons (.str "lot") (.cons (.var 1) .nil)))
  .nil) .nil)
  (.cons (.ret (.call "cut_by" 2 m_cut_by (.cons (.var 2) (.cons (.blt .tuple (.cons (.var 1) .nil)) .nil))))
  .nil)))
def m_cut_to : Fn := runF 3 2 ss_cut_to
def N__law_pick : List Str := ["pen", "some"]
def ss__law_pick : Ss := (.cons (.ret (.sub (.var 1) (.call "_law_draw" 2 m__law_draw (.cons (.var 0) (.cons (.blt .len (.cons (.var 1) .nil)) .nil)))))
  .nil)
def m__law_pick : Fn := runF 2 2 ss__law_pick
def N__law_shuffled : List Str := ["pen", "some", "left", "found", "lap"]
def ss__law_shuffled : Ss := (.cons (.par2 2 3 (.cons (.blt .list (.cons (.var 1) .nil)) (.cons (.lst .nil) .nil)))
  (.cons (.fr (.v 4) (.rng (.blt .len (.cons (.var 1) .nil))) (.cons (.apop 3 2 (.call "_law_draw" 2 m__law_draw (.cons (.var 0) (.cons (.blt .len (.cons (.var 2) .nil)) .nil))))
  .nil))
  (.cons (.ret (.var 3))
  .nil)))
def m__law_shuffled : Fn := runF 5 2 ss__law_shuffled
def N__law_is : List Str := ["told", "due", "at"]
def ss__law_is (self : Fn) : Ss := (.cons (.ite (.tru (.isi (.var 1) ["tuple"])) (.cons (.ite (.orr (.nt (.tru (.isi (.var 0) ["tuple"]))) (.one (.cmp .ne (.blt .len (.cons (.var 0) .nil)) (.blt .len (.cons (.var 1) .nil))))) (.cons (.ret (.bl false))
  .nil) .nil)
  (.cons (.ret (.cmp .eq (.comp (.var 2) (.v 2) (.rng (.blt .len (.cons (.var 1) .nil))) (.nt (.tru (.call "_law_is" 2 self (.cons (.sub (.var 0) (.var 2)) (.cons (.sub (.var 1) (.var 2)) .nil))))) [("at", 2)]) (.lst .nil)))
  .nil)) .nil)
  (.cons (.ite (.isN false (.var 1)) (.cons (.ret (.isN false (.var 0)))
  .nil) .nil)
  (.cons (.ite (.isB false (.var 1) (.bl true)) (.cons (.ret (.isB false (.var 0) (.bl true)))
  .nil) .nil)
  (.cons (.ite (.isB false (.var 1) (.bl false)) (.cons (.ret (.isB false (.var 0) (.bl false)))
  .nil) .nil)
  (.cons (.ite (.tru (.isi (.var 1) ["str"])) (.cons (.ret (.an (.isi (.var 0) ["str"]) (.one (.cmp .eq (.var 0) (.var 1)))))
  .nil) .nil)
  (.cons (.ret (.an (.isi (.var 0) ["int"]) (.an (.nt (.isi (.var 0) ["bool"])) (.one (.cmp .eq (.var 0) (.var 1))))))
  .nil))))))
def m__law_is : Nat → Fn
  | 0 => fun _ => .bad
  | d + 1 => runF 3 2 (ss__law_is (m__law_is d))
def N__law_table : List Str := ["pen", "most", "entry", "many", "k", "i"]
def ss__law_table : Ss := (.cons (.set 3 (.bin .add (.int 1) (.call "_law_draw" 2 m__law_draw (.cons (.var 0) (.cons (.var 1) .nil)))))
  (.cons (.ret (.blt .tuple (.cons (.comp (.blt .tuple (.cons (.comp (.ife (.cmp .gt (.call "_law_draw" 2 m__law_draw (.cons (.var 0) (.cons (.int 3) .nil))) (.int 0)) (.call "_law_draw" 2 m__law_draw (.cons (.var 0) (.cons (.bin .add (.var 2) (.int 1)) .nil))) (.int 0)) (.v 4) (.rng (.var 3)) .yes [("k", 4)]) .nil)) (.v 5) (.rng (.var 3)) .yes [("i", 5)]) .nil)))
  .nil))
def m__law_table : Fn := runF 6 3 ss__law_table
def N__law_one_table : List Str := ["pen", "most", "entry", "many", "order", "rows", "k", "i", "at", "row"]
def ss__law_one_table : Ss := (.cons (.set 3 (.bin .add (.int 1) (.call "_law_draw" 2 m__law_draw (.cons (.var 0) (.cons (.var 1) .nil)))))
  (.cons (.set 4 (.call "_law_shuffled" 2 m__law_shuffled (.cons (.var 0) (.cons (.listR (.var 3)) .nil))))
  (.cons (.set 5 (.comp (.comp (.ife (.cmp .eq (.call "_law_draw" 2 m__law_draw (.cons (.var 0) (.cons (.int 3) .nil))) (.int 0)) (.call "_law_draw" 2 m__law_draw (.cons (.var 0) (.cons (.bin .add (.var 2) (.int 1)) .nil))) (.int 0)) (.v 6) (.rng (.var 3)) .yes [("k", 6)]) (.v 7) (.rng (.var 3)) .yes [("i", 7)]))
  (.cons (.fr (.v 8) (.rng (.var 3)) (.cons (.par2 7 6 (.cons (.sub (.var 4) (.var 8)) (.cons (.sub (.var 4) (.bin .mod (.blt .int (.cons (.bin .add (.var 8) (.int 1)) .nil)) (.var 3))) .nil)))
  (.cons (.put2 5 (.var 7) (.var 6) (.blt .max (.cons (.sub (.sub (.var 5) (.var 7)) (.var 6)) (.cons (.int 1) .nil))))
  .nil)))
  (.frz 5 (.cons (.ret (.blt .tuple (.cons (.comp (.blt .tuple (.cons (.var 9) .nil)) (.v 9) (.seq (.var 5)) .yes [("row", 9)]) .nil)))
  .nil))))))
def m__law_one_table : Fn := runF 10 3 ss__law_one_table
def N__law_bad_table : List Str := ["pen"]
def ss__law_bad_table : Ss := (.cons (.ret (.call "_law_pick" 2 m__law_pick (.cons (.var 0) (.cons (.lst (.cons .non (.cons (.int 3) (.cons (.tup .nil) (.cons (.str "t") (.cons (.bl true) (.cons (.tup (.cons (.tup (.cons (.int 1) (.cons (.int 2) .nil))) .nil)) (.cons (.tup (.cons (.tup (.cons (.int 1) (.cons (.int 0) .nil))) (.cons (.tup (.cons (.int 0) .nil)) .nil))) (.cons (.tup (.cons (.tup (.cons (.neg (.int 1)) .nil)) .nil)) (.cons (.tup (.cons (.tup (.cons (.bl true) .nil)) .nil)) (.cons (.tup (.cons (.tup (.cons .non .nil)) .nil)) (.cons (.tup (.cons (.tup (.cons (.bin .add (.bin .pow (.int 10) (.int 60)) (.int 1)) .nil)) .nil)) (.cons (.bin .mul (.tup (.cons (.bin .mul (.tup (.cons (.int 0) .nil)) (.int 13)) .nil)) (.int 13)) (.cons (.dnew false) (.cons (.tup (.cons (.tup (.cons (.str "1") .nil)) .nil)) .nil))))))))))))))) .nil))))
  .nil)
def m__law_bad_table : Fn := runF 1 1 ss__law_bad_table
def N__law_from : List Str := ["table", "place", "found", "left", "k", "one"]
def ss__law_from : Ss := (.cons (.par2 2 3 (.cons (.dnew false) (.cons (.comp (.var 4) (.v 4) (.rng (.blt .len (.cons (.var 0) .nil))) (.cmp .gt (.sub (.sub (.var 0) (.var 1)) (.var 4)) (.int 0)) [("k", 4)]) .nil)))
  (.cons (.whl 100 (.cmp .ne (.var 3) (.lst .nil)) (.cons (.spop 5 3)
  (.cons (.ite (.cmp .notin (.var 5) (.var 2)) (.cons (.dput 2 (.var 5) (.bl true))
  (.cons (.ext 3 (.comp (.var 4) (.v 4) (.rng (.blt .len (.cons (.var 0) .nil))) (.cmp .gt (.sub (.sub (.var 0) (.var 5)) (.var 4)) (.int 0)) [("k", 4)]))
  .nil)) .nil)
  .nil)))
  (.cons (.ret (.prim sortPrim (.cons (.var 2) .nil)))
  .nil)))
def m__law_from : Fn := runF 6 2 ss__law_from
def N__law_is_one : List Str := ["table", "many", "place"]
def ss__law_is_one : Ss := (.cons (.set 1 (.listR (.blt .len (.cons (.var 0) .nil))))
  (.cons (.ret (.cmp .eq (.comp (.var 2) (.v 2) (.seq (.var 1)) (.cmp .ne (.call "_law_from" 2 m__law_from (.cons (.var 0) (.cons (.var 2) .nil))) (.var 1)) [("place", 2)]) (.lst .nil)))
  .nil))
def m__law_is_one : Fn := runF 3 1 ss__law_is_one
def N__law_rooms : List Str := ["table", "many", "found", "place", "ahead", "room", "one"]
def ss__law_rooms : Ss := (.cons (.par2 1 2 (.cons (.blt .len (.cons (.var 0) .nil)) (.cons (.lst .nil) .nil)))
  (.cons (.fr (.v 3) (.rng (.var 1)) (.cons (.set 4 (.call "_law_from" 2 m__law_from (.cons (.var 0) (.cons (.var 3) .nil))))
  (.cons (.set 5 (.blt .tuple (.cons (.comp (.var 6) (.v 6) (.seq (.var 4)) (.cmp .in_ (.var 3) (.call "_law_from" 2 m__law_from (.cons (.var 0) (.cons (.var 6) .nil)))) [("one", 6)]) .nil)))
  (.cons (.ite (.an (.cmp .ne (.var 5) (.tup .nil)) (.one (.cmp .eq (.var 3) (.sub (.var 5) (.int 0))))) (.cons (.app 2 (.var 5))
  .nil) .nil)
  .nil))))
  (.cons (.ret (.var 2))
  .nil)))
def m__law_rooms : Fn := runF 7 1 ss__law_rooms
def N__law_in_steps : List Str := ["pen", "table", "lap", "more", "rows", "k", "row", "order", "i"]
def ss__law_in_steps : Ss := (.cons (.set 1 (.call "_law_one_table" 3 m__law_one_table (.cons (.var 0) (.cons (.int 3) (.cons (.int 2) .nil)))))
  (.cons (.fr (.v 2) (.rng (.call "_law_draw" 2 m__law_draw (.cons (.var 0) (.cons (.int 3) .nil)))) (.cons (.set 3 (.ife (.cmp .eq (.call "_law_draw" 2 m__law_draw (.cons (.var 0) (.cons (.int 2) .nil))) (.int 0)) (.call "_law_one_table" 3 m__law_one_table (.cons (.var 0) (.cons (.int 2) (.cons (.int 2) .nil)))) (.tup (.cons (.tup (.cons (.int 0) .nil)) .nil))))
  (.cons (.set 4 (.comp (.bin .add (.var 6) (.blt .tuple (.cons (.comp (.call "_law_draw" 2 m__law_draw (.cons (.var 0) (.cons (.int 2) .nil))) (.v 5) (.rng (.blt .len (.cons (.var 3) .nil))) .yes [("k", 5)]) .nil))) (.v 6) (.seq (.var 1)) .yes [("row", 6)]))
  (.cons (.set 1 (.blt .tuple (.cons (.bin .add (.var 4) (.comp (.bin .add (.bin .mul (.tup (.cons (.int 0) .nil)) (.blt .len (.cons (.var 1) .nil))) (.var 6)) (.v 6) (.seq (.var 3)) .yes [("row", 6)])) .nil)))
  .nil))))
  (.cons (.set 7 (.call "_law_shuffled" 2 m__law_shuffled (.cons (.var 0) (.cons (.listR (.blt .len (.cons (.var 1) .nil))) .nil))))
  (.cons (.ret (.blt .tuple (.cons (.comp (.blt .tuple (.cons (.comp (.sub (.sub (.var 1) (.var 8)) (.var 5)) (.v 5) (.seq (.var 7)) .yes [("k", 5)]) .nil)) (.v 8) (.seq (.var 7)) .yes [("i", 8)]) .nil)))
  .nil))))
def m__law_in_steps : Fn := runF 9 1 ss__law_in_steps
def cvT : List (Str × Nat × Fn) := [("rooms", 1, m_rooms), ("room_ways", 1, m_room_ways)]
def N__law_one : List Str := ["call", "one"]
def ss__law_one : Ss := (.cons (.retF kF (.prim (callPrim 0 cvT) (.cons (.var 1) .nil)))
  .nil)
def m__law_one : Fn := runF 2 2 ss__law_one
def N__law_two : List Str := ["one", "lot"]
def ss__law_two : Ss := (.cons (.retF kF (.call "cut_to" 2 m_cut_to (.cons (.var 0) (.cons (.var 1) .nil))))
  .nil)
def m__law_two : Fn := runF 2 2 ss__law_two
def N__law_refused : List Str := ["pen", "table", "bad", "out", "told"]
def ss__law_refused : Ss := (.cons (.par2 2 3 (.cons (.call "_law_bad_table" 1 m__law_bad_table (.cons (.var 0) .nil)) (.cons (.call "_law_pick" 2 m__law_pick (.cons (.var 0) (.cons (.lst (.cons .non (.cons (.tup .nil) (.cons (.tup (.cons (.blt .len (.cons (.var 1) .nil)) .nil)) (.cons (.tup (.cons (.neg (.int 1)) .nil)) (.cons (.tup (.cons (.int 0) (.cons (.int 0) .nil))) (.cons (.tup (.cons (.bl true) .nil)) (.cons (.str "0") (.cons (.dnew false) (.cons (.ife (.cmp .gt (.blt .len (.cons (.var 1) .nil)) (.int 1)) (.tup (.cons (.int 1) (.cons (.int 0) .nil))) (.tup (.cons (.int 0) (.cons (.int 0) .nil)))) .nil)))))))))) .nil))) .nil)))
  (.cons (.set 4 (.lst (.cons (.call "_law_one" 2 m__law_one (.cons (.gl "rooms") (.cons (.var 2) .nil))) (.cons (.call "_law_one" 2 m__law_one (.cons (.gl "room_ways") (.cons (.var 2) .nil))) (.cons (.call "_law_two" 2 m__law_two (.cons (.var 2) (.cons (.var 3) .nil))) (.cons (.call "_law_two" 2 m__law_two (.cons (.var 1) (.cons (.var 3) .nil))) .nil))))))
  (.cons (.ret (.cmp .eq (.var 4) (.bin .add (.bin .mul (.lst (.cons (.tup (.cons (.str "table") (.cons (.str "table") .nil))) .nil)) (.int 3)) (.lst (.cons (.tup (.cons (.str "row") (.cons (.str "lot") (.cons (.prim reprPrim (.cons (.var 3) .nil)) .nil)))) .nil)))))
  .nil)))
def m__law_refused : Fn := runF 5 2 ss__law_refused
def N__law_right : List Str := ["pen", "table", "handed", "due", "row", "pairs", "i", "k", "one", "lot", "place", "room"]
def ss__law_right : Ss := (.cons (.set 1 (.ife (.cmp .eq (.call "_law_draw" 2 m__law_draw (.cons (.var 0) (.cons (.int 2) .nil))) (.int 0)) (.call "_law_table" 3 m__law_table (.cons (.var 0) (.cons (.int 7) (.cons (.int 2) .nil)))) (.call "_law_in_steps" 1 m__law_in_steps (.cons (.var 0) .nil))))
  (.cons (.parN [2, 3] (.cons (.ife (.cmp .eq (.call "_law_draw" 2 m__law_draw (.cons (.var 0) (.cons (.int 2) .nil))) (.int 0)) (.comp (.blt .list (.cons (.var 4) .nil)) (.v 4) (.seq (.var 1)) .yes [("row", 4)]) (.var 1)) (.cons (.call "_law_rooms" 1 m__law_rooms (.cons (.var 1) .nil)) .nil)))
  (.frz 2 (.cons (.ite (.nt (.tru (.call "_law_is" 2 (m__law_is 4) (.cons (.call "rooms" 1 m_rooms (.cons (.var 2) .nil)) (.cons (.blt .tuple (.cons (.var 3) .nil)) .nil))))) (.cons (.ret (.bl false))
  .nil) .nil)
  (.cons (.set 5 (.lst .nil))
  (.cons (.fr (.v 6) (.rng (.blt .len (.cons (.var 3) .nil))) (.cons (.ext 5 (.comp (.tup (.cons (.var 6) (.cons (.var 7) .nil))) (.v 7) (.rng (.blt .len (.cons (.var 3) .nil))) (.an (.cmp .ne (.var 6) (.var 7)) (.one (.cmp .in_ (.sub (.sub (.var 3) (.var 7)) (.int 0)) (.call "_law_from" 2 m__law_from (.cons (.var 1) (.cons (.sub (.sub (.var 3) (.var 6)) (.int 0)) .nil)))))) [("k", 7)]))
  .nil))
  (.frz 2 (.cons (.ite (.orr (.nt (.tru (.call "_law_is" 2 (m__law_is 4) (.cons (.call "room_ways" 1 m_room_ways (.cons (.var 2) .nil)) (.cons (.blt .tuple (.cons (.var 5) .nil)) .nil))))) (.one (.cmp .ne (.comp (.var 8) (.v 8) (.seq (.var 5)) (.cmp .in_ (.tup (.cons (.sub (.var 8) (.int 1)) (.cons (.sub (.var 8) (.int 0)) .nil))) (.var 5)) [("one", 8)]) (.lst .nil)))) (.cons (.ret (.bl false))
  .nil) .nil)
  (.cons (.set 9 (.blt .tuple (.cons (.comp (.var 10) (.v 10) (.rng (.blt .len (.cons (.var 1) .nil))) (.cmp .eq (.call "_law_draw" 2 m__law_draw (.cons (.var 0) (.cons (.int 2) .nil))) (.int 0)) [("place", 10)]) .nil)))
  (.frz 2 (.cons (.ite (.an (.cmp .ne (.var 9) (.tup .nil)) (.one (.nt (.tru (.call "_law_is" 2 (m__law_is 4) (.cons (.call "cut_to" 2 m_cut_to (.cons (.var 2) (.cons (.blt .list (.cons (.var 9) .nil)) .nil))) (.cons (.blt .tuple (.cons (.comp (.blt .tuple (.cons (.comp (.sub (.sub (.var 1) (.var 6)) (.var 7)) (.v 7) (.seq (.var 9)) .yes [("k", 7)]) .nil)) (.v 6) (.seq (.var 9)) .yes [("i", 6)]) .nil)) .nil))))))) (.cons (.ret (.bl false))
  .nil) .nil)
  (.frz 3 (.cons (.fr (.v 11) (.seq (.var 3)) (.frz 11 (.cons (.ite (.nt (.tru (.call "_law_is_one" 1 m__law_is_one (.cons (.call "cut_to" 2 m_cut_to (.cons (.var 1) (.cons (.var 11) .nil))) .nil)))) (.cons (.ret (.bl false))
  .nil) .nil)
  .nil)))
  (.cons (.ret (.call "_law_refused" 2 m__law_refused (.cons (.var 0) (.cons (.var 1) .nil))))
  .nil))))))))))))))
def m__law_right : Fn := runF 12 1 ss__law_right
def N_law : List Str := ["script", "pen", "lap"]
def ss_law : Ss := (.cons (.fr (.v 2) (.rng (.int 3)) (.cons (.ite (.nt (.tru (.call "_law_right" 1 m__law_right (.cons (.var 1) .nil)))) (.cons (.ret (.bl false))
  .nil) .nil)
  .nil))
  (.cons (.ret (.an (.cmp .eq (.call "rooms" 1 m_rooms (.cons (.tup (.cons (.tup (.cons (.int 0) .nil)) .nil)) .nil)) (.tup .nil)) (.one (.cmp .eq (.call "rooms" 1 m_rooms (.cons (.tup (.cons (.tup (.cons (.int 3) .nil)) .nil)) .nil)) (.tup (.cons (.tup (.cons (.int 0) .nil)) .nil))))))
  .nil))
theorem sc_as_tuples : FnScope N_as_tuples ["value"] (defScope (top 21)) := C8.fnScope_by (by decide +kernel)
theorem ck_as_tuples (self : Fn) : chkB N_as_tuples (defScope (top 21)) (ss_as_tuples self) (defBody (top 21)) = true := by rfl
theorem sc_is_list : FnScope N_is_list ["value"] (defScope (top 22)) := C8.fnScope_by (by decide +kernel)
theorem ck_is_list : chkB N_is_list (defScope (top 22)) ss_is_list (defBody (top 22)) = true := by decide +kernel
theorem sc_is_integer : FnScope N_is_integer ["value"] (defScope (top 23)) := C8.fnScope_by (by decide +kernel)
theorem ck_is_integer : chkB N_is_integer (defScope (top 23)) ss_is_integer (defBody (top 23)) = true := by decide +kernel
theorem sc_is_index : FnScope N_is_index ["value", "many"] (defScope (top 24)) := C8.fnScope_by (by decide +kernel)
theorem ck_is_index : chkB N_is_index (defScope (top 24)) ss_is_index (defBody (top 24)) = true := by decide +kernel
theorem sc_is_between : FnScope N_is_between ["value", "low", "high"] (defScope (top 25)) := C8.fnScope_by (by decide +kernel)
theorem ck_is_between : chkB N_is_between (defScope (top 25)) ss_is_between (defBody (top 25)) = true := by decide +kernel
theorem sc_is_indexes : FnScope N_is_indexes ["value", "many"] (defScope (top 26)) := C8.fnScope_by (by decide +kernel)
theorem ck_is_indexes : chkB N_is_indexes (defScope (top 26)) ss_is_indexes (defBody (top 26)) = true := by decide +kernel
theorem sc_is_lot : FnScope N_is_lot ["value", "many"] (defScope (top 27)) := C8.fnScope_by (by decide +kernel)
theorem ck_is_lot : chkB N_is_lot (defScope (top 27)) ss_is_lot (defBody (top 27)) = true := by decide +kernel
theorem sc_is_row_of : FnScope N_is_row_of ["value", "many"] (defScope (top 28)) := C8.fnScope_by (by decide +kernel)
theorem ck_is_row_of : chkB N_is_row_of (defScope (top 28)) ss_is_row_of (defBody (top 28)) = true := by decide +kernel
theorem sc_is_table : FnScope N_is_table ["value"] (defScope (top 29)) := C8.fnScope_by (by decide +kernel)
theorem ck_is_table : chkB N_is_table (defScope (top 29)) ss_is_table (defBody (top 29)) = true := by decide +kernel
theorem sc_need_table : FnScope N_need_table ["table", "what"] (defScope (top 30)) := C8.fnScope_by (by decide +kernel)
theorem ck_need_table : chkB N_need_table (defScope (top 30)) ss_need_table (defBody (top 30)) = true := by decide +kernel
theorem sc_goals_of : FnScope N_goals_of ["table", "place"] (defScope (top 32)) := C8.fnScope_by (by decide +kernel)
theorem ck_goals_of : chkB N_goals_of (defScope (top 32)) ss_goals_of (defBody (top 32)) = true := by decide +kernel
theorem sc_walks_from : FnScope N_walks_from ["table", "start"] (defScope (top 33)) := C8.fnScope_by (by decide +kernel)
theorem ck_walks_from : chkB N_walks_from (defScope (top 33)) ss_walks_from (defBody (top 33)) = true := by decide +kernel
theorem sc_rooms_by : FnScope N_rooms_by ["table"] (defScope (top 34)) := C8.fnScope_by (by decide +kernel)
theorem ck_rooms_by : chkB N_rooms_by (defScope (top 34)) ss_rooms_by (defBody (top 34)) = true := by decide +kernel
theorem sc_rooms : FnScope N_rooms ["table"] (defScope (top 35)) := C8.fnScope_by (by decide +kernel)
theorem ck_rooms : chkB N_rooms (defScope (top 35)) ss_rooms (defBody (top 35)) = true := by decide +kernel
theorem sc_room_ways : FnScope N_room_ways ["table"] (defScope (top 36)) := C8.fnScope_by (by decide +kernel)
theorem ck_room_ways : chkB N_room_ways (defScope (top 36)) ss_room_ways (defBody (top 36)) = true := by decide +kernel
theorem sc_cut_by : FnScope N_cut_by ["table", "lot"] (defScope (top 37)) := C8.fnScope_by (by decide +kernel)
theorem ck_cut_by : chkB N_cut_by (defScope (top 37)) ss_cut_by (defBody (top 37)) = true := by decide +kernel
theorem sc_cut_to : FnScope N_cut_to ["table", "lot"] (defScope (top 38)) := C8.fnScope_by (by decide +kernel)
theorem ck_cut_to : chkB N_cut_to (defScope (top 38)) ss_cut_to (defBody (top 38)) = true := by decide +kernel
theorem sc__law_pick : FnScope N__law_pick ["pen", "some"] (defScope (top 42)) := C8.fnScope_by (by decide +kernel)
theorem ck__law_pick : chkB N__law_pick (defScope (top 42)) ss__law_pick (defBody (top 42)) = true := by decide +kernel
theorem sc__law_shuffled : FnScope N__law_shuffled ["pen", "some"] (defScope (top 43)) := C8.fnScope_by (by decide +kernel)
theorem ck__law_shuffled : chkB N__law_shuffled (defScope (top 43)) ss__law_shuffled (defBody (top 43)) = true := by decide +kernel
theorem sc__law_is : FnScope N__law_is ["told", "due"] (defScope (top 44)) := C8.fnScope_by (by decide +kernel)
theorem ck__law_is (self : Fn) : chkB N__law_is (defScope (top 44)) (ss__law_is self) (defBody (top 44)) = true := by rfl
theorem sc__law_table : FnScope N__law_table ["pen", "most", "entry"] (defScope (top 48)) := C8.fnScope_by (by decide +kernel)
theorem ck__law_table : chkB N__law_table (defScope (top 48)) ss__law_table (defBody (top 48)) = true := by decide +kernel
theorem sc__law_one_table : FnScope N__law_one_table ["pen", "most", "entry"] (defScope (top 49)) := C8.fnScope_by (by decide +kernel)
theorem ck__law_one_table : chkB N__law_one_table (defScope (top 49)) ss__law_one_table (defBody (top 49)) = true := by decide +kernel
theorem sc__law_bad_table : FnScope N__law_bad_table ["pen"] (defScope (top 50)) := C8.fnScope_by (by decide +kernel)
theorem ck__law_bad_table : chkB N__law_bad_table (defScope (top 50)) ss__law_bad_table (defBody (top 50)) = true := by decide +kernel
theorem sc__law_from : FnScope N__law_from ["table", "place"] (defScope (top 51)) := C8.fnScope_by (by decide +kernel)
theorem ck__law_from : chkB N__law_from (defScope (top 51)) ss__law_from (defBody (top 51)) = true := by decide +kernel
theorem sc__law_is_one : FnScope N__law_is_one ["table"] (defScope (top 52)) := C8.fnScope_by (by decide +kernel)
theorem ck__law_is_one : chkB N__law_is_one (defScope (top 52)) ss__law_is_one (defBody (top 52)) = true := by decide +kernel
theorem sc__law_rooms : FnScope N__law_rooms ["table"] (defScope (top 53)) := C8.fnScope_by (by decide +kernel)
theorem ck__law_rooms : chkB N__law_rooms (defScope (top 53)) ss__law_rooms (defBody (top 53)) = true := by decide +kernel
theorem sc__law_in_steps : FnScope N__law_in_steps ["pen"] (defScope (top 54)) := C8.fnScope_by (by decide +kernel)
theorem ck__law_in_steps : chkB N__law_in_steps (defScope (top 54)) ss__law_in_steps (defBody (top 54)) = true := by decide +kernel
theorem sc__law_one : FnScope N__law_one ["call", "one"] (defScope (top 57)) := C8.fnScope_by (by decide +kernel)
theorem ck__law_one : chkB N__law_one (defScope (top 57)) ss__law_one (defBody (top 57)) = true := by decide +kernel
theorem sc__law_two : FnScope N__law_two ["one", "lot"] (defScope (top 58)) := C8.fnScope_by (by decide +kernel)
theorem ck__law_two : chkB N__law_two (defScope (top 58)) ss__law_two (defBody (top 58)) = true := by decide +kernel
theorem sc__law_refused : FnScope N__law_refused ["pen", "table"] (defScope (top 56)) := C8.fnScope_by (by decide +kernel)
theorem ck__law_refused : chkB N__law_refused (defScope (top 56)) ss__law_refused (defBody (top 56)) = true := by decide +kernel
theorem sc__law_right : FnScope N__law_right ["pen"] (defScope (top 55)) := C8.fnScope_by (by decide +kernel)
theorem ck__law_right : chkB N__law_right (defScope (top 55)) ss__law_right (defBody (top 55)) = true := by decide +kernel
theorem sc_law : FnScope N_law ["script"] (defScope (top 59)) := C8.fnScope_by (by decide +kernel)
theorem ck_law : chkB N_law (defScope (top 59)) ss_law ((defBody (top 59)).drop 1) = true := by decide +kernel
end K06

set_option linter.all false
namespace K06
open Classical
/-! ### ways in a table -/
inductive Rc (E : Nat → Nat → Prop) : Nat → Nat → Prop
  | one {i k : Nat} : E i k → Rc E i k
  | cons {i j k : Nat} : E i j → Rc E j k → Rc E i k
section
variable {E : Nat → Nat → Prop} {n : Nat}
theorem Rc.trans {i j k : Nat} (a : Rc E i j) (b : Rc E j k) : Rc E i k := by
  induction a with
  | one h => exact .cons h b
  | cons h _ ih => exact .cons h (ih b)
theorem Rc.snoc {i j k : Nat} (a : Rc E i j) (h : E j k) : Rc E i k := a.trans (.one h)
theorem Rc.closed {S : Nat → Prop} (hs : ∀ j k, S j → E j k → S k) {i k : Nat} (r : Rc E i k) : (∀ k, E i k → S k) → S k := by
  induction r with
  | one h => exact fun h0 => h0 _ h
  | cons h _ ih => exact fun h0 => ih fun k hk => hs _ k (h0 _ h) hk
theorem Rc.lt (hE : ∀ i k, E i k → i < n ∧ k < n) {i k : Nat} (r : Rc E i k) : i < n ∧ k < n := by
  induction r with
  | one h => exact hE _ _ h
  | cons h _ ih => exact ⟨(hE _ _ h).1, ih.2⟩
/-- the places that p leads to -/
noncomputable def rl (E : Nat → Nat → Prop) (n p : Nat) : List Nat := (List.range n).filter fun k => decide (Rc E p k)
/-- p's room -/
noncomputable def SC (E : Nat → Nat → Prop) (n p : Nat) : List Nat := (List.range n).filter fun k => decide (Rc E p k ∧ Rc E k p)
theorem mem_rl {p k : Nat} : k ∈ rl E n p ↔ k < n ∧ Rc E p k := by simp [rl]
theorem mem_SC {p k : Nat} : k ∈ SC E n p ↔ k < n ∧ Rc E p k ∧ Rc E k p := by simp [SC]
def Hd (E : Nat → Nat → Prop) (p : Nat) : Prop := Rc E p p ∧ ∀ q, q < p → ¬ (Rc E p q ∧ Rc E q p)
theorem range_head {P : Nat → Bool} {p : Nat} : ((List.range n).filter P).head? = some p ↔ p < n ∧ P p = true ∧ ∀ q, q < p → P q = false := by
  induction n with
  | zero => simp
  | succ n ih =>
    rw [List.range_succ, List.filter_append, List.head?_append]
    cases h : ((List.range n).filter P).head? with
    | some r =>
      obtain ⟨a, b, c⟩ : r < n ∧ P r = true ∧ ∀ q, q < r → P q = false := by
        clear ih
        induction n generalizing r with
        | zero => simp at h
        | succ m ih =>
          rw [List.range_succ, List.filter_append, List.head?_append] at h
          cases h2 : ((List.range m).filter P).head? with
          | some r2 =>
            rw [h2] at h
            cases h
            obtain ⟨a, b, c⟩ := ih _ h2
            exact ⟨by omega, b, c⟩
          | none =>
            rw [h2] at h
            have h2' := List.head?_eq_none_iff.mp h2
            have hm : (List.filter P [m]).head? = some r := h
            by_cases hp : P m = true
            · rw [List.filter_cons_of_pos hp] at hm
              cases hm
              refine ⟨by omega, hp, fun q hq => ?_⟩
              cases hpq : P q with
              | false => rfl
              | true =>
                have : q ∈ (List.range m).filter P := by simp [hq, hpq]
                rw [h2'] at this
                cases this
            · rw [List.filter_cons_of_neg hp] at hm
              cases hm
      simp only [Option.some_or, Option.some.injEq]
      constructor
      · rintro rfl
        exact ⟨by omega, b, c⟩
      · rintro ⟨a2, b2, c2⟩
        rcases Nat.lt_trichotomy r p with z | z | z
        · have := c2 r z
          rw [b] at this
          cases this
        · exact z
        · have := c p z
          rw [b2] at this
          cases this
    | none =>
      have h' := List.head?_eq_none_iff.mp h
      have hf : ∀ q, q < n → P q = false := fun q hq => by
        cases hpq : P q with
        | false => rfl
        | true =>
          have : q ∈ (List.range n).filter P := by simp [hq, hpq]
          rw [h'] at this
          cases this
      simp only [Option.none_or]
      by_cases hp : P n = true
      · rw [List.filter_cons_of_pos hp]
        simp only [List.head?_cons, Option.some.injEq]
        constructor
        · rintro rfl
          exact ⟨by omega, hp, hf⟩
        · rintro ⟨a2, b2, c2⟩
          rcases Nat.lt_trichotomy n p with z | z | z
          · omega
          · exact z
          · have := hf p z
            rw [b2] at this
            cases this
      · rw [List.filter_cons_of_neg hp]
        simp only [List.filter_nil, List.head?_nil, reduceCtorEq, false_iff]
        rintro ⟨a2, b2, c2⟩
        rcases Nat.lt_or_ge p n with z | z
        · have := hf p z
          rw [b2] at this
          cases this
        · have : p = n := by omega
          subst this
          exact hp b2
theorem SC_head {p : Nat} : (SC E n p).head? = some p ↔ p < n ∧ Hd E p := by
  unfold SC
  rw [range_head]
  simp [Hd]
/-- not in an earlier room: first in one's own -/
theorem Hd_iff {p : Nat} (hp : p < n) : Hd E p ↔ Rc E p p ∧ ∀ q, q < p → Hd E q → p ∉ SC E n q := by
  constructor
  · rintro ⟨a, b⟩
    refine ⟨a, fun q hq _ hm => ?_⟩
    obtain ⟨_, m1, m2⟩ := mem_SC.mp hm
    exact b q hq ⟨m2, m1⟩
  · rintro ⟨a, b⟩
    refine ⟨a, ?_⟩
    have key : ∀ q, q < p → ¬ (Rc E p q ∧ Rc E q p) := by
      intro q
      induction q using Nat.strongRecOn with
      | ind q ih =>
        rintro hq ⟨r1, r2⟩
        refine b q hq ⟨r2.trans r1, fun q' hq' ⟨s1, s2⟩ => ?_⟩ (mem_SC.mpr ⟨hp, r2, r1⟩)
        exact ih q' hq' (by omega) ⟨r1.trans s1, s2.trans r2⟩
    exact key
/-- all rooms, by their first places -/
noncomputable def hds (E : Nat → Nat → Prop) (n : Nat) : List Nat := (List.range n).filter fun p => decide (Hd E p)
theorem mem_hds {p : Nat} : p ∈ hds E n ↔ p < n ∧ Hd E p := by simp [hds]
theorem hds_nodup : (hds E n).Nodup := List.nodup_range.filter _
theorem Hd.eq {p q : Nat} (a : Hd E p) (b : Hd E q) (h1 : Rc E p q) (h2 : Rc E q p) : p = q := by
  rcases Nat.lt_trichotomy p q with z | z | z
  · exact absurd ⟨h2, h1⟩ (b.2 p z)
  · exact z
  · exact absurd ⟨h1, h2⟩ (a.2 q z)
theorem SC_ne {p : Nat} (hp : p < n) (h : Hd E p) : SC E n p ≠ [] := fun z => by
  have : p ∈ SC E n p := mem_SC.mpr ⟨hp, h.1, h.1⟩
  rw [z] at this
  cases this
/-- within a room all leads to all -/
theorem room_one {p : Nat} (hE : ∀ i k, E i k → i < n ∧ k < n) {E' : Nat → Nat → Prop} (hE' : ∀ a b x y, (SC E n p)[a]? = some x → (SC E n p)[b]? = some y → E x y → E' a b) {x y : Nat} (r : Rc E x y) : ∀ {a b : Nat}, (SC E n p)[a]? = some x → (SC E n p)[b]? = some y → Rc E' a b := by
  induction r with
  | one h => exact fun ha hb => .one (hE' _ _ _ _ ha hb h)
  | @cons i j k h r ih =>
    intro a b ha hb
    obtain ⟨_, m1, m2⟩ := mem_SC.mp (List.mem_of_getElem? ha)
    obtain ⟨_, m3, m4⟩ := mem_SC.mp (List.mem_of_getElem? hb)
    have hj : j ∈ SC E n p := mem_SC.mpr ⟨(hE _ _ h).2, m1.snoc h, r.trans m4⟩
    obtain ⟨c, hc, e⟩ := List.mem_iff_getElem.mp hj
    have hc' : (SC E n p)[c]? = some j := by rw [List.getElem?_eq_getElem hc, e]
    exact .cons (hE' _ _ _ _ ha hc' h) (ih hc' hb)
end
end K06

set_option Elab.async false
set_option linter.all false
set_option maxRecDepth 100000
set_option maxHeartbeats 4000000
namespace FS
open PySem PySem.Spec PyProof.Rows L2

/-! ### plain rules of loops -/
theorem comp_eq {tg : Tg} {ρ : FS.Loc} {f : FS.Loc → Tr (Option PV)} {g : PV → Option PV} : ∀ (xs acc : List PV), (∀ x ∈ xs, ∃ ρ', bindTg tg x ρ = some ρ' ∧ f ρ' = .ok (g x)) → compL tg ρ f xs acc = .ok (acc ++ xs.filterMap g)
  | [], acc, _ => by simp [compL]
  | x :: xs, acc, h => by
    obtain ⟨ρ', h1, h2⟩ := h x List.mem_cons_self
    have ih := fun acc' => comp_eq (tg := tg) (ρ := ρ) (f := f) (g := g) xs acc' fun y hy => h y (List.mem_cons_of_mem _ hy)
    simp only [compL, h1, h2]
    cases hg : g x with
    | none =>
      show compL tg ρ f xs acc = _
      rw [ih, List.filterMap_cons, hg]
    | some y =>
      show compL tg ρ f xs (acc ++ [y]) = _
      rw [ih, List.filterMap_cons, hg, List.append_assoc]
      rfl
inductive Fa2 {α β : Type} (R : α → β → Prop) : List α → List β → Prop
  | nil : Fa2 R [] []
  | cons {a : α} {b : β} {as : List α} {bs : List β} : R a b → Fa2 R as bs → Fa2 R (a :: as) (b :: bs)
theorem nx_W2 {α : Type} {P : Out α → Prop} : ∀ {m : Tr α}, m.W (fun o => ∃ y, o = .ok y ∧ P (.ok y)) → (m.nx).W P
  | .ret (.ok a), ⟨y, e, h⟩ => by
    cases e
    exact h
  | .ret (.exn c ns xs), ⟨y, e, h⟩ => by cases e
  | .ret .bad, ⟨y, e, h⟩ => by cases e
  | .draw n k, ⟨a, g⟩ => ⟨a, fun i p q => nx_W2 (g i p q)⟩
theorem comp_W {tg : Tg} {ρ : FS.Loc} {f : FS.Loc → Tr (Option PV)} {R : PV → Option PV → Prop} {P : Out (List PV) → Prop} : ∀ (xs acc : List PV), (∀ x ∈ xs, ∃ ρ', bindTg tg x ρ = some ρ' ∧ (f ρ').W (fun o => ∃ y, o = .ok y ∧ R x y)) → (∀ ys, Fa2 R xs ys → P (.ok (acc ++ ys.filterMap id))) → (compL tg ρ f xs acc).W P
  | [], acc, _, h => by
    have := h [] .nil
    rw [List.filterMap_nil, List.append_nil] at this
    exact this
  | x :: xs, acc, h, q => by
    obtain ⟨ρ', h1, h2⟩ := h x List.mem_cons_self
    simp only [compL, h1]
    refine Tr.W_bind.mpr (nx_W2 (P := Out.K P _) (Tr.W_imp (fun o ⟨y, e, r⟩ => ⟨y, e, ?_⟩) h2))
    have hx := fun z hz => h z (List.mem_cons_of_mem x hz)
    cases y with
    | none => exact comp_W xs acc hx fun ys r2 => by simpa using q (none :: ys) (.cons r r2)
    | some y => exact comp_W xs (acc ++ [y]) hx fun ys r2 => by simpa using q (some y :: ys) (.cons r r2)
theorem forL_eq {t : Tg} {b : FS.Loc → Tr Fl} (I : Nat → FS.Loc → Prop) : ∀ (xs : List PV) (i : Nat) (ρ : FS.Loc), I i ρ → (∀ j x ρ, xs[j]? = some x → I (i + j) ρ → ∃ ρ1 ρ2, bindTg t x ρ = some ρ1 ∧ b ρ1 = .ok (.nx ρ2) ∧ I (i + j + 1) ρ2) → ∃ ρ', forL t b xs ρ = .ok (.nx ρ') ∧ I (i + xs.length) ρ'
  | [], i, ρ, h, _ => ⟨ρ, rfl, h⟩
  | x :: xs, i, ρ, h, st => by
    obtain ⟨ρ1, ρ2, h1, h2, h3⟩ := st 0 x ρ rfl h
    obtain ⟨ρ', e, h4⟩ := forL_eq I xs (i + 1) ρ2 h3 fun j y ρ hy hI => by
      have := st (j + 1) y ρ (by simpa using hy) (by rw [show i + (j + 1) = i + 1 + j by omega]; exact hI)
      rw [show i + (j + 1) + 1 = i + 1 + j + 1 by omega] at this
      exact this
    refine ⟨ρ', ?_, by rw [List.length_cons, show i + (xs.length + 1) = i + 1 + xs.length by omega]; exact h4⟩
    simp only [forL, h1, h2]
    exact e
theorem forL_W {t : Tg} {b : FS.Loc → Tr Fl} {P : Out Fl → Prop} (I : Nat → FS.Loc → Prop) : ∀ (xs : List PV) (i : Nat) (ρ : FS.Loc), I i ρ → (∀ j x ρ, xs[j]? = some x → I (i + j) ρ → ∃ ρ1, bindTg t x ρ = some ρ1 ∧ (b ρ1).W (fun o => ∃ ρ2, o = .ok (.nx ρ2) ∧ I (i + j + 1) ρ2)) → (∀ ρ, I (i + xs.length) ρ → P (.ok (.nx ρ))) → (forL t b xs ρ).W P
  | [], i, ρ, h, _, q => q ρ h
  | x :: xs, i, ρ, h, st, q => by
    obtain ⟨ρ1, h1, h2⟩ := st 0 x ρ rfl h
    simp only [forL, h1]
    refine Tr.W_bind.mpr (Tr.W_imp (fun o ⟨ρ2, e, h3⟩ => ?_) h2)
    subst e
    refine forL_W I xs (i + 1) ρ2 h3 (fun j y ρ hy hI => ?_) fun ρ hI => q ρ (by rw [List.length_cons, show i + (xs.length + 1) = i + 1 + xs.length by omega]; exact hI)
    have := st (j + 1) y ρ (by simpa using hy) (by rw [show i + (j + 1) = i + 1 + j by omega]; exact hI)
    rw [show i + (j + 1) + 1 = i + 1 + j + 1 by omega] at this
    exact this
/-- a while loop: I m ρ: m rounds at most are left -/
theorem whl_eq {c : FS.Loc → Tr Bool} {b : FS.Loc → Tr Fl} (I : Nat → FS.Loc → Prop) (Q : FS.Loc → Prop) (st : ∀ m ρ, I m ρ → (c ρ = .ok false ∧ Q ρ) ∨ (c ρ = .ok true ∧ ∃ ρ' m', b ρ = .ok (.nx ρ') ∧ m' < m ∧ I m' ρ')) : ∀ (n m : Nat) (ρ : FS.Loc), m < n → I m ρ → ∃ ρ', whlF c b n ρ = .ok (.nx ρ') ∧ Q ρ'
  | 0, m, ρ, h, _ => by omega
  | n + 1, m, ρ, h, hI => by
    rcases st m ρ hI with ⟨e, q⟩ | ⟨e, ρ', m', e2, hm, h2⟩
    · exact ⟨ρ, by simp only [whlF, e]; rfl, q⟩
    · obtain ⟨ρ2, e3, q⟩ := whl_eq I Q st n m' ρ' (by omega) h2
      refine ⟨ρ2, ?_, q⟩
      simp only [whlF, e]
      show (b ρ).bind _ = _
      rw [e2]
      exact e3
/-- tables of ints -/
def rowP (r : List Int) : PV := .tup (r.map .int)
def tabP (rows : List (List Int)) : PV := .tup (rows.map rowP)
def natsP (ks : List Nat) : List PV := ks.map fun k => .int (k : Nat)
theorem rangeL_nat (n : Nat) : rangeL 0 n = natsP (List.range n) := by
  simp [rangeL, natsP]
theorem rngOk_nat {n : Nat} (h : n < 2 ^ 61) : rngOk 0 (n : Int) = true := by
  unfold rngOk
  have h2 : (n : Int) < 2 ^ 62 := by
    have : ((n : Nat) : Int) < ((2 ^ 61 : Nat) : Int) := Int.ofNat_lt.mpr h
    have e : ((2 ^ 61 : Nat) : Int) = 2 ^ 61 := by norm_cast
    omega
  simp only [Bool.and_eq_true, decide_eq_true_eq]
  refine ⟨⟨by decide, by decide⟩, by omega, h2⟩
end FS

set_option Elab.async false
set_option linter.all false
set_option maxRecDepth 100000
set_option maxHeartbeats 4000000
namespace FS
open PySem PySem.Spec PyProof.Rows L2

/-! ### the reading, form by form -/
section
variable {ρ : FS.Loc}
theorem e_var {i : Nat} : evE (.var i) ρ = (match ρ[i]? with | some (some x) => .ok (true, x) | _ => .bad) := by simp only [evE] <;> rfl
theorem e_gl {x : Str} : evE (.gl x) ρ = vB (.gl x) := by simp only [evE]
theorem e_gi {x : Str} {i : Int} : evE (.gi x i) ρ = vB (.int i) := by simp only [evE]
theorem e_non : evE .non ρ = vB .non := by simp only [evE]
theorem e_bl {b : Bool} : evE (.bl b) ρ = vB (.bl b) := by simp only [evE]
theorem e_int {i : Int} : evE (.int i) ρ = vB (.int i) := by simp only [evE]
theorem e_str {s : Str} : evE (.str s) ρ = vB (.str s) := by simp only [evE]
theorem e_bin {op : BOp} {a b : Ex} : evE (.bin op a b) ρ = (evE a ρ).bind fun ra => (evE b ρ).bind fun rb => match shal ra, shal rb with | some x, some y => ofV (binS op x y) | _, _ => .bad := by simp only [evE] <;> rfl
theorem e_neg {a : Ex} : evE (.neg a) ρ = (evE a ρ).bind fun ra => match ra.2 with | .int i => vB (.int (-i)) | _ => .bad := by simp only [evE] <;> rfl
theorem e_cmp {op : COp} {a b : Ex} : evE (.cmp op a b) ρ = (evE a ρ).bind fun ra => (evE b ρ).bind fun rb => ofB (cmpS op ra.2.fz rb.2.fz) := by simp only [evE]
theorem e_chn {o o' : COp} {a b c : Ex} : evE (.chn o o' a b c) ρ = (evE a ρ).bind fun ra => (evE b ρ).bind fun rb => match cmpS o ra.2.fz rb.2.fz with | some true => (evE c ρ).bind fun rc => ofB (cmpS o' rb.2.fz rc.2.fz) | some false => vB (.bl false) | none => .bad := by simp only [evE] <;> rfl
theorem e_isN {ng : Bool} {a : Ex} : evE (.isN ng a) ρ = (evE a ρ).bind fun ra => match ra.2 with | .non => vB (.bl (!ng)) | _ => vB (.bl ng) := by simp only [evE] <;> rfl
theorem e_isB {ng : Bool} {a b : Ex} : evE (.isB ng a b) ρ = (evE a ρ).bind fun ra => (evE b ρ).bind fun rb => match isBS ra.2 rb.2 with | some k => vB (.bl (if ng then !k else k)) | none => .bad := by simp only [evE] <;> rfl
theorem e_nt {a : Ex} : evE (.nt a) ρ = (evE a ρ).bind fun ra => match truS ra.2 with | some b => vB (.bl (!b)) | none => .bad := by simp only [evE] <;> rfl
theorem e_an {a r : Ex} : evE (.an a r) ρ = (evE a ρ).bind fun ra => match ra.2 with | .bl true => evE r ρ | .bl false => vB (.bl false) | _ => .bad := by simp only [evE] <;> rfl
theorem e_orr {a r : Ex} : evE (.orr a r) ρ = (evE a ρ).bind fun ra => match ra.2 with | .bl false => evE r ρ | .bl true => vB (.bl true) | _ => .bad := by simp only [evE] <;> rfl
theorem e_one {a : Ex} : evE (.one a) ρ = evE a ρ := by simp only [evE]
theorem e_ife {c : Te} {a b : Ex} : evE (.ife c a b) ρ = (evT c ρ).bind fun k => if k then evE a ρ else evE b ρ := by simp only [evE]
theorem e_call {f : Str} {n : Nat} {m : Fn} {es : Exs} : evE (.call f n m es) ρ = (evs es ρ).bind fun rs => match takes rs with | some xs => if xs.length = n then (m xs).bind fun x => vB x else .bad | none => .bad := by simp only [evE] <;> rfl
theorem e_blt {b : Blt} {es : Exs} : evE (.blt b es) ρ = (evs es ρ).bind fun rs => ofV (bltS b rs) := by simp only [evE]
theorem e_listR {a : Ex} : evE (.listR a) ρ = (evE a ρ).bind fun ra => match ra.2 with | .int j => if 0 ≤ j ∧ j ≤ 16777216 then vB (.lst true (rangeL 0 j)) else .bad | _ => .bad := by simp only [evE] <;> rfl
theorem e_isi {a : Ex} {ts : List String} : evE (.isi a ts) ρ = (evE a ρ).bind fun ra => match tyName ra.2 with | some n => vB (.bl (ts.any (isT n))) | none => .bad := by simp only [evE] <;> rfl
theorem e_sub {a i : Ex} : evE (.sub a i) ρ = (evE a ρ).bind fun ra => (evE i ρ).bind fun ri => match subS ra.2 ri.2.fz with | some x => .ok (ra.1, if ra.1 then x else x.fz) | none => .bad := by simp only [evE] <;> rfl
theorem e_tup {es : Exs} : evE (.tup es) ρ = (evs es ρ).bind fun rs => match takes rs with | some xs => if xs.length ≤ 100000 then vB (.tup xs) else .bad | none => .bad := by simp only [evE] <;> rfl
theorem e_lst {es : Exs} : evE (.lst es) ρ = (evs es ρ).bind fun rs => match movs rs with | some xs => if xs.length ≤ 100000 then vB (.lst true xs) else .bad | none => .bad := by simp only [evE] <;> rfl
theorem e_dnew {T : Bool} : evE (.dnew T) ρ = vB (.dct true T [] []) := by simp only [evE]
theorem e_prim {q : Prim} {es : Exs} : evE (.prim q es) ρ = q.m (evl es) ρ := by simp only [evE]
theorem e_nil : evs .nil ρ = .ok [] := by simp only [evs]
theorem e_cons {e : Ex} {es : Exs} : evs (.cons e es) ρ = (evE e ρ).bind fun r => (evs es ρ).bind fun rs => .ok (r :: rs) := by simp only [evs]
theorem i_seq {e : Ex} : evI (.seq e) ρ = (evE e ρ).bind fun r => Tr.ofO (seqS r) := by simp only [evI]
theorem i_rng {a : Ex} : evI (.rng a) ρ = (evE a ρ).bind fun r => match r.2 with | .int j => if rngOk 0 j then .ok (true, rangeL 0 j) else .bad | _ => .bad := by simp only [evI] <;> rfl
theorem i_enum {e : Ex} : evI (.enum e) ρ = (evE e ρ).bind fun r => match seqS r with | some (b, xs) => .ok (b, enumP 0 xs) | none => .bad := by simp only [evI] <;> rfl
theorem t_yes : evT .yes ρ = .ok true := by simp only [evT]
theorem t_tru {e : Ex} : evT (.tru e) ρ = (evE e ρ).bind fun r => Tr.ofO (truS r.2) := by simp only [evT]
theorem t_cmp {op : COp} {a b : Ex} : evT (.cmp op a b) ρ = (evE a ρ).bind fun ra => (evE b ρ).bind fun rb => Tr.ofO (cmpS op ra.2.fz rb.2.fz) := by simp only [evT]
theorem t_chn {o o' : COp} {a b c : Ex} : evT (.chn o o' a b c) ρ = (evE a ρ).bind fun ra => (evE b ρ).bind fun rb => match cmpS o ra.2.fz rb.2.fz with | some true => (evE c ρ).bind fun rc => Tr.ofO (cmpS o' rb.2.fz rc.2.fz) | some false => .ok false | none => .bad := by simp only [evT] <;> rfl
theorem t_isN {ng : Bool} {a : Ex} : evT (.isN ng a) ρ = (evE a ρ).bind fun ra => match ra.2 with | .non => .ok (!ng) | _ => .ok ng := by simp only [evT] <;> rfl
theorem t_isB {ng : Bool} {a b : Ex} : evT (.isB ng a b) ρ = (evE a ρ).bind fun ra => (evE b ρ).bind fun rb => match isBS ra.2 rb.2 with | some k => .ok (if ng then !k else k) | none => .bad := by simp only [evT] <;> rfl
theorem t_nt {a : Te} : evT (.nt a) ρ = (evT a ρ).bind fun k => .ok (!k) := by simp only [evT]
theorem t_an {a r : Te} : evT (.an a r) ρ = (evT a ρ).bind fun k => if k then evT r ρ else .ok false := by simp only [evT]
theorem t_orr {a r : Te} : evT (.orr a r) ρ = (evT a ρ).bind fun k => if k then .ok true else evT r ρ := by simp only [evT]
theorem t_one {a : Te} : evT (.one a) ρ = evT a ρ := by simp only [evT]
theorem b_ok {α β : Type} {a : α} {f : α → Tr β} : (Tr.ok a).bind f = f a := rfl
theorem b_ret {α β : Type} {a : α} {f : α → Tr β} : (Tr.ret (.ok a)).bind f = f a := rfl
theorem vB_bind {x : PV} {β : Type} {f : Rv → Tr β} : (vB x).bind f = f (false, x) := rfl
theorem ofO_some {α : Type} {a : α} : Tr.ofO (some a) = .ok a := rfl
theorem ofV_some {x : PV} : ofV (some x) = vB x := rfl
theorem ofB_some {b : Bool} : ofB (some b) = vB (.bl b) := rfl
/-- a comprehension -/
theorem e_comp {elt : Ex} {tg : Tg} {it : ItX} {cond : Te} {own : List (Str × Nat)} {b : Bool} {xs : List PV} {g : PV → Option PV} (hi : evI it ρ = .ok (b, xs)) (hl : xs.length < 1000000)
    (h : ∀ x ∈ xs, ∃ ρ', bindTg tg x (wipeL ρ (own.map (·.2))) = some ρ' ∧ ((evT cond ρ' = .ok false ∧ g x = none) ∨ (evT cond ρ' = .ok true ∧ ∃ r y, evE elt ρ' = .ok r ∧ mov r = some y ∧ g x = some y))) :
    evE (.comp elt tg it cond own) ρ = .ok (false, .lst true (xs.filterMap g)) := by
  simp only [evE, hi, b_ok]
  rw [if_pos (by rw [sizeLine_eq]; omega), comp_eq (g := g) xs [] (fun x hx => ?_)]
  · rfl
  · obtain ⟨ρ', h1, h2⟩ := h x hx
    refine ⟨ρ', h1, ?_⟩
    rcases h2 with ⟨h2, h3⟩ | ⟨h2, r, y, h3, h4, h5⟩
    · rw [h2, h3]
      rfl
    · rw [h2, h5, b_ok, if_pos rfl, h3, b_ok, h4]
theorem e_comp_W {elt : Ex} {tg : Tg} {it : ItX} {cond : Te} {own : List (Str × Nat)} {b : Bool} {xs : List PV} {R : PV → Option PV → Prop} {P : Out Rv → Prop} (hi : evI it ρ = .ok (b, xs)) (hl : xs.length < 1000000)
    (h : ∀ x ∈ xs, ∃ ρ', bindTg tg x (wipeL ρ (own.map (·.2))) = some ρ' ∧ (evT cond ρ').W fun o => ∃ k, o = .ok k ∧ (k = false → R x none) ∧ (k = true → (evE elt ρ').W fun o => ∃ r y, o = .ok r ∧ mov r = some y ∧ R x (some y)))
    (q : ∀ ys, Fa2 R xs ys → P (.ok (false, .lst true (ys.filterMap id)))) : (evE (.comp elt tg it cond own) ρ).W P := by
  simp only [evE, hi, b_ok]
  rw [if_pos (by rw [sizeLine_eq]; omega)]
  refine Tr.W_bind.mpr (comp_W (R := R) xs [] (fun x hx => ?_) fun ys r => q ys r)
  obtain ⟨ρ', h1, h2⟩ := h x hx
  refine ⟨ρ', h1, Tr.W_bind.mpr (Tr.W_imp (fun o ho => ?_) h2)⟩
  obtain ⟨k, rfl, h3, h4⟩ := ho
  cases k with
  | false => exact ⟨none, rfl, h3 rfl⟩
  | true =>
    refine Tr.W_bind.mpr (Tr.W_imp (fun o ho => ?_) (h4 rfl))
    obtain ⟨r, y, rfl, h5, h6⟩ := ho
    show Tr.W _ (match mov r with | some y => Tr.ok (some y) | none => Tr.bad)
    rw [h5]
    exact ⟨some y, rfl, h6⟩
theorem sq_nx {m k : FS.Loc → Tr Fl} {ρ' : FS.Loc} (h : m ρ = .ok (.nx ρ')) : sqF m k ρ = k ρ' := by
  unfold sqF
  rw [h]
  rfl
theorem sq_rt {m k : FS.Loc → Tr Fl} {x : PV} (h : m ρ = .ok (.rt x)) : sqF m k ρ = .ok (.rt x) := by
  unfold sqF
  rw [h]
  rfl
theorem runF_eq {l n : Nat} {ss : Ss} {xs : List PV} {r : PV} (hρ : xs.map some ++ List.replicate (l - n) none = ρ) (h : exB ss ρ = .ok (.rt r)) : runF l n ss xs = .ok r := by
  unfold runF
  rw [hρ, h]
  rfl
theorem runF_W {l n : Nat} {ss : Ss} {xs : List PV} {P : Out PV → Prop} (hρ : xs.map some ++ List.replicate (l - n) none = ρ) (h : (exB ss ρ).W fun o => ∃ r, o = .ok (.rt r) ∧ P (.ok r)) : (runF l n ss xs).W P := by
  unfold runF
  rw [hρ]
  refine Tr.W_bind.mpr (Tr.W_imp (fun o ⟨r, e, p⟩ => ?_) h)
  subst e
  exact p
theorem sq_W {m k : FS.Loc → Tr Fl} {P : Out Fl → Prop} (h : (m ρ).W fun o => ∃ ρ', o = .ok (.nx ρ') ∧ (k ρ').W P) : (sqF m k ρ).W P := by
  unfold sqF
  refine Tr.W_bind.mpr (Tr.W_imp (fun o ⟨ρ', e, p⟩ => ?_) h)
  subst e
  exact p
theorem stI (i : Int) : (PV.int i).st = true := rfl
theorem fzI (i : Int) : (PV.int i).fz = .int i := rfl
theorem stS (i : Str) : (PV.str i).st = true := rfl
theorem fzS (i : Str) : (PV.str i).fz = .str i := rfl
theorem stB (i : Bool) : (PV.bl i).st = true := rfl
theorem fzB (i : Bool) : (PV.bl i).fz = .bl i := rfl
theorem stT (xs : List PV) : (PV.tup xs).st = true := rfl
theorem fzT (xs : List PV) : (PV.tup xs).fz = .tup xs := rfl
theorem stP : PV.pen.st = true := rfl
theorem fzP : PV.pen.fz = .pen := rfl
theorem stL (b : Bool) (xs : List PV) : (PV.lst b xs).st = !b := rfl
theorem stD (b T : Bool) (ks vs : List PV) : (PV.dct b T ks vs).st = !b := rfl
theorem takeI (b : Bool) (x : PV) (h : x.st = true) (z : x.fz = x) : FS.take (b, x) = some x := by
  unfold FS.take
  rw [h, z]
  simp
theorem movI (b : Bool) (x : PV) (h : x.st = true) : FS.mov (b, x) = some x := by
  unfold FS.mov
  rw [h]
  simp
theorem mov_f (x : PV) : FS.mov (false, x) = some x := rfl
theorem take_f (x : PV) : FS.take (false, x) = some x.fz := rfl
theorem fzs_id : ∀ {xs : List PV}, (∀ x ∈ xs, x.fz = x) → PV.fzs xs = xs
  | [], _ => rfl
  | x :: xs, h => by
    simp only [PV.fzs]
    rw [h x List.mem_cons_self, fzs_id fun y hy => h y (List.mem_cons_of_mem _ hy)]
theorem shal_f (x : PV) : shal (false, x) = some x.fz := rfl
theorem shal_t (xs : List PV) : shal (true, .tup xs) = some (.tup xs) := rfl
theorem shal_i (i : Int) : shal (true, .int i) = some (.int i) := rfl
theorem shal_l (xs : List PV) : shal (true, .lst false xs) = some (.lst false xs) := rfl
theorem shal_o (xs : List PV) (h : xs.all PV.st = true) : shal (true, .lst true xs) = some (.lst false xs) := by
  unfold shal
  dsimp only
  rw [if_pos h]
/-! comparisons of ints -/
theorem c_lt {i j : Int} : cmpS .lt (.int i) (.int j) = some (decide (i < j)) := rfl
theorem c_le {i j : Int} : cmpS .le (.int i) (.int j) = some (decide (i ≤ j)) := rfl
theorem c_gt {i j : Int} : cmpS .gt (.int i) (.int j) = some (decide (j < i)) := rfl
theorem c_ge {i j : Int} : cmpS .ge (.int i) (.int j) = some (decide (j ≤ i)) := rfl
theorem c_eq {i j : Int} : cmpS .eq (.int i) (.int j) = some (decide (i = j)) := by
  simp [cmpS, PV.sdata, PV.data, PyData.depth, PyData.eqv]
  try rfl
theorem c_ne {i j : Int} : cmpS .ne (.int i) (.int j) = some (!decide (i = j)) := by
  simp [cmpS, PV.sdata, PV.data, PyData.depth, PyData.eqv]
  try rfl
end
end FS

set_option Elab.async false
set_option linter.all false
set_option maxRecDepth 100000
set_option maxHeartbeats 4000000
namespace K06
open PySem PySem.Spec PyProof.Rows L2 FS
/-! ### tables -/
def en (rows : List (List Int)) (i k : Nat) : Int := (rows.getD i []).getD k 0
structure Sq (rows : List (List Int)) (n : Nat) : Prop where
  len : rows.length = n
  row : ∀ r ∈ rows, r.length = n
  ent : ∀ r ∈ rows, ∀ x ∈ r, 0 ≤ x ∧ x ≤ 10 ^ 50
  pos : 1 ≤ n
  few : n ≤ 7
abbrev Ed (rows : List (List Int)) (i k : Nat) : Prop := 0 < en rows i k
theorem getD_mem {α : Type} {l : List α} {i : Nat} {d : α} (h : i < l.length) : l.getD i d ∈ l := by
  rw [List.getD_eq_getElem?_getD, List.getElem?_eq_getElem h]
  exact List.getElem_mem h
theorem Sq.lt {rows : List (List Int)} {n i k : Nat} (q : Sq rows n) (h : Ed rows i k) : i < n ∧ k < n := by
  unfold Ed en at h
  by_cases hi : i < rows.length
  · by_cases hk : k < (rows.getD i []).length
    · exact ⟨q.len ▸ hi, by rw [q.row _ (getD_mem hi)] at hk; exact hk⟩
    · rw [List.getD_eq_getElem?_getD, List.getElem?_eq_none (by omega)] at h
      simp at h
  · rw [List.getD_eq_getElem?_getD (l := rows), List.getElem?_eq_none (by omega)] at h
    simp at h
theorem atI_nat {xs : List PV} {k : Nat} (h : k < xs.length) : atI xs (k : Int) = xs[k]? := by
  unfold atI ixN
  rw [if_pos (by omega), if_pos (by omega)]
  simp
theorem sub_tab {rows : List (List Int)} {i : Nat} (h : i < rows.length) : subS (tabP rows) (.int (i : Nat)) = some (rowP (rows.getD i [])) := by
  unfold subS tabP
  dsimp only
  rw [atI_nat (by simpa using h), List.getElem?_map, List.getElem?_eq_getElem h, List.getD_eq_getElem?_getD, List.getElem?_eq_getElem h]
  rfl
theorem sub_row {r : List Int} {k : Nat} (h : k < r.length) : subS (rowP r) (.int (k : Nat)) = some (.int (r.getD k 0)) := by
  unfold subS rowP
  dsimp only
  rw [atI_nat (by simpa using h), List.getElem?_map, List.getElem?_eq_getElem h, List.getD_eq_getElem?_getD, List.getElem?_eq_getElem h]
  rfl
theorem sub_two {rows : List (List Int)} {n i k : Nat} (q : Sq rows n) (hi : i < n) (hk : k < n) : subS (rowP (rows.getD i [])) (.int (k : Nat)) = some (.int (en rows i k)) :=
  sub_row (by rw [q.row _ (getD_mem (by rw [q.len]; exact hi))]; exact hk)
theorem len_le : ∀ (n : Nat) (l : List Nat), l.Nodup → (∀ x ∈ l, x < n) → l.length ≤ n
  | 0, [], _, _ => Nat.le_refl 0
  | 0, x :: l, _, h => absurd (h x List.mem_cons_self) (by omega)
  | n + 1, l, d, h => by
    have h1 := len_le n (l.erase n) (d.erase n) fun x hx => by
      have hx' := (List.Nodup.mem_erase_iff d).mp hx
      have := h x hx'.2
      omega
    rw [List.length_erase] at h1
    split at h1 <;> omega
theorem getP_nats {k : Nat} : ∀ {ks : List Nat} {vs : List PV}, vs.length = ks.length → (getP (natsP ks) vs (.int (k : Nat))).isSome = decide (k ∈ ks)
  | [], [], _ => by simp [natsP, getP]
  | [], _ :: _, h => by simp at h
  | _ :: _, [], h => by simp at h
  | j :: ks, v :: vs, h => by
    simp only [natsP, List.map_cons, getP]
    have ih := getP_nats (k := k) (ks := ks) (vs := vs) (by simpa using h)
    simp only [natsP] at ih
    by_cases e : j = k
    · subst e
      simp [PV.keq]
    · have e' : ((j : Nat) : Int) ≠ (k : Nat) := by omega
      have : PV.keq (.int (j : Nat)) (.int (k : Nat)) = false := by simp [PV.keq, e']
      rw [this]
      simp only [Bool.false_eq_true, if_false, ih, List.mem_cons]
      simp [Ne.symm e]
theorem any_nats {k : Nat} {ks : List Nat} : (natsP ks).any (PV.keq · (.int (k : Nat))) = decide (k ∈ ks) := by
  induction ks with
  | nil => simp [natsP]
  | cons j ks ih =>
    simp only [natsP, List.map_cons, List.any_cons] at ih ⊢
    rw [ih]
    by_cases e : j = k
    · subst e
      simp [PV.keq]
    · have e' : ((j : Nat) : Int) ≠ (k : Nat) := by omega
      simp [PV.keq, e', Ne.symm e]
theorem ints_nats (ks : List Nat) : intsP (natsP ks) = some (ks.map fun k : Nat => (k : Int)) := by
  induction ks with
  | nil => rfl
  | cons k ks ih =>
    simp only [natsP, List.map_cons] at ih ⊢
    simp only [intsP, ih]
    rfl
theorem fzs_nats (ks : List Nat) : PV.fzs (natsP ks) = natsP ks := fzs_id fun x hx => by
  obtain ⟨k, _, rfl⟩ := List.mem_map.mp hx
  rfl
theorem st_nats (ks : List Nat) : (natsP ks).all PV.st = true := by
  rw [List.all_eq_true]
  intro x hx
  obtain ⟨k, _, rfl⟩ := List.mem_map.mp hx
  rfl
theorem nats_len (ks : List Nat) : (natsP ks).length = ks.length := by simp [natsP]
theorem nats_app (ks ls : List Nat) : natsP (ks ++ ls) = natsP ks ++ natsP ls := by simp [natsP]
theorem nats_one (k : Nat) : natsP [k] = [.int (k : Nat)] := rfl
theorem fz_tab (rows : List (List Int)) : (tabP rows).fz = tabP rows := rfl
theorem st_tab (rows : List (List Int)) : (tabP rows).st = true := rfl
theorem fz_row (r : List Int) : (rowP r).fz = rowP r := rfl
theorem st_row (r : List Int) : (rowP r).st = true := rfl
/-- the goals of a place -/
def gls (rows : List (List Int)) (n i : Nat) : List Nat := (List.range n).filter fun k => decide (0 < en rows i k)
theorem mem_gls {rows : List (List Int)} {n i k : Nat} (q : Sq rows n) : k ∈ gls rows n i ↔ Ed rows i k := by
  simp only [gls, List.mem_filter, List.mem_range, decide_eq_true_eq]
  exact ⟨fun h => h.2, fun h => ⟨(q.lt h).2, h⟩⟩
theorem gls_lt {rows : List (List Int)} {n i k : Nat} (h : k ∈ gls rows n i) : k < n := by
  simp only [gls, List.mem_filter, List.mem_range] at h
  exact h.1
theorem gls_len {rows : List (List Int)} {n i : Nat} : (gls rows n i).length ≤ n := by
  have := List.length_filter_le (fun k => decide (0 < en rows i k)) (List.range n)
  simpa [gls] using this
theorem filterMap_nats {P : Nat → Bool} {g : PV → Option PV} {l : List Nat} (h : ∀ k ∈ l, g (.int (k : Nat)) = if P k then some (.int (k : Nat)) else none) : (natsP l).filterMap g = natsP (l.filter P) := by
  induction l with
  | nil => rfl
  | cons k l ih =>
    have h1 := h k List.mem_cons_self
    have h2 := ih fun j hj => h j (List.mem_cons_of_mem _ hj)
    simp only [natsP, List.map_cons] at h2 ⊢
    rw [List.filterMap_cons, h1]
    by_cases hp : P k = true
    · rw [if_pos hp, List.filter_cons_of_pos hp, h2]
      rfl
    · rw [if_neg hp, List.filter_cons_of_neg hp, h2]
theorem e_len {rows : List (List Int)} {n ip : Nat} {ρ : FS.Loc} (q : Sq rows n) (h0 : ρ[ip]? = some (some (tabP rows))) : evE (.blt .len (.cons (.var ip) .nil)) ρ = .ok (false, .int (n : Nat)) := by
  simp only [e_blt, e_cons, e_nil, e_var, h0, b_ok, bltS, ofV_some, tabP, List.length_map, q.len]
  rfl
theorem n61 {n : Nat} (h : n ≤ 7) : n < 2 ^ 61 := by omega
theorem i_range {e : Ex} {n : Nat} {ρ : FS.Loc} (h : n ≤ 7) (he : ∃ b, evE e ρ = .ok (b, .int (n : Nat))) : evI (.rng e) ρ = .ok (true, natsP (List.range n)) := by
  obtain ⟨b, he⟩ := he
  rw [i_rng, he, b_ok]
  dsimp only
  rw [rngOk_nat (n61 h)]
  rw [if_pos rfl, rangeL_nat]
/-! ### _law_from -/
theorem e_goals {rows : List (List Int)} {n i : Nat} {ρ : FS.Loc} {ip : Nat} (q : Sq rows n) (hi : i < n) (h0 : ρ[0]? = some (some (tabP rows))) (hp : ρ[ip]? = some (some (.int (i : Nat)))) (h4 : 4 < ρ.length) (n0 : ip ≠ 4) :
    evE (.comp (.var 4) (.v 4) (.rng (.blt .len (.cons (.var 0) .nil))) (.cmp .gt (.sub (.sub (.var 0) (.var ip)) (.var 4)) (.int 0)) [("k", 4)]) ρ = .ok (false, .lst true (natsP (gls rows n i))) := by
  have hit := i_range q.few ⟨false, e_len q h0⟩
  refine (e_comp (g := fun x => match x with | .int k => if decide (0 < en rows i k.toNat) then some (.int k) else none | _ => none) hit (by rw [nats_len, List.length_range]; have := q.few; omega) fun x hx => ?_).trans ?_
  · obtain ⟨k, hk, rfl⟩ := List.mem_map.mp hx
    rw [List.mem_range] at hk
    refine ⟨_, rfl, ?_⟩
    have a0 : ((wipeL ρ [4]).set 4 (some (.int (k : Nat))))[0]? = some (some (tabP rows)) := by simp [wipeL, h0]
    have ai : ((wipeL ρ [4]).set 4 (some (.int (k : Nat))))[ip]? = some (some (.int (i : Nat))) := by simp [wipeL, hp, List.getElem?_set_ne (Ne.symm n0)]
    have a4 : ((wipeL ρ [4]).set 4 (some (.int (k : Nat))))[4]? = some (some (.int (k : Nat))) := by simp [wipeL, h4]
    have ev : evT (.cmp .gt (.sub (.sub (.var 0) (.var ip)) (.var 4)) (.int 0)) ((wipeL ρ [4]).set 4 (some (.int (k : Nat)))) = .ok (decide (0 < en rows i k)) := by
      simp only [t_cmp, e_sub, e_var, a0, ai, a4, b_ok, fzI, sub_tab (show i < rows.length by rw [q.len]; exact hi), sub_two q hi hk, e_int, vB_bind, if_pos, c_gt, ofO_some]
    by_cases hd : 0 < en rows i k
    · right
      refine ⟨?_, (true, .int (k : Nat)), .int (k : Nat), ?_, rfl, ?_⟩
      · exact ev.trans (by rw [decide_eq_true hd])
      · rw [e_var]
        show (match ((wipeL ρ [4]).set 4 (some (.int (k : Nat))))[4]? with | some (some x) => Tr.ok (true, x) | _ => .bad) = _
        rw [a4]
      · simp [hd]
    · left
      exact ⟨ev.trans (by rw [decide_eq_false hd]), by simp [hd]⟩
  · rw [filterMap_nats (P := fun k => decide (0 < en rows i k)) fun k _ => by simp]
    rfl
end K06

set_option Elab.async false
set_option linter.all false
set_option maxRecDepth 100000
set_option maxHeartbeats 4000000
namespace K06
open PySem PySem.Spec PyProof.Rows L2 FS
/-! ### steps on dicts and lists -/
section
variable {ρ : FS.Loc} {i j k : Nat} {ks : List Nat} {vs xs ys : List PV} {o b : Bool} {e ke ve : Ex} {y : PV} {r : Rv}
theorem t_notin (hi : ρ[i]? = some (some (.int (k : Nat)))) (hj : ρ[j]? = some (some (.dct o false (natsP ks) vs))) (hl : vs.length = ks.length) (hz : PV.fzs vs = vs) : evT (.cmp .notin (.var i) (.var j)) ρ = .ok (!decide (k ∈ ks)) := by
  simp only [t_cmp, e_var, hi, hj, b_ok, PV.fz, hz, cmpS, isKey, if_true]
  rw [getP_nats hl]
  rfl
theorem t_in (hi : ρ[i]? = some (some (.int (k : Nat)))) (he : evE e ρ = .ok (b, .dct o false (natsP ks) vs)) (hl : vs.length = ks.length) (hz : PV.fzs vs = vs) : evT (.cmp .in_ (.var i) e) ρ = .ok (decide (k ∈ ks)) := by
  simp only [t_cmp, e_var, hi, he, b_ok, PV.fz, hz, cmpS, isKey, if_true]
  rw [getP_nats hl]
  rfl
theorem x_dput (h : ρ[i]? = some (some (.dct true false (natsP ks) vs))) (hk : evE ke ρ = .ok (b, .int (k : Nat))) (hv : evE ve ρ = .ok r) (hy : FS.take r = some y) (hn : k ∉ ks) (hl : ks.length < 1000) :
    exS (.dput i ke ve) ρ = .ok (.nx (ρ.set i (some (.dct true false (natsP (ks ++ [k])) (vs ++ [y]))))) := by
  have e1 : putP (natsP ks) vs (.int (k : Nat)) y = (natsP (ks ++ [k]), vs ++ [y]) := by
    unfold putP
    rw [any_nats, if_neg (by simpa using hn), nats_app, nats_one]
  have e2 : FS.take (b, .int (k : Nat)) = some (.int (k : Nat)) := takeI b _ rfl rfl
  simp only [exS, dputF, dctAt, h, hv, hk, b_ok, hy, e2, e1]
  rw [if_pos ⟨rfl, by rw [nats_len]; omega⟩]
theorem x_ext (h : ρ[i]? = some (some (.lst true xs))) (he : evE e ρ = .ok (false, .lst true ys)) (hz : PV.fzs ys = ys) (hl : xs.length + ys.length < 1000000) : exS (.ext i e) ρ = .ok (.nx (ρ.set i (some (.lst true (xs ++ ys))))) := by
  simp only [exS, extF, lstAt, h, he, b_ok, shal_f, PV.fz, hz]
  rw [if_pos hl]
theorem x_app (h : ρ[i]? = some (some (.lst true xs))) (he : evE e ρ = .ok r) (hy : FS.mov r = some y) (hl : xs.length < 1000000) : exS (.app i e) ρ = .ok (.nx (ρ.set i (some (.lst true (xs ++ [y]))))) := by
  simp only [exS, appF, lstAt, h, he, b_ok, hy]
  rw [if_pos hl]
theorem x_set (he : evE e ρ = .ok r) (hy : FS.mov r = some y) : exS (.set i e) ρ = .ok (.nx (ρ.set i (some y))) := by
  simp only [exS, setF, he, b_ok, hy]
theorem x_par2 {es : Exs} {rs : List Rv} {u v : PV} (he : evs es ρ = .ok rs) (hm : movs rs = some [u, v]) : exS (.par2 i j es) ρ = .ok (.nx ((ρ.set i (some u)).set j (some v))) := by
  simp only [exS, par2F, he, b_ok, hm]
theorem x_par3 {es : Exs} {rs : List Rv} {l : Nat} {u v w : PV} (he : evs es ρ = .ok rs) (hm : movs rs = some [u, v, w]) : exS (.par3 i j l es) ρ = .ok (.nx (((ρ.set i (some u)).set j (some v)).set l (some w))) := by
  simp only [exS, par3F, he, b_ok, hm]
theorem x_ite {c : Te} {m1 m2 : Ss} {q : Bool} (hc : evT c ρ = .ok q) : exS (.ite c m1 m2) ρ = if q then exB m1 ρ else exB m2 ρ := by
  simp only [exS, FS.iteF, hc, b_ok]
end
theorem fzs_bl (ks : List Nat) : PV.fzs (ks.map fun _ => PV.bl true) = ks.map fun _ => .bl true := fzs_id fun x hx => by
  obtain ⟨k, _, rfl⟩ := List.mem_map.mp hx
  rfl
theorem dat_nats (is : List Nat) : PV.datas (natsP is) = some (is.map fun k => PyData.int (k : Nat)) := by
  induction is with
  | nil => rfl
  | cons k is ih =>
    simp only [natsP, List.map_cons] at ih ⊢
    simp only [PV.datas, PV.data, ih]
theorem dep_nats (is : List Nat) : PyData.depthAll (is.map fun k => PyData.int (k : Nat)) = 0 := by
  induction is with
  | nil => rfl
  | cons k is ih => simp [PyData.depthAll, PyData.depth, ih]
theorem ne_nil (is : List Nat) : cmpS .ne (.lst false (natsP is)) (.lst false []) = some (!is.isEmpty) := by
  cases is with
  | nil => simp [natsP, cmpS, PV.sdata, PV.data, PV.datas, PyData.depth, PyData.depthAll, PyData.eqv, PyData.eqvAll]
  | cons k is =>
    simp only [cmpS, PV.sdata, PV.data, dat_nats, PV.datas, Option.map_some, PyData.depth, dep_nats]
    simp [PyData.eqv, PyData.eqvAll, PyData.depthAll]
/-! ### _law_from: the loop -/
structure Dfs (rows : List (List Int)) (n p : Nat) (ks left : List Nat) : Prop where
  nd : ks.Nodup
  kr : ∀ k ∈ ks, k < n ∧ Rc (Ed rows) p k
  lr : ∀ k ∈ left, k < n ∧ Rc (Ed rows) p k
  st : ∀ k, Ed rows p k → k ∈ ks ∨ k ∈ left
  cl : ∀ j ∈ ks, ∀ k, Ed rows j k → k ∈ ks ∨ k ∈ left
abbrev fromS (rows : List (List Int)) (p : Nat) (ks : List Nat) (l x4 x5 : Option PV) : FS.Loc := [some (tabP rows), some (.int (p : Nat)), some (.dct true false (natsP ks) (ks.map fun _ => .bl true)), l, x4, x5]
def LI (rows : List (List Int)) (n p m : Nat) (ρ : FS.Loc) : Prop := ∃ (ks left : List Nat) (x4 x5 : Option PV), ρ = fromS rows p ks (some (.lst true (natsP left))) x4 x5 ∧ Dfs rows n p ks left ∧ m ≤ 90 ∧ m = left.length + (n - ks.length) * n
def LQ (rows : List (List Int)) (n p : Nat) (ρ : FS.Loc) : Prop := ∃ (ks : List Nat) (x4 x5 l : Option PV), ρ = fromS rows p ks l x4 x5 ∧ Dfs rows n p ks []
def fromC : Te := .cmp .ne (.var 3) (.lst .nil)
def fromB : Ss := match ss__law_from with
  | .cons _ (.cons (.whl _ _ b) _) => b
  | _ => .nil
theorem from_step {rows : List (List Int)} {n p : Nat} (q : Sq rows n) (m : Nat) (ρ : FS.Loc) (h : LI rows n p m ρ) :
    (evT fromC ρ = .ok false ∧ LQ rows n p ρ) ∨ (evT fromC ρ = .ok true ∧ ∃ ρ' m', exB fromB ρ = .ok (.nx ρ') ∧ m' < m ∧ LI rows n p m' ρ') := by
  obtain ⟨ks, left, x4, x5, rfl, D, h90, rfl⟩ := h
  have hc : evT fromC (fromS rows p ks (some (.lst true (natsP left))) x4 x5) = .ok (!left.isEmpty) := by
    unfold fromC
    simp only [t_cmp, e_var, List.getElem?_cons_succ, List.getElem?_cons_zero, b_ok, e_lst, e_nil, movs, List.length_nil, PV.fz, fzs_nats]
    rw [if_pos (by omega), vB_bind]
    simp only [PV.fz, PV.fzs]
    rw [ne_nil]
    rfl
  cases hl : left.getLast? with
  | none =>
    have : left = [] := List.getLast?_eq_none_iff.mp hl
    subst this
    exact .inl ⟨hc, ks, x4, x5, _, rfl, D⟩
  | some k =>
    right
    obtain ⟨lf, rfl⟩ := List.getLast?_eq_some_iff.mp hl
    refine ⟨hc.trans (by simp), ?_⟩
    obtain ⟨hk1, hk2⟩ := D.lr k (by simp)
    have hlen := len_le n ks D.nd fun x hx => (D.kr x hx).1
    have hn := q.few
    have hpop : exS (.spop 5 3) (fromS rows p ks (some (.lst true (natsP (lf ++ [k])))) x4 x5) = .ok (.nx (fromS rows p ks (some (.lst true (natsP lf))) x4 (some (.int (k : Nat))))) := by
      have e1 : (natsP (lf ++ [k])).getLast? = some (.int (k : Nat)) := by rw [nats_app, nats_one]; simp
      have e2 : (natsP (lf ++ [k])).dropLast = natsP lf := by rw [nats_app, nats_one]; simp
      simp only [exS, spopF, lstAt, List.getElem?_cons_succ, List.getElem?_cons_zero, e1, e2, st_nats, if_true]
      rfl
    have ht : evT (.cmp .notin (.var 5) (.var 2)) (fromS rows p ks (some (.lst true (natsP lf))) x4 (some (.int (k : Nat)))) = .ok (!decide (k ∈ ks)) := t_notin rfl rfl (by simp) (fzs_bl ks)
    by_cases hmem : k ∈ ks
    · refine ⟨_, lf.length + (n - ks.length) * n, ?_, by simp, ks, lf, x4, some (.int (k : Nat)), rfl, ⟨D.nd, D.kr, fun j hj => D.lr j (by simp [hj]), fun j hj => ?_, fun j hj i hi => ?_⟩, by simp at h90; omega, rfl⟩
      · unfold fromB ss__law_from
        simp only [exB]
        rw [sq_nx hpop]
        exact (sq_nx (ρ' := fromS rows p ks (some (.lst true (natsP lf))) x4 (some (.int (k : Nat)))) (by rw [x_ite ht]; simp [hmem, exB])).trans rfl
      · rcases D.st j hj with z | z
        · exact .inl z
        · rcases List.mem_append.mp z with z | z
          · exact .inr z
          · rw [List.mem_singleton.mp z]
            exact .inl hmem
      · rcases D.cl j hj i hi with z | z
        · exact .inl z
        · rcases List.mem_append.mp z with z | z
          · exact .inr z
          · rw [List.mem_singleton.mp z]
            exact .inl hmem
    · have hks : ks.length < n := by
        have h1 := len_le n (k :: ks) (List.nodup_cons.mpr ⟨hmem, D.nd⟩) fun x hx => by
          rcases List.mem_cons.mp hx with rfl | hx
          · exact hk1
          · exact (D.kr x hx).1
        simp at h1
        omega
      have hmul : (n - ks.length) * n = (n - (ks.length + 1)) * n + n := by
        rw [show n - ks.length = (n - (ks.length + 1)) + 1 by omega, Nat.add_mul, Nat.one_mul]
      let gs := gls rows n k
      have hgs : gs.length ≤ n := gls_len
      have h2 : exS (.dput 2 (.var 5) (.bl true)) (fromS rows p ks (some (.lst true (natsP lf))) x4 (some (.int (k : Nat)))) = .ok (.nx (fromS rows p (ks ++ [k]) (some (.lst true (natsP lf))) x4 (some (.int (k : Nat))))) := by
        refine (x_dput (b := true) (k := k) (y := .bl true) (r := (false, .bl true)) rfl (by rw [e_var]; rfl) (by rw [e_bl]; rfl) rfl hmem (by omega)).trans ?_
        simp [fromS]
      have h3 : exS (.ext 3 (.comp (.var 4) (.v 4) (.rng (.blt .len (.cons (.var 0) .nil))) (.cmp .gt (.sub (.sub (.var 0) (.var 5)) (.var 4)) (.int 0)) [("k", 4)])) (fromS rows p (ks ++ [k]) (some (.lst true (natsP lf))) x4 (some (.int (k : Nat)))) = .ok (.nx (fromS rows p (ks ++ [k]) (some (.lst true (natsP (lf ++ gs)))) x4 (some (.int (k : Nat))))) := by
        refine (x_ext (xs := natsP lf) (ys := natsP gs) rfl (e_goals q hk1 rfl rfl (by simp) (by decide)) (fzs_nats _) (by simp only [nats_len]; simp at h90; omega)).trans ?_
        rw [nats_app]
        rfl
      refine ⟨_, (lf ++ gs).length + (n - (ks ++ [k]).length) * n, ?_, ?_, ks ++ [k], lf ++ gs, x4, some (.int (k : Nat)), rfl, ⟨?_, fun j hj => ?_, fun j hj => ?_, fun j hj => ?_, fun j hj i hi => ?_⟩, by simp only [List.length_append, List.length_singleton] at h90 ⊢; omega, rfl⟩
      · unfold fromB ss__law_from
        simp only [exB]
        rw [sq_nx hpop]
        refine (sq_nx (ρ' := fromS rows p (ks ++ [k]) (some (.lst true (natsP (lf ++ gs)))) x4 (some (.int (k : Nat)))) ?_).trans rfl
        rw [x_ite ht]
        simp only [hmem, decide_false, Bool.not_false, if_true, exB]
        rw [sq_nx h2, sq_nx h3]
      · simp only [List.length_append, List.length_singleton]
        omega
      · rw [List.nodup_append]
        exact ⟨D.nd, by simp, fun a ha b hb z => hmem (by rw [List.mem_singleton.mp hb] at z; exact z ▸ ha)⟩
      · rcases List.mem_append.mp hj with z | z
        · exact D.kr j z
        · rw [List.mem_singleton.mp z]
          exact ⟨hk1, hk2⟩
      · rcases List.mem_append.mp hj with z | z
        · exact D.lr j (by simp [z])
        · exact ⟨gls_lt z, hk2.snoc ((mem_gls q).mp z)⟩
      · rcases D.st j hj with z | z
        · exact .inl (by simp [z])
        · rcases List.mem_append.mp z with z | z
          · exact .inr (by simp [z])
          · exact .inl (by simp [List.mem_singleton.mp z])
      · rcases List.mem_append.mp hj with z | z
        · rcases D.cl j z i hi with z | z
          · exact .inl (by simp [z])
          · rcases List.mem_append.mp z with z | z
            · exact .inr (by simp [z])
            · exact .inl (by simp [List.mem_singleton.mp z])
        · rw [List.mem_singleton.mp z] at hi
          exact .inr (List.mem_append.mpr (.inr ((mem_gls q).mpr hi)))
end K06

set_option Elab.async false
set_option linter.all false
set_option maxRecDepth 100000
set_option maxHeartbeats 4000000
namespace K06
open PySem PySem.Spec PyProof.Rows L2 FS
theorem ss_from : ss__law_from = .cons (.par2 2 3 (.cons (.dnew false) (.cons (.comp (.var 4) (.v 4) (.rng (.blt .len (.cons (.var 0) .nil))) (.cmp .gt (.sub (.sub (.var 0) (.var 1)) (.var 4)) (.int 0)) [("k", 4)]) .nil))) (.cons (.whl 100 fromC fromB) (.cons (.ret (.prim sortPrim (.cons (.var 2) .nil))) .nil)) := rfl
theorem from_eq {rows : List (List Int)} {n p : Nat} (q : Sq rows n) (hp : p < n) : m__law_from [tabP rows, .int (p : Nat)] = .ok (.lst true (natsP (rl (Ed rows) n p))) := by
  have hn := q.few
  have g7 : (gls rows n p).length ≤ n := gls_len
  have s1 : exS (.par2 2 3 (.cons (.dnew false) (.cons (.comp (.var 4) (.v 4) (.rng (.blt .len (.cons (.var 0) .nil))) (.cmp .gt (.sub (.sub (.var 0) (.var 1)) (.var 4)) (.int 0)) [("k", 4)]) .nil))) [some (tabP rows), some (.int (p : Nat)), none, none, none, none] = .ok (.nx (fromS rows p [] (some (.lst true (natsP (gls rows n p)))) none none)) := by
    have hg := e_goals (ρ := [some (tabP rows), some (.int (p : Nat)), none, none, none, none]) (ip := 1) q hp rfl rfl (by simp) (by decide)
    refine (x_par2 (u := .dct true false [] []) (v := .lst true (natsP (gls rows n p))) (rs := [(false, .dct true false [] []), (false, .lst true (natsP (gls rows n p)))]) (by simp only [e_cons, e_nil, e_dnew, vB_bind, hg, b_ok]) (by simp only [movs, mov_f])).trans ?_
    simp only [List.set_cons_succ, List.set_cons_zero, fromS, natsP, List.map_nil]
  have hI : LI rows n p ((gls rows n p).length + (n - 0) * n) (fromS rows p [] (some (.lst true (natsP (gls rows n p)))) none none) := by
    refine ⟨[], gls rows n p, none, none, rfl, ⟨List.nodup_nil, fun k hk => by simp at hk, fun k hk => ⟨gls_lt hk, .one ((mem_gls q).mp hk)⟩, fun k hk => .inr ((mem_gls q).mpr hk), fun j hj => by simp at hj⟩, ?_, by simp⟩
    have : (n - 0) * n ≤ 7 * 7 := Nat.mul_le_mul (by omega) (by omega)
    omega
  have h56 : (gls rows n p).length + (n - 0) * n < 100 := by
    have : (n - 0) * n ≤ 7 * 7 := Nat.mul_le_mul (by omega) (by omega)
    omega
  obtain ⟨ρ', e, ks, x4, x5, l, rfl, D⟩ := whl_eq (LI rows n p) (LQ rows n p) (from_step q) 100 _ _ h56 hI
  have kl := len_le n ks D.nd fun x hx => (D.kr x hx).1
  have hmem : ∀ k, k ∈ ks ↔ k ∈ rl (Ed rows) n p := fun k => by
    rw [mem_rl]
    refine ⟨D.kr k, fun h => h.2.closed (S := fun k => k ∈ ks) (fun j k hj he => ?_) fun k he => ?_⟩
    · rcases D.cl j hj k he with z | z
      · exact z
      · simp at z
    · rcases D.st k he with z | z
      · exact z
      · simp at z
  have hperm : ks.Perm (rl (Ed rows) n p) := (List.perm_ext_iff_of_nodup D.nd (List.nodup_range.filter _)).mpr hmem
  have hs : srt (ks.map fun k : Nat => (k : Int)) = (rl (Ed rows) n p).map fun k : Nat => (k : Int) := by
    refine srt_unique ((srt_perm _).trans (hperm.map _)) (srt_le _) ?_
    rw [List.pairwise_map]
    have : (rl (Ed rows) n p).Pairwise (· < ·) := List.Pairwise.filter _ List.pairwise_lt_range
    exact this.imp fun h => by omega
  have s3 : exS (.ret (.prim sortPrim (.cons (.var 2) .nil))) (fromS rows p ks l x4 x5) = .ok (.rt (.lst true (natsP (rl (Ed rows) n p)))) := by
    have e2 : sortD (.dct false false (natsP ks) (ks.map fun _ => .bl true)) = some (.lst true (natsP (rl (Ed rows) n p))) := by
      unfold sortD
      simp only [ints_nats]
      rw [if_pos (by simp; omega), hs, List.map_map]
      rfl
    have e3 : (sortPrim.m (evl (.cons (.var 2) .nil))) (fromS rows p ks l x4 x5) = .ok (false, .lst true (natsP (rl (Ed rows) n p))) := by
      show (evE (.var 2) (fromS rows p ks l x4 x5)).bind (fun r => ofV (sortD r.2.fz)) = _
      rw [e_var]
      show ofV (sortD (PV.fz (.dct true false (natsP ks) (ks.map fun _ => .bl true)))) = _
      simp only [PV.fz, fzs_bl, e2]
      rfl
    simp only [exS, e_prim, e3, b_ok]
  refine runF_eq (ρ := [some (tabP rows), some (.int (p : Nat)), none, none, none, none]) rfl ?_
  rw [ss_from]
  simp only [exB]
  refine (sq_nx s1).trans ((sq_nx (ρ' := fromS rows p ks l x4 x5) ?_).trans (sq_rt s3))
  simp only [exS]
  exact e
end K06

set_option Elab.async false
set_option linter.all false
set_option maxRecDepth 100000
set_option maxHeartbeats 4000000
namespace K06
open PySem PySem.Spec PyProof.Rows L2 FS
/-! ### goals_of -/
def gF : PV → Option PV
  | .tup [.int k, .int x] => if decide (0 < x) then some (.int k) else none
  | _ => none
theorem enum_mem {y : PV} : ∀ {r : List Int} {j : Nat}, y ∈ enumP j (r.map PV.int) → ∃ (k : Nat) (x : Int), y = .tup [.int (k : Nat), .int x]
  | [], j, h => by simp [enumP] at h
  | x :: r, j, h => by
    simp only [List.map_cons, enumP, List.mem_cons] at h
    rcases h with rfl | h
    · exact ⟨j, x, rfl⟩
    · exact enum_mem h
theorem enum_filter : ∀ (r : List Int) (j : Nat), (enumP j (r.map PV.int)).filterMap gF = natsP ((List.range' j r.length).filter fun k => decide (0 < r.getD (k - j) 0))
  | [], j => rfl
  | x :: r, j => by
    have ih := enum_filter r (j + 1)
    have e : (List.range' (j + 1) r.length).filter (fun k => decide (0 < (x :: r).getD (k - j) 0)) = (List.range' (j + 1) r.length).filter fun k => decide (0 < r.getD (k - (j + 1)) 0) := by
      refine List.filter_congr fun k hk => ?_
      have hk' := List.mem_range'_1.mp hk
      rw [show k - j = (k - (j + 1)) + 1 by omega]
      rfl
    simp only [List.map_cons, enumP, List.length_cons, List.range'_succ]
    have hx : gF (.tup [.int (j : Nat), .int x]) = if decide (0 < x) then some (.int (j : Nat)) else none := rfl
    by_cases h0 : 0 < x
    · rw [List.filterMap_cons, hx, if_pos (by simpa using h0), ih, List.filter_cons_of_pos (by simpa using h0), e]
      rfl
    · rw [List.filterMap_cons, hx, if_neg (by simpa using h0), ih, List.filter_cons_of_neg (by simpa using h0), e]
theorem enumP_len : ∀ (xs : List PV) (j : Nat), (enumP j xs).length = xs.length
  | [], j => rfl
  | x :: xs, j => by simp [enumP, enumP_len xs]
theorem goals_eq {rows : List (List Int)} {n i : Nat} (q : Sq rows n) (hi : i < n) : m_goals_of [tabP rows, .int (i : Nat)] = .ok (.lst true (natsP (gls rows n i))) := by
  have hn := q.few
  have hil : i < rows.length := by rw [q.len]; exact hi
  have hr : (rows.getD i []).length = n := q.row _ (getD_mem hil)
  refine runF_eq (ρ := [some (tabP rows), some (.int (i : Nat)), none, none]) rfl ?_
  unfold ss_goals_of
  simp only [exB]
  refine sq_rt ?_
  have hs : evE (.sub (.var 0) (.var 1)) [some (tabP rows), some (.int (i : Nat)), none, none] = .ok (true, rowP (rows.getD i [])) := by
    simp only [e_sub, e_var, List.getElem?_cons_succ, List.getElem?_cons_zero, b_ok, fzI, sub_tab hil, if_true]
  have hit : evI (.enum (.sub (.var 0) (.var 1))) [some (tabP rows), some (.int (i : Nat)), none, none] = .ok (true, enumP 0 ((rows.getD i []).map PV.int)) := by
    simp only [i_enum, hs, b_ok, rowP, seqS, shal_t]
  have hc := e_comp (elt := .var 2) (tg := .t [2, 3]) (cond := .cmp .gt (.var 3) (.int 0)) (own := [("goal", 2), ("many", 3)]) (g := gF) hit (by rw [enumP_len, List.length_map, hr]; omega) fun y hy => by
    obtain ⟨k, x, rfl⟩ := enum_mem hy
    refine ⟨[some (tabP rows), some (.int (i : Nat)), some (.int (k : Nat)), some (.int x)], rfl, ?_⟩
    have hx : gF (.tup [.int (k : Nat), .int x]) = if decide (0 < x) then some (.int (k : Nat)) else none := rfl
    have ht : evT (.cmp .gt (.var 3) (.int 0)) [some (tabP rows), some (.int (i : Nat)), some (.int (k : Nat)), some (.int x)] = .ok (decide (0 < x)) := by
      simp only [t_cmp, e_var, e_int, vB_bind, List.getElem?_cons_succ, List.getElem?_cons_zero, b_ok, fzI, c_gt, ofO_some]
    by_cases h0 : 0 < x
    · exact .inr ⟨by rw [ht, decide_eq_true h0], (true, .int (k : Nat)), .int (k : Nat), by simp only [e_var, List.getElem?_cons_succ, List.getElem?_cons_zero], movI _ _ rfl, by rw [hx, if_pos (by simpa using h0)]⟩
    · exact .inl ⟨by rw [ht, decide_eq_false h0], by rw [hx, if_neg (by simpa using h0)]⟩
  simp only [exS, hc, b_ok, enum_filter]
  have e : (List.range' 0 (rows.getD i []).length).filter (fun k => decide (0 < (rows.getD i []).getD (k - 0) 0)) = gls rows n i := by
    rw [hr, ← List.range_eq_range']
    rfl
  rw [e]
/-! ### walks_from -/
abbrev wS (rows : List (List Int)) (p : Nat) (ks : List Nat) (vs : List PV) (a x5 x6 : Option PV) : FS.Loc := [some (tabP rows), some (.int (p : Nat)), some (.dct true false (natsP ks) vs), some (.lst true (natsP ks)), a, x5, x6]
structure Vs (ks : List Nat) (vs : List PV) : Prop where
  len : vs.length = ks.length
  tup : ∀ v ∈ vs, ∃ w, v = .tup w ∧ w.length ≤ ks.length + 1
structure Bfs (rows : List (List Int)) (n p : Nat) (ks : List Nat) : Prop where
  nd : ks.Nodup
  kr : ∀ k ∈ ks, k < n ∧ Rc (Ed rows) p k
theorem Vs.fzs {ks : List Nat} {vs : List PV} (h : Vs ks vs) : PV.fzs vs = vs := fzs_id fun x hx => by
  obtain ⟨w, rfl, _⟩ := h.tup x hx
  rfl
theorem Vs.app {ks : List Nat} {vs w : List PV} {k : Nat} (h : Vs ks vs) (hw : w.length ≤ ks.length + 2) : Vs (ks ++ [k]) (vs ++ [.tup w]) :=
  ⟨by simp [h.len], fun v hv => by
    rcases List.mem_append.mp hv with z | z
    · obtain ⟨w', e, hl⟩ := h.tup v z
      exact ⟨w', e, by simp; omega⟩
    · exact ⟨w, List.mem_singleton.mp z, by simp; omega⟩⟩
theorem getP_mem {k : Nat} : ∀ {ks : List Nat} {vs : List PV}, vs.length = ks.length → k ∈ ks → ∃ v ∈ vs, getP (natsP ks) vs (.int (k : Nat)) = some v
  | [], _, _, h => by simp at h
  | j :: ks, [], h, _ => by simp at h
  | j :: ks, v :: vs, hl, h => by
    simp only [natsP, List.map_cons, getP]
    by_cases e : j = k
    · subst e
      exact ⟨v, List.mem_cons_self, by simp [PV.keq]⟩
    · have e' : ((j : Nat) : Int) ≠ (k : Nat) := by omega
      have : PV.keq (.int (j : Nat)) (.int (k : Nat)) = false := by simp [PV.keq, e']
      obtain ⟨u, hu, hg⟩ := getP_mem (k := k) (ks := ks) (vs := vs) (by simpa using hl) (by
        rcases List.mem_cons.mp h with z | z
        · exact absurd z.symm e
        · exact z)
      refine ⟨u, List.mem_cons_of_mem _ hu, ?_⟩
      rw [this]
      simpa [natsP] using hg
theorem Bfs.app {rows : List (List Int)} {n p k : Nat} {ks : List Nat} (B : Bfs rows n p ks) (h : k ∉ ks) (hk : k < n) (r : Rc (Ed rows) p k) : Bfs rows n p (ks ++ [k]) := by
  refine ⟨?_, fun j hj => ?_⟩
  · rw [List.nodup_append]
    exact ⟨B.nd, by simp, fun a ha b hb z => h (by rw [List.mem_singleton.mp hb] at z; exact z ▸ ha)⟩
  · rcases List.mem_append.mp hj with z | z
    · exact B.kr j z
    · rw [List.mem_singleton.mp z]
      exact ⟨hk, r⟩
theorem Bfs.le {rows : List (List Int)} {n p : Nat} {ks : List Nat} (B : Bfs rows n p ks) : ks.length ≤ n := len_le n ks B.nd fun x hx => (B.kr x hx).1
end K06

set_option Elab.async false
set_option linter.all false
set_option maxRecDepth 100000
set_option maxHeartbeats 4000000
namespace K06
open PySem PySem.Spec PyProof.Rows L2 FS
def wB0 : Ss := .cons (.dput 2 (.var 5) (.tup (.cons (.var 1) (.cons (.var 5) .nil)))) (.cons (.app 3 (.var 5)) .nil)
def wB1 : Ss := .cons (.ite (.cmp .notin (.var 5) (.var 2)) (.cons (.dput 2 (.var 5) (.bin .add (.sub (.var 2) (.var 6)) (.tup (.cons (.var 5) .nil)))) (.cons (.app 3 (.var 5)) .nil)) .nil) .nil
def wC : Te := .cmp .lt (.var 4) (.blt .len (.cons (.var 3) .nil))
def wB : Ss := .cons (.par2 6 4 (.cons (.sub (.var 3) (.var 4)) (.cons (.bin .add (.var 4) (.int 1)) .nil))) (.cons (.fr (.v 5) (.seq (.call "goals_of" 2 m_goals_of (.cons (.var 0) (.cons (.var 6) .nil)))) wB1) .nil)
theorem ss_walks : ss_walks_from = .cons (.par3 2 3 4 (.cons (.dnew false) (.cons (.lst .nil) (.cons (.int 0) .nil)))) (.cons (.fr (.v 5) (.seq (.call "goals_of" 2 m_goals_of (.cons (.var 0) (.cons (.var 1) .nil)))) wB0) (.cons (.whl 100 wC wB) (.cons (.ret (.var 2)) .nil))) := rfl
section
variable {rows : List (List Int)} {n p g : Nat} {ks : List Nat} {vs : List PV} {a x6 : Option PV}
theorem wB0_eq (V : Vs ks vs) (hg : g ∉ ks) (hl : ks.length ≤ 7) : exB wB0 (wS rows p ks vs a (some (.int (g : Nat))) x6) = .ok (.nx (wS rows p (ks ++ [g]) (vs ++ [.tup [.int (p : Nat), .int (g : Nat)]]) a (some (.int (g : Nat))) x6)) := by
  have h1 : exS (.dput 2 (.var 5) (.tup (.cons (.var 1) (.cons (.var 5) .nil)))) (wS rows p ks vs a (some (.int (g : Nat))) x6) = .ok (.nx [some (tabP rows), some (.int (p : Nat)), some (.dct true false (natsP (ks ++ [g])) (vs ++ [.tup [.int (p : Nat), .int (g : Nat)]])), some (.lst true (natsP ks)), a, some (.int (g : Nat)), x6]) := by
    refine (x_dput (b := true) (k := g) (y := .tup [.int (p : Nat), .int (g : Nat)]) (r := (false, .tup [.int (p : Nat), .int (g : Nat)])) (ks := ks) (vs := vs) (by simp only [wS, List.getElem?_cons_succ, List.getElem?_cons_zero]) (by simp only [e_var, wS, List.getElem?_cons_succ, List.getElem?_cons_zero]) ?_ (take_f _) hg (by omega)).trans ?_
    · simp only [e_tup, e_cons, e_nil, e_var, wS, List.getElem?_cons_succ, List.getElem?_cons_zero, b_ok, takes, takeI true _ (stI _) (fzI _)]
      rw [if_pos (by simp)]
      rfl
    · simp only [wS, List.set_cons_succ, List.set_cons_zero]
  have h2 := x_app (ρ := [some (tabP rows), some (.int (p : Nat)), some (.dct true false (natsP (ks ++ [g])) (vs ++ [.tup [.int (p : Nat), .int (g : Nat)]])), some (.lst true (natsP ks)), a, some (.int (g : Nat)), x6]) (i := 3) (e := .var 5) (xs := natsP ks) (r := (true, .int (g : Nat))) (y := .int (g : Nat)) (by simp only [List.getElem?_cons_succ, List.getElem?_cons_zero]) (by simp only [e_var, List.getElem?_cons_succ, List.getElem?_cons_zero]) (movI _ _ (stI _)) (by rw [nats_len]; omega)
  unfold wB0
  simp only [exB]
  refine (sq_nx h1).trans ((sq_nx h2).trans ?_)
  simp only [wS, List.set_cons_succ, List.set_cons_zero, nats_app, nats_one]
theorem wB1_eq {c : Nat} (V : Vs ks vs) (hc : c ∈ ks) (hl : ks.length ≤ 7) : ∃ w : List PV, w.length ≤ ks.length + 2 ∧ exB wB1 (wS rows p ks vs a (some (.int (g : Nat))) (some (.int (c : Nat)))) = if g ∈ ks then .ok (.nx (wS rows p ks vs a (some (.int (g : Nat))) (some (.int (c : Nat))))) else .ok (.nx (wS rows p (ks ++ [g]) (vs ++ [.tup w]) a (some (.int (g : Nat))) (some (.int (c : Nat))))) := by
  obtain ⟨v, hv, hgp⟩ := getP_mem V.len hc
  obtain ⟨w, rfl, hw⟩ := V.tup v hv
  refine ⟨w ++ [.int (g : Nat)], by simp; omega, ?_⟩
  have ht : evT (.cmp .notin (.var 5) (.var 2)) (wS rows p ks vs a (some (.int (g : Nat))) (some (.int (c : Nat)))) = .ok (!decide (g ∈ ks)) := t_notin (o := true) (ks := ks) (vs := vs) (by simp only [wS, List.getElem?_cons_succ, List.getElem?_cons_zero]) (by simp only [wS, List.getElem?_cons_succ, List.getElem?_cons_zero]) V.len V.fzs
  unfold wB1
  simp only [exB]
  by_cases hg : g ∈ ks
  · rw [if_pos hg]
    refine (sq_nx (ρ' := wS rows p ks vs a (some (.int (g : Nat))) (some (.int (c : Nat)))) ?_).trans rfl
    rw [x_ite ht]
    simp [hg, exB]
  · rw [if_neg hg]
    have hsub : evE (.sub (.var 2) (.var 6)) (wS rows p ks vs a (some (.int (g : Nat))) (some (.int (c : Nat)))) = .ok (true, .tup w) := by
      simp only [e_sub, e_var, wS, List.getElem?_cons_succ, List.getElem?_cons_zero, b_ok, fzI, subS, isKey, if_true, hgp]
    have htup : evE (.tup (.cons (.var 5) .nil)) (wS rows p ks vs a (some (.int (g : Nat))) (some (.int (c : Nat)))) = .ok (false, .tup [.int (g : Nat)]) := by
      simp only [e_tup, e_cons, e_nil, e_var, wS, List.getElem?_cons_succ, List.getElem?_cons_zero, b_ok, takes, takeI true _ (stI _) (fzI _)]
      rw [if_pos (by simp)]
      rfl
    have hadd : evE (.bin .add (.sub (.var 2) (.var 6)) (.tup (.cons (.var 5) .nil))) (wS rows p ks vs a (some (.int (g : Nat))) (some (.int (c : Nat)))) = .ok (false, .tup (w ++ [.int (g : Nat)])) := by
      simp only [e_bin, hsub, htup, b_ok, shal_t, shal_f, fzT, binS]
      rw [if_pos (by simp [sizeLine_eq]; omega)]
      rfl
    have h1 : exS (.dput 2 (.var 5) (.bin .add (.sub (.var 2) (.var 6)) (.tup (.cons (.var 5) .nil)))) (wS rows p ks vs a (some (.int (g : Nat))) (some (.int (c : Nat)))) = .ok (.nx [some (tabP rows), some (.int (p : Nat)), some (.dct true false (natsP (ks ++ [g])) (vs ++ [.tup (w ++ [.int (g : Nat)])])), some (.lst true (natsP ks)), a, some (.int (g : Nat)), some (.int (c : Nat))]) := by
      refine (x_dput (b := true) (k := g) (y := .tup (w ++ [.int (g : Nat)])) (ks := ks) (vs := vs) (by simp only [wS, List.getElem?_cons_succ, List.getElem?_cons_zero]) (by simp only [e_var, wS, List.getElem?_cons_succ, List.getElem?_cons_zero]) hadd (take_f _) hg (by omega)).trans ?_
      simp only [wS, List.set_cons_succ, List.set_cons_zero]
    have h2 := x_app (ρ := [some (tabP rows), some (.int (p : Nat)), some (.dct true false (natsP (ks ++ [g])) (vs ++ [.tup (w ++ [.int (g : Nat)])])), some (.lst true (natsP ks)), a, some (.int (g : Nat)), some (.int (c : Nat))]) (i := 3) (e := .var 5) (xs := natsP ks) (r := (true, .int (g : Nat))) (y := .int (g : Nat)) (by simp only [List.getElem?_cons_succ, List.getElem?_cons_zero]) (by simp only [e_var, List.getElem?_cons_succ, List.getElem?_cons_zero]) (movI _ _ (stI _)) (by rw [nats_len]; omega)
    refine (sq_nx (ρ' := wS rows p (ks ++ [g]) (vs ++ [.tup (w ++ [.int (g : Nat)])]) a (some (.int (g : Nat))) (some (.int (c : Nat)))) ?_).trans rfl
    rw [x_ite ht]
    simp only [hg, decide_false, Bool.not_false, if_true, exB]
    refine (sq_nx h1).trans ((sq_nx h2).trans ?_)
    simp only [wS, List.set_cons_succ, List.set_cons_zero, nats_app, nats_one]
end
end K06

set_option Elab.async false
set_option linter.all false
set_option maxRecDepth 100000
set_option maxHeartbeats 4000000
namespace K06
open PySem PySem.Spec PyProof.Rows L2 FS
section
variable {rows : List (List Int)} {n p : Nat}
/-- the first loop -/
def I0 (rows : List (List Int)) (n p : Nat) (gs : List Nat) (a x6 : Option PV) (i : Nat) (ρ : FS.Loc) : Prop := ∃ (ks : List Nat) (vs : List PV) (x5 : Option PV), ρ = wS rows p ks vs a x5 x6 ∧ ks = gs.take i ∧ Vs ks vs
theorem take_succ_get {α : Type} {l : List α} {i : Nat} {x : α} (h : l[i]? = some x) : l.take (i + 1) = l.take i ++ [x] := by
  rw [List.take_succ, h]
  rfl
theorem loop0 {gs : List Nat} {a x6 : Option PV} (hnd : gs.Nodup) (h7 : gs.length ≤ 7) : ∃ vs x5, forL (.v 5) (exB wB0) (natsP gs) (wS rows p [] [] a none x6) = .ok (.nx (wS rows p gs vs a x5 x6)) ∧ Vs gs vs := by
  obtain ⟨ρ', e, ks, vs, x5, rfl, hk, V⟩ := forL_eq (t := .v 5) (b := exB wB0) (I0 rows 0 p gs a x6) (natsP gs) 0 (wS rows p [] [] a none x6) ⟨[], [], none, rfl, by simp, ⟨rfl, fun v hv => by simp at hv⟩⟩ fun j x ρ hx hI => by
    obtain ⟨ks, vs, x5, rfl, rfl, V⟩ := hI
    rw [natsP, List.getElem?_map, Option.map_eq_some_iff] at hx
    obtain ⟨g, hg, rfl⟩ := hx
    have hj : j < gs.length := (List.getElem?_eq_some_iff.mp hg).1
    have hng : g ∉ gs.take (0 + j) := by
      rw [Nat.zero_add]
      intro hm
      obtain ⟨i, hi, hget⟩ := List.mem_iff_getElem.mp hm
      rw [List.length_take] at hi
      rw [List.getElem_take] at hget
      have : i = j := (List.getElem_inj hnd).mp (hget.trans (List.getElem?_eq_some_iff.mp hg).2.symm)
      omega
    have V2 := V.app (k := g) (w := [.int (p : Nat), .int (g : Nat)]) (by simp)
    refine ⟨wS rows p (gs.take (0 + j)) vs a (some (.int (g : Nat))) x6, _, ?_, wB0_eq V hng (by simp; omega), _, _, _, rfl, ?_, V2⟩
    · simp only [bindTg, wS, List.set_cons_succ, List.set_cons_zero]
    · simp only [Nat.zero_add] at *
      exact (take_succ_get hg).symm
  rw [nats_len, Nat.zero_add, List.take_length] at hk
  subst hk
  exact ⟨vs, x5, e, V⟩
/-- the loop within the while -/
def I1 (rows : List (List Int)) (n p : Nat) (ks0 gs : List Nat) (a : Option PV) (c i : Nat) (ρ : FS.Loc) : Prop := ∃ (new : List Nat) (vs : List PV) (x5 : Option PV), ρ = wS rows p (ks0 ++ new) vs a x5 (some (.int (c : Nat))) ∧ Vs (ks0 ++ new) vs ∧ Bfs rows n p (ks0 ++ new) ∧ ∀ j g, j < i → gs[j]? = some g → g ∈ ks0 ++ new
theorem loop1 (q : Sq rows n) {ks0 gs : List Nat} {vs : List PV} {a x5 : Option PV} {c : Nat} (V : Vs ks0 vs) (B : Bfs rows n p ks0) (hc : c ∈ ks0) (hg : ∀ g ∈ gs, g < n ∧ Rc (Ed rows) p g) :
    ∃ new vs2 x52, forL (.v 5) (exB wB1) (natsP gs) (wS rows p ks0 vs a x5 (some (.int (c : Nat)))) = .ok (.nx (wS rows p (ks0 ++ new) vs2 a x52 (some (.int (c : Nat))))) ∧ Vs (ks0 ++ new) vs2 ∧ Bfs rows n p (ks0 ++ new) ∧ ∀ g ∈ gs, g ∈ ks0 ++ new := by
  obtain ⟨ρ', e, new, vs', x5', rfl, V', B', hin⟩ := forL_eq (t := .v 5) (b := exB wB1) (I1 rows n p ks0 gs a c) (natsP gs) 0 (wS rows p ks0 vs a x5 (some (.int (c : Nat)))) ⟨[], vs, x5, by rw [List.append_nil], by rw [List.append_nil]; exact V, by rw [List.append_nil]; exact B, fun j g hj _ => absurd hj (by omega)⟩ fun j x ρ hx hI => by
    obtain ⟨new, vs, x5, rfl, V, B, hin⟩ := hI
    rw [natsP, List.getElem?_map, Option.map_eq_some_iff] at hx
    obtain ⟨g, hgj, rfl⟩ := hx
    have hgm : g ∈ gs := List.mem_of_getElem? hgj
    have hl := B.le
    have hn := q.few
    obtain ⟨w, hw, hb⟩ := wB1_eq (rows := rows) (p := p) (g := g) (a := a) V (List.mem_append_left new hc) (by omega)
    by_cases hm : g ∈ ks0 ++ new
    · rw [if_pos hm] at hb
      refine ⟨wS rows p (ks0 ++ new) vs a (some (.int (g : Nat))) (some (.int (c : Nat))), _, by simp only [bindTg, wS, List.set_cons_succ, List.set_cons_zero], hb, new, vs, _, rfl, V, B, fun i h hi hh => ?_⟩
      rcases Nat.lt_or_ge i (0 + j) with z | z
      · exact hin i h z hh
      · have : i = j := by omega
        subst this
        rw [hgj] at hh
        cases hh
        exact hm
    · rw [if_neg hm] at hb
      have hgr := hg g hgm
      refine ⟨wS rows p (ks0 ++ new) vs a (some (.int (g : Nat))) (some (.int (c : Nat))), _, by simp only [bindTg, wS, List.set_cons_succ, List.set_cons_zero], hb, new ++ [g], vs ++ [.tup w], _, by rw [← List.append_assoc], by rw [← List.append_assoc]; exact V.app hw, by rw [← List.append_assoc]; exact B.app hm hgr.1 hgr.2, fun i h hi hh => ?_⟩
      rcases Nat.lt_or_ge i (0 + j) with z | z
      · rw [← List.append_assoc]
        exact List.mem_append_left _ (hin i h z hh)
      · have : i = j := by omega
        subst this
        rw [hgj] at hh
        cases hh
        simp
  refine ⟨new, vs', x5', e, V', B', fun g hm => ?_⟩
  obtain ⟨i, hi, hget⟩ := List.mem_iff_getElem.mp hm
  exact hin i g (by rw [nats_len]; omega) (by rw [List.getElem?_eq_getElem hi, hget])
/-- the while -/
def WI (rows : List (List Int)) (n p m : Nat) (ρ : FS.Loc) : Prop := ∃ (ks : List Nat) (vs : List PV) (at_ : Nat) (x5 x6 : Option PV), ρ = wS rows p ks vs (some (.int (at_ : Nat))) x5 x6 ∧ Vs ks vs ∧ Bfs rows n p ks ∧ at_ ≤ ks.length ∧ (∀ k, Ed rows p k → k ∈ ks) ∧ (∀ j c, j < at_ → ks[j]? = some c → ∀ k, Ed rows c k → k ∈ ks) ∧ m = n - at_
def WQ (rows : List (List Int)) (n p : Nat) (ρ : FS.Loc) : Prop := ∃ (ks : List Nat) (vs : List PV) (a x5 x6 : Option PV), ρ = wS rows p ks vs a x5 x6 ∧ Vs ks vs ∧ Bfs rows n p ks ∧ (∀ k, k ∈ ks ↔ k ∈ rl (Ed rows) n p)
theorem walks_step (q : Sq rows n) (m : Nat) (ρ : FS.Loc) (h : WI rows n p m ρ) : (evT wC ρ = .ok false ∧ WQ rows n p ρ) ∨ (evT wC ρ = .ok true ∧ ∃ ρ' m', exB wB ρ = .ok (.nx ρ') ∧ m' < m ∧ WI rows n p m' ρ') := by
  obtain ⟨ks, vs, at_, x5, x6, rfl, V, B, hat, st, cl, rfl⟩ := h
  have hn := q.few
  have hl := B.le
  have hlen : evE (.blt .len (.cons (.var 3) .nil)) (wS rows p ks vs (some (.int (at_ : Nat))) x5 x6) = .ok (false, .int (ks.length : Nat)) := by
    simp only [e_blt, e_cons, e_nil, e_var, wS, List.getElem?_cons_succ, List.getElem?_cons_zero, b_ok, bltS, ofV_some, nats_len]
    rfl
  have hc : evT wC (wS rows p ks vs (some (.int (at_ : Nat))) x5 x6) = .ok (decide (at_ < ks.length)) := by
    unfold wC
    simp only [t_cmp, hlen]
    simp only [e_var, wS, List.getElem?_cons_succ, List.getElem?_cons_zero, b_ok, fzI, c_lt, ofO_some, Int.ofNat_lt]
  by_cases hlt : at_ < ks.length
  · right
    refine ⟨hc.trans (by rw [decide_eq_true hlt]), ?_⟩
    have hg : ks[at_]? = some ks[at_] := List.getElem?_eq_getElem hlt
    have hcm : ks[at_] ∈ ks := List.getElem_mem hlt
    generalize ks[at_] = c at hg hcm
    obtain ⟨hcn, hcr⟩ := B.kr c hcm
    have h1 : exS (.par2 6 4 (.cons (.sub (.var 3) (.var 4)) (.cons (.bin .add (.var 4) (.int 1)) .nil))) (wS rows p ks vs (some (.int (at_ : Nat))) x5 x6) = .ok (.nx (wS rows p ks vs (some (.int ((at_ + 1 : Nat) : Int))) x5 (some (.int (c : Nat))))) := by
      have hs : evE (.sub (.var 3) (.var 4)) (wS rows p ks vs (some (.int (at_ : Nat))) x5 x6) = .ok (true, .int (c : Nat)) := by
        have e1 : subS (.lst true (natsP ks)) (.int (at_ : Nat)) = some (.int (c : Nat)) := by
          show atI (natsP ks) (at_ : Int) = _
          rw [atI_nat (by rw [nats_len]; exact hlt), natsP, List.getElem?_map, hg]
          rfl
        simp only [e_sub, e_var, wS, List.getElem?_cons_succ, List.getElem?_cons_zero, b_ok, fzI, e1, if_true]
      have ha : evE (.bin .add (.var 4) (.int 1)) (wS rows p ks vs (some (.int (at_ : Nat))) x5 x6) = .ok (false, .int ((at_ + 1 : Nat) : Int)) := by
        simp only [e_bin, e_var, e_int, vB_bind, wS, List.getElem?_cons_succ, List.getElem?_cons_zero, b_ok, shal_i, shal_f, fzI, binS, ofV_some]
        rfl
      refine (x_par2 (u := .int (c : Nat)) (v := .int ((at_ + 1 : Nat) : Int)) (rs := [(true, .int (c : Nat)), (false, .int ((at_ + 1 : Nat) : Int))]) (by simp only [e_cons, e_nil, hs, ha, b_ok]) (by simp only [movs, mov_f, movI true _ (stI _)])).trans ?_
      simp only [wS, List.set_cons_succ, List.set_cons_zero]
    obtain ⟨new, vs', x5', e, V', B', hin⟩ := loop1 (a := some (.int ((at_ + 1 : Nat) : Int))) (x5 := x5) q V B hcm (gs := gls rows n c) fun g hg => ⟨gls_lt hg, hcr.snoc ((mem_gls q).mp hg)⟩
    refine ⟨wS rows p (ks ++ new) vs' (some (.int ((at_ + 1 : Nat) : Int))) x5' (some (.int (c : Nat))), n - (at_ + 1), ?_, by omega, ks ++ new, vs', at_ + 1, x5', _, rfl, V', B', by simp; omega, fun k hk => List.mem_append_left _ (st k hk), fun j d hj hd k hk => ?_, rfl⟩
    · unfold wB
      simp only [exB]
      refine (sq_nx h1).trans ((sq_nx ?_).trans rfl)
      have hi : evI (.seq (.call "goals_of" 2 m_goals_of (.cons (.var 0) (.cons (.var 6) .nil)))) (wS rows p ks vs (some (.int ((at_ + 1 : Nat) : Int))) x5 (some (.int (c : Nat)))) = .ok (true, natsP (gls rows n c)) := by
        simp only [i_seq, e_call, e_cons, e_nil, e_var, wS, List.getElem?_cons_succ, List.getElem?_cons_zero, b_ok, takes, takeI true _ (stI _) (fzI _), takeI true _ (st_tab _) (fz_tab _)]
        rw [if_pos (by simp), goals_eq q hcn]
        simp only [b_ok, vB_bind, seqS, shal_f, PV.fz, fzs_nats]
        rfl
      simp only [exS, forF, hi, b_ok, if_true]
      exact e
    · rcases Nat.lt_or_ge j at_ with z | z
      · have hj2 : j < ks.length := by omega
        rw [List.getElem?_append_left hj2] at hd
        exact List.mem_append_left _ (cl j d z hd k hk)
      · have : j = at_ := by omega
        subst this
        rw [List.getElem?_append_left hlt, hg] at hd
        cases hd
        exact hin k ((mem_gls q).mpr hk)
  · left
    refine ⟨hc.trans (by rw [decide_eq_false hlt]), ks, vs, _, x5, x6, rfl, V, B, fun k => ?_⟩
    rw [mem_rl]
    refine ⟨B.kr k, fun h => h.2.closed (S := fun k => k ∈ ks) (fun c k hcm he => ?_) st⟩
    obtain ⟨j, hj, hget⟩ := List.mem_iff_getElem.mp hcm
    exact cl j c (by omega) (by rw [List.getElem?_eq_getElem hj, hget]) k he
end
end K06

set_option Elab.async false
set_option linter.all false
set_option maxRecDepth 100000
set_option maxHeartbeats 4000000
namespace K06
open PySem PySem.Spec PyProof.Rows L2 FS
theorem gls_nodup {rows : List (List Int)} {n i : Nat} : (gls rows n i).Nodup := List.nodup_range.filter _
/-- walks_from: a dict, its keys are the places ahead -/
theorem walks_eq {rows : List (List Int)} {n p : Nat} (q : Sq rows n) (hp : p < n) : ∃ ks vs, m_walks_from [tabP rows, .int (p : Nat)] = .ok (.dct true false (natsP ks) vs) ∧ Vs ks vs ∧ ks.length ≤ n ∧ ∀ k, k ∈ ks ↔ k ∈ rl (Ed rows) n p := by
  have hn := q.few
  have g7 : (gls rows n p).length ≤ n := gls_len
  have s1 : exS (.par3 2 3 4 (.cons (.dnew false) (.cons (.lst .nil) (.cons (.int 0) .nil)))) [some (tabP rows), some (.int (p : Nat)), none, none, none, none, none] = .ok (.nx (wS rows p [] [] (some (.int ((0 : Nat) : Int))) none none)) := by
    have hls : evE (.lst .nil) [some (tabP rows), some (.int (p : Nat)), none, none, none, none, none] = .ok (false, .lst true []) := by
      simp only [e_lst, e_nil, b_ok, movs]
      rw [if_pos (by simp)]
      rfl
    refine (x_par3 (u := .dct true false [] []) (v := .lst true []) (w := .int 0) (rs := [(false, .dct true false [] []), (false, .lst true []), (false, .int 0)]) (by simp only [e_cons, e_nil, e_dnew, hls, e_int, vB_bind, b_ok]) (by simp only [movs, mov_f])).trans ?_
    simp only [wS, List.set_cons_succ, List.set_cons_zero, natsP, List.map_nil]
    rfl
  obtain ⟨vs0, x50, e0, V0⟩ := loop0 (rows := rows) (p := p) (a := some (.int ((0 : Nat) : Int))) (x6 := none) (gls_nodup (rows := rows) (n := n) (i := p)) (by omega)
  have s2 : exS (.fr (.v 5) (.seq (.call "goals_of" 2 m_goals_of (.cons (.var 0) (.cons (.var 1) .nil)))) wB0) (wS rows p [] [] (some (.int ((0 : Nat) : Int))) none none) = .ok (.nx (wS rows p (gls rows n p) vs0 (some (.int ((0 : Nat) : Int))) x50 none)) := by
    have hi : evI (.seq (.call "goals_of" 2 m_goals_of (.cons (.var 0) (.cons (.var 1) .nil)))) (wS rows p [] [] (some (.int ((0 : Nat) : Int))) none none) = .ok (true, natsP (gls rows n p)) := by
      simp only [i_seq, e_call, e_cons, e_nil, e_var, wS, List.getElem?_cons_succ, List.getElem?_cons_zero, b_ok, takes, takeI true _ (stI _) (fzI _), takeI true _ (st_tab _) (fz_tab _)]
      rw [if_pos (by simp), goals_eq q hp]
      simp only [b_ok, vB_bind, seqS, shal_f, PV.fz, fzs_nats]
      rfl
    simp only [exS, forF, hi, b_ok, if_true]
    exact e0
  have hI : WI rows n p (n - 0) (wS rows p (gls rows n p) vs0 (some (.int ((0 : Nat) : Int))) x50 none) :=
    ⟨gls rows n p, vs0, 0, x50, none, rfl, V0, ⟨gls_nodup, fun k hk => ⟨gls_lt hk, .one ((mem_gls q).mp hk)⟩⟩, by omega, fun k hk => (mem_gls q).mpr hk, fun j c hj => absurd hj (by omega), rfl⟩
  obtain ⟨ρ', e, ks, vs, a, x5, x6, rfl, V, B, hm⟩ := whl_eq (WI rows n p) (WQ rows n p) (walks_step q) 100 _ _ (by omega) hI
  refine ⟨ks, vs, ?_, V, B.le, hm⟩
  refine runF_eq (ρ := [some (tabP rows), some (.int (p : Nat)), none, none, none, none, none]) rfl ?_
  rw [ss_walks]
  simp only [exB]
  refine (sq_nx s1).trans ((sq_nx s2).trans ((sq_nx (ρ' := wS rows p ks vs a x5 x6) ?_).trans (sq_rt ?_)))
  · simp only [exS]
    exact e
  · simp only [exS, e_var, wS, List.getElem?_cons_succ, List.getElem?_cons_zero, b_ok]
end K06

set_option Elab.async false
set_option linter.all false
set_option maxRecDepth 100000
set_option maxHeartbeats 4000000
namespace K06
open PySem PySem.Spec PyProof.Rows L2 FS
/-! ### what is a table -/
def MX : Int := 1000000000000000000000000000000000000000000000000000000000000
theorem isint_eq (i : Int) : m_is_integer [.int i] = .ok (.bl true) := by
  refine runF_eq (ρ := [some (.int i)]) rfl ?_
  unfold ss_is_integer
  simp only [exB]
  refine sq_rt ?_
  simp only [exS, e_an, e_one, e_nt, e_isi, e_var, List.getElem?_cons_zero, b_ok, tyName, vB_bind]
  rfl
theorem call1 {f : Str} {m : Fn} {e : Ex} {ρ : FS.Loc} {x y : PV} {b : Bool} (he : evE e ρ = .ok (b, x)) (ht : FS.take (b, x) = some x) (hm : m [x] = .ok y) : evE (.call f 1 m (.cons e .nil)) ρ = .ok (false, y) := by
  simp only [e_call, e_cons, e_nil, he, b_ok, takes, ht]
  rw [if_pos (by simp), hm]
  rfl
theorem call2 {f : Str} {m : Fn} {e1 e2 : Ex} {ρ : FS.Loc} {x y z : PV} {b1 b2 : Bool} (h1 : evE e1 ρ = .ok (b1, x)) (h2 : evE e2 ρ = .ok (b2, y)) (t1 : FS.take (b1, x) = some x) (t2 : FS.take (b2, y) = some y) (hm : m [x, y] = .ok z) : evE (.call f 2 m (.cons e1 (.cons e2 .nil))) ρ = .ok (false, z) := by
  simp only [e_call, e_cons, e_nil, h1, h2, b_ok, takes, t1, t2]
  rw [if_pos (by simp), hm]
  rfl
theorem call3 {f : Str} {m : Fn} {e1 e2 e3 : Ex} {ρ : FS.Loc} {x y z w : PV} {b1 b2 b3 : Bool} (h1 : evE e1 ρ = .ok (b1, x)) (h2 : evE e2 ρ = .ok (b2, y)) (h3 : evE e3 ρ = .ok (b3, z)) (t1 : FS.take (b1, x) = some x) (t2 : FS.take (b2, y) = some y) (t3 : FS.take (b3, z) = some z) (hm : m [x, y, z] = .ok w) : evE (.call f 3 m (.cons e1 (.cons e2 (.cons e3 .nil)))) ρ = .ok (false, w) := by
  simp only [e_call, e_cons, e_nil, h1, h2, h3, b_ok, takes, t1, t2, t3]
  rw [if_pos (by simp), hm]
  rfl
theorem tI (b : Bool) (i : Int) : FS.take (b, .int i) = some (.int i) := takeI b _ (stI i) (fzI i)
theorem tS (b : Bool) (i : Str) : FS.take (b, .str i) = some (.str i) := takeI b _ (stS i) (fzS i)
theorem tT (b : Bool) (xs : List PV) : FS.take (b, .tup xs) = some (.tup xs) := takeI b _ (stT xs) (fzT xs)
theorem tTab (b : Bool) (rows : List (List Int)) : FS.take (b, tabP rows) = some (tabP rows) := tT b _
theorem tL (b : Bool) (xs : List PV) (h : PV.fzs xs = xs) : FS.take (b, .lst false xs) = some (.lst false xs) := takeI b _ rfl (by simp only [PV.fz, h])
theorem tLt (xs : List PV) (h : PV.fzs xs = xs) : FS.take (false, .lst true xs) = some (.lst false xs) := by
  rw [take_f]
  simp only [PV.fz, h]
theorem between_eq {x : Int} (h0 : 0 ≤ x) (h1 : x ≤ MX) : m_is_between [.int x, .int 0, .int MX] = .ok (.bl true) := by
  refine runF_eq (ρ := [some (.int x), some (.int 0), some (.int MX)]) rfl ?_
  unfold ss_is_between
  simp only [exB]
  refine sq_rt ?_
  have hc : evE (.call "is_integer" 1 m_is_integer (.cons (.var 0) .nil)) [some (.int x), some (.int 0), some (.int MX)] = .ok (false, .bl true) := call1 (b := true) (x := .int x) (by simp only [e_var, List.getElem?_cons_zero]) (tI _ _) (isint_eq x)
  simp only [exS, e_an, e_one, hc, b_ok, e_chn, e_var, List.getElem?_cons_succ, List.getElem?_cons_zero, fzI, c_le, decide_eq_true h0, decide_eq_true h1, ofB_some, vB_bind]
/-- a row as it may be handed -/
def RowV (v : PV) (r : List Int) : Prop := v = rowP r ∨ v = .lst false (r.map .int)
theorem fzs_ints (r : List Int) : PV.fzs (r.map PV.int) = r.map .int := fzs_id fun x hx => by
  obtain ⟨k, _, rfl⟩ := List.mem_map.mp hx
  rfl
theorem RowV.take {v : PV} {r : List Int} (h : RowV v r) (b : Bool) : FS.take (b, v) = some v := by
  rcases h with rfl | rfl
  · exact tT b _
  · exact tL b _ (fzs_ints r)
theorem RowV.fz {v : PV} {r : List Int} (h : RowV v r) : v.fz = v := by
  rcases h with rfl | rfl
  · rfl
  · simp only [PV.fz, fzs_ints]
theorem RowV.seq {v : PV} {r : List Int} (h : RowV v r) : ∃ b, seqS (true, v) = some (b, r.map .int) := by
  rcases h with rfl | rfl
  · exact ⟨true, rfl⟩
  · exact ⟨_, rfl⟩
theorem RowV.isl {v : PV} {r : List Int} (h : RowV v r) : m_is_list [v] = .ok (.bl true) := by
  refine runF_eq (ρ := [some v]) rfl ?_
  unfold ss_is_list
  simp only [exB]
  refine sq_rt ?_
  rcases h with rfl | rfl <;> simp only [exS, e_isi, e_var, List.getElem?_cons_zero, b_ok, tyName, vB_bind, rowP] <;> rfl
theorem RowV.blen {v : PV} {r : List Int} (h : RowV v r) (b : Bool) : bltS .len [(b, v)] = some (.int (r.length : Nat)) := by
  rcases h with rfl | rfl <;> simp [bltS, rowP]
theorem all_true {xs ys : List PV} {g : PV → Option PV} (h : ∀ x ∈ xs, g x = some (.bl true)) : bltS .all [(false, .lst true (xs.filterMap g))] = some (.bl true) := by
  have e : boolsP (xs.filterMap g) = some (xs.map fun _ => true) := by
    induction xs with
    | nil => rfl
    | cons x xs ih =>
      rw [List.filterMap_cons, h x List.mem_cons_self]
      simp only [boolsP, ih fun y hy => h y (List.mem_cons_of_mem _ hy)]
      rfl
  simp only [bltS, e, Option.map_some]
  congr 2
  simp
theorem rowof_eq {v : PV} {r : List Int} {n : Nat} (h : RowV v r) (hn : r.length = n) (h7 : n ≤ 12) (he : ∀ x ∈ r, 0 ≤ x ∧ x ≤ MX) : m_is_row_of [v, .int (n : Nat)] = .ok (.bl true) := by
  refine runF_eq (ρ := [some v, some (.int (n : Nat)), none]) rfl ?_
  unfold ss_is_row_of
  simp only [exB]
  refine sq_rt ?_
  have h1 : evE (.call "is_list" 1 m_is_list (.cons (.var 0) .nil)) [some v, some (.int (n : Nat)), none] = .ok (false, .bl true) := call1 (b := true) (x := v) (by simp only [e_var, List.getElem?_cons_zero]) (h.take _) h.isl
  have h2 : evE (.cmp .eq (.blt .len (.cons (.var 0) .nil)) (.var 1)) [some v, some (.int (n : Nat)), none] = .ok (false, .bl true) := by
    simp only [e_cmp, e_blt, e_cons, e_nil, e_var, List.getElem?_cons_succ, List.getElem?_cons_zero, b_ok, h.blen, ofV_some, vB_bind, fzI, c_eq, hn, decide_true, ofB_some]
    rfl
  obtain ⟨b, hs⟩ := h.seq
  have hi : evI (.seq (.var 0)) [some v, some (.int (n : Nat)), none] = .ok (b, r.map .int) := by
    simp only [i_seq, e_var, List.getElem?_cons_zero, b_ok, hs, ofO_some]
  have hc := e_comp (elt := .call "is_between" 3 m_is_between (.cons (.var 2) (.cons (.int 0) (.cons (.gi "MOST_ENTRY" MX) .nil)))) (tg := .v 2) (cond := .yes) (own := [("one", 2)]) (g := fun _ => some (.bl true)) hi (by rw [List.length_map]; omega) fun x hx => by
    obtain ⟨i, hi, rfl⟩ := List.mem_map.mp hx
    obtain ⟨e0, e1⟩ := he i hi
    refine ⟨[some v, some (.int (n : Nat)), some (.int i)], rfl, .inr ⟨t_yes, (false, .bl true), .bl true, ?_, mov_f _, rfl⟩⟩
    exact call3 (b1 := true) (b2 := false) (b3 := false) (x := .int i) (y := .int 0) (z := .int MX) (by simp only [e_var, List.getElem?_cons_succ, List.getElem?_cons_zero]) e_int (by rw [e_gi]; rfl) (tI _ _) (tI _ _) (tI _ _) (between_eq e0 e1)
  have hc' : evE (.comp (.call "is_between" 3 m_is_between (.cons (.var 2) (.cons (.int 0) (.cons (.gi "MOST_ENTRY" 1000000000000000000000000000000000000000000000000000000000000) .nil)))) (.v 2) (.seq (.var 0)) .yes [("one", 2)]) [some v, some (.int (n : Nat)), none] = _ := hc
  simp only [exS, e_an, e_one, h1, h2, b_ok, e_blt, e_cons, e_nil, hc', all_true (ys := []) (g := fun _ => some (.bl true)) (xs := r.map PV.int) (fun _ _ => rfl), ofV_some, vB_bind]
end K06

set_option Elab.async false
set_option linter.all false
set_option maxRecDepth 100000
set_option maxHeartbeats 4000000
namespace K06
open PySem PySem.Spec PyProof.Rows L2 FS
/-- a table as it may be handed -/
def TabV (v : PV) (rows : List (List Int)) : Prop := v = tabP rows ∨ v = .lst false (rows.map fun r => .lst false (r.map .int))
theorem TabV.rowV {v : PV} {rows : List (List Int)} (h : TabV v rows) : ∃ f : List Int → PV, (∀ r, RowV (f r) r) ∧ (v = .tup (rows.map f) ∨ v = .lst false (rows.map f)) := by
  rcases h with rfl | rfl
  · exact ⟨rowP, fun r => .inl rfl, .inl rfl⟩
  · exact ⟨fun r => .lst false (r.map .int), fun r => .inr rfl, .inr rfl⟩
theorem TabV.fz {v : PV} {rows : List (List Int)} (h : TabV v rows) : v.fz = v := by
  obtain ⟨f, hf, rfl | rfl⟩ := h.rowV
  · rfl
  · simp only [PV.fz]
    rw [fzs_id fun x hx => by
      obtain ⟨r, _, rfl⟩ := List.mem_map.mp hx
      exact (hf r).fz]
theorem TabV.st {v : PV} {rows : List (List Int)} (h : TabV v rows) : v.st = true := by
  rcases h with rfl | rfl <;> rfl
theorem TabV.take {v : PV} {rows : List (List Int)} (h : TabV v rows) (b : Bool) : FS.take (b, v) = some v := takeI b v h.st h.fz
theorem TabV.isl {v : PV} {rows : List (List Int)} (h : TabV v rows) : m_is_list [v] = .ok (.bl true) := by
  refine runF_eq (ρ := [some v]) rfl ?_
  unfold ss_is_list
  simp only [exB]
  refine sq_rt ?_
  rcases h with rfl | rfl <;> simp only [exS, e_isi, e_var, List.getElem?_cons_zero, b_ok, tyName, vB_bind, tabP] <;> rfl
theorem TabV.len {v : PV} {rows : List (List Int)} (h : TabV v rows) {ρ : FS.Loc} {i : Nat} (hi : ρ[i]? = some (some v)) : evE (.blt .len (.cons (.var i) .nil)) ρ = .ok (false, .int (rows.length : Nat)) := by
  obtain ⟨f, hf, rfl | rfl⟩ := h.rowV <;> simp only [e_blt, e_cons, e_nil, e_var, hi, b_ok, bltS, ofV_some, List.length_map] <;> rfl
theorem TabV.seq {v : PV} {rows : List (List Int)} (h : TabV v rows) {ρ : FS.Loc} {i : Nat} (hi : ρ[i]? = some (some v)) : ∃ (b : Bool) (f : List Int → PV), (∀ r, RowV (f r) r) ∧ evI (.seq (.var i)) ρ = .ok (b, rows.map f) := by
  obtain ⟨f, hf, rfl | rfl⟩ := h.rowV
  · exact ⟨true, f, hf, by simp only [i_seq, e_var, hi, b_ok, seqS, shal_t, ofO_some]⟩
  · exact ⟨true, f, hf, by simp only [i_seq, e_var, hi, b_ok, seqS, shal_l, ofO_some, stL]; rfl⟩
structure Sq2 (rows : List (List Int)) (n : Nat) : Prop where
  len : rows.length = n
  row : ∀ r ∈ rows, r.length = n
  ent : ∀ r ∈ rows, ∀ x ∈ r, 0 ≤ x ∧ x ≤ MX
  pos : 1 ≤ n
  few : n ≤ 12
theorem Sq.two {rows : List (List Int)} {n : Nat} (q : Sq rows n) : Sq2 rows n := ⟨q.len, q.row, fun r hr x hx => ⟨(q.ent r hr x hx).1, Int.le_trans (q.ent r hr x hx).2 (by unfold MX; decide)⟩, q.pos, by have := q.few; omega⟩
theorem table_eq {v : PV} {rows : List (List Int)} {n : Nat} (h : TabV v rows) (q : Sq2 rows n) : m_is_table [v] = .ok (.bl true) := by
  have hn := q.few
  have hp := q.pos
  refine runF_eq (ρ := [some v, none]) rfl ?_
  unfold ss_is_table
  simp only [exB]
  have h1 : evE (.call "is_list" 1 m_is_list (.cons (.var 0) .nil)) [some v, none] = .ok (false, .bl true) := call1 (b := true) (x := v) (by simp only [e_var, List.getElem?_cons_zero]) (h.take _) h.isl
  have h2 := h.len (ρ := [some v, none]) (i := 0) rfl
  have h3 : evT (.orr (.nt (.tru (.call "is_list" 1 m_is_list (.cons (.var 0) .nil)))) (.one (.nt (.chn .le .le (.int 1) (.blt .len (.cons (.var 0) .nil)) (.gi "MOST_PLACES" 12))))) [some v, none] = .ok false := by
    simp only [t_orr, t_nt, t_tru, h1, b_ok, truS, ofO_some, t_one, t_chn, e_int, e_gi, h2, vB_bind, fzI, c_le, q.len]
    have a : decide ((1 : Int) ≤ (n : Nat)) = true := decide_eq_true (by omega)
    have b : decide (((n : Nat) : Int) ≤ 12) = true := decide_eq_true (by omega)
    simp only [a, b, ofO_some, b_ok]
    rfl
  obtain ⟨b, f, hf, hi⟩ := h.seq (ρ := [some v, none]) (i := 0) rfl
  have hc := e_comp (elt := .call "is_row_of" 2 m_is_row_of (.cons (.var 1) (.cons (.blt .len (.cons (.var 0) .nil)) .nil))) (tg := .v 1) (cond := .yes) (own := [("row", 1)]) (g := fun _ => some (.bl true)) hi (by rw [List.length_map, q.len]; omega) fun x hx => by
    obtain ⟨r, hr, rfl⟩ := List.mem_map.mp hx
    refine ⟨[some v, some (f r)], rfl, .inr ⟨t_yes, (false, .bl true), .bl true, ?_, mov_f _, rfl⟩⟩
    exact call2 (b1 := true) (b2 := false) (x := f r) (y := .int (n : Nat)) (by simp only [e_var, List.getElem?_cons_succ, List.getElem?_cons_zero]) (by rw [h.len (ρ := [some v, some (f r)]) (i := 0) rfl, q.len]) ((hf r).take _) (tI _ _) (rowof_eq (hf r) (q.row r hr) hn (q.ent r hr))
  refine (sq_nx (ρ' := [some v, none]) ?_).trans (sq_rt ?_)
  · rw [x_ite h3]
    simp [exB]
  · simp only [exS, e_blt, e_cons, e_nil, hc, b_ok, all_true (ys := []) (g := fun _ => some (.bl true)) (xs := rows.map f) (fun _ _ => rfl), ofV_some, vB_bind]
/-! ### as_tuples -/
theorem tupled_int (d : Nat) (i : Int) : m_as_tuples (d + 1) [.int i] = .ok (.int i) := by
  refine runF_eq (ρ := [some (.int i), none]) rfl ?_
  unfold ss_as_tuples
  simp only [exB]
  have h1 : evT (.tru (.isi (.var 0) ["list", "tuple"])) [some (.int i), none] = .ok false := by
    simp only [t_tru, e_isi, e_var, List.getElem?_cons_zero, b_ok, tyName, vB_bind]
    rfl
  refine (sq_nx (ρ' := [some (.int i), none]) ?_).trans (sq_rt ?_)
  · rw [x_ite h1]
    simp [exB]
  · simp only [exS, e_var, List.getElem?_cons_zero, b_ok]
theorem tupled_seq {d : Nat} {v : PV} {xs ys : List PV} {g : PV → PV} (hv : v = .tup xs ∨ v = .lst false xs) (hl : xs.length < 1000000) (hx : ∀ x ∈ xs, FS.take (true, x) = some x ∧ m_as_tuples d [x] = .ok (g x) ∧ (g x).fz = g x) : m_as_tuples (d + 1) [v] = .ok (.tup (xs.map g)) := by
  refine runF_eq (ρ := [some v, none]) rfl ?_
  unfold ss_as_tuples
  simp only [exB]
  have h1 : evT (.tru (.isi (.var 0) ["list", "tuple"])) [some v, none] = .ok true := by
    rcases hv with rfl | rfl <;> simp only [t_tru, e_isi, e_var, List.getElem?_cons_zero, b_ok, tyName, vB_bind] <;> rfl
  have hi : ∃ b, evI (.seq (.var 0)) [some v, none] = .ok (b, xs) := by
    rcases hv with rfl | rfl
    · exact ⟨true, by simp only [i_seq, e_var, List.getElem?_cons_zero, b_ok, seqS, shal_t, ofO_some]⟩
    · exact ⟨true, by simp only [i_seq, e_var, List.getElem?_cons_zero, b_ok, seqS, shal_l, ofO_some]; rfl⟩
  obtain ⟨b, hi⟩ := hi
  have hc := e_comp (elt := .call "as_tuples" 1 (m_as_tuples d) (.cons (.var 1) .nil)) (tg := .v 1) (cond := .yes) (own := [("one", 1)]) (g := fun x => some (g x)) hi hl fun x hm => by
    obtain ⟨a1, a2, a3⟩ := hx x hm
    exact ⟨[some v, some x], rfl, .inr ⟨t_yes, (false, g x), g x, call1 (b := true) (x := x) (by simp only [e_var, List.getElem?_cons_succ, List.getElem?_cons_zero]) a1 a2, mov_f _, rfl⟩⟩
  have e : xs.filterMap (fun x => some (g x)) = xs.map g := by
    rw [List.filterMap_eq_map']
  refine sq_rt ?_
  rw [x_ite h1]
  simp only [if_true, exB]
  refine sq_rt ?_
  have hz : PV.fzs (xs.map g) = xs.map g := fzs_id fun y hy => by
    obtain ⟨x, hm, rfl⟩ := List.mem_map.mp hy
    exact (hx x hm).2.2
  simp only [exS, e_blt, e_cons, e_nil, hc, b_ok, bltS, shal_f, PV.fz, e, hz, ofV_some, vB_bind]
theorem tupled_row {d : Nat} {v : PV} {r : List Int} (h : RowV v r) (hl : r.length ≤ 100) : m_as_tuples (d + 2) [v] = .ok (rowP r) := by
  have := tupled_seq (d := d + 1) (v := v) (xs := r.map .int) (ys := []) (g := fun x => x) h (by rw [List.length_map]; omega) fun x hx => by
    obtain ⟨i, _, rfl⟩ := List.mem_map.mp hx
    exact ⟨tI _ _, tupled_int d i, rfl⟩
  rw [List.map_id'] at this
  exact this
theorem tupled_tab {v : PV} {rows : List (List Int)} {n : Nat} (h : TabV v rows) (q : Sq2 rows n) : m_as_tuples 4 [v] = .ok (tabP rows) := by
  have hn := q.few
  obtain ⟨f, hf, hv⟩ := h.rowV
  have key : ∀ r ∈ rows, FS.take (true, f r) = some (f r) ∧ m_as_tuples 3 [f r] = .ok (rowP r) := fun r hr => ⟨(hf r).take _, tupled_row (d := 1) (hf r) (by rw [q.row r hr]; omega)⟩
  -- what a row becomes
  let g : PV → PV := fun x => match x with
    | .lst _ xs => .tup xs
    | x => x
  have hg : ∀ r, g (f r) = rowP r := fun r => by
    rcases hf r with e | e <;> rw [e] <;> rfl
  have := tupled_seq (d := 3) (v := v) (xs := rows.map f) (ys := []) (g := g) hv (by rw [List.length_map, q.len]; omega) fun x hx => by
    obtain ⟨r, hr, rfl⟩ := List.mem_map.mp hx
    obtain ⟨a1, a2⟩ := key r hr
    exact ⟨a1, by rw [hg]; exact a2, by rw [hg]; rfl⟩
  rw [this, List.map_map]
  congr 2
  exact List.map_congr_left fun r _ => hg r
theorem need_eq {v : PV} {rows : List (List Int)} {n : Nat} {w : Str} (h : TabV v rows) (q : Sq2 rows n) : m_need_table [v, .str w] = .ok (tabP rows) := by
  refine runF_eq (ρ := [some v, some (.str w)]) rfl ?_
  unfold ss_need_table
  simp only [exB]
  have h1 : evT (.nt (.tru (.call "is_table" 1 m_is_table (.cons (.var 0) .nil)))) [some v, some (.str w)] = .ok false := by
    have := call1 (f := "is_table") (m := m_is_table) (e := .var 0) (ρ := [some v, some (.str w)]) (b := true) (x := v) (by simp only [e_var, List.getElem?_cons_zero]) (h.take _) (table_eq h q)
    simp only [t_nt, t_tru, this, b_ok, truS, ofO_some]
    rfl
  refine (sq_nx (ρ' := [some v, some (.str w)]) ?_).trans (sq_rt ?_)
  · rw [x_ite h1]
    simp [exB]
  · have := call1 (f := "as_tuples") (m := m_as_tuples 4) (e := .var 0) (ρ := [some v, some (.str w)]) (b := true) (x := v) (by simp only [e_var, List.getElem?_cons_zero]) (h.take _) (tupled_tab h q)
    simp only [exS, this, b_ok]
end K06

set_option Elab.async false
set_option linter.all false
set_option maxRecDepth 100000
set_option maxHeartbeats 4000000
namespace K06
open PySem PySem.Spec PyProof.Rows L2 FS
/-! ### rooms_by -/
section
variable {rows : List (List Int)} {n : Nat}
noncomputable def scP (rows : List (List Int)) (n p : Nat) : PV := .tup (natsP (SC (Ed rows) n p))
noncomputable def rmsP (rows : List (List Int)) (n : Nat) : List PV := (hds (Ed rows) n).map (scP rows n)
/-- the dicts of all places -/
structure Rch (rows : List (List Int)) (n : Nat) (K : Nat → List Nat) (V : Nat → List PV) : Prop where
  eq : ∀ p, p < n → m_walks_from [tabP rows, .int (p : Nat)] = .ok (.dct true false (natsP (K p)) (V p))
  vs : ∀ p, p < n → Vs (K p) (V p)
  mem : ∀ p, p < n → ∀ k, k ∈ K p ↔ k ∈ rl (Ed rows) n p
theorem rch (q : Sq rows n) : ∃ K V, Rch rows n K V := by
  have h : ∀ p, ∃ kv : List Nat × List PV, p < n → m_walks_from [tabP rows, .int (p : Nat)] = .ok (.dct true false (natsP kv.1) kv.2) ∧ Vs kv.1 kv.2 ∧ ∀ k, k ∈ kv.1 ↔ k ∈ rl (Ed rows) n p := fun p => by
    by_cases hp : p < n
    · obtain ⟨ks, vs, a, b, _, d⟩ := walks_eq q hp
      exact ⟨(ks, vs), fun _ => ⟨a, b, d⟩⟩
    · exact ⟨([], []), fun h => absurd h hp⟩
  obtain ⟨f, hf⟩ := Classical.skolem.mp h
  exact ⟨fun p => (f p).1, fun p => (f p).2, fun p hp => (hf p hp).1, fun p hp => (hf p hp).2.1, fun p hp => (hf p hp).2.2⟩
abbrev rcP (n : Nat) (K : Nat → List Nat) (V : Nat → List PV) : List PV := (List.range n).map fun p => .dct true false (natsP (K p)) (V p)
theorem sub_rc {K : Nat → List Nat} {V : Nat → List PV} {p : Nat} (hp : p < n) : subS (.lst true (rcP n K V)) (.int (p : Nat)) = some (.dct true false (natsP (K p)) (V p)) := by
  show atI (rcP n K V) (p : Int) = _
  rw [atI_nat (by simpa using hp)]
  simp [hp]
abbrev rS (rows : List (List Int)) (n : Nat) (K : Nat → List Nat) (V : Nat → List PV) (x2 : Option PV) (fd : List PV) (sn : List Nat) (x5 x6 : Option PV) : FS.Loc := [some (tabP rows), some (.lst true (rcP n K V)), x2, some (.lst true fd), some (.dct true false (natsP sn) (sn.map fun _ => .bl true)), x5, x6]
open Classical in
def rI (rows : List (List Int)) (n : Nat) (K : Nat → List Nat) (V : Nat → List PV) (i : Nat) (ρ : FS.Loc) : Prop := ∃ x2 sn x5 x6, ρ = rS rows n K V x2 (((List.range i).filter fun p => decide (Hd (Ed rows) p)).map (scP rows n)) sn x5 x6 ∧ sn.Nodup ∧ ∀ k, k ∈ sn ↔ ∃ h, h < i ∧ h < n ∧ Hd (Ed rows) h ∧ k ∈ SC (Ed rows) n h
def rB2 : Ss := .cons (.dput 4 (.var 6) (.bl true)) .nil
def rCo : Ex := .comp (.var 6) (.v 6) (.rng (.blt .len (.cons (.var 0) .nil))) (.an (.cmp .in_ (.var 6) (.sub (.var 1) (.var 2))) (.one (.cmp .in_ (.var 2) (.sub (.var 1) (.var 6))))) [("one", 6)]
def rB1 : Ss := .cons (.set 5 rCo) (.cons (.app 3 (.blt .tuple (.cons (.var 5) .nil))) (.frz 5 (.cons (.fr (.v 6) (.seq (.var 5)) rB2) .nil)))
def rC : Te := .an (.cmp .in_ (.var 2) (.sub (.var 1) (.var 2))) (.one (.cmp .notin (.var 2) (.var 4)))
def rW : Ex := .comp (.call "walks_from" 2 m_walks_from (.cons (.var 0) (.cons (.var 2) .nil))) (.v 2) (.rng (.blt .len (.cons (.var 0) .nil))) .yes [("place", 2)]
theorem ss_roomsby : ss_rooms_by = .cons (.set 1 rW) (.cons (.par2 3 4 (.cons (.lst .nil) (.cons (.dnew false) .nil))) (.cons (.fr (.v 2) (.rng (.blt .len (.cons (.var 0) .nil))) (.cons (.ite rC rB1 .nil) .nil)) (.cons (.ret (.blt .tuple (.cons (.var 3) .nil))) .nil))) := rfl
theorem rW_eq (q : Sq rows n) {K : Nat → List Nat} {V : Nat → List PV} (R : Rch rows n K V) : evE rW [some (tabP rows), none, none, none, none, none, none] = .ok (false, .lst true (rcP n K V)) := by
  have hn := q.few
  refine (e_comp (g := fun x => match x with | .int k => some (.dct true false (natsP (K k.toNat)) (V k.toNat)) | _ => none) (i_range q.few ⟨false, e_len q rfl⟩) (by rw [nats_len, List.length_range]; omega) fun x hx => ?_).trans ?_
  · obtain ⟨p, hp, rfl⟩ := List.mem_map.mp hx
    rw [List.mem_range] at hp
    exact ⟨[some (tabP rows), none, some (.int (p : Nat)), none, none, none, none], rfl, .inr ⟨t_yes, (false, _), .dct true false (natsP (K p)) (V p), call2 (b1 := true) (b2 := true) (x := tabP rows) (y := .int (p : Nat)) (by simp only [e_var, List.getElem?_cons_zero]) (by simp only [e_var, List.getElem?_cons_succ, List.getElem?_cons_zero]) (tTab _ _) (tI _ _) (R.eq p hp), mov_f _, by simp⟩⟩
  · have e : (natsP (List.range n)).filterMap (fun x => match x with | .int k => some (PV.dct true false (natsP (K k.toNat)) (V k.toNat)) | _ => none) = rcP n K V := by
      unfold natsP
      rw [List.filterMap_map]
      show (List.range n).filterMap (fun p => some (PV.dct true false (natsP (K p)) (V p))) = _
      rw [List.filterMap_eq_map']
    rw [e]
theorem SC_of {K : Nat → List Nat} {V : Nat → List PV} (R : Rch rows n K V) {p : Nat} (hp : p < n) : (List.range n).filter (fun k => decide (k ∈ K p) && decide (p ∈ K k)) = SC (Ed rows) n p := by
  unfold SC
  refine List.filter_congr fun k hk => ?_
  rw [List.mem_range] at hk
  have h1 : k ∈ K p ↔ Rc (Ed rows) p k := by rw [R.mem p hp, mem_rl]; exact ⟨fun h => h.2, fun h => ⟨hk, h⟩⟩
  have h2 : p ∈ K k ↔ Rc (Ed rows) k p := by rw [R.mem k hk, mem_rl]; exact ⟨fun h => h.2, fun h => ⟨hp, h⟩⟩
  rw [Bool.eq_iff_iff]
  simp only [Bool.and_eq_true, decide_eq_true_eq, h1, h2]
theorem rCo_eq (q : Sq rows n) {K : Nat → List Nat} {V : Nat → List PV} (R : Rch rows n K V) {p : Nat} (hp : p < n) {fd : List PV} {sn : List Nat} {x5 x6 : Option PV} : evE rCo (rS rows n K V (some (.int (p : Nat))) fd sn x5 x6) = .ok (false, .lst true (natsP (SC (Ed rows) n p))) := by
  have hn := q.few
  refine (e_comp (g := fun x => match x with | .int k => if (decide (k.toNat ∈ K p) && decide (p ∈ K k.toNat)) = true then some (.int k) else none | _ => none) (i_range q.few ⟨false, e_len q rfl⟩) (by rw [nats_len, List.length_range]; omega) fun x hx => ?_).trans ?_
  · obtain ⟨k, hk, rfl⟩ := List.mem_map.mp hx
    rw [List.mem_range] at hk
    refine ⟨rS rows n K V (some (.int (p : Nat))) fd sn x5 (some (.int (k : Nat))), rfl, ?_⟩
    have s1 : evE (.sub (.var 1) (.var 2)) (rS rows n K V (some (.int (p : Nat))) fd sn x5 (some (.int (k : Nat)))) = .ok (true, .dct true false (natsP (K p)) (V p)) := by
      simp only [e_sub, e_var, rS, List.getElem?_cons_succ, List.getElem?_cons_zero, b_ok, fzI, sub_rc hp, if_true]
    have s2 : evE (.sub (.var 1) (.var 6)) (rS rows n K V (some (.int (p : Nat))) fd sn x5 (some (.int (k : Nat)))) = .ok (true, .dct true false (natsP (K k)) (V k)) := by
      simp only [e_sub, e_var, rS, List.getElem?_cons_succ, List.getElem?_cons_zero, b_ok, fzI, sub_rc hk, if_true]
    have t1 : evT (.cmp .in_ (.var 6) (.sub (.var 1) (.var 2))) (rS rows n K V (some (.int (p : Nat))) fd sn x5 (some (.int (k : Nat)))) = .ok (decide (k ∈ K p)) := t_in (by simp only [rS, List.getElem?_cons_succ, List.getElem?_cons_zero]) s1 (R.vs p hp).len (R.vs p hp).fzs
    have t2 : evT (.cmp .in_ (.var 2) (.sub (.var 1) (.var 6))) (rS rows n K V (some (.int (p : Nat))) fd sn x5 (some (.int (k : Nat)))) = .ok (decide (p ∈ K k)) := t_in (by simp only [rS, List.getElem?_cons_succ, List.getElem?_cons_zero]) s2 (R.vs k hk).len (R.vs k hk).fzs
    have t3 : evT (.an (.cmp .in_ (.var 6) (.sub (.var 1) (.var 2))) (.one (.cmp .in_ (.var 2) (.sub (.var 1) (.var 6))))) (rS rows n K V (some (.int (p : Nat))) fd sn x5 (some (.int (k : Nat)))) = .ok (decide (k ∈ K p) && decide (p ∈ K k)) := by
      simp only [t_an, t1, b_ok, t_one, t2]
      by_cases h : k ∈ K p <;> simp [h]
    by_cases hb : (decide (k ∈ K p) && decide (p ∈ K k)) = true
    · exact .inr ⟨by rw [t3, hb], (true, .int (k : Nat)), .int (k : Nat), by simp only [e_var, rS, List.getElem?_cons_succ, List.getElem?_cons_zero], movI _ _ (stI _), by simpa using hb⟩
    · exact .inl ⟨by rw [t3, Bool.eq_false_iff.mpr hb], by simpa using hb⟩
  · rw [filterMap_nats (P := fun k => decide (k ∈ K p) && decide (p ∈ K k)) fun k _ => by simp, SC_of R hp]
end
end K06

set_option Elab.async false
set_option linter.all false
set_option maxRecDepth 100000
set_option maxHeartbeats 4000000
namespace K06
open PySem PySem.Spec PyProof.Rows L2 FS
open Classical
section
variable {rows : List (List Int)} {n : Nat} {K : Nat → List Nat} {V : Nat → List PV}
theorem SC_nodup {p : Nat} : (SC (Ed rows) n p).Nodup := List.nodup_range.filter _
theorem SC_len {p : Nat} : (SC (Ed rows) n p).length ≤ n := len_le n _ SC_nodup fun x hx => (mem_SC.mp hx).1
/-- seen[one] = True for all of a room -/
theorem loopS (l : List Nat) (hl : l.Nodup) {x2 x5 x6 : Option PV} {fd : List PV} {sn : List Nat} (hd : ∀ k ∈ l, k ∉ sn) (hs : sn.length + l.length < 1000) : ∃ y, forL (.v 6) (exB rB2) (natsP l) (rS rows n K V x2 fd sn x5 x6) = .ok (.nx (rS rows n K V x2 fd (sn ++ l) x5 y)) := by
  induction l generalizing sn x6 with
  | nil => exact ⟨x6, by simp only [natsP, List.map_nil, forL, List.append_nil]⟩
  | cons k l ih =>
    have hk : k ∉ sn := hd k List.mem_cons_self
    have h1 : exB rB2 (rS rows n K V x2 fd sn x5 (some (.int (k : Nat)))) = .ok (.nx (rS rows n K V x2 fd (sn ++ [k]) x5 (some (.int (k : Nat))))) := by
      unfold rB2
      simp only [exB]
      refine (sq_nx (ρ' := rS rows n K V x2 fd (sn ++ [k]) x5 (some (.int (k : Nat)))) ?_).trans rfl
      refine (x_dput (b := true) (k := k) (y := .bl true) (r := (false, .bl true)) (ks := sn) (vs := sn.map fun _ => .bl true) (by simp only [rS, List.getElem?_cons_succ, List.getElem?_cons_zero]) (by simp only [e_var, rS, List.getElem?_cons_succ, List.getElem?_cons_zero]) (by rw [e_bl]; rfl) rfl hk (by simp at hs; omega)).trans ?_
      simp only [rS, List.set_cons_succ, List.set_cons_zero, List.map_append, List.map_cons, List.map_nil]
    obtain ⟨y, h2⟩ := ih (List.nodup_cons.mp hl).2 (x6 := some (.int (k : Nat))) (sn := sn ++ [k]) (fun j hj hm => by
      rcases List.mem_append.mp hm with z | z
      · exact hd j (List.mem_cons_of_mem _ hj) z
      · rw [List.mem_singleton.mp z] at hj
        exact (List.nodup_cons.mp hl).1 hj) (by simp at hs ⊢; omega)
    refine ⟨y, ?_⟩
    have e : bindTg (.v 6) (.int (k : Nat)) (rS rows n K V x2 fd sn x5 x6) = some (rS rows n K V x2 fd sn x5 (some (.int (k : Nat)))) := by
      simp only [bindTg, rS, List.set_cons_succ, List.set_cons_zero]
    rw [show natsP (k :: l) = .int (k : Nat) :: natsP l from rfl]
    simp only [forL, e, h1, b_ok, loopK]
    rw [h2, List.append_assoc]
    rfl
theorem range_filter_succ {P : Nat → Bool} (i : Nat) : (List.range (i + 1)).filter P = (List.range i).filter P ++ if P i then [i] else [] := by
  rw [List.range_succ, List.filter_append]
  by_cases h : P i = true
  · rw [List.filter_cons_of_pos h, if_pos h]
    rfl
  · rw [List.filter_cons_of_neg h, if_neg h]
    rfl
theorem rooms_step (q : Sq rows n) (R : Rch rows n K V) (p : Nat) (hp : p < n) (ρ : FS.Loc) (hI : rI rows n K V p ρ) : ∃ ρ1 ρ2, bindTg (.v 2) (.int (p : Nat)) ρ = some ρ1 ∧ exB (.cons (.ite rC rB1 .nil) .nil) ρ1 = .ok (.nx ρ2) ∧ rI rows n K V (p + 1) ρ2 := by
  obtain ⟨x2, sn, x5, x6, rfl, nd, hsn⟩ := hI
  have hn := q.few
  have snl : sn.length ≤ n := len_le n sn nd fun x hx => by
    obtain ⟨h, _, _, _, hm⟩ := (hsn x).mp hx
    exact (mem_SC.mp hm).1
  generalize hfd : ((List.range p).filter fun p => decide (Hd (Ed rows) p)).map (scP rows n) = fd
  have fdl : fd.length ≤ p := by
    rw [← hfd, List.length_map]
    exact Nat.le_trans (List.length_filter_le _ _) (by simp)
  refine ⟨rS rows n K V (some (.int (p : Nat))) fd sn x5 x6, ?_⟩
  have hb : bindTg (.v 2) (.int (p : Nat)) (rS rows n K V x2 fd sn x5 x6) = some (rS rows n K V (some (.int (p : Nat))) fd sn x5 x6) := by
    simp only [bindTg, rS, List.set_cons_succ, List.set_cons_zero]
  have s1 : evE (.sub (.var 1) (.var 2)) (rS rows n K V (some (.int (p : Nat))) fd sn x5 x6) = .ok (true, .dct true false (natsP (K p)) (V p)) := by
    simp only [e_sub, e_var, rS, List.getElem?_cons_succ, List.getElem?_cons_zero, b_ok, fzI, sub_rc hp, if_true]
  have t1 : evT (.cmp .in_ (.var 2) (.sub (.var 1) (.var 2))) (rS rows n K V (some (.int (p : Nat))) fd sn x5 x6) = .ok (decide (p ∈ K p)) := t_in (by simp only [rS, List.getElem?_cons_succ, List.getElem?_cons_zero]) s1 (R.vs p hp).len (R.vs p hp).fzs
  have t2 : evT (.cmp .notin (.var 2) (.var 4)) (rS rows n K V (some (.int (p : Nat))) fd sn x5 x6) = .ok (!decide (p ∈ sn)) := t_notin (o := true) (ks := sn) (vs := sn.map fun _ => .bl true) (by simp only [rS, List.getElem?_cons_succ, List.getElem?_cons_zero]) (by simp only [rS, List.getElem?_cons_succ, List.getElem?_cons_zero]) (by simp) (fzs_bl sn)
  have hK : p ∈ K p ↔ Rc (Ed rows) p p := by rw [R.mem p hp, mem_rl]; exact ⟨fun h => h.2, fun h => ⟨hp, h⟩⟩
  have hiff : Hd (Ed rows) p ↔ (p ∈ K p ∧ p ∉ sn) := by
    rw [Hd_iff hp, hK]
    refine and_congr_right fun _ => ?_
    constructor
    · intro h hm
      obtain ⟨r, h1, h2, h3, h4⟩ := (hsn p).mp hm
      exact h r h1 h3 h4
    · exact fun h r h1 h2 h3 => h ((hsn p).mpr ⟨r, h1, by omega, h2, h3⟩)
  have t3 : evT rC (rS rows n K V (some (.int (p : Nat))) fd sn x5 x6) = .ok (decide (Hd (Ed rows) p)) := by
    unfold rC
    simp only [t_an, t1, b_ok, t_one, t2]
    by_cases h1 : p ∈ K p <;> by_cases h2 : p ∈ sn <;> simp [h1, h2, hiff]
  by_cases hh : Hd (Ed rows) p
  · have hset : exS (.set 5 rCo) (rS rows n K V (some (.int (p : Nat))) fd sn x5 x6) = .ok (.nx (rS rows n K V (some (.int (p : Nat))) fd sn (some (.lst true (natsP (SC (Ed rows) n p)))) x6)) := by
      refine (x_set (rCo_eq q R hp) (mov_f _)).trans ?_
      simp only [rS, List.set_cons_succ, List.set_cons_zero]
    have happ : exS (.app 3 (.blt .tuple (.cons (.var 5) .nil))) (rS rows n K V (some (.int (p : Nat))) fd sn (some (.lst true (natsP (SC (Ed rows) n p)))) x6) = .ok (.nx (rS rows n K V (some (.int (p : Nat))) (fd ++ [scP rows n p]) sn (some (.lst true (natsP (SC (Ed rows) n p)))) x6)) := by
      refine (x_app (xs := fd) (r := (false, scP rows n p)) (y := scP rows n p) (by simp only [rS, List.getElem?_cons_succ, List.getElem?_cons_zero]) ?_ (mov_f _) (by omega)).trans ?_
      · simp only [e_blt, e_cons, e_nil, e_var, rS, List.getElem?_cons_succ, List.getElem?_cons_zero, b_ok, bltS, shal_o _ (st_nats _), ofV_some]
        rfl
      · simp only [rS, List.set_cons_succ, List.set_cons_zero]
    have hfrz : frzL 5 (rS rows n K V (some (.int (p : Nat))) (fd ++ [scP rows n p]) sn (some (.lst true (natsP (SC (Ed rows) n p)))) x6) = .ok (.nx (rS rows n K V (some (.int (p : Nat))) (fd ++ [scP rows n p]) sn (some (.lst false (natsP (SC (Ed rows) n p)))) x6)) := by
      simp only [frzL, rS, List.getElem?_cons_succ, List.getElem?_cons_zero, PV.fz, fzs_nats, List.set_cons_succ, List.set_cons_zero]
    have hdis : ∀ k ∈ SC (Ed rows) n p, k ∉ sn := fun k hk hm => by
      obtain ⟨r, h1, h2, h3, h4⟩ := (hsn k).mp hm
      obtain ⟨_, a1, a2⟩ := mem_SC.mp hk
      obtain ⟨_, b1, b2⟩ := mem_SC.mp h4
      exact hh.2 r h1 ⟨a1.trans b2, b1.trans a2⟩
    have scl : (SC (Ed rows) n p).length ≤ n := SC_len
    obtain ⟨y, hfor⟩ := loopS (rows := rows) (n := n) (K := K) (V := V) (SC (Ed rows) n p) SC_nodup (x2 := some (.int (p : Nat))) (x5 := some (.lst false (natsP (SC (Ed rows) n p)))) (x6 := x6) (fd := fd ++ [scP rows n p]) hdis (by omega)
    refine ⟨rS rows n K V (some (.int (p : Nat))) (fd ++ [scP rows n p]) (sn ++ SC (Ed rows) n p) (some (.lst false (natsP (SC (Ed rows) n p)))) y, hb, ?_, some (.int (p : Nat)), sn ++ SC (Ed rows) n p, some (.lst false (natsP (SC (Ed rows) n p))), y, ?_, ?_, fun k => ?_⟩
    · simp only [exB]
      refine (sq_nx (ρ' := rS rows n K V (some (.int (p : Nat))) (fd ++ [scP rows n p]) (sn ++ SC (Ed rows) n p) (some (.lst false (natsP (SC (Ed rows) n p)))) y) ?_).trans rfl
      rw [x_ite t3, decide_eq_true hh, if_pos rfl]
      unfold rB1
      simp only [exB]
      refine (sq_nx hset).trans ((sq_nx happ).trans ((sq_nx hfrz).trans ((sq_nx ?_).trans rfl)))
      have hi : evI (.seq (.var 5)) (rS rows n K V (some (.int (p : Nat))) (fd ++ [scP rows n p]) sn (some (.lst false (natsP (SC (Ed rows) n p)))) x6) = .ok (true, natsP (SC (Ed rows) n p)) := by
        simp only [i_seq, e_var, rS, List.getElem?_cons_succ, List.getElem?_cons_zero, b_ok, seqS, shal_l, ofO_some, stL]
        rfl
      simp only [exS, forF, hi, b_ok, if_true]
      exact hfor
    · rw [range_filter_succ, if_pos (decide_eq_true hh), List.map_append, hfd]
      rfl
    · rw [List.nodup_append]
      exact ⟨nd, SC_nodup, fun a ha b hb z => hdis b hb (z ▸ ha)⟩
    · rw [List.mem_append, hsn]
      constructor
      · rintro (⟨r, h1, h2, h3, h4⟩ | h)
        · exact ⟨r, by omega, h2, h3, h4⟩
        · exact ⟨p, by omega, hp, hh, h⟩
      · rintro ⟨r, h1, h2, h3, h4⟩
        rcases Nat.lt_or_ge r p with z | z
        · exact .inl ⟨r, z, h2, h3, h4⟩
        · have : r = p := by omega
          subst this
          exact .inr h4
  · refine ⟨rS rows n K V (some (.int (p : Nat))) fd sn x5 x6, hb, ?_, some (.int (p : Nat)), sn, x5, x6, ?_, nd, fun k => ?_⟩
    · simp only [exB]
      refine (sq_nx (ρ' := rS rows n K V (some (.int (p : Nat))) fd sn x5 x6) ?_).trans rfl
      rw [x_ite t3, decide_eq_false hh, if_neg (by simp)]
      simp only [exB]
    · rw [range_filter_succ, if_neg (by simpa using hh), List.append_nil, hfd]
    · rw [hsn]
      constructor
      · rintro ⟨r, h1, h2, h3, h4⟩
        exact ⟨r, by omega, h2, h3, h4⟩
      · rintro ⟨r, h1, h2, h3, h4⟩
        rcases Nat.lt_or_ge r p with z | z
        · exact ⟨r, z, h2, h3, h4⟩
        · have : r = p := by omega
          subst this
          exact absurd h3 hh
theorem rmsP_st : (rmsP rows n).all PV.st = true := by
  rw [List.all_eq_true]
  intro x hx
  obtain ⟨k, _, rfl⟩ := List.mem_map.mp hx
  rfl
theorem rmsP_fz : PV.fzs (rmsP rows n) = rmsP rows n := fzs_id fun x hx => by
  obtain ⟨k, _, rfl⟩ := List.mem_map.mp hx
  rfl
theorem roomsby_eq (q : Sq rows n) : m_rooms_by [tabP rows] = .ok (.tup (rmsP rows n)) := by
  obtain ⟨K, V, R⟩ := rch q
  have hn := q.few
  have s1 : exS (.set 1 rW) [some (tabP rows), none, none, none, none, none, none] = .ok (.nx [some (tabP rows), some (.lst true (rcP n K V)), none, none, none, none, none]) := by
    refine (x_set (rW_eq q R) (mov_f _)).trans ?_
    simp only [List.set_cons_succ, List.set_cons_zero]
  have s2 : exS (.par2 3 4 (.cons (.lst .nil) (.cons (.dnew false) .nil))) [some (tabP rows), some (.lst true (rcP n K V)), none, none, none, none, none] = .ok (.nx (rS rows n K V none [] [] none none)) := by
    have hls : evE (.lst .nil) [some (tabP rows), some (.lst true (rcP n K V)), none, none, none, none, none] = .ok (false, .lst true []) := by
      simp only [e_lst, e_nil, b_ok, movs]
      rw [if_pos (by simp)]
      rfl
    refine (x_par2 (u := .lst true []) (v := .dct true false [] []) (rs := [(false, .lst true []), (false, .dct true false [] [])]) (by simp only [e_cons, e_nil, e_dnew, hls, vB_bind, b_ok]) (by simp only [movs, mov_f])).trans ?_
    simp only [rS, List.set_cons_succ, List.set_cons_zero, natsP, List.map_nil]
  obtain ⟨ρ', e, hI⟩ := forL_eq (t := .v 2) (b := exB (.cons (.ite rC rB1 .nil) .nil)) (rI rows n K V) (natsP (List.range n)) 0 (rS rows n K V none [] [] none none) ⟨none, [], none, none, by simp, List.nodup_nil, fun k => ⟨fun h => by simp at h, fun ⟨h, h1, _⟩ => by omega⟩⟩ fun j x ρ hx hI => by
    rw [natsP, List.getElem?_map, Option.map_eq_some_iff] at hx
    obtain ⟨p, hpj, rfl⟩ := hx
    have hj : j < n := by
      have := (List.getElem?_eq_some_iff.mp hpj).1
      simpa using this
    have : p = j := by
      rw [List.getElem?_range hj] at hpj
      exact (Option.some.inj hpj).symm
    subst this
    rw [Nat.zero_add] at hI ⊢
    exact rooms_step q R p hj ρ hI
  obtain ⟨x2, sn, x5, x6, rfl, _, _⟩ := hI
  have efd : ((List.range (0 + (natsP (List.range n)).length)).filter fun p => decide (Hd (Ed rows) p)).map (scP rows n) = rmsP rows n := by
    rw [nats_len, List.length_range, Nat.zero_add]
    rfl
  rw [efd] at e
  refine runF_eq (ρ := [some (tabP rows), none, none, none, none, none, none]) rfl ?_
  rw [ss_roomsby]
  simp only [exB]
  refine (sq_nx s1).trans ((sq_nx s2).trans ((sq_nx (ρ' := rS rows n K V x2 (rmsP rows n) sn x5 x6) ?_).trans (sq_rt ?_)))
  · have hi := i_range (ρ := rS rows n K V none [] [] none none) q.few ⟨false, e_len (ip := 0) q rfl⟩
    simp only [exS, forF, hi, b_ok, if_true]
    exact e
  · simp only [exS, e_blt, e_cons, e_nil, e_var, rS, List.getElem?_cons_succ, List.getElem?_cons_zero, b_ok, bltS, shal_o _ rmsP_st, ofV_some, vB_bind]
end
end K06

set_option Elab.async false
set_option linter.all false
set_option maxRecDepth 100000
set_option maxHeartbeats 4000000
namespace K06
open PySem PySem.Spec PyProof.Rows L2 FS
open Classical
section
variable {rows : List (List Int)} {n : Nat}
theorem rooms_eq {v : PV} (h : TabV v rows) (q : Sq rows n) : m_rooms [v] = .ok (.tup (rmsP rows n)) := by
  refine runF_eq (ρ := [some v]) rfl ?_
  unfold ss_rooms
  simp only [exB]
  refine sq_rt ?_
  have h1 : evE (.call "need_table" 2 m_need_table (.cons (.var 0) (.cons (.str "table") .nil))) [some v] = .ok (false, tabP rows) := call2 (b1 := true) (b2 := false) (x := v) (y := .str "table") (by simp only [e_var, List.getElem?_cons_zero]) e_str (h.take _) (tS _ _) (need_eq h q.two)
  have h2 := call1 (f := "rooms_by") (m := m_rooms_by) (ρ := [some v]) h1 (tTab _ _) (roomsby_eq q)
  simp only [exS, h2, b_ok]
theorem eqv_int (a b : Int) : PyData.eqv (.int a) (.int b) = decide (a = b) := by
  simp [PyData.eqv]
  try rfl
theorem c_inl (p : Nat) (is : List Nat) : cmpS .in_ (.int (p : Nat)) (.lst false (natsP is)) = some (decide (p ∈ is)) := by
  have h1 : PV.sdata (.int (p : Nat)) = some (.int (p : Nat)) := by simp [PV.sdata, PV.data, PyData.depth]
  have h2 : PV.sdata (.lst false (natsP is)) = some (.list (is.map fun k => PyData.int (k : Nat))) := by simp [PV.sdata, PV.data, dat_nats, PyData.depth, dep_nats]
  have key : ∀ is : List Nat, ((is.map fun k => PyData.int (k : Nat)).any fun z => PyData.eqv z (.int (p : Nat))) = decide (p ∈ is) := by
    intro is
    induction is with
    | nil => rfl
    | cons k is ih =>
      simp only [List.map_cons, List.any_cons, eqv_int, ih, List.mem_cons]
      by_cases e : p = k
      · subst e
        simp
      · have e' : ((k : Nat) : Int) ≠ (p : Nat) := by omega
        simp [e, e']
  simp only [cmpS, h1, h2, key]
theorem c_net (l : List Nat) : cmpS .ne (.tup (natsP l)) (.tup []) = some (!l.isEmpty) := by
  cases l with
  | nil => simp [natsP, cmpS, PV.sdata, PV.data, PV.datas, PyData.depth, PyData.depthAll, PyData.eqv, PyData.eqvAll]
  | cons k is =>
    simp only [cmpS, PV.sdata, PV.data, dat_nats, PV.datas, Option.map_some, PyData.depth, dep_nats]
    simp [PyData.eqv, PyData.eqvAll, PyData.depthAll]
theorem sub_head {l : List Nat} {p : Nat} (h : l.head? = some p) : subS (.tup (natsP l)) (.int 0) = some (.int (p : Nat)) := by
  cases l with
  | nil => cases h
  | cons k l =>
    cases h
    show atI (natsP (p :: l)) ((0 : Nat) : Int) = _
    rw [atI_nat (by simp [natsP])]
    rfl
/-! ### _law_rooms -/
def lI (rows : List (List Int)) (n i : Nat) (ρ : FS.Loc) : Prop := ∃ x3 x4 x5 x6, ρ = [some (tabP rows), some (.int (n : Nat)), some (.lst true (((List.range i).filter fun p => decide (Hd (Ed rows) p)).map (scP rows n))), x3, x4, x5, x6]
def lR : Ex := .blt .tuple (.cons (.comp (.var 6) (.v 6) (.seq (.var 4)) (.cmp .in_ (.var 3) (.call "_law_from" 2 m__law_from (.cons (.var 0) (.cons (.var 6) .nil)))) [("one", 6)]) .nil)
def lC : Te := .an (.cmp .ne (.var 5) (.tup .nil)) (.one (.cmp .eq (.var 3) (.sub (.var 5) (.int 0))))
def lB : Ss := .cons (.set 4 (.call "_law_from" 2 m__law_from (.cons (.var 0) (.cons (.var 3) .nil)))) (.cons (.set 5 lR) (.cons (.ite lC (.cons (.app 2 (.var 5)) .nil) .nil) .nil))
theorem ss_lrooms : ss__law_rooms = .cons (.par2 1 2 (.cons (.blt .len (.cons (.var 0) .nil)) (.cons (.lst .nil) .nil))) (.cons (.fr (.v 3) (.rng (.var 1)) lB) (.cons (.ret (.var 2)) .nil)) := rfl
theorem lR_eq (q : Sq rows n) {p : Nat} (hp : p < n) {fd : List PV} {x5 x6 : Option PV} : evE lR [some (tabP rows), some (.int (n : Nat)), some (.lst true fd), some (.int (p : Nat)), some (.lst true (natsP (rl (Ed rows) n p))), x5, x6] = .ok (false, scP rows n p) := by
  have hn := q.few
  have hi : evI (.seq (.var 4)) [some (tabP rows), some (.int (n : Nat)), some (.lst true fd), some (.int (p : Nat)), some (.lst true (natsP (rl (Ed rows) n p))), x5, x6] = .ok (false, natsP (rl (Ed rows) n p)) := by
    simp only [i_seq, e_var, List.getElem?_cons_succ, List.getElem?_cons_zero, b_ok, seqS, shal_o _ (st_nats _), ofO_some, stL]
    rfl
  have hrl : (rl (Ed rows) n p).length ≤ n := by
    have := List.length_filter_le (fun k => decide (Rc (Ed rows) p k)) (List.range n)
    simpa [rl] using this
  have hc := e_comp (elt := .var 6) (tg := .v 6) (cond := .cmp .in_ (.var 3) (.call "_law_from" 2 m__law_from (.cons (.var 0) (.cons (.var 6) .nil)))) (own := [("one", 6)]) (g := fun x => match x with | .int k => if decide (Rc (Ed rows) k.toNat p) = true then some (.int k) else none | _ => none) hi (by rw [nats_len]; omega) fun x hx => by
    obtain ⟨k, hk, rfl⟩ := List.mem_map.mp hx
    obtain ⟨hkn, _⟩ := mem_rl.mp hk
    refine ⟨[some (tabP rows), some (.int (n : Nat)), some (.lst true fd), some (.int (p : Nat)), some (.lst true (natsP (rl (Ed rows) n p))), x5, some (.int (k : Nat))], rfl, ?_⟩
    have hf : evE (.call "_law_from" 2 m__law_from (.cons (.var 0) (.cons (.var 6) .nil))) [some (tabP rows), some (.int (n : Nat)), some (.lst true fd), some (.int (p : Nat)), some (.lst true (natsP (rl (Ed rows) n p))), x5, some (.int (k : Nat))] = .ok (false, .lst true (natsP (rl (Ed rows) n k))) := call2 (b1 := true) (b2 := true) (x := tabP rows) (y := .int (k : Nat)) (by simp only [e_var, List.getElem?_cons_zero]) (by simp only [e_var, List.getElem?_cons_succ, List.getElem?_cons_zero]) (tTab _ _) (tI _ _) (from_eq q hkn)
    have ht : evT (.cmp .in_ (.var 3) (.call "_law_from" 2 m__law_from (.cons (.var 0) (.cons (.var 6) .nil)))) [some (tabP rows), some (.int (n : Nat)), some (.lst true fd), some (.int (p : Nat)), some (.lst true (natsP (rl (Ed rows) n p))), x5, some (.int (k : Nat))] = .ok (decide (Rc (Ed rows) k p)) := by
      simp only [t_cmp, hf]
      simp only [e_var, List.getElem?_cons_succ, List.getElem?_cons_zero, b_ok, fzI, PV.fz, fzs_nats, c_inl, ofO_some]
      exact congrArg Tr.ok (decide_eq_decide.mpr (mem_rl.trans ⟨fun h => h.2, fun h => ⟨hp, h⟩⟩))
    by_cases hd : Rc (Ed rows) k p
    · exact .inr ⟨by rw [ht, decide_eq_true hd], (true, .int (k : Nat)), .int (k : Nat), by simp only [e_var, List.getElem?_cons_succ, List.getElem?_cons_zero], movI _ _ (stI _), by simp [hd]⟩
    · exact .inl ⟨by rw [ht, decide_eq_false hd], by simp [hd]⟩
  have e : (rl (Ed rows) n p).filter (fun k => decide (Rc (Ed rows) k p)) = SC (Ed rows) n p := by
    unfold rl SC
    rw [List.filter_filter]
    refine List.filter_congr fun k _ => ?_
    rw [Bool.eq_iff_iff]
    simp only [Bool.and_eq_true, decide_eq_true_eq]
    exact and_comm
  rw [filterMap_nats (P := fun k => decide (Rc (Ed rows) k p)) fun k _ => by simp, e] at hc
  unfold lR
  simp only [e_blt, e_cons, e_nil, hc, b_ok, bltS, shal_f, PV.fz, fzs_nats, ofV_some]
  rfl
theorem lrooms_step (q : Sq rows n) (p : Nat) (hp : p < n) (ρ : FS.Loc) (hI : lI rows n p ρ) : ∃ ρ1 ρ2, bindTg (.v 3) (.int (p : Nat)) ρ = some ρ1 ∧ exB lB ρ1 = .ok (.nx ρ2) ∧ lI rows n (p + 1) ρ2 := by
  obtain ⟨x3, x4, x5, x6, rfl⟩ := hI
  generalize hfd : ((List.range p).filter fun p => decide (Hd (Ed rows) p)).map (scP rows n) = fd
  have fdl : fd.length ≤ p := by
    rw [← hfd, List.length_map]
    exact Nat.le_trans (List.length_filter_le _ _) (by simp)
  have hn := q.few
  have h1 : exS (.set 4 (.call "_law_from" 2 m__law_from (.cons (.var 0) (.cons (.var 3) .nil)))) [some (tabP rows), some (.int (n : Nat)), some (.lst true fd), some (.int (p : Nat)), x4, x5, x6] = .ok (.nx [some (tabP rows), some (.int (n : Nat)), some (.lst true fd), some (.int (p : Nat)), some (.lst true (natsP (rl (Ed rows) n p))), x5, x6]) := by
    refine (x_set (r := (false, .lst true (natsP (rl (Ed rows) n p)))) (y := .lst true (natsP (rl (Ed rows) n p))) (call2 (b1 := true) (b2 := true) (x := tabP rows) (y := .int (p : Nat)) (by simp only [e_var, List.getElem?_cons_zero]) (by simp only [e_var, List.getElem?_cons_succ, List.getElem?_cons_zero]) (tTab _ _) (tI _ _) (from_eq q hp)) (mov_f _)).trans ?_
    simp only [List.set_cons_succ, List.set_cons_zero]
  have h2 : exS (.set 5 lR) [some (tabP rows), some (.int (n : Nat)), some (.lst true fd), some (.int (p : Nat)), some (.lst true (natsP (rl (Ed rows) n p))), x5, x6] = .ok (.nx [some (tabP rows), some (.int (n : Nat)), some (.lst true fd), some (.int (p : Nat)), some (.lst true (natsP (rl (Ed rows) n p))), some (scP rows n p), x6]) := by
    refine (x_set (lR_eq q hp) (mov_f _)).trans ?_
    simp only [List.set_cons_succ, List.set_cons_zero]
  have hH : ((SC (Ed rows) n p).head? = some p) ↔ Hd (Ed rows) p := by
    rw [SC_head]
    exact ⟨fun h => h.2, fun h => ⟨hp, h⟩⟩
  have h3 : evT lC [some (tabP rows), some (.int (n : Nat)), some (.lst true fd), some (.int (p : Nat)), some (.lst true (natsP (rl (Ed rows) n p))), some (scP rows n p), x6] = .ok (decide (Hd (Ed rows) p)) := by
    have a1 : evT (.cmp .ne (.var 5) (.tup .nil)) [some (tabP rows), some (.int (n : Nat)), some (.lst true fd), some (.int (p : Nat)), some (.lst true (natsP (rl (Ed rows) n p))), some (scP rows n p), x6] = .ok (!(SC (Ed rows) n p).isEmpty) := by
      simp only [t_cmp, e_var, e_tup, e_nil, takes, List.getElem?_cons_succ, List.getElem?_cons_zero, b_ok]
      rw [if_pos (by simp), vB_bind]
      simp only [scP, fzT, c_net, ofO_some]
    unfold lC
    rw [t_an, a1, b_ok]
    cases hs : SC (Ed rows) n p with
    | nil =>
      have : ¬ Hd (Ed rows) p := fun z => by
        rw [← hH, hs] at z
        cases z
      simp [this]
    | cons k l =>
      simp only [List.isEmpty_cons, Bool.not_false, if_true, t_one, t_cmp, e_sub, e_var, e_int, List.getElem?_cons_succ, List.getElem?_cons_zero, b_ok, vB_bind, fzI]
      rw [show scP rows n p = .tup (natsP (k :: l)) by unfold scP; rw [hs], sub_head (p := k) rfl]
      simp only [if_true, b_ok, fzI, c_eq, ofO_some]
      refine congrArg Tr.ok (decide_eq_decide.mpr ?_)
      rw [← hH, hs]
      simp only [List.head?_cons, Option.some.injEq]
      constructor <;> intro z <;> omega
  refine ⟨[some (tabP rows), some (.int (n : Nat)), some (.lst true fd), some (.int (p : Nat)), x4, x5, x6], [some (tabP rows), some (.int (n : Nat)), some (.lst true (fd ++ if decide (Hd (Ed rows) p) = true then [scP rows n p] else [])), some (.int (p : Nat)), some (.lst true (natsP (rl (Ed rows) n p))), some (scP rows n p), x6], by simp only [bindTg, List.set_cons_succ, List.set_cons_zero], ?_, some (.int (p : Nat)), some (.lst true (natsP (rl (Ed rows) n p))), some (scP rows n p), x6, ?_⟩
  · unfold lB
    simp only [exB]
    refine (sq_nx h1).trans ((sq_nx h2).trans ((sq_nx ?_).trans rfl))
    rw [x_ite h3]
    by_cases hh : Hd (Ed rows) p
    · rw [decide_eq_true hh, if_pos rfl, if_pos rfl]
      simp only [exB]
      refine (sq_nx (x_app (xs := fd) (r := (true, scP rows n p)) (y := scP rows n p) (by simp only [List.getElem?_cons_succ, List.getElem?_cons_zero]) (by simp only [e_var, List.getElem?_cons_succ, List.getElem?_cons_zero]) (movI _ _ rfl) (by omega))).trans ?_
      simp only [List.set_cons_succ, List.set_cons_zero]
    · rw [decide_eq_false hh, if_neg (by simp), if_neg (by simp), List.append_nil]
      simp only [exB]
  · rw [range_filter_succ, List.map_append, hfd]
    by_cases hh : Hd (Ed rows) p <;> simp [hh]
theorem lrooms_eq (q : Sq rows n) : m__law_rooms [tabP rows] = .ok (.lst true (rmsP rows n)) := by
  have hn := q.few
  have s1 : exS (.par2 1 2 (.cons (.blt .len (.cons (.var 0) .nil)) (.cons (.lst .nil) .nil))) [some (tabP rows), none, none, none, none, none, none] = .ok (.nx [some (tabP rows), some (.int (n : Nat)), some (.lst true []), none, none, none, none]) := by
    have hls : evE (.lst .nil) [some (tabP rows), none, none, none, none, none, none] = .ok (false, .lst true []) := by
      simp only [e_lst, e_nil, b_ok, movs]
      rw [if_pos (by simp)]
      rfl
    have hl := e_len (ρ := [some (tabP rows), none, none, none, none, none, none]) (ip := 0) q rfl
    refine (x_par2 (u := .int (n : Nat)) (v := .lst true []) (rs := [(false, .int (n : Nat)), (false, .lst true [])]) (by rw [e_cons, e_cons, e_nil, hl, hls]; rfl) (by simp only [movs, mov_f])).trans ?_
    simp only [List.set_cons_succ, List.set_cons_zero]
  obtain ⟨ρ', e, x3, x4, x5, x6, rfl⟩ := forL_eq (t := .v 3) (b := exB lB) (lI rows n) (natsP (List.range n)) 0 [some (tabP rows), some (.int (n : Nat)), some (.lst true []), none, none, none, none] ⟨none, none, none, none, by simp⟩ fun j x ρ hx hI => by
    rw [natsP, List.getElem?_map, Option.map_eq_some_iff] at hx
    obtain ⟨p, hpj, rfl⟩ := hx
    have hj : j < n := by
      have := (List.getElem?_eq_some_iff.mp hpj).1
      simpa using this
    have : p = j := by
      rw [List.getElem?_range hj] at hpj
      exact (Option.some.inj hpj).symm
    subst this
    rw [Nat.zero_add] at hI ⊢
    exact lrooms_step q p hj ρ hI
  have efd : ((List.range (0 + (natsP (List.range n)).length)).filter fun p => decide (Hd (Ed rows) p)).map (scP rows n) = rmsP rows n := by
    rw [nats_len, List.length_range, Nat.zero_add]
    rfl
  rw [efd] at e
  refine runF_eq (ρ := [some (tabP rows), none, none, none, none, none, none]) rfl ?_
  rw [ss_lrooms]
  simp only [exB]
  refine (sq_nx s1).trans ((sq_nx (ρ' := [some (tabP rows), some (.int (n : Nat)), some (.lst true (rmsP rows n)), x3, x4, x5, x6]) ?_).trans (sq_rt ?_))
  · have hi := i_range (e := .var 1) (ρ := [some (tabP rows), some (.int (n : Nat)), some (.lst true []), none, none, none, none]) q.few ⟨true, by simp only [e_var, List.getElem?_cons_succ, List.getElem?_cons_zero]⟩
    simp only [exS, forF, hi, b_ok, if_true]
    exact e
  · simp only [exS, e_var, List.getElem?_cons_succ, List.getElem?_cons_zero, b_ok]
end
end K06

set_option Elab.async false
set_option linter.all false
set_option maxRecDepth 100000
set_option maxHeartbeats 4000000
namespace K06
open PySem PySem.Spec PyProof.Rows L2 FS
open Classical
/-! ### _law_is -/
theorem is_int (d : Nat) (i : Int) : m__law_is (d + 1) [.int i, .int i] = .ok (.bl true) := by
  refine runF_eq (ρ := [some (.int i), some (.int i), none]) rfl ?_
  unfold ss__law_is
  simp only [exB]
  have t1 : evT (.tru (.isi (.var 1) ["tuple"])) [some (.int i), some (.int i), none] = .ok false := by
    simp only [t_tru, e_isi, e_var, List.getElem?_cons_succ, List.getElem?_cons_zero, b_ok, tyName, vB_bind]
    rfl
  have t2 : evT (.isN false (.var 1)) [some (.int i), some (.int i), none] = .ok false := by
    simp only [t_isN, e_var, List.getElem?_cons_succ, List.getElem?_cons_zero, b_ok]
  have t3 : ∀ b, evT (.isB false (.var 1) (.bl b)) [some (.int i), some (.int i), none] = .ok false := fun b => by
    simp only [t_isB, e_var, e_bl, List.getElem?_cons_succ, List.getElem?_cons_zero, b_ok, vB_bind, isBS]
    rfl
  have t4 : evT (.tru (.isi (.var 1) ["str"])) [some (.int i), some (.int i), none] = .ok false := by
    simp only [t_tru, e_isi, e_var, List.getElem?_cons_succ, List.getElem?_cons_zero, b_ok, tyName, vB_bind]
    rfl
  have nx : ∀ {c : Te} {m1 : Ss}, evT c [some (.int i), some (.int i), none] = .ok false → exS (.ite c m1 .nil) [some (.int i), some (.int i), none] = .ok (.nx [some (.int i), some (.int i), none]) := fun h => by
    rw [x_ite h, if_neg (by simp)]
    simp only [exB]
  refine (sq_nx (nx t1)).trans ((sq_nx (nx t2)).trans ((sq_nx (nx (t3 true))).trans ((sq_nx (nx (t3 false))).trans ((sq_nx (nx t4)).trans (sq_rt ?_)))))
  simp only [exS, e_an, e_one, e_nt, e_isi, e_cmp, e_var, List.getElem?_cons_succ, List.getElem?_cons_zero, b_ok, tyName, vB_bind, truS, fzI, c_eq, decide_true, ofB_some, List.any_cons, List.any_nil, isT]
  rfl
theorem is_tup {d : Nat} {xs : List PV} (hl : xs.length < 100000) (h : ∀ x ∈ xs, FS.take (true, x) = some x ∧ m__law_is d [x, x] = .ok (.bl true)) : m__law_is (d + 1) [.tup xs, .tup xs] = .ok (.bl true) := by
  refine runF_eq (ρ := [some (.tup xs), some (.tup xs), none]) rfl ?_
  unfold ss__law_is
  simp only [exB]
  have t1 : evT (.tru (.isi (.var 1) ["tuple"])) [some (.tup xs), some (.tup xs), none] = .ok true := by
    simp only [t_tru, e_isi, e_var, List.getElem?_cons_succ, List.getElem?_cons_zero, b_ok, tyName, vB_bind]
    rfl
  have l0 : ∀ {ρ : FS.Loc} {i : Nat}, ρ[i]? = some (some (.tup xs)) → evE (.blt .len (.cons (.var i) .nil)) ρ = .ok (false, .int (xs.length : Nat)) := fun hi => by
    simp only [e_blt, e_cons, e_nil, e_var, hi, b_ok, bltS, ofV_some]
    rfl
  have t2 : evT (.orr (.nt (.tru (.isi (.var 0) ["tuple"]))) (.one (.cmp .ne (.blt .len (.cons (.var 0) .nil)) (.blt .len (.cons (.var 1) .nil))))) [some (.tup xs), some (.tup xs), none] = .ok false := by
    have a : evT (.nt (.tru (.isi (.var 0) ["tuple"]))) [some (.tup xs), some (.tup xs), none] = .ok false := by
      simp only [t_nt, t_tru, e_isi, e_var, List.getElem?_cons_succ, List.getElem?_cons_zero, b_ok, tyName, vB_bind]
      rfl
    rw [t_orr, a, b_ok, if_neg (by simp), t_one, t_cmp, l0 (i := 0) rfl, l0 (i := 1) rfl]
    simp only [b_ok, fzI, c_ne, decide_true, ofO_some, Bool.not_true]
  have hi : evI (.rng (.blt .len (.cons (.var 1) .nil))) [some (.tup xs), some (.tup xs), none] = .ok (true, natsP (List.range xs.length)) := by
    rw [i_rng, l0 (i := 1) rfl, b_ok]
    dsimp only
    rw [rngOk_nat (by omega), if_pos rfl, rangeL_nat]
  have hc := e_comp (elt := .var 2) (tg := .v 2) (cond := .nt (.tru (.call "_law_is" 2 (m__law_is d) (.cons (.sub (.var 0) (.var 2)) (.cons (.sub (.var 1) (.var 2)) .nil))))) (own := [("at", 2)]) (g := fun _ => none) hi (by rw [nats_len, List.length_range]; omega) fun x hx => by
    obtain ⟨k, hk, rfl⟩ := List.mem_map.mp hx
    rw [List.mem_range] at hk
    obtain ⟨a1, a2⟩ := h xs[k] (List.getElem_mem hk)
    have hs : subS (.tup xs) (.int (k : Nat)) = some xs[k] := by
      show atI xs (k : Int) = _
      rw [atI_nat hk, List.getElem?_eq_getElem hk]
    refine ⟨[some (.tup xs), some (.tup xs), some (.int (k : Nat))], rfl, .inl ⟨?_, rfl⟩⟩
    have := call2 (f := "_law_is") (m := m__law_is d) (e1 := .sub (.var 0) (.var 2)) (e2 := .sub (.var 1) (.var 2)) (ρ := [some (.tup xs), some (.tup xs), some (.int (k : Nat))]) (b1 := true) (b2 := true) (x := xs[k]) (y := xs[k])
      (by simp only [e_sub, e_var, List.getElem?_cons_succ, List.getElem?_cons_zero, b_ok, fzI, hs, if_true]) (by simp only [e_sub, e_var, List.getElem?_cons_succ, List.getElem?_cons_zero, b_ok, fzI, hs, if_true]) a1 a1 a2
    simp only [t_nt, t_tru, this, b_ok, truS, ofO_some, Bool.not_true]
  have hn : (natsP (List.range xs.length)).filterMap (fun _ => (none : Option PV)) = [] := by simp
  rw [hn] at hc
  have hls : evE (.lst .nil) [some (.tup xs), some (.tup xs), none] = .ok (false, .lst true []) := by
    simp only [e_lst, e_nil, b_ok, movs]
    rw [if_pos (by simp)]
    rfl
  have heq : cmpS .eq (.lst false []) (.lst false []) = some true := by
    simp [cmpS, PV.sdata, PV.data, PV.datas, PyData.depth, PyData.depthAll, PyData.eqv, PyData.eqvAll]
  refine sq_rt ?_
  rw [x_ite t1, if_pos rfl]
  simp only [exB]
  refine (sq_nx (ρ' := [some (.tup xs), some (.tup xs), none]) ?_).trans (sq_rt ?_)
  · rw [x_ite t2, if_neg (by simp)]
    simp only [exB]
  · simp only [exS, e_cmp, hc, hls, b_ok, PV.fz, PV.fzs, heq, ofB_some, vB_bind]
theorem is_nats (d : Nat) (l : List Nat) (hl : l.length < 1000) : m__law_is (d + 2) [.tup (natsP l), .tup (natsP l)] = .ok (.bl true) :=
  is_tup (by rw [nats_len]; omega) fun x hx => by
    obtain ⟨k, _, rfl⟩ := List.mem_map.mp hx
    exact ⟨tI _ _, is_int d _⟩
section
variable {rows : List (List Int)} {n : Nat}
theorem hds_len : (hds (Ed rows) n).length ≤ n := by
  have := List.length_filter_le (fun p => decide (Hd (Ed rows) p)) (List.range n)
  simpa [hds] using this
theorem is_rms (q : Sq rows n) : m__law_is 4 [.tup (rmsP rows n), .tup (rmsP rows n)] = .ok (.bl true) := by
  have hn := q.few
  have hl := hds_len (rows := rows) (n := n)
  refine is_tup (by unfold rmsP; rw [List.length_map]; omega) fun x hx => ?_
  obtain ⟨h, hh, rfl⟩ := List.mem_map.mp hx
  have := SC_len (rows := rows) (n := n) (p := h)
  exact ⟨tT _ _, is_nats 1 _ (by omega)⟩
/-! ### the ways from room to room -/
noncomputable def hAt (rows : List (List Int)) (n i : Nat) : Nat := (hds (Ed rows) n).getD i 0
theorem hAt_mem {i : Nat} (hi : i < (hds (Ed rows) n).length) : hAt rows n i < n ∧ Hd (Ed rows) (hAt rows n i) := mem_hds.mp (getD_mem hi)
theorem sub_rms {i : Nat} (hi : i < (hds (Ed rows) n).length) : atI (rmsP rows n) (i : Int) = some (scP rows n (hAt rows n i)) := by
  unfold rmsP hAt
  rw [atI_nat (by simpa using hi), List.getElem?_map, List.getElem?_eq_getElem hi, List.getD_eq_getElem?_getD, List.getElem?_eq_getElem hi]
  rfl
theorem sub_scP {h : Nat} (hh : h < n ∧ Hd (Ed rows) h) : subS (scP rows n h) (.int 0) = some (.int (h : Nat)) := sub_head (SC_head.mpr hh)
noncomputable def prI (rows : List (List Int)) (n i : Nat) : List Nat := (List.range (hds (Ed rows) n).length).filter fun k => !decide (i = k) && decide (Rc (Ed rows) (hAt rows n i) (hAt rows n k))
def pP (i k : Nat) : PV := .tup [.int (i : Nat), .int (k : Nat)]
noncomputable def prP (rows : List (List Int)) (n i : Nat) : List PV := (prI rows n i).map (pP i)
noncomputable def prs (rows : List (List Int)) (n i : Nat) : List PV := (List.range i).flatMap (prP rows n)
theorem prs_succ (i : Nat) : prs rows n (i + 1) = prs rows n i ++ prP rows n i := by
  unfold prs
  rw [List.range_succ, List.flatMap_append]
  simp
theorem prP_len {i : Nat} : (prP rows n i).length ≤ n := by
  unfold prP prI
  rw [List.length_map]
  refine Nat.le_trans (List.length_filter_le _ _) ?_
  rw [List.length_range]
  exact hds_len
theorem prs_len (i : Nat) : (prs rows n i).length ≤ i * n := by
  induction i with
  | zero => simp [prs]
  | succ i ih =>
    rw [prs_succ, List.length_append, Nat.add_mul, Nat.one_mul]
    have := prP_len (rows := rows) (n := n) (i := i)
    omega
theorem prP_fz (i : Nat) : PV.fzs (prP rows n i) = prP rows n i := fzs_id fun x hx => by
  obtain ⟨k, _, rfl⟩ := List.mem_map.mp hx
  rfl
theorem prs_st (i : Nat) : (prs rows n i).all PV.st = true := by
  rw [List.all_eq_true]
  intro x hx
  obtain ⟨j, _, hj⟩ := List.mem_flatMap.mp hx
  obtain ⟨k, _, rfl⟩ := List.mem_map.mp hj
  rfl
theorem filterMap_f {P : Nat → Bool} {f : Nat → PV} {g : PV → Option PV} {l : List Nat} (h : ∀ k ∈ l, g (.int (k : Nat)) = if P k then some (f k) else none) : (natsP l).filterMap g = (l.filter P).map f := by
  induction l with
  | nil => rfl
  | cons k l ih =>
    have h1 := h k List.mem_cons_self
    have h2 := ih fun j hj => h j (List.mem_cons_of_mem _ hj)
    rw [show natsP (k :: l) = .int (k : Nat) :: natsP l from rfl, List.filterMap_cons, h1]
    by_cases hp : P k = true
    · rw [if_pos hp, List.filter_cons_of_pos hp, h2]
      rfl
    · rw [if_neg hp, List.filter_cons_of_neg hp, h2]
end
end K06

set_option Elab.async false
set_option linter.all false
set_option maxRecDepth 100000
set_option maxHeartbeats 4000000
namespace K06
open PySem PySem.Spec PyProof.Rows L2 FS
open Classical
section
variable {rows : List (List Int)} {n : Nat} {K : Nat → List Nat} {V : Nat → List PV}
theorem i_rangeM {e : Ex} {m : Nat} {ρ : FS.Loc} (h : m ≤ 7) (he : ∃ b, evE e ρ = .ok (b, .int (m : Nat))) : evI (.rng e) ρ = .ok (true, natsP (List.range m)) := i_range h he
noncomputable abbrev wyP (rows : List (List Int)) (n : Nat) (K : Nat → List Nat) (V : Nat → List PV) : List PV := (hds (Ed rows) n).map fun h => .dct true false (natsP (K h)) (V h)
theorem sub_wy {i : Nat} (hi : i < (hds (Ed rows) n).length) : subS (.lst true (wyP rows n K V)) (.int (i : Nat)) = some (.dct true false (natsP (K (hAt rows n i))) (V (hAt rows n i))) := by
  show atI (wyP rows n K V) (i : Int) = _
  unfold hAt
  rw [atI_nat (by simpa using hi), List.getElem?_map, List.getElem?_eq_getElem hi, List.getD_eq_getElem?_getD, List.getElem?_eq_getElem hi]
  rfl
noncomputable abbrev yS (v : PV) (rows : List (List Int)) (n : Nat) (K : Nat → List Nat) (V : Nat → List PV) (x4 : Option PV) (fd : List PV) (x6 x7 : Option PV) : FS.Loc := [some v, some (tabP rows), some (.tup (rmsP rows n)), some (.lst true (wyP rows n K V)), x4, some (.lst true fd), x6, x7]
def yW : Ex := .comp (.call "walks_from" 2 m_walks_from (.cons (.var 1) (.cons (.sub (.var 4) (.int 0)) .nil))) (.v 4) (.seq (.var 2)) .yes [("lot", 4)]
def yCo : Ex := .comp (.tup (.cons (.var 6) (.cons (.var 7) .nil))) (.v 7) (.rng (.blt .len (.cons (.var 2) .nil))) (.an (.cmp .ne (.var 6) (.var 7)) (.one (.cmp .in_ (.sub (.sub (.var 2) (.var 7)) (.int 0)) (.sub (.var 3) (.var 6))))) [("k", 7)]
def yB : Ss := .cons (.ext 5 yCo) .nil
theorem ss_ways : ss_room_ways = .cons (.set 1 (.call "need_table" 2 m_need_table (.cons (.var 0) (.cons (.str "table") .nil)))) (.cons (.set 2 (.call "rooms_by" 1 m_rooms_by (.cons (.var 1) .nil))) (.cons (.set 3 yW) (.cons (.set 5 (.lst .nil)) (.cons (.fr (.v 6) (.rng (.blt .len (.cons (.var 2) .nil))) yB) (.cons (.ret (.blt .tuple (.cons (.var 5) .nil))) .nil))))) := rfl
theorem len_tup {ρ : FS.Loc} {i : Nat} {xs : List PV} (hi : ρ[i]? = some (some (.tup xs))) : evE (.blt .len (.cons (.var i) .nil)) ρ = .ok (false, .int (xs.length : Nat)) := by
  simp only [e_blt, e_cons, e_nil, e_var, hi, b_ok, bltS, ofV_some]
  rfl
theorem len_lst {ρ : FS.Loc} {i : Nat} {o : Bool} {xs : List PV} (hi : ρ[i]? = some (some (.lst o xs))) : evE (.blt .len (.cons (.var i) .nil)) ρ = .ok (false, .int (xs.length : Nat)) := by
  simp only [e_blt, e_cons, e_nil, e_var, hi, b_ok, bltS, ofV_some]
  rfl
theorem rms_len : (rmsP rows n).length = (hds (Ed rows) n).length := by unfold rmsP; rw [List.length_map]
theorem yCo_eq (q : Sq rows n) (R : Rch rows n K V) {v : PV} {i : Nat} (hi : i < (hds (Ed rows) n).length) {x4 x7 : Option PV} {fd : List PV} : evE yCo (yS v rows n K V x4 fd (some (.int (i : Nat))) x7) = .ok (false, .lst true (prP rows n i)) := by
  have hn := q.few
  have hm := hds_len (rows := rows) (n := n)
  have hit := i_range (e := .blt .len (.cons (.var 2) .nil)) (n := (hds (Ed rows) n).length) (ρ := yS v rows n K V x4 fd (some (.int (i : Nat))) x7) (by omega) ⟨false, by rw [len_tup (i := 2) (xs := rmsP rows n) rfl, rms_len]⟩
  refine (e_comp (g := fun x => match x with | .int k => if (!decide (i = k.toNat) && decide (Rc (Ed rows) (hAt rows n i) (hAt rows n k.toNat))) = true then some (pP i k.toNat) else none | _ => none) hit (by rw [nats_len, List.length_range]; omega) fun x hx => ?_).trans ?_
  · obtain ⟨k, hk, rfl⟩ := List.mem_map.mp hx
    rw [List.mem_range] at hk
    obtain ⟨hi1, hi2⟩ := hAt_mem hi
    obtain ⟨hk1, hk2⟩ := hAt_mem hk
    refine ⟨yS v rows n K V x4 fd (some (.int (i : Nat))) (some (.int (k : Nat))), rfl, ?_⟩
    have s1 : evE (.sub (.sub (.var 2) (.var 7)) (.int 0)) (yS v rows n K V x4 fd (some (.int (i : Nat))) (some (.int (k : Nat)))) = .ok (true, .int (hAt rows n k : Nat)) := by
      have e1 : subS (.tup (rmsP rows n)) (.int (k : Nat)) = some (scP rows n (hAt rows n k)) := sub_rms hk
      simp only [e_sub, e_var, e_int, vB_bind, yS, List.getElem?_cons_succ, List.getElem?_cons_zero, b_ok, fzI, e1, if_true, sub_scP ⟨hk1, hk2⟩]
    have s2 : evE (.sub (.var 3) (.var 6)) (yS v rows n K V x4 fd (some (.int (i : Nat))) (some (.int (k : Nat)))) = .ok (true, .dct true false (natsP (K (hAt rows n i))) (V (hAt rows n i))) := by
      simp only [e_sub, e_var, yS, List.getElem?_cons_succ, List.getElem?_cons_zero, b_ok, fzI, sub_wy hi, if_true]
    have t1 : evT (.cmp .ne (.var 6) (.var 7)) (yS v rows n K V x4 fd (some (.int (i : Nat))) (some (.int (k : Nat)))) = .ok (!decide (i = k)) := by
      simp only [t_cmp, e_var, yS, List.getElem?_cons_succ, List.getElem?_cons_zero, b_ok, fzI, c_ne, ofO_some]
      refine congrArg (fun z => Tr.ok (!z)) (decide_eq_decide.mpr ?_)
      constructor <;> intro z <;> omega
    have hz : PV.fzs (V (hAt rows n i)) = V (hAt rows n i) := (R.vs _ hi1).fzs
    have t2 : evT (.cmp .in_ (.sub (.sub (.var 2) (.var 7)) (.int 0)) (.sub (.var 3) (.var 6))) (yS v rows n K V x4 fd (some (.int (i : Nat))) (some (.int (k : Nat)))) = .ok (decide (Rc (Ed rows) (hAt rows n i) (hAt rows n k))) := by
      simp only [t_cmp, s1, s2, b_ok, fzI, PV.fz, hz, cmpS, isKey, if_true]
      rw [getP_nats (R.vs _ hi1).len]
      show Tr.ok _ = _
      refine congrArg Tr.ok (decide_eq_decide.mpr ?_)
      rw [R.mem _ hi1, mem_rl]
      exact ⟨fun h => h.2, fun h => ⟨hk1, h⟩⟩
    have t3 : evT (.an (.cmp .ne (.var 6) (.var 7)) (.one (.cmp .in_ (.sub (.sub (.var 2) (.var 7)) (.int 0)) (.sub (.var 3) (.var 6))))) (yS v rows n K V x4 fd (some (.int (i : Nat))) (some (.int (k : Nat)))) = .ok (!decide (i = k) && decide (Rc (Ed rows) (hAt rows n i) (hAt rows n k))) := by
      simp only [t_an, t1, b_ok, t_one, t2]
      by_cases h : i = k <;> simp [h]
    by_cases hb : (!decide (i = k) && decide (Rc (Ed rows) (hAt rows n i) (hAt rows n k))) = true
    · refine .inr ⟨by rw [t3, hb], (false, pP i k), pP i k, ?_, mov_f _, by simpa using hb⟩
      simp only [e_tup, e_cons, e_nil, e_var, yS, List.getElem?_cons_succ, List.getElem?_cons_zero, b_ok, takes, tI]
      rw [if_pos (by simp)]
      rfl
    · exact .inl ⟨by rw [t3, Bool.eq_false_iff.mpr hb], by simpa using hb⟩
  · rw [filterMap_f (P := fun k => !decide (i = k) && decide (Rc (Ed rows) (hAt rows n i) (hAt rows n k))) (f := pP i) fun k _ => by simp]
    rfl
theorem ways_eq {v : PV} (h : TabV v rows) (q : Sq rows n) : m_room_ways [v] = .ok (.tup (prs rows n (hds (Ed rows) n).length)) := by
  obtain ⟨K, V, R⟩ := rch q
  have hn := q.few
  have hm := hds_len (rows := rows) (n := n)
  have s1 : exS (.set 1 (.call "need_table" 2 m_need_table (.cons (.var 0) (.cons (.str "table") .nil)))) [some v, none, none, none, none, none, none, none] = .ok (.nx [some v, some (tabP rows), none, none, none, none, none, none]) := by
    refine (x_set (r := (false, tabP rows)) (y := tabP rows) (call2 (b1 := true) (b2 := false) (x := v) (y := .str "table") (by simp only [e_var, List.getElem?_cons_zero]) e_str (h.take _) (tS _ _) (need_eq h q.two)) (mov_f _)).trans ?_
    simp only [List.set_cons_succ, List.set_cons_zero]
  have s2 : exS (.set 2 (.call "rooms_by" 1 m_rooms_by (.cons (.var 1) .nil))) [some v, some (tabP rows), none, none, none, none, none, none] = .ok (.nx [some v, some (tabP rows), some (.tup (rmsP rows n)), none, none, none, none, none]) := by
    refine (x_set (r := (false, .tup (rmsP rows n))) (y := .tup (rmsP rows n)) (call1 (b := true) (x := tabP rows) (by simp only [e_var, List.getElem?_cons_succ, List.getElem?_cons_zero]) (tTab _ _) (roomsby_eq q)) (mov_f _)).trans ?_
    simp only [List.set_cons_succ, List.set_cons_zero]
  have hW : evE yW [some v, some (tabP rows), some (.tup (rmsP rows n)), none, none, none, none, none] = .ok (false, .lst true (wyP rows n K V)) := by
    have hit : evI (.seq (.var 2)) [some v, some (tabP rows), some (.tup (rmsP rows n)), none, none, none, none, none] = .ok (true, rmsP rows n) := by
      simp only [i_seq, e_var, List.getElem?_cons_succ, List.getElem?_cons_zero, b_ok, seqS, shal_t, ofO_some]
    refine (e_comp (g := fun x => match subS x (.int 0) with | some (.int k) => some (.dct true false (natsP (K k.toNat)) (V k.toNat)) | _ => none) hit (by rw [rms_len]; omega) fun x hx => ?_).trans ?_
    · obtain ⟨p, hp, rfl⟩ := List.mem_map.mp hx
      have hp' := mem_hds.mp hp
      refine ⟨[some v, some (tabP rows), some (.tup (rmsP rows n)), none, some (scP rows n p), none, none, none], rfl, .inr ⟨t_yes, (false, _), .dct true false (natsP (K p)) (V p), call2 (b1 := true) (b2 := true) (x := tabP rows) (y := .int (p : Nat)) (by simp only [e_var, List.getElem?_cons_succ, List.getElem?_cons_zero]) ?_ (tTab _ _) (tI _ _) (R.eq p hp'.1), mov_f _, by rw [sub_scP hp']; simp⟩⟩
      simp only [e_sub, e_var, e_int, vB_bind, List.getElem?_cons_succ, List.getElem?_cons_zero, b_ok, fzI, sub_scP hp', if_true]
    · have e : (rmsP rows n).filterMap (fun x => match subS x (.int 0) with | some (.int k) => some (PV.dct true false (natsP (K k.toNat)) (V k.toNat)) | _ => none) = wyP rows n K V := by
        unfold rmsP wyP
        rw [List.filterMap_map]
        have : ∀ l : List Nat, (∀ p ∈ l, p < n ∧ Hd (Ed rows) p) → l.filterMap ((fun x => match subS x (.int 0) with | some (.int k) => some (PV.dct true false (natsP (K k.toNat)) (V k.toNat)) | _ => none) ∘ scP rows n) = l.map fun h => PV.dct true false (natsP (K h)) (V h) := by
          intro l
          induction l with
          | nil => exact fun _ => rfl
          | cons p l ih =>
            intro hl
            rw [List.filterMap_cons]
            simp only [Function.comp_apply, sub_scP (hl p List.mem_cons_self)]
            rw [ih fun j hj => hl j (List.mem_cons_of_mem _ hj)]
            rfl
        exact this _ fun p hp => mem_hds.mp hp
      rw [e]
  have s3 : exS (.set 3 yW) [some v, some (tabP rows), some (.tup (rmsP rows n)), none, none, none, none, none] = .ok (.nx [some v, some (tabP rows), some (.tup (rmsP rows n)), some (.lst true (wyP rows n K V)), none, none, none, none]) := by
    refine (x_set hW (mov_f _)).trans ?_
    simp only [List.set_cons_succ, List.set_cons_zero]
  have s4 : exS (.set 5 (.lst .nil)) [some v, some (tabP rows), some (.tup (rmsP rows n)), some (.lst true (wyP rows n K V)), none, none, none, none] = .ok (.nx (yS v rows n K V none [] none none)) := by
    refine (x_set (r := (false, .lst true [])) (y := .lst true []) (by simp only [e_lst, e_nil, b_ok, movs]; rw [if_pos (by simp)]; rfl) (mov_f _)).trans ?_
    simp only [yS, List.set_cons_succ, List.set_cons_zero]
  obtain ⟨ρ', e, x6, rfl⟩ := forL_eq (t := .v 6) (b := exB yB) (fun i ρ => ∃ x6, ρ = yS v rows n K V none (prs rows n i) x6 none) (natsP (List.range (hds (Ed rows) n).length)) 0 (yS v rows n K V none [] none none) ⟨none, by simp [prs]⟩ fun j x ρ hx hI => by
    obtain ⟨x6, rfl⟩ := hI
    rw [natsP, List.getElem?_map, Option.map_eq_some_iff] at hx
    obtain ⟨p, hpj, rfl⟩ := hx
    have hj : j < (hds (Ed rows) n).length := by
      have := (List.getElem?_eq_some_iff.mp hpj).1
      simpa using this
    have : p = j := by
      rw [List.getElem?_range hj] at hpj
      exact (Option.some.inj hpj).symm
    subst this
    rw [Nat.zero_add]
    refine ⟨yS v rows n K V none (prs rows n p) (some (.int (p : Nat))) none, yS v rows n K V none (prs rows n (p + 1)) (some (.int (p : Nat))) none, by simp only [bindTg, yS, List.set_cons_succ, List.set_cons_zero], ?_, _, rfl⟩
    have l1 := prs_len (rows := rows) (n := n) p
    have l2 := prP_len (rows := rows) (n := n) (i := p)
    have l3 : p * n ≤ 7 * 7 := Nat.mul_le_mul (by omega) (by omega)
    unfold yB
    simp only [exB]
    refine (sq_nx (x_ext (xs := prs rows n p) (ys := prP rows n p) (by simp only [yS, List.getElem?_cons_succ, List.getElem?_cons_zero]) (yCo_eq q R hj) (prP_fz _) (by omega))).trans ?_
    simp only [yS, List.set_cons_succ, List.set_cons_zero, prs_succ]
  rw [nats_len, List.length_range, Nat.zero_add] at e
  refine runF_eq (ρ := [some v, none, none, none, none, none, none, none]) rfl ?_
  rw [ss_ways]
  simp only [exB]
  refine (sq_nx s1).trans ((sq_nx s2).trans ((sq_nx s3).trans ((sq_nx s4).trans ((sq_nx (ρ' := yS v rows n K V none (prs rows n (hds (Ed rows) n).length) x6 none) ?_).trans (sq_rt ?_)))))
  · have hi := i_range (e := .blt .len (.cons (.var 2) .nil)) (n := (hds (Ed rows) n).length) (ρ := yS v rows n K V none [] none none) (by omega) ⟨false, by rw [len_tup (i := 2) (xs := rmsP rows n) rfl, rms_len]⟩
    simp only [exS, forF, hi, b_ok, if_true]
    exact e
  · simp only [exS, e_blt, e_cons, e_nil, e_var, yS, List.getElem?_cons_succ, List.getElem?_cons_zero, b_ok, bltS, shal_o _ (prs_st _), ofV_some, vB_bind]
end
end K06

set_option Elab.async false
set_option linter.all false
set_option maxRecDepth 100000
set_option maxHeartbeats 4000000
namespace K06
open PySem PySem.Spec PyProof.Rows L2 FS
/-! ### lots -/
def LotV (w : PV) (L : List Nat) : Prop := w = .tup (natsP L) ∨ w = .lst false (natsP L)
theorem LotV.take {w : PV} {L : List Nat} (h : LotV w L) (b : Bool) : FS.take (b, w) = some w := by
  rcases h with rfl | rfl
  · exact tT b _
  · exact tL b _ (fzs_nats L)
theorem LotV.isl {w : PV} {L : List Nat} (h : LotV w L) : m_is_list [w] = .ok (.bl true) := by
  refine runF_eq (ρ := [some w]) rfl ?_
  unfold ss_is_list
  simp only [exB]
  refine sq_rt ?_
  rcases h with rfl | rfl <;> simp only [exS, e_isi, e_var, List.getElem?_cons_zero, b_ok, tyName, vB_bind] <;> rfl
theorem LotV.len {w : PV} {L : List Nat} (h : LotV w L) {ρ : FS.Loc} {i : Nat} (hi : ρ[i]? = some (some w)) : evE (.blt .len (.cons (.var i) .nil)) ρ = .ok (false, .int (L.length : Nat)) := by
  rcases h with rfl | rfl
  · rw [len_tup hi, nats_len]
  · rw [len_lst hi, nats_len]
theorem LotV.seq {w : PV} {L : List Nat} (h : LotV w L) {ρ : FS.Loc} {i : Nat} (hi : ρ[i]? = some (some w)) : evI (.seq (.var i)) ρ = .ok (true, natsP L) := by
  rcases h with rfl | rfl
  · simp only [i_seq, e_var, hi, b_ok, seqS, shal_t, ofO_some]
  · simp only [i_seq, e_var, hi, b_ok, seqS, shal_l, ofO_some, stL]
    rfl
theorem LotV.sub {w : PV} {L : List Nat} (h : LotV w L) {k : Nat} (hk : k < L.length) : subS w (.int (k : Nat)) = some (.int (L[k] : Nat)) := by
  have : atI (natsP L) (k : Int) = some (.int (L[k] : Nat)) := by
    rw [atI_nat (by rw [nats_len]; exact hk), natsP, List.getElem?_map, List.getElem?_eq_getElem hk]
    rfl
  rcases h with rfl | rfl <;> exact this
theorem index_eq {k n : Nat} (h : k < n) : m_is_index [.int (k : Nat), .int (n : Nat)] = .ok (.bl true) := by
  refine runF_eq (ρ := [some (.int (k : Nat)), some (.int (n : Nat))]) rfl ?_
  unfold ss_is_index
  simp only [exB]
  refine sq_rt ?_
  have hc : evE (.call "is_integer" 1 m_is_integer (.cons (.var 0) .nil)) [some (.int (k : Nat)), some (.int (n : Nat))] = .ok (false, .bl true) := call1 (b := true) (x := .int (k : Nat)) (by simp only [e_var, List.getElem?_cons_zero]) (tI _ _) (isint_eq _)
  have a : decide ((0 : Int) ≤ (k : Nat)) = true := decide_eq_true (by omega)
  have b : decide (((k : Nat) : Int) < (n : Nat)) = true := decide_eq_true (by omega)
  simp only [exS, e_an, e_one, hc, b_ok, e_chn, e_var, e_int, vB_bind, List.getElem?_cons_succ, List.getElem?_cons_zero, fzI, c_le, c_lt, a, b, ofB_some]
theorem indexes_eq {w : PV} {L : List Nat} {n : Nat} (h : LotV w L) (hl : L.length ≤ 100) (hL : ∀ k ∈ L, k < n) : m_is_indexes [w, .int (n : Nat)] = .ok (.bl true) := by
  refine runF_eq (ρ := [some w, some (.int (n : Nat)), none]) rfl ?_
  unfold ss_is_indexes
  simp only [exB]
  refine sq_rt ?_
  have h1 : evE (.call "is_list" 1 m_is_list (.cons (.var 0) .nil)) [some w, some (.int (n : Nat)), none] = .ok (false, .bl true) := call1 (b := true) (x := w) (by simp only [e_var, List.getElem?_cons_zero]) (h.take _) h.isl
  have hc := e_comp (elt := .call "is_index" 2 m_is_index (.cons (.var 2) (.cons (.var 1) .nil))) (tg := .v 2) (cond := .yes) (own := [("one", 2)]) (g := fun _ => some (.bl true)) (h.seq (ρ := [some w, some (.int (n : Nat)), none]) (i := 0) rfl) (by rw [nats_len]; omega) fun x hx => by
    obtain ⟨k, hk, rfl⟩ := List.mem_map.mp hx
    exact ⟨[some w, some (.int (n : Nat)), some (.int (k : Nat))], rfl, .inr ⟨t_yes, (false, .bl true), .bl true, call2 (b1 := true) (b2 := true) (x := .int (k : Nat)) (y := .int (n : Nat)) (by simp only [e_var, List.getElem?_cons_succ, List.getElem?_cons_zero]) (by simp only [e_var, List.getElem?_cons_succ, List.getElem?_cons_zero]) (tI _ _) (tI _ _) (index_eq (hL k hk)), mov_f _, rfl⟩⟩
  simp only [exS, e_an, e_one, h1, b_ok, e_blt, e_cons, e_nil, hc, all_true (ys := []) (g := fun _ => some (.bl true)) (xs := natsP L) (fun _ _ => rfl), ofV_some, vB_bind]
theorem lot_eq {w : PV} {L : List Nat} {n : Nat} (h : LotV w L) (hl : 1 ≤ L.length) (hl2 : L.length ≤ 100) (hL : ∀ k ∈ L, k < n) (hp : L.Pairwise (· < ·)) : m_is_lot [w, .int (n : Nat)] = .ok (.bl true) := by
  refine runF_eq (ρ := [some w, some (.int (n : Nat)), none]) rfl ?_
  unfold ss_is_lot
  simp only [exB]
  refine sq_rt ?_
  have h1 : evE (.call "is_indexes" 2 m_is_indexes (.cons (.var 0) (.cons (.var 1) .nil))) [some w, some (.int (n : Nat)), none] = .ok (false, .bl true) := call2 (b1 := true) (b2 := true) (x := w) (y := .int (n : Nat)) (by simp only [e_var, List.getElem?_cons_zero]) (by simp only [e_var, List.getElem?_cons_succ, List.getElem?_cons_zero]) (h.take _) (tI _ _) (indexes_eq h hl2 hL)
  have hr : evE (.bin .sub (.blt .len (.cons (.var 0) .nil)) (.int 1)) [some w, some (.int (n : Nat)), none] = .ok (false, .int ((L.length - 1 : Nat) : Int)) := by
    rw [e_bin, h.len (i := 0) rfl]
    simp only [b_ok, e_int, vB_bind, shal_f, fzI, binS, ofV_some]
    rw [show ((L.length : Nat) : Int) - 1 = ((L.length - 1 : Nat) : Int) by omega]
    rfl
  have hi : evI (.rng (.bin .sub (.blt .len (.cons (.var 0) .nil)) (.int 1))) [some w, some (.int (n : Nat)), none] = .ok (true, natsP (List.range (L.length - 1))) := by
    rw [i_rng, hr, b_ok]
    dsimp only
    rw [rngOk_nat (by omega), if_pos rfl, rangeL_nat]
  have hc := e_comp (elt := .cmp .lt (.sub (.var 0) (.var 2)) (.sub (.var 0) (.bin .add (.var 2) (.int 1)))) (tg := .v 2) (cond := .yes) (own := [("at", 2)]) (g := fun _ => some (.bl true)) hi (by rw [nats_len, List.length_range]; omega) fun x hx => by
    obtain ⟨k, hk, rfl⟩ := List.mem_map.mp hx
    rw [List.mem_range] at hk
    have k1 : k < L.length := by omega
    have k2 : k + 1 < L.length := by omega
    refine ⟨[some w, some (.int (n : Nat)), some (.int (k : Nat))], rfl, .inr ⟨t_yes, (false, .bl true), .bl true, ?_, mov_f _, rfl⟩⟩
    have ha : evE (.bin .add (.var 2) (.int 1)) [some w, some (.int (n : Nat)), some (.int (k : Nat))] = .ok (false, .int ((k + 1 : Nat) : Int)) := by
      simp only [e_bin, e_var, e_int, vB_bind, List.getElem?_cons_succ, List.getElem?_cons_zero, b_ok, shal_i, shal_f, fzI, binS, ofV_some]
      rfl
    have hlt : L[k] < L[k + 1] := List.pairwise_iff_getElem.mp hp k (k + 1) k1 k2 (by omega)
    have b : decide (((L[k] : Nat) : Int) < (L[k + 1] : Nat)) = true := decide_eq_true (by omega)
    simp only [e_cmp, e_sub, ha]
    simp only [e_var, List.getElem?_cons_succ, List.getElem?_cons_zero, b_ok, fzI, h.sub k1, h.sub k2, if_true, c_lt, b, ofB_some]
    rfl
  simp only [exS, e_an, e_one, h1, b_ok, e_blt, e_cons, e_nil] at hc ⊢
  simp only [hc, b_ok, all_true (ys := []) (g := fun _ => some (.bl true)) (xs := natsP (List.range (L.length - 1))) (fun _ _ => rfl), ofV_some, vB_bind]
theorem filterMap_all {f : Nat → PV} {g : PV → Option PV} {l : List Nat} (h : ∀ k ∈ l, g (.int (k : Nat)) = some (f k)) : (natsP l).filterMap g = l.map f := by
  induction l with
  | nil => rfl
  | cons k l ih =>
    rw [show natsP (k :: l) = .int (k : Nat) :: natsP l from rfl, List.filterMap_cons, h k List.mem_cons_self, ih fun j hj => h j (List.mem_cons_of_mem _ hj)]
    rfl
/-! ### cuts -/
def cutR (rows : List (List Int)) (L : List Nat) : List (List Int) := L.map fun i => L.map fun k => en rows i k
theorem get_set {ρ : FS.Loc} {a t : Nat} {x : Option PV} {y : Option (Option PV)} (h : ρ[t]? = y) (ne : a ≠ t) : (ρ.set a x)[t]? = y := by rw [List.getElem?_set_ne ne]; exact h
def SeqV (w : PV) (L : List Nat) : Prop := ∀ (ρ : FS.Loc) (i : Nat), ρ[i]? = some (some w) → ∃ b, evI (.seq (.var i)) ρ = .ok (b, natsP L)
theorem LotV.sq {w : PV} {L : List Nat} (h : LotV w L) : SeqV w L := fun ρ i hi => ⟨true, h.seq hi⟩
theorem seqO (L : List Nat) : SeqV (.lst true (natsP L)) L := fun ρ i hi => ⟨false, by
  simp only [i_seq, e_var, hi, b_ok, seqS, shal, st_nats, if_true, ofO_some, stL]
  rfl⟩
theorem cut_ev {rows : List (List Int)} {n t l a b : Nat} {w : PV} {L : List Nat} {ρ : FS.Loc} {na nb : Str} (q : Sq rows n) (ht : ρ[t]? = some (some (tabP rows))) (hl : ρ[l]? = some (some w)) (hw : SeqV w L) (hL : ∀ k ∈ L, k < n) (hlen : L.length ≤ 100) (ha : a < ρ.length) (hb : b < ρ.length) (at_ : a ≠ t) (al : a ≠ l) (bt : b ≠ t) (bl : b ≠ l) (ab : a ≠ b) :
    evE (.blt .tuple (.cons (.comp (.blt .tuple (.cons (.comp (.sub (.sub (.var t) (.var a)) (.var b)) (.v b) (.seq (.var l)) .yes [(nb, b)]) .nil)) (.v a) (.seq (.var l)) .yes [(na, a)]) .nil)) ρ = .ok (false, tabP (cutR rows L)) := by
  obtain ⟨b0, hsq⟩ := hw _ _ hl
  have hc := e_comp (ρ := ρ) (elt := .blt .tuple (.cons (.comp (.sub (.sub (.var t) (.var a)) (.var b)) (.v b) (.seq (.var l)) .yes [(nb, b)]) .nil)) (tg := .v a) (cond := .yes) (own := [(na, a)]) (g := fun x => match x with | .int i => some (rowP (L.map fun k => en rows i.toNat k)) | _ => none) hsq (by rw [nats_len]; omega) fun x hx => by
    obtain ⟨i, hi, rfl⟩ := List.mem_map.mp hx
    have hin := hL i hi
    let ρ1 : FS.Loc := (ρ.set a none).set a (some (.int (i : Nat)))
    have r1t : ρ1[t]? = some (some (tabP rows)) := get_set (get_set ht at_) at_
    have r1l : ρ1[l]? = some (some w) := get_set (get_set hl al) al
    have r1a : ρ1[a]? = some (some (.int (i : Nat))) := by
      show ((ρ.set a none).set a (some (.int (i : Nat))))[a]? = _
      rw [List.getElem?_set_self (by simpa using ha)]
    have r1n : b < ρ1.length := by simpa [ρ1] using hb
    refine ⟨ρ1, rfl, .inr ⟨t_yes, (false, rowP (L.map fun k => en rows i k)), _, ?_, mov_f _, by simp⟩⟩
    obtain ⟨b1, hsq1⟩ := hw _ _ r1l
    have hc1 := e_comp (ρ := ρ1) (elt := .sub (.sub (.var t) (.var a)) (.var b)) (tg := .v b) (cond := .yes) (own := [(nb, b)]) (g := fun x => match x with | .int k => some (.int (en rows i k.toNat)) | _ => none) hsq1 (by rw [nats_len]; omega) fun x hx => by
      obtain ⟨k, hk, rfl⟩ := List.mem_map.mp hx
      have hkn := hL k hk
      let ρ2 : FS.Loc := (ρ1.set b none).set b (some (.int (k : Nat)))
      have r2t : ρ2[t]? = some (some (tabP rows)) := get_set (get_set r1t bt) bt
      have r2a : ρ2[a]? = some (some (.int (i : Nat))) := get_set (get_set r1a (Ne.symm ab)) (Ne.symm ab)
      have r2b : ρ2[b]? = some (some (.int (k : Nat))) := by
        show ((ρ1.set b none).set b (some (.int (k : Nat))))[b]? = _
        rw [List.getElem?_set_self (by simpa using r1n)]
      refine ⟨ρ2, rfl, .inr ⟨t_yes, (true, .int (en rows i k)), .int (en rows i k), ?_, movI _ _ (stI _), by simp⟩⟩
      simp only [e_sub, e_var, r2t, r2a, r2b, b_ok, fzI, sub_tab (show i < rows.length by rw [q.len]; exact hin), sub_two q hin hkn, if_true]
    have e1 : (natsP L).filterMap (fun x => match x with | .int k => some (PV.int (en rows i k.toNat)) | _ => none) = (L.map fun k => en rows i k).map .int := by
      rw [filterMap_all (f := fun k => .int (en rows i k)) fun k _ => by simp, List.map_map]
      rfl
    rw [e1] at hc1
    simp only [e_blt, e_cons, e_nil, hc1, b_ok, bltS, shal_f, PV.fz, fzs_ints, ofV_some]
    rfl
  have e2 : (natsP L).filterMap (fun x => match x with | .int i => some (rowP (L.map fun k => en rows i.toNat k)) | _ => none) = (cutR rows L).map rowP := by
    rw [filterMap_all (f := fun i => rowP (L.map fun k => en rows i k)) fun k _ => by simp]
    unfold cutR
    rw [List.map_map]
    rfl
  rw [e2] at hc
  have hz : PV.fzs ((cutR rows L).map rowP) = (cutR rows L).map rowP := fzs_id fun x hx => by
    obtain ⟨r, _, rfl⟩ := List.mem_map.mp hx
    rfl
  simp only [e_blt, e_cons, e_nil, hc, b_ok, bltS, shal_f, PV.fz, hz, ofV_some]
  rfl
theorem cutby_eq {rows : List (List Int)} {n : Nat} {L : List Nat} (q : Sq rows n) (hL : ∀ k ∈ L, k < n) (hlen : L.length ≤ 100) : m_cut_by [tabP rows, .tup (natsP L)] = .ok (tabP (cutR rows L)) := by
  refine runF_eq (ρ := [some (tabP rows), some (.tup (natsP L)), none, none]) rfl ?_
  unfold ss_cut_by
  simp only [exB]
  refine sq_rt ?_
  have := cut_ev (rows := rows) (n := n) (t := 0) (l := 1) (a := 3) (b := 2) (w := .tup (natsP L)) (L := L) (ρ := [some (tabP rows), some (.tup (natsP L)), none, none]) (na := "i") (nb := "k") q rfl rfl (LotV.sq (.inl rfl)) hL hlen (by simp) (by simp) (by decide) (by decide) (by decide) (by decide) (by decide)
  simp only [exS, this, b_ok]
theorem cut_eq {rows : List (List Int)} {n : Nat} {L : List Nat} {v w : PV} (h : TabV v rows) (hw : LotV w L) (q : Sq rows n) (hL : ∀ k ∈ L, k < n) (hl : 1 ≤ L.length) (hlen : L.length ≤ 100) (hp : L.Pairwise (· < ·)) : m_cut_to [v, w] = .ok (tabP (cutR rows L)) := by
  refine runF_eq (ρ := [some v, some w, none]) rfl ?_
  unfold ss_cut_to
  simp only [exB]
  have s1 : exS (.set 2 (.call "need_table" 2 m_need_table (.cons (.var 0) (.cons (.str "table") .nil)))) [some v, some w, none] = .ok (.nx [some v, some w, some (tabP rows)]) := by
    refine (x_set (r := (false, tabP rows)) (y := tabP rows) (call2 (b1 := true) (b2 := false) (x := v) (y := .str "table") (by simp only [e_var, List.getElem?_cons_zero]) e_str (h.take _) (tS _ _) (need_eq h q.two)) (mov_f _)).trans ?_
    simp only [List.set_cons_succ, List.set_cons_zero]
  have hlt := e_len (ρ := [some v, some w, some (tabP rows)]) (ip := 2) q rfl
  have hlw := hw.len (ρ := [some v, some w, some (tabP rows)]) (i := 1) rfl
  have h1 : evE (.call "is_lot" 2 m_is_lot (.cons (.var 1) (.cons (.blt .len (.cons (.var 2) .nil)) .nil))) [some v, some w, some (tabP rows)] = .ok (false, .bl true) := call2 (b1 := true) (b2 := false) (x := w) (y := .int (n : Nat)) (by simp only [e_var, List.getElem?_cons_succ, List.getElem?_cons_zero]) hlt (hw.take _) (tI _ _) (lot_eq hw hl hlen hL hp)
  have t1 : evT (.orr (.nt (.tru (.call "is_lot" 2 m_is_lot (.cons (.var 1) (.cons (.blt .len (.cons (.var 2) .nil)) .nil))))) (.one (.cmp .eq (.blt .len (.cons (.var 1) .nil)) (.int 0)))) [some v, some w, some (tabP rows)] = .ok false := by
    have a : decide (((L.length : Nat) : Int) = 0) = false := decide_eq_false (by omega)
    simp only [t_orr, t_nt, t_tru, h1, b_ok, truS, ofO_some, t_one, t_cmp, hlw, e_int, vB_bind, fzI, c_eq, a]
    rfl
  have h2 : evE (.blt .tuple (.cons (.var 1) .nil)) [some v, some w, some (tabP rows)] = .ok (false, .tup (natsP L)) := by
    rcases hw with rfl | rfl
    · simp only [e_blt, e_cons, e_nil, e_var, List.getElem?_cons_succ, List.getElem?_cons_zero, b_ok, bltS, shal_t, ofV_some]
      rfl
    · simp only [e_blt, e_cons, e_nil, e_var, List.getElem?_cons_succ, List.getElem?_cons_zero, b_ok, bltS, shal_l, ofV_some]
      rfl
  refine (sq_nx s1).trans ((sq_nx (ρ' := [some v, some w, some (tabP rows)]) ?_).trans (sq_rt ?_))
  · rw [x_ite t1, if_neg (by simp)]
    simp only [exB]
  · have := call2 (f := "cut_by") (m := m_cut_by) (e1 := .var 2) (ρ := [some v, some w, some (tabP rows)]) (b1 := true) (b2 := false) (x := tabP rows) (y := .tup (natsP L)) (by simp only [e_var, List.getElem?_cons_succ, List.getElem?_cons_zero]) h2 (tTab _ _) (tT _ _) (cutby_eq q hL hlen)
    simp only [exS, this, b_ok]
end K06

set_option Elab.async false
set_option linter.all false
set_option maxRecDepth 100000
set_option maxHeartbeats 4000000
namespace K06
open PySem PySem.Spec PyProof.Rows L2 FS
open Classical
/-! ### _law_is_one -/
theorem cmp_same {x : PV} {d : PyData} (h : x.sdata = some d) (hd : d.plain = true) : cmpS .ne x x = some false ∧ cmpS .eq x x = some true := by
  have e := PySem.SeqAt.eqv_refl_plain d hd
  constructor
  · simp only [cmpS, h, e, Bool.not_true]
  · simp only [cmpS, h, e]
theorem sdat_nats (l : List Nat) : ∃ d, PV.sdata (.lst false (natsP l)) = some d ∧ d.plain = true := by
  have h : PV.data (.lst false (natsP l)) = some (.list (l.map fun k => PyData.int (k : Nat))) := by simp [PV.data, dat_nats]
  exact ⟨_, by simp [PV.sdata, h, PyData.depth, dep_nats], PV.data_plain h⟩
theorem cmp_nil : cmpS .eq (.lst false []) (.lst false []) = some true := by
  simp [cmpS, PV.sdata, PV.data, PV.datas, PyData.depth, PyData.depthAll, PyData.eqv, PyData.eqvAll]
theorem isone_eq {rows : List (List Int)} {n : Nat} (q : Sq rows n) (h : ∀ p, p < n → rl (Ed rows) n p = List.range n) : m__law_is_one [tabP rows] = .ok (.bl true) := by
  have hn := q.few
  refine runF_eq (ρ := [some (tabP rows), none, none]) rfl ?_
  unfold ss__law_is_one
  simp only [exB]
  have hl : evE (.listR (.blt .len (.cons (.var 0) .nil))) [some (tabP rows), none, none] = .ok (false, .lst true (natsP (List.range n))) := by
    rw [e_listR, e_len (ip := 0) q rfl, b_ok]
    dsimp only
    rw [if_pos (by omega), rangeL_nat]
    rfl
  have s1 : exS (.set 1 (.listR (.blt .len (.cons (.var 0) .nil)))) [some (tabP rows), none, none] = .ok (.nx [some (tabP rows), some (.lst true (natsP (List.range n))), none]) := by
    refine (x_set hl (mov_f _)).trans ?_
    simp only [List.set_cons_succ, List.set_cons_zero]
  have hi : evI (.seq (.var 1)) [some (tabP rows), some (.lst true (natsP (List.range n))), none] = .ok (false, natsP (List.range n)) := by
    simp only [i_seq, e_var, List.getElem?_cons_succ, List.getElem?_cons_zero, b_ok, seqS, shal_o _ (st_nats _), ofO_some, stL]
    rfl
  have hc := e_comp (elt := .var 2) (tg := .v 2) (cond := .cmp .ne (.call "_law_from" 2 m__law_from (.cons (.var 0) (.cons (.var 2) .nil))) (.var 1)) (own := [("place", 2)]) (g := fun _ => none) hi (by rw [nats_len, List.length_range]; omega) fun x hx => by
    obtain ⟨k, hk, rfl⟩ := List.mem_map.mp hx
    rw [List.mem_range] at hk
    refine ⟨[some (tabP rows), some (.lst true (natsP (List.range n))), some (.int (k : Nat))], rfl, .inl ⟨?_, rfl⟩⟩
    have hf : evE (.call "_law_from" 2 m__law_from (.cons (.var 0) (.cons (.var 2) .nil))) [some (tabP rows), some (.lst true (natsP (List.range n))), some (.int (k : Nat))] = .ok (false, .lst true (natsP (List.range n))) := call2 (b1 := true) (b2 := true) (x := tabP rows) (y := .int (k : Nat)) (by simp only [e_var, List.getElem?_cons_zero]) (by simp only [e_var, List.getElem?_cons_succ, List.getElem?_cons_zero]) (tTab _ _) (tI _ _) (by rw [from_eq q hk, h k hk])
    obtain ⟨d, e1, e2⟩ := sdat_nats (List.range n)
    simp only [t_cmp, hf]
    simp only [e_var, List.getElem?_cons_succ, List.getElem?_cons_zero, b_ok, PV.fz, fzs_nats, (cmp_same e1 e2).1, ofO_some]
  have hn0 : (natsP (List.range n)).filterMap (fun _ => (none : Option PV)) = [] := by simp
  rw [hn0] at hc
  have hls : evE (.lst .nil) [some (tabP rows), some (.lst true (natsP (List.range n))), none] = .ok (false, .lst true []) := by
    simp only [e_lst, e_nil, b_ok, movs]
    rw [if_pos (by simp)]
    rfl
  refine (sq_nx s1).trans (sq_rt ?_)
  simp only [exS, e_cmp, hc, hls, b_ok, PV.fz, PV.fzs, cmp_nil, ofB_some, vB_bind]
/-- a room cut out -/
theorem en_cut {rows : List (List Int)} {L : List Nat} {a b : Nat} (ha : a < L.length) (hb : b < L.length) : en (cutR rows L) a b = en rows L[a] L[b] := by
  unfold en cutR
  rw [List.getD_eq_getElem?_getD (l := L.map _), List.getElem?_map, List.getElem?_eq_getElem ha]
  simp only [Option.map_some, Option.getD_some]
  rw [List.getD_eq_getElem?_getD (l := L.map _), List.getElem?_map, List.getElem?_eq_getElem hb]
  rfl
theorem cut_sq {rows : List (List Int)} {n : Nat} {L : List Nat} (q : Sq rows n) (h1 : 1 ≤ L.length) (h7 : L.length ≤ 7) (hL : ∀ k ∈ L, k < n) : Sq (cutR rows L) L.length := by
  refine ⟨by simp [cutR], fun r hr => ?_, fun r hr x hx => ?_, h1, h7⟩
  · obtain ⟨i, _, rfl⟩ := List.mem_map.mp hr
    simp
  · obtain ⟨i, hi, rfl⟩ := List.mem_map.mp hr
    obtain ⟨k, hk, rfl⟩ := List.mem_map.mp hx
    have hil : i < rows.length := by rw [q.len]; exact hL i hi
    have hrm := getD_mem (d := ([] : List Int)) hil
    exact q.ent _ hrm _ (getD_mem (by rw [q.row _ hrm]; exact hL k hk))
theorem one_room {rows : List (List Int)} {n p : Nat} (q : Sq rows n) (hp : p < n) (hh : Hd (Ed rows) p) : m__law_is_one [tabP (cutR rows (SC (Ed rows) n p))] = .ok (.bl true) := by
  have hn := q.few
  have hl := SC_len (rows := rows) (n := n) (p := p)
  have hL : ∀ k ∈ SC (Ed rows) n p, k < n := fun k hk => (mem_SC.mp hk).1
  have h1 : 1 ≤ (SC (Ed rows) n p).length := List.length_pos_iff.mpr (SC_ne hp hh)
  have q2 := cut_sq q h1 (by omega) hL
  refine isone_eq q2 fun a ha => ?_
  unfold rl
  refine List.filter_eq_self.mpr fun b hb => ?_
  rw [List.mem_range] at hb
  rw [decide_eq_true_eq]
  obtain ⟨_, a1, a2⟩ := mem_SC.mp (List.getElem_mem ha)
  obtain ⟨_, b1, b2⟩ := mem_SC.mp (List.getElem_mem hb)
  refine room_one (E := Ed rows) (n := n) (p := p) (fun i k h => q.lt h) (fun a' b' x y hx hy he => ?_) (a2.trans b1) (List.getElem?_eq_getElem ha) (List.getElem?_eq_getElem hb)
  obtain ⟨c1, d1⟩ := List.getElem?_eq_some_iff.mp hx
  obtain ⟨c2, d2⟩ := List.getElem?_eq_some_iff.mp hy
  show 0 < en (cutR rows (SC (Ed rows) n p)) a' b'
  rw [en_cut c1 c2, d1, d2]
  exact he
/-! ### what is refused -/
def badL : List PV := [.non, .int 3, .tup [], .str "t", .bl true, .tup [.tup [.int 1, .int 2]], .tup [.tup [.int 1, .int 0], .tup [.int 0]], .tup [.tup [.int (-1)]], .tup [.tup [.bl true]], .tup [.tup [.non]], .tup [.tup [.int (10 ^ 60 + 1)]], .tup (List.replicate 13 (.tup (List.replicate 13 (.int 0)))), .dct false false [] [], .tup [.tup [.str "1"]]]
def tbP : PV := .tup [.str "table", .str "table"]
structure Bad (b : PV) : Prop where
  tk : FS.take (true, b) = some b
  nd : m_need_table [b, .str "table"] = .ret (.exn "BadTable" ["what"] [.str "table"])
  r1 : m__law_one [.gl "rooms", b] = .ok tbP
  r2 : m__law_one [.gl "room_ways", b] = .ok tbP
theorem bad_all : ∀ b ∈ badL, Bad b := by
  intro b hb
  unfold badL at hb
  simp only [List.mem_cons, List.not_mem_nil, or_false] at hb
  rcases hb with rfl | rfl | rfl | rfl | rfl | rfl | rfl | rfl | rfl | rfl | rfl | rfl | rfl | rfl <;> exact ⟨by kernel_rfl, by kernel_rfl, by kernel_rfl, by kernel_rfl⟩
end K06

set_option Elab.async false
set_option linter.all false
set_option maxRecDepth 100000
set_option maxHeartbeats 4000000
namespace K06
open PySem PySem.Spec PyProof.Rows L2 FS
/-! ### draws -/
/-- the same as `Tr.W`, but closed to unfolding -/
structure Sy {α : Type} (m : Tr α) (P : Out α → Prop) : Prop where
  h : m.W P
theorem Sy.imp {α : Type} {m : Tr α} {P Q : Out α → Prop} (h : Sy m P) (i : ∀ o, P o → Q o) : Sy m Q := ⟨Tr.W_imp i h.h⟩
theorem Sy.of {α : Type} {m : Tr α} {a : α} {P : Out α → Prop} (h : m = .ok a) (p : P (.ok a)) : Sy m P := ⟨by rw [h]; exact p⟩
theorem Sy.bind {α β : Type} {m : Tr α} {f : α → Tr β} {P : Out β → Prop} (h : Sy m fun o => ∃ x, o = .ok x ∧ Sy (f x) P) : Sy (m.bind f) P := ⟨Tr.W_bind.mpr (Tr.W_imp (fun o ⟨x, e, p⟩ => by subst e; exact p.h) h.h)⟩
section
variable {ρ : FS.Loc} {P : Out Rv → Prop}
theorem call_S {f : Str} {n : Nat} {m : Fn} {es : Exs} {rs : List Rv} {xs : List PV} (hes : evs es ρ = .ok rs) (ht : takes rs = some xs) (hl : xs.length = n) (h : Sy (m xs) fun o => ∃ x, o = .ok x ∧ P (.ok (false, x))) : Sy (evE (.call f n m es) ρ) P := by
  rw [e_call, hes, b_ok, ht]
  dsimp only
  rw [if_pos hl]
  exact .bind (h.imp fun o ⟨x, e, p⟩ => ⟨x, e, ⟨p⟩⟩)
theorem draw_S {i : Nat} {e : Ex} {b : Bool} {n : Int} (hp : ρ[i]? = some (some .pen)) (he : evE e ρ = .ok (b, .int n)) (h0 : 0 < n) (h1 : n < 1000) (h : ∀ j, 0 ≤ j → j < n → P (.ok (false, .int j))) : Sy (evE (.call "_law_draw" 2 m__law_draw (.cons (.var i) (.cons e .nil))) ρ) P := by
  have hv : evE (.var i) ρ = .ok (true, .pen) := by rw [e_var, hp]
  refine call_S (rs := [(true, .pen), (b, .int n)]) (xs := [.pen, .int n]) (by rw [e_cons, hv, b_ok, e_cons, he, b_ok, e_nil]; rfl) (by simp only [takes, takeI true _ stP fzP, tI]) rfl ⟨?_⟩
  show (drawM [.pen, .int n]).W _
  unfold drawM
  dsimp only
  rw [if_pos ⟨h0, by omega⟩]
  exact ⟨h0, fun j a b => ⟨_, rfl, h j a b⟩⟩
theorem ife_S {c : Te} {a b : Ex} (h : Sy (evT c ρ) fun o => ∃ k, o = .ok k ∧ Sy (evE (if k then a else b) ρ) P) : Sy (evE (.ife c a b) ρ) P := by
  rw [e_ife]
  exact .bind (h.imp fun o ⟨k, e, p⟩ => ⟨k, e, by cases k <;> exact p⟩)
theorem eqd_S {i : Nat} {e : Ex} {b : Bool} {n c : Int} {P : Out Bool → Prop} (hp : ρ[i]? = some (some .pen)) (he : evE e ρ = .ok (b, .int n)) (h0 : 0 < n) (h1 : n < 1000) (h : ∀ k, P (.ok k)) : Sy (evT (.cmp .eq (.call "_law_draw" 2 m__law_draw (.cons (.var i) (.cons e .nil))) (.int c)) ρ) P := by
  rw [t_cmp]
  refine .bind (draw_S hp he h0 h1 fun j _ _ => ⟨_, rfl, ?_⟩)
  simp only [e_int, vB_bind, fzI, c_eq, ofO_some]
  exact ⟨h _⟩
theorem gtd_S {i : Nat} {e : Ex} {b : Bool} {n c : Int} {P : Out Bool → Prop} (hp : ρ[i]? = some (some .pen)) (he : evE e ρ = .ok (b, .int n)) (h0 : 0 < n) (h1 : n < 1000) (h : ∀ k, P (.ok k)) : Sy (evT (.cmp .gt (.call "_law_draw" 2 m__law_draw (.cons (.var i) (.cons e .nil))) (.int c)) ρ) P := by
  rw [t_cmp]
  refine .bind (draw_S hp he h0 h1 fun j _ _ => ⟨_, rfl, ?_⟩)
  simp only [e_int, vB_bind, fzI, c_gt, ofO_some]
  exact ⟨h _⟩
theorem set_S {i : Nat} {e : Ex} {P : Out Fl → Prop} (h : Sy (evE e ρ) fun o => ∃ r y, o = .ok r ∧ FS.mov r = some y ∧ P (.ok (.nx (ρ.set i (some y))))) : Sy (exS (.set i e) ρ) P := by
  simp only [exS, setF]
  refine .bind (h.imp fun o ⟨r, y, e, hm, p⟩ => ⟨r, e, ?_⟩)
  rw [hm]
  exact ⟨p⟩
theorem ret_S {e : Ex} {P : Out Fl → Prop} (h : Sy (evE e ρ) fun o => ∃ r, o = .ok r ∧ P (.ok (.rt r.2))) : Sy (exS (.ret e) ρ) P := by
  simp only [exS]
  exact .bind (h.imp fun o ⟨r, e, p⟩ => ⟨r, e, ⟨p⟩⟩)
theorem blt_S {b : Blt} {e : Ex} (h : Sy (evE e ρ) fun o => ∃ r y, o = .ok r ∧ bltS b [r] = some y ∧ P (.ok (false, y))) : Sy (evE (.blt b (.cons e .nil)) ρ) P := by
  rw [e_blt, e_cons, e_nil]
  refine .bind (.bind (h.imp fun o ⟨r, y, e, hb, p⟩ => ⟨r, e, ⟨⟨[r], rfl, ?_⟩⟩⟩))
  rw [hb]
  exact ⟨p⟩
theorem one_draw_S {i : Nat} {e : Ex} {b : Bool} {n : Int} (hp : ρ[i]? = some (some .pen)) (he : evE e ρ = .ok (b, .int n)) (h0 : 0 < n) (h1 : n < 1000) (h : ∀ m : Nat, (m : Int) < n → P (.ok (false, .int ((m + 1 : Nat) : Int)))) : Sy (evE (.bin .add (.int 1) (.call "_law_draw" 2 m__law_draw (.cons (.var i) (.cons e .nil)))) ρ) P := by
  rw [e_bin, e_int, vB_bind]
  refine .bind (draw_S hp he h0 h1 fun j hj0 hj => ⟨_, rfl, ?_⟩)
  obtain ⟨m, rfl⟩ := Int.eq_ofNat_of_zero_le hj0
  show Sy (ofV (binS .add (.int 1) (.int (m : Nat)))) P
  have e1 : binS .add (.int 1) (.int (m : Nat)) = some (.int ((m + 1 : Nat) : Int)) := by
    simp only [binS]
    rw [show (1 : Int) + (m : Nat) = ((m + 1 : Nat) : Int) by omega]
  rw [e1]
  exact ⟨h m hj⟩
theorem comp_S {elt : Ex} {tg : Tg} {it : ItX} {cond : Te} {own : List (Str × Nat)} {b : Bool} {xs : List PV} {R : PV → Option PV → Prop} (hi : evI it ρ = .ok (b, xs)) (hl : xs.length < 1000000)
    (h : ∀ x ∈ xs, ∃ ρ', bindTg tg x (wipeL ρ (own.map (·.2))) = some ρ' ∧ Sy (evT cond ρ') fun o => ∃ k, o = .ok k ∧ (k = false → R x none) ∧ (k = true → Sy (evE elt ρ') fun o => ∃ r y, o = .ok r ∧ mov r = some y ∧ R x (some y)))
    (q : ∀ ys, Fa2 R xs ys → P (.ok (false, .lst true (ys.filterMap id)))) : Sy (evE (.comp elt tg it cond own) ρ) P := ⟨e_comp_W (R := R) hi hl (fun x hx => by
      obtain ⟨ρ', h1, h2⟩ := h x hx
      exact ⟨ρ', h1, Tr.W_imp (fun o ⟨k, e, a, c⟩ => ⟨k, e, a, fun z => (c z).h⟩) h2.h⟩) q⟩
theorem run_S {l n : Nat} {ss : Ss} {xs : List PV} {P : Out PV → Prop} (hρ : xs.map some ++ List.replicate (l - n) none = ρ) (h : Sy (exB ss ρ) fun o => ∃ r, o = .ok (.rt r) ∧ P (.ok r)) : Sy (runF l n ss xs) P := ⟨runF_W hρ h.h⟩
theorem sq_S {m k : FS.Loc → Tr Fl} {P : Out Fl → Prop} (h : Sy (m ρ) fun o => ∃ ρ', o = .ok (.nx ρ') ∧ Sy (k ρ') P) : Sy (sqF m k ρ) P := ⟨sq_W (Tr.W_imp (fun o ⟨r, e, p⟩ => ⟨r, e, p.h⟩) h.h)⟩
theorem sq_S2 {m k : FS.Loc → Tr Fl} {P : Out Fl → Prop} (h : Sy (m ρ) fun o => ∃ x, o = .ok (.rt x) ∧ P (.ok (.rt x))) : Sy (sqF m k ρ) P := by
  unfold sqF
  refine .bind (h.imp fun o ⟨x, e, p⟩ => ⟨_, e, ?_⟩)
  exact ⟨p⟩
theorem for_S {t : Tg} {b : FS.Loc → Tr Fl} {P : Out Fl → Prop} (I : Nat → FS.Loc → Prop) (xs : List PV) (i : Nat) (ρ : FS.Loc) (h0 : I i ρ) (h : ∀ j x ρ, xs[j]? = some x → I (i + j) ρ → ∃ ρ1, bindTg t x ρ = some ρ1 ∧ Sy (b ρ1) fun o => ∃ ρ2, o = .ok (.nx ρ2) ∧ I (i + j + 1) ρ2) (q : ∀ ρ, I (i + xs.length) ρ → P (.ok (.nx ρ))) : Sy (forL t b xs ρ) P := ⟨forL_W I xs i ρ h0 (fun j x ρ a c => by
  obtain ⟨ρ1, e, w⟩ := h j x ρ a c
  exact ⟨ρ1, e, w.h⟩) q⟩
/-- what stands of pairs -/
theorem fa2_ints {Q : Int → Prop} : ∀ {xs : List PV} {ys : List (Option PV)}, Fa2 (fun _ y => ∃ j, y = some (.int j) ∧ Q j) xs ys → ∃ r : List Int, ys.filterMap id = r.map .int ∧ r.length = xs.length ∧ ∀ x ∈ r, Q x
  | _, _, .nil => ⟨[], rfl, rfl, fun x hx => by simp at hx⟩
  | _, _, .cons ⟨j, e, hq⟩ t => by
    obtain ⟨r, h1, h2, h3⟩ := fa2_ints t
    subst e
    refine ⟨j :: r, ?_, by simp [h2], fun x hx => ?_⟩
    · rw [List.filterMap_cons]
      simp [h1]
    · rcases List.mem_cons.mp hx with rfl | hx
      · exact hq
      · exact h3 x hx
theorem fa2_rows {Q : List Int → Prop} {f : List Int → PV} : ∀ {xs : List PV} {ys : List (Option PV)}, Fa2 (fun _ y => ∃ r, y = some (f r) ∧ Q r) xs ys → ∃ rows : List (List Int), ys.filterMap id = rows.map f ∧ rows.length = xs.length ∧ ∀ r ∈ rows, Q r
  | _, _, .nil => ⟨[], rfl, rfl, fun x hx => by simp at hx⟩
  | _, _, .cons ⟨j, e, hq⟩ t => by
    obtain ⟨r, h1, h2, h3⟩ := fa2_rows t
    subst e
    refine ⟨j :: r, ?_, by simp [h2], fun x hx => ?_⟩
    · rw [List.filterMap_cons]
      simp [h1]
    · rcases List.mem_cons.mp hx with rfl | hx
      · exact hq
      · exact h3 x hx
end
/-- tables of 0 to 2 -/
structure Dr (rows : List (List Int)) (n : Nat) : Prop where
  len : rows.length = n
  row : ∀ r ∈ rows, r.length = n
  ent : ∀ r ∈ rows, ∀ x ∈ r, 0 ≤ x ∧ x ≤ 2
  pos : 1 ≤ n
theorem Dr.sq {rows : List (List Int)} {n : Nat} (d : Dr rows n) (h : n ≤ 7) : Sq rows n := ⟨d.len, d.row, fun r hr x hx => ⟨(d.ent r hr x hx).1, Int.le_trans (d.ent r hr x hx).2 (by decide)⟩, d.pos, h⟩
theorem tup_of {f : List Int → PV} {rows : List (List Int)} (hf : ∀ r, (f r).fz = rowP r) : bltS .tuple [(false, .lst true (rows.map f))] = some (tabP rows) := by
  have hz : PV.fzs (rows.map f) = rows.map rowP := by
    induction rows with
    | nil => rfl
    | cons r rows ih =>
      simp only [List.map_cons, PV.fzs, hf, ih]
  simp only [bltS, shal_f, PV.fz, hz]
  rfl
theorem add1 {ρ : FS.Loc} {i : Nat} {m : Nat} (h : ρ[i]? = some (some (.int (m : Nat)))) : evE (.bin .add (.var i) (.int 1)) ρ = .ok (false, .int ((m + 1 : Nat) : Int)) := by
  simp only [e_bin, e_var, h, e_int, vB_bind, b_ok, shal_i, shal_f, fzI, binS, ofV_some]
  rfl
/-- an entry, drawn or 0 -/
def eGt (p0 p2 : Nat) : Ex := .ife (.cmp .gt (.call "_law_draw" 2 m__law_draw (.cons (.var p0) (.cons (.int 3) .nil))) (.int 0)) (.call "_law_draw" 2 m__law_draw (.cons (.var p0) (.cons (.bin .add (.var p2) (.int 1)) .nil))) (.int 0)
def oneD (p : Nat) (e : Ex) : Ex := .bin .add (.int 1) (.call "_law_draw" 2 m__law_draw (.cons (.var p) (.cons e .nil)))
def tRow : Ex := .comp (eGt 0 2) (.v 4) (.rng (.var 3)) .yes [("k", 4)]
def tAll : Ex := .comp (.blt .tuple (.cons tRow .nil)) (.v 5) (.rng (.var 3)) .yes [("i", 5)]
theorem ss_table : ss__law_table = .cons (.set 3 (oneD 0 (.var 1))) (.cons (.ret (.blt .tuple (.cons tAll .nil))) .nil) := rfl
theorem eGt_W {ρ : FS.Loc} {P : Out Rv → Prop} (h0 : ρ[0]? = some (some .pen)) (h2 : ρ[2]? = some (some (.int 2))) (h : ∀ j : Int, 0 ≤ j → j ≤ 2 → P (.ok (false, .int j))) : Sy (evE (eGt 0 2) ρ) P := by
  unfold eGt
  refine ife_S (gtd_S (b := false) (n := 3) h0 (by rw [e_int]; rfl) (by decide) (by decide) fun k => ⟨k, rfl, ?_⟩)
  cases k with
  | true =>
    rw [if_pos rfl]
    refine draw_S (b := false) (n := 3) h0 ?_ (by decide) (by decide) fun j a b => h j a (by omega)
    rw [e_bin, e_var, h2, b_ok, e_int, vB_bind]
    rfl
  | false =>
    rw [if_neg (by decide), e_int]
    exact ⟨h 0 (by decide) (by decide)⟩
theorem ints_fz (r : List Int) : PV.fzs (r.map .int) = r.map .int := fzs_id fun x hx => by
  obtain ⟨i, _, rfl⟩ := List.mem_map.mp hx
  rfl
theorem tRow_W {m : Nat} (hm : m ≤ 7) {x5 : Option PV} {P : Out Rv → Prop} (h : ∀ r : List Int, r.length = m → (∀ x ∈ r, 0 ≤ x ∧ x ≤ 2) → P (.ok (false, .lst true (r.map .int)))) : Sy (evE tRow [some .pen, some (.int 7), some (.int 2), some (.int (m : Nat)), none, x5]) P := by
  unfold tRow
  refine comp_S (b := true) (xs := natsP (List.range m)) (R := fun _ y => ∃ j, y = some (.int j) ∧ (0 ≤ j ∧ j ≤ 2)) (i_range hm ⟨true, by rw [e_var]; rfl⟩) (by rw [nats_len, List.length_range]; omega) (fun x hx => ?_) fun ys hy => ?_
  · refine ⟨[some .pen, some (.int 7), some (.int 2), some (.int (m : Nat)), some x, x5], rfl, ?_⟩
    rw [t_yes]
    refine .of rfl ⟨true, rfl, (fun e => by cases e), fun _ => ?_⟩
    exact eGt_W rfl rfl fun j a b => ⟨_, _, rfl, mov_f _, j, rfl, a, b⟩
  · obtain ⟨r, h1, h2, h3⟩ := fa2_ints hy
    rw [h1]
    exact h r (by rw [h2, nats_len, List.length_range]) h3
theorem bltT {r : List Int} : bltS .tuple [(false, .lst true (r.map .int))] = some (rowP r) := by
  simp only [bltS, shal_f, PV.fz, ints_fz]
  rfl
theorem rowP_fz (r : List Int) : (rowP r).fz = rowP r := rfl
theorem tAll_W {m : Nat} (hm : m ≤ 7) {P : Out Rv → Prop} (h : ∀ rows : List (List Int), rows.length = m → (∀ r ∈ rows, r.length = m ∧ ∀ x ∈ r, 0 ≤ x ∧ x ≤ 2) → P (.ok (false, .lst true (rows.map rowP)))) : Sy (evE tAll [some .pen, some (.int 7), some (.int 2), some (.int (m : Nat)), none, none]) P := by
  unfold tAll
  refine comp_S (b := true) (xs := natsP (List.range m)) (R := fun _ y => ∃ r, y = some (rowP r) ∧ (r.length = m ∧ ∀ x ∈ r, 0 ≤ x ∧ x ≤ 2)) (i_range hm ⟨true, by rw [e_var]; rfl⟩) (by rw [nats_len, List.length_range]; omega) (fun x hx => ?_) fun ys hy => ?_
  · refine ⟨[some .pen, some (.int 7), some (.int 2), some (.int (m : Nat)), none, some x], rfl, ?_⟩
    rw [t_yes]
    refine .of rfl ⟨true, rfl, (fun e => by cases e), fun _ => ?_⟩
    exact blt_S (tRow_W hm fun r a b => ⟨_, _, rfl, bltT, _, _, rfl, mov_f _, r, rfl, a, b⟩)
  · obtain ⟨r, h1, h2, h3⟩ := fa2_rows hy
    rw [h1]
    exact h r (by rw [h2, nats_len, List.length_range]) h3
theorem table_W {P : Out PV → Prop} (h : ∀ rows n, Dr rows n → n ≤ 7 → P (.ok (tabP rows))) : Sy (m__law_table [.pen, .int 7, .int 2]) P := by
  refine run_S (ρ := [some .pen, some (.int 7), some (.int 2), none, none, none]) rfl ?_
  rw [ss_table]
  simp only [exB]
  refine sq_S (set_S (one_draw_S (b := true) (n := 7) rfl (by rw [e_var]; rfl) (by decide) (by decide) fun m hm => ?_))
  have hm7 : m + 1 ≤ 7 := by omega
  refine ⟨(false, .int ((m + 1 : Nat) : Int)), .int ((m + 1 : Nat) : Int), rfl, mov_f _, [some .pen, some (.int 7), some (.int 2), some (.int ((m + 1 : Nat) : Int)), none, none], rfl, ?_⟩
  refine sq_S2 (ret_S (blt_S (tAll_W hm7 fun rows a b => ?_)))
  exact ⟨_, _, rfl, tup_of (f := rowP) (fun _ => rfl), _, rfl, _, rfl, _, rfl, h rows (m + 1) ⟨a, fun r hr => (b r hr).1, fun r hr => (b r hr).2, by omega⟩ hm7⟩
end K06

set_option Elab.async false
set_option linter.all false
set_option maxRecDepth 100000
set_option maxHeartbeats 4000000
namespace K06
open PySem PySem.Spec PyProof.Rows L2 FS
/-! ### picks, orders, tables of one room -/
theorem atI_in {xs : List PV} {j : Int} (h0 : 0 ≤ j) (h : j < xs.length) : ∃ x ∈ xs, atI xs j = some x := by
  obtain ⟨m, rfl⟩ := Int.eq_ofNat_of_zero_le h0
  have hm : m < xs.length := by omega
  exact ⟨xs[m], List.getElem_mem hm, by rw [atI_nat hm, List.getElem?_eq_getElem hm]⟩
theorem pick_S {xs : List PV} {P : Out PV → Prop} (h0 : 0 < xs.length) (h1 : xs.length < 1000) (h : ∀ x ∈ xs, P (.ok x)) : Sy (m__law_pick [.pen, .lst false xs]) P := by
  refine run_S (ρ := [some .pen, some (.lst false xs)]) rfl ?_
  unfold ss__law_pick
  simp only [exB]
  refine sq_S2 (ret_S ?_)
  rw [e_sub, e_var]
  refine .bind (.of (a := (true, .lst false xs)) rfl ⟨_, rfl, .bind (draw_S (b := false) (n := xs.length) rfl (len_lst rfl) (by omega) (by omega) fun j a b => ⟨_, rfl, ?_⟩)⟩)
  obtain ⟨x, hx, e⟩ := atI_in a b
  have e2 : subS (.lst false xs) (PV.fz (.int j)) = some x := e
  show Sy (match subS (.lst false xs) (PV.fz (.int j)) with | some x => Tr.ok (true, if true then x else x.fz) | none => .bad) _
  rw [e2]
  exact ⟨⟨_, rfl, _, rfl, _, rfl, h x hx⟩⟩
theorem list_S {ρ : FS.Loc} {i : Nat} {xs : List PV} (hi : ρ[i]? = some (some (.lst false xs))) : evE (.blt .list (.cons (.var i) .nil)) ρ = .ok (false, .lst true xs) := by
  rw [e_blt, e_cons, e_var, hi, b_ok, e_nil]
  rfl
theorem xfor_S {t : Tg} {it : ItX} {b : Ss} {ρ : FS.Loc} {xs : List PV} {P : Out Fl → Prop} (I : Nat → FS.Loc → Prop) (hi : evI it ρ = .ok (true, xs)) (h0 : I 0 ρ) (h : ∀ j x ρ, xs[j]? = some x → I j ρ → ∃ ρ1, bindTg t x ρ = some ρ1 ∧ Sy (exB b ρ1) fun o => ∃ ρ2, o = .ok (.nx ρ2) ∧ I (j + 1) ρ2) (q : ∀ ρ, I xs.length ρ → P (.ok (.nx ρ))) : Sy (exS (.fr t it b) ρ) P := by
  simp only [exS]
  unfold forF
  rw [hi, b_ok]
  dsimp only
  rw [if_pos rfl]
  exact for_S I xs 0 ρ h0 (fun j x ρ hx hI => by
    rw [Nat.zero_add] at hI ⊢
    exact h j x ρ hx hI) fun ρ hI => q ρ (by rw [Nat.zero_add] at hI; exact hI)
structure Ord (l : List Nat) (n m : Nat) : Prop where
  len : l.length = m
  lt : ∀ k ∈ l, k < n
abbrev shS (l lf fd : List Nat) (x : Option PV) : FS.Loc := [some .pen, some (.lst false (natsP l)), some (.lst true (natsP lf)), some (.lst true (natsP fd)), x]
def shB : Ss := .cons (.apop 3 2 (.call "_law_draw" 2 m__law_draw (.cons (.var 0) (.cons (.blt .len (.cons (.var 2) .nil)) .nil)))) .nil
theorem ss_sh : ss__law_shuffled = .cons (.par2 2 3 (.cons (.blt .list (.cons (.var 1) .nil)) (.cons (.lst .nil) .nil))) (.cons (.fr (.v 4) (.rng (.blt .len (.cons (.var 1) .nil))) shB) (.cons (.ret (.var 3)) .nil)) := rfl
def shI (l : List Nat) (n i : Nat) (ρ : FS.Loc) : Prop := ∃ lf fd x, ρ = shS l lf fd x ∧ Ord lf n (l.length - i) ∧ Ord fd n i
theorem er_map {α β : Type} (f : α → β) : ∀ (l : List α) (t : Nat), (l.map f).eraseIdx t = (l.eraseIdx t).map f
  | [], _ => rfl
  | _ :: _, 0 => rfl
  | x :: l, t + 1 => by
    simp only [List.map_cons, List.eraseIdx_cons_succ]
    rw [er_map f l t]
theorem sh_step {l lf fd : List Nat} {n i : Nat} {x : Option PV} (hl : l.length ≤ 100) (hi : i < l.length) (a : Ord lf n (l.length - i)) (b : Ord fd n i) : Sy (exB shB (shS l lf fd x)) fun o => ∃ ρ, o = .ok (.nx ρ) ∧ shI l n (i + 1) ρ := by
  unfold shB
  simp only [exB]
  refine sq_S ?_
  simp only [exS]
  unfold apopF
  simp only [lstAt, List.getElem?_cons_succ, List.getElem?_cons_zero]
  have ha := a.len
  have hb := b.len
  rw [if_pos ⟨by decide, st_nats lf, by rw [nats_len]; omega, by rw [nats_len]; omega⟩]
  refine .bind (draw_S (b := false) (n := lf.length) rfl (by rw [len_lst (xs := natsP lf) rfl, nats_len]) (by omega) (by omega) fun j h0 h1 => ⟨_, rfl, ?_⟩)
  obtain ⟨t, rfl⟩ := Int.eq_ofNat_of_zero_le h0
  have ht : t < lf.length := by omega
  have e1 : (natsP lf)[t]? = some (.int (lf[t] : Nat)) := by
    rw [natsP, List.getElem?_map, List.getElem?_eq_getElem ht]
    rfl
  have e2 : (natsP lf).eraseIdx t = natsP (lf.eraseIdx t) := by
    simp only [natsP]
    exact er_map _ _ _
  dsimp only
  rw [if_pos ⟨h0, by rw [nats_len]; exact h1⟩, Int.toNat_natCast, e1, e2]
  refine ⟨shS l (lf.eraseIdx t) (fd ++ [lf[t]]) x, ?_, ?_⟩
  · rw [← nats_one lf[t], ← nats_app]
    rfl
  · refine ⟨_, rfl, _, _, _, rfl, ⟨?_, fun k hk => a.lt k (List.mem_of_mem_eraseIdx hk)⟩, ⟨?_, fun k hk => ?_⟩⟩
    · rw [List.length_eraseIdx_of_lt ht]
      omega
    · simp [hb]
    · rcases List.mem_append.mp hk with z | z
      · exact b.lt k z
      · rw [List.mem_singleton.mp z]
        exact a.lt _ (List.getElem_mem ht)
theorem sh_S {l : List Nat} {n : Nat} {P : Out PV → Prop} (hl : l.length ≤ 100) (hL : ∀ k ∈ l, k < n) (h : ∀ o, Ord o n l.length → P (.ok (.lst true (natsP o)))) : Sy (m__law_shuffled [.pen, .lst false (natsP l)]) P := by
  refine run_S (ρ := [some .pen, some (.lst false (natsP l)), none, none, none]) rfl ?_
  rw [ss_sh]
  simp only [exB]
  refine sq_S (.of (x_par2 (rs := [(false, .lst true (natsP l)), (false, .lst true [])]) (u := .lst true (natsP l)) (v := .lst true []) (by rw [e_cons, list_S rfl, b_ok, e_cons, e_lst, e_nil]; rfl) rfl) ⟨_, rfl, ?_⟩)
  refine sq_S ?_
  have hr : evI (.rng (.blt .len (.cons (.var 1) .nil))) [some .pen, some (.lst false (natsP l)), some (.lst true (natsP l)), some (.lst true []), none] = .ok (true, natsP (List.range l.length)) := by
    rw [i_rng, len_lst rfl, b_ok, nats_len]
    dsimp only
    rw [rngOk_nat (by omega), rangeL_nat]
    rfl
  refine xfor_S (shI l n) hr ⟨_, _, _, rfl, ⟨by simp, hL⟩, ⟨List.length_nil, fun k hk => absurd hk List.not_mem_nil⟩⟩ (fun j x ρ hx hI => ?_) fun ρ hI => ⟨ρ, rfl, ?_⟩
  · have hj : j < l.length := by
      have := (List.getElem?_eq_some_iff.mp hx).1
      rw [nats_len, List.length_range] at this
      exact this
    obtain ⟨lf, fd, y, rfl, a, b⟩ := hI
    exact ⟨shS l lf fd (some x), rfl, sh_step hl hj a b⟩
  · obtain ⟨lf, fd, y, rfl, a, b⟩ := hI
    rw [nats_len, List.length_range] at b
    refine sq_S2 (ret_S ?_)
    rw [e_var]
    exact .of (a := (true, .lst true (natsP fd))) rfl ⟨_, rfl, _, rfl, _, rfl, h fd b⟩
end K06

set_option Elab.async false
set_option linter.all false
set_option maxRecDepth 100000
set_option maxHeartbeats 4000000
namespace K06
open PySem PySem.Spec PyProof.Rows L2 FS
/-! ### tables of one room -/
def rowO (r : List Int) : PV := .lst true (r.map .int)
def tabO (rows : List (List Int)) : PV := .lst true (rows.map rowO)
/-- an entry, drawn or 0 -/
def eEq : Ex := .ife (.cmp .eq (.call "_law_draw" 2 m__law_draw (.cons (.var 0) (.cons (.int 3) .nil))) (.int 0)) (.call "_law_draw" 2 m__law_draw (.cons (.var 0) (.cons (.bin .add (.var 2) (.int 1)) .nil))) (.int 0)
def uRow : Ex := .comp eEq (.v 6) (.rng (.var 3)) .yes [("k", 6)]
def uAll : Ex := .comp uRow (.v 7) (.rng (.var 3)) .yes [("i", 7)]
def uP : S := .par2 7 6 (.cons (.sub (.var 4) (.var 8)) (.cons (.sub (.var 4) (.bin .mod (.blt .int (.cons (.bin .add (.var 8) (.int 1)) .nil)) (.var 3))) .nil))
def uQ : S := .put2 5 (.var 7) (.var 6) (.blt .max (.cons (.sub (.sub (.var 5) (.var 7)) (.var 6)) (.cons (.int 1) .nil)))
def uB : Ss := .cons uP (.cons uQ .nil)
def uE : Ex := .comp (.blt .tuple (.cons (.var 9) .nil)) (.v 9) (.seq (.var 5)) .yes [("row", 9)]
theorem ss_one : ss__law_one_table = .cons (.set 3 (oneD 0 (.var 1))) (.cons (.set 4 (.call "_law_shuffled" 2 m__law_shuffled (.cons (.var 0) (.cons (.listR (.var 3)) .nil)))) (.cons (.set 5 uAll) (.cons (.fr (.v 8) (.rng (.var 3)) uB) (.frz 5 (.cons (.ret (.blt .tuple (.cons uE .nil))) .nil))))) := rfl
theorem eEq_S {ρ : FS.Loc} {P : Out Rv → Prop} (h0 : ρ[0]? = some (some .pen)) (h2 : ρ[2]? = some (some (.int 2))) (h : ∀ j : Int, 0 ≤ j → j ≤ 2 → P (.ok (false, .int j))) : Sy (evE eEq ρ) P := by
  unfold eEq
  refine ife_S (eqd_S (b := false) (n := 3) h0 (by rw [e_int]; rfl) (by decide) (by decide) fun k => ⟨k, rfl, ?_⟩)
  cases k with
  | true =>
    rw [if_pos rfl]
    refine draw_S (b := false) (n := 3) h0 ?_ (by decide) (by decide) fun j a b => h j a (by omega)
    rw [e_bin, e_var, h2, b_ok, e_int, vB_bind]
    rfl
  | false =>
    rw [if_neg (by decide), e_int]
    exact ⟨h 0 (by decide) (by decide)⟩
theorem map_getD {α β : Type} {f : α → β} {l : List α} {i : Nat} {d : α} (h : i < l.length) : (l.map f)[i]? = some (f (l.getD i d)) := by
  rw [List.getElem?_map, List.getElem?_eq_getElem h, List.getD_eq_getElem?_getD, List.getElem?_eq_getElem h]
  rfl
section
variable {M m : Nat} {ord : List Nat}
abbrev uS (M m : Nat) (a b x6 x7 x8 : Option PV) : FS.Loc := [some .pen, some (.int (M : Nat)), some (.int 2), some (.int (m : Nat)), a, b, x6, x7, x8, none]
theorem uRow_S (hm : m ≤ 7) {a x7 : Option PV} {P : Out Rv → Prop} (h : ∀ r : List Int, r.length = m → (∀ x ∈ r, 0 ≤ x ∧ x ≤ 2) → P (.ok (false, .lst true (r.map .int)))) : Sy (evE uRow (uS M m a none none x7 none)) P := by
  unfold uRow
  refine comp_S (b := true) (xs := natsP (List.range m)) (R := fun _ y => ∃ j, y = some (.int j) ∧ (0 ≤ j ∧ j ≤ 2)) (i_range hm ⟨true, by rw [e_var]; rfl⟩) (by rw [nats_len, List.length_range]; omega) (fun x hx => ?_) fun ys hy => ?_
  · refine ⟨uS M m a none (some x) x7 none, rfl, ?_⟩
    rw [t_yes]
    refine .of rfl ⟨true, rfl, (fun e => by cases e), fun _ => ?_⟩
    exact eEq_S rfl rfl fun j a b => ⟨_, _, rfl, mov_f _, j, rfl, a, b⟩
  · obtain ⟨r, h1, h2, h3⟩ := fa2_ints hy
    rw [h1]
    exact h r (by rw [h2, nats_len, List.length_range]) h3
theorem uAll_S (h1 : 1 ≤ m) (hm : m ≤ 7) {a : Option PV} {P : Out Rv → Prop} (h : ∀ rows, Dr rows m → P (.ok (false, tabO rows))) : Sy (evE uAll (uS M m a none none none none)) P := by
  unfold uAll
  refine comp_S (b := true) (xs := natsP (List.range m)) (R := fun _ y => ∃ r, y = some (rowO r) ∧ (r.length = m ∧ ∀ x ∈ r, 0 ≤ x ∧ x ≤ 2)) (i_range hm ⟨true, by rw [e_var]; rfl⟩) (by rw [nats_len, List.length_range]; omega) (fun x hx => ?_) fun ys hy => ?_
  · refine ⟨uS M m a none none (some x) none, rfl, ?_⟩
    rw [t_yes]
    refine .of rfl ⟨true, rfl, (fun e => by cases e), fun _ => ?_⟩
    exact uRow_S hm fun r a b => ⟨_, _, rfl, mov_f _, r, rfl, a, b⟩
  · obtain ⟨r, h2, h3, h4⟩ := fa2_rows hy
    rw [h2]
    exact h r ⟨by rw [h3, nats_len, List.length_range], fun r' hr => (h4 r' hr).1, fun r' hr => (h4 r' hr).2, h1⟩
theorem atO {l : List Nat} {k : Nat} (h : k < l.length) : subS (.lst true (natsP l)) (.int (k : Nat)) = some (.int (l[k] : Nat)) := by
  show atI (natsP l) (k : Int) = _
  rw [atI_nat (by rw [nats_len]; exact h), natsP, List.getElem?_map, List.getElem?_eq_getElem h]
  rfl
/-- one step through the ring -/
theorem uP_eq {ρ : FS.Loc} {t : Nat} (h3 : ρ[3]? = some (some (.int (m : Nat)))) (h4 : ρ[4]? = some (some (.lst true (natsP ord)))) (h8 : ρ[8]? = some (some (.int (t : Nat)))) (O : Ord ord m m) (ht : t < m) : ∃ i k, i < m ∧ k < m ∧ exS uP ρ = .ok (.nx ((ρ.set 7 (some (.int (i : Nat)))).set 6 (some (.int (k : Nat))))) := by
  have hl := O.len
  have h1 : t < ord.length := by omega
  have h2 : (t + 1) % m < ord.length := by
    rw [hl]
    exact Nat.mod_lt _ (by omega)
  have e1 : evE (.sub (.var 4) (.var 8)) ρ = .ok (true, .int (ord[t] : Nat)) := by
    rw [e_sub, e_var, h4, b_ok, e_var, h8, b_ok]
    dsimp only [PV.fz]
    rw [atO h1]
    rfl
  have e2 : evE (.sub (.var 4) (.bin .mod (.blt .int (.cons (.bin .add (.var 8) (.int 1)) .nil)) (.var 3))) ρ = .ok (true, .int (ord[(t + 1) % m] : Nat)) := by
    have e3 : evE (.bin .mod (.blt .int (.cons (.bin .add (.var 8) (.int 1)) .nil)) (.var 3)) ρ = .ok (false, .int (((t + 1) % m : Nat) : Int)) := by
      rw [e_bin, e_blt, e_cons, add1 h8, b_ok, e_nil, b_ok, b_ok, e_var, h3]
      show (ofV (binS .mod (.int ((t + 1 : Nat) : Int)) (.int (m : Nat)))) = _
      have : (0 : Int) < (m : Nat) := by omega
      simp only [binS]
      rw [if_pos this]
      rfl
    rw [e_sub, e_var, h4, b_ok, e3, b_ok]
    dsimp only [PV.fz]
    rw [atO h2]
    rfl
  exact ⟨ord[t], ord[(t + 1) % m], O.lt _ (List.getElem_mem h1), O.lt _ (List.getElem_mem h2), x_par2 (rs := [(true, .int (ord[t] : Nat)), (true, .int (ord[(t + 1) % m] : Nat))]) (by rw [e_cons, e1, b_ok, e_cons, e2, b_ok, e_nil]; rfl) rfl⟩
theorem put_dr {rows : List (List Int)} {i k : Nat} {y : Int} (d : Dr rows m) (hi : i < m) (hy : 0 ≤ y ∧ y ≤ 2) : Dr (rows.set i ((rows.getD i []).set k y)) m := by
  have hr : rows.getD i [] ∈ rows := getD_mem (by rw [d.len]; exact hi)
  refine ⟨by rw [List.length_set, d.len], fun r h => ?_, fun r h x hx => ?_, d.pos⟩
  · rcases List.mem_or_eq_of_mem_set h with h | h
    · exact d.row r h
    · rw [h, List.length_set]
      exact d.row _ hr
  · rcases List.mem_or_eq_of_mem_set h with h | h
    · exact d.ent r h x hx
    · rw [h] at hx
      rcases List.mem_or_eq_of_mem_set hx with hx | hx
      · exact d.ent _ hr x hx
      · rw [hx]
        exact hy
theorem uQ_eq {ρ : FS.Loc} {rows : List (List Int)} {i k : Nat} (h5 : ρ[5]? = some (some (tabO rows))) (h7 : ρ[7]? = some (some (.int (i : Nat)))) (h6 : ρ[6]? = some (some (.int (k : Nat)))) (d : Dr rows m) (hi : i < m) (hk : k < m) : ∃ rows', Dr rows' m ∧ exS uQ ρ = .ok (.nx (ρ.set 5 (some (tabO rows')))) := by
  have hil : i < rows.length := by rw [d.len]; exact hi
  have hr : rows.getD i [] ∈ rows := getD_mem hil
  have hkl : k < (rows.getD i []).length := by rw [d.row _ hr]; exact hk
  have hx := d.ent _ hr _ (getD_mem (d := 0) hkl)
  have g1 : (rows.map rowO)[i]? = some (rowO (rows.getD i [])) := map_getD hil
  have g2 : ((rows.getD i []).map PV.int)[k]? = some (.int ((rows.getD i []).getD k 0)) := map_getD hkl
  have e1 : evE (.sub (.sub (.var 5) (.var 7)) (.var 6)) ρ = .ok (true, .int ((rows.getD i []).getD k 0)) := by
    rw [e_sub, e_sub, e_var, h5, b_ok, e_var, h7, b_ok]
    have s1 : subS (tabO rows) (PV.fz (.int (i : Nat))) = some (rowO (rows.getD i [])) := by
      show atI (rows.map rowO) (i : Int) = _
      rw [atI_nat (by rw [List.length_map]; exact hil), g1]
    dsimp only
    rw [s1]
    dsimp only
    rw [b_ok, e_var, h6, b_ok]
    have s2 : subS (rowO (rows.getD i [])) (PV.fz (.int (k : Nat))) = some (.int ((rows.getD i []).getD k 0)) := by
      show atI ((rows.getD i []).map PV.int) (k : Int) = _
      rw [atI_nat (by rw [List.length_map]; exact hkl), g2]
    show (match subS (rowO (rows.getD i [])) (PV.fz (.int (k : Nat))) with | some x => Tr.ok (true, if true then x else x.fz) | none => .bad) = _
    rw [s2]
    rfl
  obtain ⟨y, hy, e2⟩ : ∃ y : Int, (0 ≤ y ∧ y ≤ 2) ∧ evE (.blt .max (.cons (.sub (.sub (.var 5) (.var 7)) (.var 6)) (.cons (.int 1) .nil))) ρ = .ok (false, .int y) := by
    refine ⟨if 1 > (rows.getD i []).getD k 0 then 1 else (rows.getD i []).getD k 0, by split <;> omega, ?_⟩
    rw [e_blt, e_cons, e1, b_ok, e_cons, e_int, vB_bind, e_nil]
    rfl
  refine ⟨_, put_dr (k := k) d hi hy, ?_⟩
  have n1 : ixN (rows.map rowO).length (i : Nat) = some i := by
    unfold ixN
    rw [if_pos (by omega), if_pos (by rw [List.length_map]; omega)]
    rfl
  have n2 : ixN ((rows.getD i []).map PV.int).length (k : Nat) = some k := by
    unfold ixN
    rw [if_pos (by omega), if_pos (by rw [List.length_map]; omega)]
    rfl
  unfold uQ
  simp only [exS]
  unfold put2F
  have h5' : ρ[5]? = some (some (.lst true (rows.map rowO))) := h5
  simp only [lstAt, h5', e2, b_ok, e_var, h7, h6, rowAt, intV, n1, g1, n2, rowO, tI]
  congr 3
  unfold tabO
  rw [List.map_set]
  unfold rowO
  rw [List.map_set]
end
end K06

set_option Elab.async false
set_option linter.all false
set_option maxRecDepth 100000
set_option maxHeartbeats 4000000
namespace K06
open PySem PySem.Spec PyProof.Rows L2 FS
theorem fzs_rowO (rows : List (List Int)) : PV.fzs (rows.map rowO) = rows.map fun r => .lst false (r.map .int) := by
  induction rows with
  | nil => rfl
  | cons r rows ih =>
    simp only [List.map_cons, PV.fzs, ih]
    congr 1
    show PV.lst false (PV.fzs (r.map .int)) = _
    rw [fzs_ints]
theorem filterMap_rows {f g : List Int → PV} {G : PV → Option PV} (h : ∀ r, G (f r) = some (g r)) : ∀ rows : List (List Int), (rows.map f).filterMap G = rows.map g
  | [] => rfl
  | r :: rows => by
    rw [List.map_cons, List.filterMap_cons, h, filterMap_rows h rows]
    rfl
theorem uE_eq {M m : Nat} {rows : List (List Int)} {a x6 x7 x8 : Option PV} (hl : rows.length ≤ 100) : evE uE (uS M m a (some (.lst false (rows.map fun r => .lst false (r.map .int)))) x6 x7 x8) = .ok (false, .lst true (rows.map rowP)) := by
  have hi : evI (.seq (.var 5)) (uS M m a (some (.lst false (rows.map fun r => .lst false (r.map .int)))) x6 x7 x8) = .ok (true, rows.map fun r => .lst false (r.map .int)) := by
    rw [i_seq, e_var]
    rfl
  unfold uE
  refine (e_comp (g := fun x => match x with | .lst _ xs => some (.tup xs) | _ => none) hi (by rw [List.length_map]; omega) fun x hx => ?_).trans ?_
  · obtain ⟨r, _, rfl⟩ := List.mem_map.mp hx
    refine ⟨[some .pen, some (.int (M : Nat)), some (.int 2), some (.int (m : Nat)), a, some (.lst false (rows.map fun r => .lst false (r.map .int))), x6, x7, x8, some (.lst false (r.map .int))], rfl, .inr ⟨t_yes, (false, .tup (r.map .int)), .tup (r.map .int), ?_, mov_f _, rfl⟩⟩
    rw [e_blt, e_cons, e_nil, e_var]
    rfl
  · have e := filterMap_rows (f := fun r => .lst false (r.map .int)) (g := rowP) (G := fun x => match x with | .lst _ xs => some (.tup xs) | _ => none) (fun r => rfl) rows
    rw [e]
theorem one_S {M : Nat} {P : Out PV → Prop} (h1 : 1 ≤ M) (h7 : M ≤ 7) (h : ∀ rows n, Dr rows n → n ≤ M → P (.ok (tabP rows))) : Sy (m__law_one_table [.pen, .int (M : Nat), .int 2]) P := by
  refine run_S (ρ := [some .pen, some (.int (M : Nat)), some (.int 2), none, none, none, none, none, none, none]) rfl ?_
  rw [ss_one]
  simp only [exB]
  refine sq_S (set_S (one_draw_S (b := true) (n := M) rfl (by rw [e_var]; rfl) (by omega) (by omega) fun m0 hm => ⟨(false, .int ((m0 + 1 : Nat) : Int)), .int ((m0 + 1 : Nat) : Int), rfl, mov_f _, uS M (m0 + 1) none none none none none, rfl, ?_⟩))
  obtain ⟨m, hm1, hm7, hmM, e⟩ : ∃ m, 1 ≤ m ∧ m ≤ 7 ∧ m ≤ M ∧ m0 + 1 = m := ⟨m0 + 1, by omega, by omega, by omega, rfl⟩
  rw [e]
  have hR : evE (.listR (.var 3)) (uS M m none none none none none) = .ok (false, .lst true (natsP (List.range m))) := by
    rw [e_listR, e_var]
    show (if 0 ≤ ((m : Nat) : Int) ∧ ((m : Nat) : Int) ≤ 16777216 then vB (.lst true (rangeL 0 (m : Nat))) else .bad) = _
    rw [if_pos (by omega), rangeL_nat]
    rfl
  refine sq_S (set_S (call_S (rs := [(true, .pen), (false, .lst true (natsP (List.range m)))]) (xs := [.pen, .lst false (natsP (List.range m))]) (by rw [e_cons, e_var, e_cons, hR, e_nil]; rfl) (by simp only [takes, takeI true _ stP fzP, take_f, PV.fz, fzs_nats]) rfl (sh_S (n := m) (by rw [List.length_range]; omega) (fun k hk => List.mem_range.mp hk) fun ord O => ⟨_, rfl, _, _, rfl, mov_f _, uS M m (some (.lst true (natsP ord))) none none none none, rfl, ?_⟩)))
  rw [List.length_range] at O
  refine sq_S (set_S (uAll_S hm1 hm7 fun rows d => ⟨_, _, rfl, mov_f _, uS M m (some (.lst true (natsP ord))) (some (tabO rows)) none none none, rfl, ?_⟩))
  have hr : evI (.rng (.var 3)) (uS M m (some (.lst true (natsP ord))) (some (tabO rows)) none none none) = .ok (true, natsP (List.range m)) := i_range hm7 ⟨true, by rw [e_var]; rfl⟩
  refine sq_S (xfor_S (fun _ ρ => ∃ rows x6 x7 x8, ρ = uS M m (some (.lst true (natsP ord))) (some (tabO rows)) x6 x7 x8 ∧ Dr rows m) hr ⟨rows, none, none, none, rfl, d⟩ (fun j x ρ hx hI => ?_) fun ρ hI => ⟨ρ, rfl, ?_⟩)
  · obtain ⟨rows, x6, x7, x8, rfl, d⟩ := hI
    obtain ⟨t, ht, rfl⟩ := List.mem_map.mp (List.mem_of_getElem? hx)
    rw [List.mem_range] at ht
    refine ⟨uS M m (some (.lst true (natsP ord))) (some (tabO rows)) x6 x7 (some (.int (t : Nat))), rfl, ?_⟩
    obtain ⟨i, k, hi, hk, e1⟩ := uP_eq (ρ := uS M m (some (.lst true (natsP ord))) (some (tabO rows)) x6 x7 (some (.int (t : Nat)))) rfl rfl rfl O ht
    obtain ⟨rows', d', e2⟩ := uQ_eq (ρ := uS M m (some (.lst true (natsP ord))) (some (tabO rows)) (some (.int (k : Nat))) (some (.int (i : Nat))) (some (.int (t : Nat)))) rfl rfl rfl d hi hk
    unfold uB
    simp only [exB]
    rw [sq_nx e1]
    refine .of (sq_nx e2) ⟨_, rfl, rows', _, _, _, rfl, d'⟩
  · obtain ⟨rows, x6, x7, x8, rfl, d⟩ := hI
    have ef : frzL 5 (uS M m (some (.lst true (natsP ord))) (some (tabO rows)) x6 x7 x8) = .ok (.nx (uS M m (some (.lst true (natsP ord))) (some (.lst false (rows.map fun r => .lst false (r.map .int)))) x6 x7 x8)) := by
      unfold frzL
      show Tr.ok (Fl.nx ((uS M m (some (.lst true (natsP ord))) (some (tabO rows)) x6 x7 x8).set 5 (some (PV.lst false (PV.fzs (rows.map rowO)))))) = _
      rw [fzs_rowO]
      rfl
    refine sq_S (.of ef ⟨_, rfl, ?_⟩)
    refine sq_S2 (ret_S (blt_S (.of (uE_eq (by rw [d.len]; omega)) ⟨_, _, rfl, tup_of (f := rowP) (fun _ => rfl), _, rfl, _, rfl, _, rfl, h rows m d hmM⟩)))
end K06

set_option Elab.async false
set_option linter.all false
set_option maxRecDepth 100000
set_option maxHeartbeats 4000000
namespace K06
open PySem PySem.Spec PyProof.Rows L2 FS
/-! ### rooms one after another -/
def d2 : Ex := .call "_law_draw" 2 m__law_draw (.cons (.var 0) (.cons (.int 2) .nil))
def vM : Ex := .ife (.cmp .eq d2 (.int 0)) (.call "_law_one_table" 3 m__law_one_table (.cons (.var 0) (.cons (.int 2) (.cons (.int 2) .nil)))) (.tup (.cons (.tup (.cons (.int 0) .nil)) .nil))
def vK : Ex := .comp d2 (.v 5) (.rng (.blt .len (.cons (.var 3) .nil))) .yes [("k", 5)]
def vA : Ex := .comp (.bin .add (.var 6) (.blt .tuple (.cons vK .nil))) (.v 6) (.seq (.var 1)) .yes [("row", 6)]
def vZ : Ex := .comp (.bin .add (.bin .mul (.tup (.cons (.int 0) .nil)) (.blt .len (.cons (.var 1) .nil))) (.var 6)) (.v 6) (.seq (.var 3)) .yes [("row", 6)]
def vBd : Ss := .cons (.set 3 vM) (.cons (.set 4 vA) (.cons (.set 1 (.blt .tuple (.cons (.bin .add (.var 4) vZ) .nil))) .nil))
def vE : Ex := .blt .tuple (.cons (.comp (.blt .tuple (.cons (.comp (.sub (.sub (.var 1) (.var 8)) (.var 5)) (.v 5) (.seq (.var 7)) .yes [("k", 5)]) .nil)) (.v 8) (.seq (.var 7)) .yes [("i", 8)]) .nil)
theorem ss_steps : ss__law_in_steps = .cons (.set 1 (.call "_law_one_table" 3 m__law_one_table (.cons (.var 0) (.cons (.int 3) (.cons (.int 2) .nil))))) (.cons (.fr (.v 2) (.rng (.call "_law_draw" 2 m__law_draw (.cons (.var 0) (.cons (.int 3) .nil)))) vBd) (.cons (.set 7 (.call "_law_shuffled" 2 m__law_shuffled (.cons (.var 0) (.cons (.listR (.blt .len (.cons (.var 1) .nil))) .nil)))) (.cons (.ret vE) .nil))) := rfl
abbrev vS (rows : List (List Int)) (x2 x3 x4 : Option PV) : FS.Loc := [some .pen, some (tabP rows), x2, x3, x4, none, none, none, none]
theorem oneT_S {ρ : FS.Loc} {M : Nat} {P : Out Rv → Prop} (h0 : ρ[0]? = some (some .pen)) (h1 : 1 ≤ M) (h7 : M ≤ 7) (h : ∀ rows n, Dr rows n → n ≤ M → P (.ok (false, tabP rows))) : Sy (evE (.call "_law_one_table" 3 m__law_one_table (.cons (.var 0) (.cons (.int (M : Nat)) (.cons (.int 2) .nil)))) ρ) P := by
  refine call_S (rs := [(true, .pen), (false, .int (M : Nat)), (false, .int 2)]) (xs := [.pen, .int (M : Nat), .int 2]) (by rw [e_cons, e_var, h0, e_cons, e_int, e_cons, e_int, e_nil]; rfl) (by simp only [takes, takeI true _ stP fzP, tI]) rfl (one_S h1 h7 fun rows n d hn => ⟨_, rfl, h rows n d hn⟩)
theorem dr_one : Dr [[0]] 1 := ⟨rfl, fun r hr => by rw [List.mem_singleton.mp hr]; rfl, fun r hr x hx => by
  rw [List.mem_singleton.mp hr] at hx
  rw [List.mem_singleton.mp hx]
  decide, by decide⟩
theorem vM_S {ρ : FS.Loc} {P : Out Rv → Prop} (h0 : ρ[0]? = some (some .pen)) (h : ∀ rows n, Dr rows n → n ≤ 2 → P (.ok (false, tabP rows))) : Sy (evE vM ρ) P := by
  unfold vM
  refine ife_S (eqd_S (b := false) (n := 2) h0 (by rw [e_int]; rfl) (by decide) (by decide) fun k => ⟨k, rfl, ?_⟩)
  cases k with
  | true =>
    rw [if_pos rfl]
    exact oneT_S (M := 2) h0 (by decide) (by decide) h
  | false =>
    rw [if_neg (by decide)]
    refine .of (a := (false, tabP [[0]])) ?_ (h _ 1 dr_one (by decide))
    rw [e_tup, e_cons, e_tup, e_cons, e_int, e_nil]
    rfl
theorem vK_S {rows mo : List (List Int)} {n k : Nat} {x2 x4 x6 : Option PV} {P : Out Rv → Prop} (d : Dr mo k) (hk : k ≤ 2) (h : ∀ r : List Int, r.length = k → (∀ x ∈ r, 0 ≤ x ∧ x ≤ 2) → P (.ok (false, .lst true (r.map .int)))) : Sy (evE vK [some .pen, some (tabP rows), x2, some (tabP mo), x4, none, x6, none, none]) P := by
  unfold vK
  refine comp_S (b := true) (xs := natsP (List.range k)) (R := fun _ y => ∃ j, y = some (.int j) ∧ (0 ≤ j ∧ j ≤ 2)) (i_range (by omega) ⟨false, e_len (d.sq (by omega)) rfl⟩) (by rw [nats_len, List.length_range]; omega) (fun x hx => ?_) fun ys hy => ?_
  · refine ⟨[some .pen, some (tabP rows), x2, some (tabP mo), x4, some x, x6, none, none], rfl, ?_⟩
    rw [t_yes]
    refine .of rfl ⟨true, rfl, (fun e => by cases e), fun _ => ?_⟩
    exact draw_S (b := false) (n := 2) rfl (by rw [e_int]; rfl) (by decide) (by decide) fun j a b => ⟨_, _, rfl, mov_f _, j, rfl, a, by omega⟩
  · obtain ⟨r, h1, h2, h3⟩ := fa2_ints hy
    rw [h1]
    exact h r (by rw [h2, nats_len, List.length_range]) h3
theorem seq_tab {ρ : FS.Loc} {i : Nat} {rows : List (List Int)} (h : ρ[i]? = some (some (tabP rows))) : evI (.seq (.var i)) ρ = .ok (true, rows.map rowP) := by
  rw [i_seq, e_var, h]
  rfl
theorem vA_S {rows mo : List (List Int)} {n k : Nat} {x2 x4 : Option PV} {P : Out Rv → Prop} (d : Dr rows n) (hn : n ≤ 7) (e : Dr mo k) (hk : k ≤ 2) (h : ∀ rs : List (List Int), rs.length = n → (∀ r ∈ rs, r.length = n + k ∧ ∀ x ∈ r, 0 ≤ x ∧ x ≤ 2) → P (.ok (false, .lst true (rs.map rowP)))) : Sy (evE vA (vS rows x2 (some (tabP mo)) x4)) P := by
  unfold vA
  refine comp_S (b := true) (xs := rows.map rowP) (R := fun _ y => ∃ r, y = some (rowP r) ∧ (r.length = n + k ∧ ∀ x ∈ r, 0 ≤ x ∧ x ≤ 2)) (seq_tab rfl) (by rw [List.length_map, d.len]; omega) (fun x hx => ?_) fun ys hy => ?_
  · obtain ⟨r, hr, rfl⟩ := List.mem_map.mp hx
    refine ⟨[some .pen, some (tabP rows), x2, some (tabP mo), x4, none, some (rowP r), none, none], rfl, ?_⟩
    rw [t_yes]
    refine .of rfl ⟨true, rfl, (fun e => by cases e), fun _ => ?_⟩
    rw [e_bin, e_var]
    refine .bind (.of (a := (true, rowP r)) rfl ⟨_, rfl, .bind (blt_S (vK_S (n := n) e hk fun t ht1 ht2 => ⟨_, _, rfl, bltT, _, rfl, ?_⟩))⟩)
    have hb : binS .add (rowP r) (rowP t) = some (rowP (r ++ t)) := by
      unfold rowP
      simp only [binS]
      rw [if_pos (by rw [List.length_map, List.length_map, d.row r hr, ht1, sizeLine_eq]; omega), List.map_append]
    show Sy (ofV (binS .add (rowP r) (rowP t))) _
    rw [hb]
    refine ⟨⟨_, _, rfl, mov_f _, _, rfl, by rw [List.length_append, d.row r hr, ht1], fun x hx => ?_⟩⟩
    rcases List.mem_append.mp hx with z | z
    · exact d.ent r hr x z
    · exact ht2 x z
  · obtain ⟨rs, h1, h2, h3⟩ := fa2_rows hy
    rw [h1]
    exact h rs (by rw [h2, List.length_map, d.len]) h3
theorem flat_zero (n : Nat) : (List.replicate n [PV.int 0]).flatten = (List.replicate n (0 : Int)).map .int := by
  induction n with
  | zero => rfl
  | succ n ih =>
    rw [List.replicate_succ, List.flatten_cons, ih, List.replicate_succ]
    rfl
theorem vZ_eq {rows mo : List (List Int)} {n k : Nat} {x2 x4 : Option PV} (d : Dr rows n) (hn : n ≤ 7) (e : Dr mo k) (hk : k ≤ 2) : evE vZ (vS rows x2 (some (tabP mo)) x4) = .ok (false, .lst true ((mo.map fun r => List.replicate n 0 ++ r).map rowP)) := by
  unfold vZ
  have hpos := d.pos
  refine (e_comp (b := true) (xs := mo.map rowP) (g := fun x => match x with | .tup ys => some (.tup ((List.replicate n (0 : Int)).map .int ++ ys)) | _ => none) (seq_tab rfl) (by rw [List.length_map, e.len]; omega) fun x hx => ?_).trans ?_
  · obtain ⟨r, hr, rfl⟩ := List.mem_map.mp hx
    refine ⟨[some .pen, some (tabP rows), x2, some (tabP mo), x4, none, some (rowP r), none, none], rfl, .inr ⟨t_yes, (false, .tup ((List.replicate n (0 : Int)).map .int ++ r.map .int)), _, ?_, mov_f _, rfl⟩⟩
    rw [e_bin, e_bin, e_tup, e_cons, e_int, e_nil, e_len (d.sq hn) rfl]
    show ((ofV (binS .mul (.tup [.int 0]) (.int (n : Nat)))).bind fun ra => (evE (.var 6) [some .pen, some (tabP rows), x2, some (tabP mo), x4, none, some (rowP r), none, none]).bind fun rb => match shal ra, shal rb with | some x, some y => ofV (binS .add x y) | _, _ => .bad) = _
    have hb : binS .mul (.tup [.int 0]) (.int (n : Nat)) = some (.tup ((List.replicate n (0 : Int)).map .int)) := by
      simp only [binS]
      rw [if_pos ⟨by simp, by omega, by omega, by simp⟩, Int.toNat_natCast, flat_zero]
    rw [hb, e_var]
    show ofV (binS .add (.tup ((List.replicate n (0 : Int)).map .int)) (.tup (r.map .int))) = _
    have hc : binS .add (.tup ((List.replicate n (0 : Int)).map .int)) (.tup (r.map .int)) = some (.tup ((List.replicate n (0 : Int)).map .int ++ r.map .int)) := by
      simp only [binS]
      rw [if_pos (by rw [List.length_map, List.length_map, List.length_replicate, e.row r hr, sizeLine_eq]; omega)]
    rw [hc]
    rfl
  · have := filterMap_rows (f := rowP) (g := fun r => rowP (List.replicate n 0 ++ r)) (G := fun x => match x with | .tup ys => some (.tup ((List.replicate n (0 : Int)).map .int ++ ys)) | _ => none) (fun r => by unfold rowP; rw [List.map_append]) mo
    rw [this, List.map_map]
    rfl
theorem dr_two {rs mo : List (List Int)} {n k : Nat} (hn : 1 ≤ n) (hl : rs.length = n) (h : ∀ r ∈ rs, r.length = n + k ∧ ∀ x ∈ r, 0 ≤ x ∧ x ≤ 2) (e : Dr mo k) : Dr (rs ++ mo.map fun r => List.replicate n 0 ++ r) (n + k) := by
  refine ⟨by rw [List.length_append, hl, List.length_map, e.len], fun r hr => ?_, fun r hr x hx => ?_, by omega⟩
  · rcases List.mem_append.mp hr with z | z
    · exact (h r z).1
    · obtain ⟨t, ht, rfl⟩ := List.mem_map.mp z
      rw [List.length_append, List.length_replicate, e.row t ht]
  · rcases List.mem_append.mp hr with z | z
    · exact (h r z).2 x hx
    · obtain ⟨t, ht, rfl⟩ := List.mem_map.mp z
      rcases List.mem_append.mp hx with y | y
      · rw [(List.mem_replicate.mp y).2]
        decide
      · exact e.ent t ht x y
theorem st_rows (rs : List (List Int)) : (rs.map rowP).all PV.st = true := by
  rw [List.all_eq_true]
  intro x hx
  obtain ⟨r, _, rfl⟩ := List.mem_map.mp hx
  rfl
theorem fzs_rows (rs : List (List Int)) : PV.fzs (rs.map rowP) = rs.map rowP := fzs_id fun x hx => by
  obtain ⟨r, _, rfl⟩ := List.mem_map.mp hx
  rfl
theorem vBd_S {rows : List (List Int)} {n : Nat} {x2 x3 x4 : Option PV} (d : Dr rows n) (hn : n ≤ 5) : Sy (exB vBd (vS rows x2 x3 x4)) fun o => ∃ ρ, o = .ok (.nx ρ) ∧ ∃ rs m x3 x4, ρ = vS rs x2 x3 x4 ∧ Dr rs m ∧ m ≤ n + 2 := by
  unfold vBd
  simp only [exB]
  refine sq_S (set_S (vM_S rfl fun mo k e hk => ⟨_, _, rfl, mov_f _, vS rows x2 (some (tabP mo)) x4, rfl, ?_⟩))
  refine sq_S (set_S (vA_S d (by omega) e hk fun rs h1 h2 => ⟨_, _, rfl, mov_f _, vS rows x2 (some (tabP mo)) (some (.lst true (rs.map rowP))), rfl, ?_⟩))
  have hb : evE (.bin .add (.var 4) vZ) (vS rows x2 (some (tabP mo)) (some (.lst true (rs.map rowP)))) = .ok (false, .lst true ((rs ++ mo.map fun r => List.replicate n 0 ++ r).map rowP)) := by
    rw [e_bin, e_var, vZ_eq d (by omega) e hk]
    show (match shal (true, .lst true (rs.map rowP)), shal (false, .lst true ((mo.map fun r => List.replicate n 0 ++ r).map rowP)) with | some x, some y => ofV (binS .add x y) | _, _ => .bad) = _
    rw [shal_o _ (st_rows rs), shal_f]
    show ofV (binS .add (.lst false (rs.map rowP)) (.lst false (PV.fzs ((mo.map fun r => List.replicate n 0 ++ r).map rowP)))) = _
    rw [fzs_rows]
    have hl : (rs.map rowP).length + ((mo.map fun r => List.replicate n 0 ++ r).map rowP).length ≤ sizeLine := by
      rw [List.length_map, List.length_map, List.length_map, h1, e.len, sizeLine_eq]
      omega
    simp only [binS]
    rw [if_pos hl, List.map_append]
    rfl
  refine sq_S (set_S (blt_S (.of hb ⟨_, _, rfl, tup_of (f := rowP) (fun _ => rfl), _, _, rfl, mov_f _, vS (rs ++ mo.map fun r => List.replicate n 0 ++ r) x2 (some (tabP mo)) (some (.lst true (rs.map rowP))), rfl, ⟨?_⟩⟩)))
  exact ⟨_, rfl, _, n + k, _, _, rfl, dr_two d.pos h1 h2 e, by omega⟩
end K06

set_option Elab.async false
set_option linter.all false
set_option maxRecDepth 100000
set_option maxHeartbeats 4000000
namespace K06
open PySem PySem.Spec PyProof.Rows L2 FS
theorem dr_cut {rows : List (List Int)} {n : Nat} {L : List Nat} (d : Dr rows n) (hL : Ord L n n) : Dr (cutR rows L) n := by
  refine ⟨by simp [cutR, hL.len], fun r hr => ?_, fun r hr x hx => ?_, d.pos⟩
  · obtain ⟨i, _, rfl⟩ := List.mem_map.mp hr
    rw [List.length_map, hL.len]
  · obtain ⟨i, hi, rfl⟩ := List.mem_map.mp hr
    obtain ⟨k, hk, rfl⟩ := List.mem_map.mp hx
    have hil : i < rows.length := by rw [d.len]; exact hL.lt i hi
    have hrm := getD_mem (d := ([] : List Int)) hil
    exact d.ent _ hrm _ (getD_mem (by rw [d.row _ hrm]; exact hL.lt k hk))
theorem steps_S {P : Out PV → Prop} (h : ∀ rows n, Dr rows n → n ≤ 7 → P (.ok (tabP rows))) : Sy (m__law_in_steps [.pen]) P := by
  refine run_S (ρ := [some .pen, none, none, none, none, none, none, none, none]) rfl ?_
  rw [ss_steps]
  simp only [exB]
  refine sq_S (set_S (oneT_S (M := 3) rfl (by decide) (by decide) fun rows n d hn => ⟨_, _, rfl, mov_f _, vS rows none none none, rfl, ?_⟩))
  refine sq_S ?_
  simp only [exS]
  unfold forF
  rw [i_rng]
  refine .bind (.bind (draw_S (b := false) (n := 3) rfl (by rw [e_int]; rfl) (by decide) (by decide) fun j h0 h3 => ⟨_, rfl, ?_⟩))
  obtain ⟨l, rfl⟩ := Int.eq_ofNat_of_zero_le h0
  have hl : l ≤ 2 := by omega
  dsimp only
  rw [rngOk_nat (by omega), if_pos rfl]
  refine ⟨⟨_, rfl, ?_⟩⟩
  dsimp only
  rw [if_pos rfl, rangeL_nat]
  refine for_S (fun i ρ => i ≤ 2 → ∃ rs m x2 x3 x4, ρ = vS rs x2 x3 x4 ∧ Dr rs m ∧ m ≤ 3 + 2 * i) (natsP (List.range l)) 0 _ (fun _ => ⟨rows, n, none, none, none, rfl, d, by omega⟩) (fun j x ρ hx hI => ?_) fun ρ hI => ⟨ρ, rfl, ?_⟩
  · have hj : j < l := by
      have := (List.getElem?_eq_some_iff.mp hx).1
      rw [nats_len, List.length_range] at this
      exact this
    obtain ⟨rs, m, x2, x3, x4, rfl, d, hm⟩ := hI (by omega)
    refine ⟨vS rs (some x) x3 x4, rfl, (vBd_S d (by omega)).imp fun o ⟨ρ2, e, rs', m', y3, y4, e2, d', hm'⟩ => ⟨ρ2, e, fun _ => ⟨rs', m', some x, y3, y4, e2, d', by omega⟩⟩⟩
  · rw [nats_len, List.length_range] at hI
    obtain ⟨rs, m, x2, x3, x4, rfl, d, hm⟩ := hI (by omega)
    have hm7 : m ≤ 7 := by omega
    have hR : evE (.listR (.blt .len (.cons (.var 1) .nil))) (vS rs x2 x3 x4) = .ok (false, .lst true (natsP (List.range m))) := by
      rw [e_listR, e_len (d.sq hm7) rfl]
      show (if 0 ≤ ((m : Nat) : Int) ∧ ((m : Nat) : Int) ≤ 16777216 then vB (.lst true (rangeL 0 (m : Nat))) else .bad) = _
      rw [if_pos (by omega), rangeL_nat]
      rfl
    refine sq_S (set_S (call_S (rs := [(true, .pen), (false, .lst true (natsP (List.range m)))]) (xs := [.pen, .lst false (natsP (List.range m))]) (by rw [e_cons, e_var, e_cons, hR, e_nil]; rfl) (by simp only [takes, takeI true _ stP fzP, take_f, PV.fz, fzs_nats]) rfl (sh_S (n := m) (by rw [List.length_range]; omega) (fun k hk => List.mem_range.mp hk) fun ord O => ⟨_, rfl, _, _, rfl, mov_f _, [some .pen, some (tabP rs), x2, x3, x4, none, none, some (.lst true (natsP ord)), none], rfl, ?_⟩)))
    rw [List.length_range] at O
    have hv := cut_ev (na := "i") (nb := "k") (ρ := [some .pen, some (tabP rs), x2, x3, x4, none, none, some (.lst true (natsP ord)), none]) (t := 1) (l := 7) (a := 8) (b := 5) (d.sq hm7) rfl rfl (seqO ord) O.lt (by rw [O.len]; omega) (by simp) (by simp) (by decide) (by decide) (by decide) (by decide) (by decide)
    refine sq_S2 (ret_S (.of hv ⟨_, rfl, _, rfl, _, rfl, h _ m (dr_cut d O) hm7⟩))
end K06

set_option Elab.async false
set_option linter.all false
set_option maxRecDepth 100000
set_option maxHeartbeats 4000000
namespace K06
open PySem PySem.Spec PyProof.Rows L2 FS
/-! ### pairs -/
abbrev NN := Nat × Nat
def pQ (p : NN) : PV := pP p.1 p.2
def dQ (p : NN) : PyData := .tuple [.int (p.1 : Nat), .int (p.2 : Nat)]
theorem dat_pQ (p : NN) : (pQ p).data = some (dQ p) := by simp [pQ, pP, PV.data, PV.datas, dQ]
theorem dats_pQ (ps : List NN) : PV.datas (ps.map pQ) = some (ps.map dQ) := by
  induction ps with
  | nil => rfl
  | cons p ps ih =>
    simp only [List.map_cons, PV.datas, dat_pQ, ih]
theorem dep_dQ (p : NN) : (dQ p).depth = 1 := by simp [dQ, PyData.depth, PyData.depthAll]
theorem deps_dQ (ps : List NN) : PyData.depthAll (ps.map dQ) ≤ 1 := by
  induction ps with
  | nil => simp [PyData.depthAll]
  | cons p ps ih =>
    simp only [List.map_cons, PyData.depthAll, dep_dQ]
    omega
theorem eqv_dQ (p q : NN) : PyData.eqv (dQ p) (dQ q) = decide (p = q) := by
  obtain ⟨a, b⟩ := p
  obtain ⟨c, d⟩ := q
  simp only [dQ, PyData.eqv, PyData.eqvAll, Bool.and_true]
  rw [show (decide ((a, b) = (c, d))) = (decide (a = c) && decide (b = d)) by
    by_cases h1 : a = c <;> by_cases h2 : b = d <;> simp [h1, h2]]
  congr 1
  · exact decide_eq_decide.mpr ⟨fun h => by omega, fun h => by omega⟩
  · exact decide_eq_decide.mpr ⟨fun h => by omega, fun h => by omega⟩
theorem c_inp (p : NN) (ps : List NN) : cmpS .in_ (pQ p) (.lst false (ps.map pQ)) = some (decide (p ∈ ps)) := by
  have h1 : PV.sdata (pQ p) = some (dQ p) := by
    simp only [PV.sdata, dat_pQ, dep_dQ]
    rfl
  have h2 : PV.sdata (.lst false (ps.map pQ)) = some (.list (ps.map dQ)) := by
    have h : (PyData.list (ps.map dQ)).depth ≤ 64 := by
      have := deps_dQ ps
      simp only [PyData.depth]
      omega
    simp only [PV.sdata, PV.data, dats_pQ, Option.map_some]
    exact if_pos h
  have key : ∀ ps : List NN, ((ps.map dQ).any fun z => PyData.eqv z (dQ p)) = decide (p ∈ ps) := by
    intro ps
    induction ps with
    | nil => rfl
    | cons k is ih =>
      simp only [List.map_cons, List.any_cons, eqv_dQ, ih, List.mem_cons]
      by_cases e : p = k
      · subst e
        simp
      · simp [e, Ne.symm e]
  have e : pQ p = .tup [.int (p.1 : Nat), .int (p.2 : Nat)] := rfl
  rw [e] at h1 ⊢
  simp only [cmpS, h1, h2, key]
section
variable {rows : List (List Int)} {n : Nat}
noncomputable def pqs (rows : List (List Int)) (n i : Nat) : List NN := (List.range i).flatMap fun a => (prI rows n a).map fun k => (a, k)
theorem prs_pqs (i : Nat) : prs rows n i = (pqs rows n i).map pQ := by
  unfold prs pqs prP
  rw [List.map_flatMap]
  refine congrArg (fun f => (List.range i).flatMap f) (funext fun a => ?_)
  rw [List.map_map]
  rfl
open Classical in
theorem mem_pqs {p : NN} {i : Nat} (h : p ∈ pqs rows n i) : p.1 < i ∧ p.2 < (hds (Ed rows) n).length ∧ p.1 ≠ p.2 ∧ Rc (Ed rows) (hAt rows n p.1) (hAt rows n p.2) := by
  obtain ⟨a, ha, h⟩ := List.mem_flatMap.mp h
  obtain ⟨k, hk, rfl⟩ := List.mem_map.mp h
  unfold prI at hk
  rw [List.mem_filter, List.mem_range] at hk
  rw [List.mem_range] at ha
  have := hk.2
  rw [Bool.and_eq_true, Bool.not_eq_true', decide_eq_false_iff_not, decide_eq_true_eq] at this
  exact ⟨ha, hk.1, this.1, this.2⟩
theorem hAt_inj {i k : Nat} (hi : i < (hds (Ed rows) n).length) (hk : k < (hds (Ed rows) n).length) (h : hAt rows n i = hAt rows n k) : i = k := by
  unfold hAt at h
  rw [List.getD_eq_getElem?_getD, List.getD_eq_getElem?_getD, List.getElem?_eq_getElem hi, List.getElem?_eq_getElem hk] at h
  have hp := List.pairwise_iff_getElem.mp (hds_nodup (E := Ed rows) (n := n))
  rcases Nat.lt_trichotomy i k with z | z | z
  · exact absurd h (hp i k hi hk z)
  · exact z
  · exact absurd h.symm (hp k i hk hi z)
theorem anti {p : NN} (h : p ∈ pqs rows n (hds (Ed rows) n).length) : (p.2, p.1) ∉ pqs rows n (hds (Ed rows) n).length := fun g => by
  obtain ⟨a1, a2, a3, a4⟩ := mem_pqs h
  obtain ⟨b1, b2, b3, b4⟩ := mem_pqs g
  exact a3 (hAt_inj a1 a2 ((hAt_mem a1).2.eq (hAt_mem a2).2 a4 b4))
def antE : Ex := .comp (.var 8) (.v 8) (.seq (.var 5)) (.cmp .in_ (.tup (.cons (.sub (.var 8) (.int 1)) (.cons (.sub (.var 8) (.int 0)) .nil))) (.var 5)) [("one", 8)]
theorem pQ_sub0 (p : NN) : subS (pQ p) (.int 0) = some (.int (p.1 : Nat)) := rfl
theorem pQ_sub1 (p : NN) : subS (pQ p) (.int 1) = some (.int (p.2 : Nat)) := rfl
theorem ant_eq (q : Sq rows n) {x0 x1 x2 x3 x4 x6 x7 x8 x9 x10 x11 : Option PV} : evE antE [x0, x1, x2, x3, x4, some (.lst true (prs rows n (hds (Ed rows) n).length)), x6, x7, x8, x9, x10, x11] = .ok (false, .lst true []) := by
  have h7 := q.few
  have hn := prs_st (rows := rows) (n := n) (hds (Ed rows) n).length
  have hl := prs_len (rows := rows) (n := n) (hds (Ed rows) n).length
  have hd := hds_len (rows := rows) (n := n)
  have h49 : (hds (Ed rows) n).length * n ≤ 7 * 7 := Nat.mul_le_mul (by omega) (by omega)
  rw [prs_pqs] at hn hl ⊢
  obtain ⟨ps, hps⟩ : ∃ ps, pqs rows n (hds (Ed rows) n).length = ps := ⟨_, rfl⟩
  have han := fun p (h : p ∈ pqs rows n (hds (Ed rows) n).length) => anti h
  rw [hps] at hn hl han ⊢
  have hi : evI (.seq (.var 5)) [x0, x1, x2, x3, x4, some (.lst true (ps.map pQ)), x6, x7, x8, x9, x10, x11] = .ok (false, ps.map pQ) := by
    rw [i_seq, e_var]
    show Tr.ofO (seqS (true, .lst true (ps.map pQ))) = _
    unfold seqS
    rw [shal_o _ hn]
    rfl
  unfold antE
  refine (e_comp (g := fun _ => none) hi (by omega) fun x hx => ?_).trans ?_
  · obtain ⟨p, hp, rfl⟩ := List.mem_map.mp hx
    refine ⟨[x0, x1, x2, x3, x4, some (.lst true (ps.map pQ)), x6, x7, some (pQ p), x9, x10, x11], rfl, .inl ⟨?_, rfl⟩⟩
    have e1 : evE (.tup (.cons (.sub (.var 8) (.int 1)) (.cons (.sub (.var 8) (.int 0)) .nil))) [x0, x1, x2, x3, x4, some (.lst true (ps.map pQ)), x6, x7, some (pQ p), x9, x10, x11] = .ok (false, pQ (p.2, p.1)) := by
      have f1 : evE (.sub (.var 8) (.int 1)) [x0, x1, x2, x3, x4, some (.lst true (ps.map pQ)), x6, x7, some (pQ p), x9, x10, x11] = .ok (true, .int (p.2 : Nat)) := by
        rw [e_sub, e_var, e_int]
        rfl
      have f2 : evE (.sub (.var 8) (.int 0)) [x0, x1, x2, x3, x4, some (.lst true (ps.map pQ)), x6, x7, some (pQ p), x9, x10, x11] = .ok (true, .int (p.1 : Nat)) := by
        rw [e_sub, e_var, e_int]
        rfl
      rw [e_tup, e_cons, f1, e_cons, f2, e_nil]
      rfl
    rw [t_cmp, e1, b_ok, e_var]
    show Tr.ofO (cmpS .in_ (pQ (p.2, p.1)) (.lst false (PV.fzs (ps.map pQ)))) = _
    have hz : PV.fzs (ps.map pQ) = ps.map pQ := fzs_id fun x hx => by
      obtain ⟨p, _, rfl⟩ := List.mem_map.mp hx
      rfl
    rw [hz, c_inp, decide_eq_false (han p hp)]
    rfl
  · have : ∀ xs : List PV, xs.filterMap (fun _ => (none : Option PV)) = [] := fun xs => by
      induction xs with
      | nil => rfl
      | cons x xs ih => rw [List.filterMap_cons, ih]
    rw [this]
end
end K06

set_option Elab.async false
set_option linter.all false
set_option maxRecDepth 100000
set_option maxHeartbeats 4000000
namespace K06
open PySem PySem.Spec PyProof.Rows L2 FS
open Classical
section
variable {rows : List (List Int)} {n : Nat}
theorem is_prs (q : Sq rows n) : m__law_is 4 [.tup (prs rows n (hds (Ed rows) n).length), .tup (prs rows n (hds (Ed rows) n).length)] = .ok (.bl true) := by
  have h7 := q.few
  have hl := prs_len (rows := rows) (n := n) (hds (Ed rows) n).length
  have hd := hds_len (rows := rows) (n := n)
  have h49 : (hds (Ed rows) n).length * n ≤ 7 * 7 := Nat.mul_le_mul (by omega) (by omega)
  refine is_tup (by omega) fun x hx => ?_
  rw [prs_pqs] at hx
  obtain ⟨p, hp, rfl⟩ := List.mem_map.mp hx
  exact ⟨tT _ _, is_nats 1 [p.1, p.2] (by simp)⟩
theorem is_row (r : List Int) (h : r.length ≤ 100) : m__law_is 3 [rowP r, rowP r] = .ok (.bl true) := by
  refine is_tup (by rw [List.length_map]; omega) fun x hx => ?_
  obtain ⟨i, _, rfl⟩ := List.mem_map.mp hx
  exact ⟨tI _ _, is_int 1 i⟩
theorem is_tab (rs : List (List Int)) (h : rs.length ≤ 100) (g : ∀ r ∈ rs, r.length ≤ 100) : m__law_is 4 [tabP rs, tabP rs] = .ok (.bl true) := by
  refine is_tup (by rw [List.length_map]; omega) fun x hx => ?_
  obtain ⟨r, hr, rfl⟩ := List.mem_map.mp hx
  exact ⟨tT _ _, is_row r (g r hr)⟩
def pCo : Ex := .comp (.tup (.cons (.var 6) (.cons (.var 7) .nil))) (.v 7) (.rng (.blt .len (.cons (.var 3) .nil))) (.an (.cmp .ne (.var 6) (.var 7)) (.one (.cmp .in_ (.sub (.sub (.var 3) (.var 7)) (.int 0)) (.call "_law_from" 2 m__law_from (.cons (.var 1) (.cons (.sub (.sub (.var 3) (.var 6)) (.int 0)) .nil)))))) [("k", 7)]
noncomputable abbrev rtS (rows : List (List Int)) (n : Nat) (v : PV) (x5 x6 x7 x9 x11 : Option PV) : FS.Loc := [some .pen, some (tabP rows), some v, some (.lst true (rmsP rows n)), none, x5, x6, x7, none, x9, none, x11]
theorem head_ev {v : PV} {x5 x9 x11 : Option PV} {i k : Nat} {y z : Option PV} (ρ : FS.Loc) (h3 : ρ[3]? = some (some (.lst true (rmsP rows n)))) {j : Nat} (hj : ρ[j]? = some (some (.int (k : Nat)))) (hk : k < (hds (Ed rows) n).length) : evE (.sub (.sub (.var 3) (.var j)) (.int 0)) ρ = .ok (true, .int (hAt rows n k : Nat)) := by
  have e1 : subS (.lst true (rmsP rows n)) (.int (k : Nat)) = some (scP rows n (hAt rows n k)) := sub_rms hk
  simp only [e_sub, e_var, e_int, vB_bind, h3, hj, b_ok, fzI, e1, if_true, sub_scP (hAt_mem hk)]
theorem pCo_eq (q : Sq rows n) {v : PV} {i : Nat} (hi : i < (hds (Ed rows) n).length) {x5 x9 x11 : Option PV} : evE pCo (rtS rows n v x5 (some (.int (i : Nat))) none x9 x11) = .ok (false, .lst true (prP rows n i)) := by
  have hn := q.few
  have hm := hds_len (rows := rows) (n := n)
  have hit := i_range (e := .blt .len (.cons (.var 3) .nil)) (n := (hds (Ed rows) n).length) (ρ := rtS rows n v x5 (some (.int (i : Nat))) none x9 x11) (by omega) ⟨false, by rw [len_lst (i := 3) (xs := rmsP rows n) rfl, rms_len]⟩
  refine (e_comp (g := fun x => match x with | .int k => if (!decide (i = k.toNat) && decide (Rc (Ed rows) (hAt rows n i) (hAt rows n k.toNat))) = true then some (pP i k.toNat) else none | _ => none) hit (by rw [nats_len, List.length_range]; omega) fun x hx => ?_).trans ?_
  · obtain ⟨k, hk, rfl⟩ := List.mem_map.mp hx
    rw [List.mem_range] at hk
    obtain ⟨hi1, hi2⟩ := hAt_mem hi
    obtain ⟨hk1, hk2⟩ := hAt_mem hk
    obtain ⟨ρ, hρ⟩ : ∃ ρ, rtS rows n v x5 (some (.int (i : Nat))) (some (.int (k : Nat))) x9 x11 = ρ := ⟨_, rfl⟩
    have g1 : ρ[1]? = some (some (tabP rows)) := by rw [← hρ]; rfl
    have g3 : ρ[3]? = some (some (.lst true (rmsP rows n))) := by rw [← hρ]; rfl
    have g6 : ρ[6]? = some (some (.int (i : Nat))) := by rw [← hρ]; rfl
    have g7 : ρ[7]? = some (some (.int (k : Nat))) := by rw [← hρ]; rfl
    refine ⟨ρ, by rw [← hρ]; rfl, ?_⟩
    have s1 := head_ev (v := v) (x5 := none) (x9 := none) (x11 := none) (i := i) (y := none) (z := none) ρ g3 g7 hk
    have s0 := head_ev (v := v) (x5 := none) (x9 := none) (x11 := none) (i := i) (y := none) (z := none) ρ g3 g6 hi
    have s2 : evE (.call "_law_from" 2 m__law_from (.cons (.var 1) (.cons (.sub (.sub (.var 3) (.var 6)) (.int 0)) .nil))) ρ = .ok (false, .lst true (natsP (rl (Ed rows) n (hAt rows n i)))) := call2 (b1 := true) (b2 := true) (x := tabP rows) (y := .int (hAt rows n i : Nat)) (by simp only [e_var, g1]) s0 (tTab _ _) (tI _ _) (from_eq q hi1)
    have t1 : evT (.cmp .ne (.var 6) (.var 7)) ρ = .ok (!decide (i = k)) := by
      simp only [t_cmp, e_var, g6, g7, b_ok, fzI, c_ne, ofO_some]
      refine congrArg (fun z => Tr.ok (!z)) (decide_eq_decide.mpr ?_)
      constructor <;> intro z <;> omega
    have t2 : evT (.cmp .in_ (.sub (.sub (.var 3) (.var 7)) (.int 0)) (.call "_law_from" 2 m__law_from (.cons (.var 1) (.cons (.sub (.sub (.var 3) (.var 6)) (.int 0)) .nil)))) ρ = .ok (decide (Rc (Ed rows) (hAt rows n i) (hAt rows n k))) := by
      simp only [t_cmp, s1, s2, b_ok, fzI, PV.fz, fzs_nats, c_inl, ofO_some]
      refine congrArg Tr.ok (decide_eq_decide.mpr ?_)
      rw [mem_rl]
      exact ⟨fun h => h.2, fun h => ⟨hk1, h⟩⟩
    have t3 : evT (.an (.cmp .ne (.var 6) (.var 7)) (.one (.cmp .in_ (.sub (.sub (.var 3) (.var 7)) (.int 0)) (.call "_law_from" 2 m__law_from (.cons (.var 1) (.cons (.sub (.sub (.var 3) (.var 6)) (.int 0)) .nil)))))) ρ = .ok (!decide (i = k) && decide (Rc (Ed rows) (hAt rows n i) (hAt rows n k))) := by
      simp only [t_an, t1, b_ok, t_one, t2]
      by_cases h : i = k <;> simp [h]
    by_cases hb : (!decide (i = k) && decide (Rc (Ed rows) (hAt rows n i) (hAt rows n k))) = true
    · refine .inr ⟨by rw [t3, hb], (false, pP i k), pP i k, ?_, mov_f _, by simpa using hb⟩
      simp only [e_tup, e_cons, e_nil, e_var, g6, g7, b_ok, takes, tI]
      rw [if_pos (by simp)]
      rfl
    · exact .inl ⟨by rw [t3, Bool.eq_false_iff.mpr hb], by simpa using hb⟩
  · rw [filterMap_f (P := fun k => !decide (i = k) && decide (Rc (Ed rows) (hAt rows n i) (hAt rows n k))) (f := pP i) fun k _ => by simp]
    rfl
/-- all pairs -/
theorem pairs_eq (q : Sq rows n) {v : PV} : ∃ x6, exS (.fr (.v 6) (.rng (.blt .len (.cons (.var 3) .nil))) (.cons (.ext 5 pCo) .nil)) (rtS rows n v (some (.lst true [])) none none none none) = .ok (.nx (rtS rows n v (some (.lst true (prs rows n (hds (Ed rows) n).length))) x6 none none none)) := by
  have hn := q.few
  have hm := hds_len (rows := rows) (n := n)
  obtain ⟨ρ', e, x6, rfl⟩ := forL_eq (t := .v 6) (b := exB (.cons (.ext 5 pCo) .nil)) (fun i ρ => ∃ x6, ρ = rtS rows n v (some (.lst true (prs rows n i))) x6 none none none) (natsP (List.range (hds (Ed rows) n).length)) 0 (rtS rows n v (some (.lst true [])) none none none none) ⟨none, by simp [prs]⟩ fun j x ρ hx hI => by
    obtain ⟨x6, rfl⟩ := hI
    rw [natsP, List.getElem?_map, Option.map_eq_some_iff] at hx
    obtain ⟨p, hpj, rfl⟩ := hx
    have hj : j < (hds (Ed rows) n).length := by
      have := (List.getElem?_eq_some_iff.mp hpj).1
      simpa using this
    have : p = j := by
      rw [List.getElem?_range hj] at hpj
      exact (Option.some.inj hpj).symm
    subst this
    rw [Nat.zero_add]
    refine ⟨rtS rows n v (some (.lst true (prs rows n p))) (some (.int (p : Nat))) none none none, rtS rows n v (some (.lst true (prs rows n (p + 1)))) (some (.int (p : Nat))) none none none, rfl, ?_, _, rfl⟩
    have l1 := prs_len (rows := rows) (n := n) p
    have l2 := prP_len (rows := rows) (n := n) (i := p)
    have l3 : p * n ≤ 7 * 7 := Nat.mul_le_mul (by omega) (by omega)
    simp only [exB]
    refine (sq_nx (x_ext (xs := prs rows n p) (ys := prP rows n p) rfl (pCo_eq q hj) (prP_fz _) (by omega))).trans ?_
    rw [prs_succ]
    rfl
  rw [nats_len, List.length_range, Nat.zero_add] at e
  refine ⟨x6, ?_⟩
  have hi := i_range (e := .blt .len (.cons (.var 3) .nil)) (n := (hds (Ed rows) n).length) (ρ := rtS rows n v (some (.lst true [])) none none none none) (by omega) ⟨false, by rw [len_lst (i := 3) (xs := rmsP rows n) rfl, rms_len]⟩
  simp only [exS, forF, hi, b_ok, if_true]
  exact e
end
end K06

set_option Elab.async false
set_option linter.all false
set_option maxRecDepth 100000
set_option maxHeartbeats 4000000
namespace K06
open PySem PySem.Spec PyProof.Rows L2 FS
/-! ### lots that are refused -/
def refRow (s : Str) : PV := .tup [.str "row", .str "lot", .str s]
structure OutOk (n : Nat) (o : PV) : Prop where
  tk : FS.take (true, o) = some o
  fz : o.fz = o
  lot : ∃ b, m_is_lot [o, .int (n : Nat)] = .ok (.bl b) ∧ (b = false ∨ (b = true ∧ o = .tup []))
  rp : ∃ s, reprS o = some (.str s) ∧ faultV kF (.ret (.exn "BadRow" ["row", "what"] [o, .str "lot"])) = .ok (false, refRow s)
def out9 (n : Nat) : PV := if decide ((1 : Int) < (n : Nat)) then .tup [.int 1, .int 0] else .tup [.int 0, .int 0]
def outO (n : Nat) : List PV := [.non, .tup [], .tup [.int (n : Nat)], .tup [.int (-1)], .tup [.int 0, .int 0], .tup [.bl true], .str "0", .dct true false [] [], out9 n]
def outL (n : Nat) : List PV := [.non, .tup [], .tup [.int (n : Nat)], .tup [.int (-1)], .tup [.int 0, .int 0], .tup [.bl true], .str "0", .dct false false [] [], out9 n]
theorem out_ok : ∀ n : Nat, 1 ≤ n → n ≤ 7 → ∀ o ∈ outL n, OutOk n o := by
  intro n h1 h7 o ho
  have hn : n = 1 ∨ n = 2 ∨ n = 3 ∨ n = 4 ∨ n = 5 ∨ n = 6 ∨ n = 7 := by omega
  unfold outL at ho
  simp only [List.mem_cons, List.not_mem_nil, or_false] at ho
  rcases hn with rfl | rfl | rfl | rfl | rfl | rfl | rfl
  · rcases ho with rfl | rfl | rfl | rfl | rfl | rfl | rfl | rfl | rfl
    · exact ⟨by kernel_rfl, by kernel_rfl, ⟨false, by kernel_rfl, .inl rfl⟩, ⟨"None", by kernel_rfl, by kernel_rfl⟩⟩
    · exact ⟨by kernel_rfl, by kernel_rfl, ⟨true, by kernel_rfl, .inr ⟨rfl, rfl⟩⟩, ⟨"()", by kernel_rfl, by kernel_rfl⟩⟩
    · exact ⟨by kernel_rfl, by kernel_rfl, ⟨false, by kernel_rfl, .inl rfl⟩, ⟨"(1,)", by kernel_rfl, by kernel_rfl⟩⟩
    · exact ⟨by kernel_rfl, by kernel_rfl, ⟨false, by kernel_rfl, .inl rfl⟩, ⟨"(-1,)", by kernel_rfl, by kernel_rfl⟩⟩
    · exact ⟨by kernel_rfl, by kernel_rfl, ⟨false, by kernel_rfl, .inl rfl⟩, ⟨"(0, 0)", by kernel_rfl, by kernel_rfl⟩⟩
    · exact ⟨by kernel_rfl, by kernel_rfl, ⟨false, by kernel_rfl, .inl rfl⟩, ⟨"(True,)", by kernel_rfl, by kernel_rfl⟩⟩
    · exact ⟨by kernel_rfl, by kernel_rfl, ⟨false, by kernel_rfl, .inl rfl⟩, ⟨"'0'", by kernel_rfl, by kernel_rfl⟩⟩
    · exact ⟨by kernel_rfl, by kernel_rfl, ⟨false, by kernel_rfl, .inl rfl⟩, ⟨"{}", by kernel_rfl, by kernel_rfl⟩⟩
    · exact ⟨by kernel_rfl, by kernel_rfl, ⟨false, by kernel_rfl, .inl rfl⟩, ⟨"(0, 0)", by kernel_rfl, by kernel_rfl⟩⟩
  · rcases ho with rfl | rfl | rfl | rfl | rfl | rfl | rfl | rfl | rfl
    · exact ⟨by kernel_rfl, by kernel_rfl, ⟨false, by kernel_rfl, .inl rfl⟩, ⟨"None", by kernel_rfl, by kernel_rfl⟩⟩
    · exact ⟨by kernel_rfl, by kernel_rfl, ⟨true, by kernel_rfl, .inr ⟨rfl, rfl⟩⟩, ⟨"()", by kernel_rfl, by kernel_rfl⟩⟩
    · exact ⟨by kernel_rfl, by kernel_rfl, ⟨false, by kernel_rfl, .inl rfl⟩, ⟨"(2,)", by kernel_rfl, by kernel_rfl⟩⟩
    · exact ⟨by kernel_rfl, by kernel_rfl, ⟨false, by kernel_rfl, .inl rfl⟩, ⟨"(-1,)", by kernel_rfl, by kernel_rfl⟩⟩
    · exact ⟨by kernel_rfl, by kernel_rfl, ⟨false, by kernel_rfl, .inl rfl⟩, ⟨"(0, 0)", by kernel_rfl, by kernel_rfl⟩⟩
    · exact ⟨by kernel_rfl, by kernel_rfl, ⟨false, by kernel_rfl, .inl rfl⟩, ⟨"(True,)", by kernel_rfl, by kernel_rfl⟩⟩
    · exact ⟨by kernel_rfl, by kernel_rfl, ⟨false, by kernel_rfl, .inl rfl⟩, ⟨"'0'", by kernel_rfl, by kernel_rfl⟩⟩
    · exact ⟨by kernel_rfl, by kernel_rfl, ⟨false, by kernel_rfl, .inl rfl⟩, ⟨"{}", by kernel_rfl, by kernel_rfl⟩⟩
    · exact ⟨by kernel_rfl, by kernel_rfl, ⟨false, by kernel_rfl, .inl rfl⟩, ⟨"(1, 0)", by kernel_rfl, by kernel_rfl⟩⟩
  · rcases ho with rfl | rfl | rfl | rfl | rfl | rfl | rfl | rfl | rfl
    · exact ⟨by kernel_rfl, by kernel_rfl, ⟨false, by kernel_rfl, .inl rfl⟩, ⟨"None", by kernel_rfl, by kernel_rfl⟩⟩
    · exact ⟨by kernel_rfl, by kernel_rfl, ⟨true, by kernel_rfl, .inr ⟨rfl, rfl⟩⟩, ⟨"()", by kernel_rfl, by kernel_rfl⟩⟩
    · exact ⟨by kernel_rfl, by kernel_rfl, ⟨false, by kernel_rfl, .inl rfl⟩, ⟨"(3,)", by kernel_rfl, by kernel_rfl⟩⟩
    · exact ⟨by kernel_rfl, by kernel_rfl, ⟨false, by kernel_rfl, .inl rfl⟩, ⟨"(-1,)", by kernel_rfl, by kernel_rfl⟩⟩
    · exact ⟨by kernel_rfl, by kernel_rfl, ⟨false, by kernel_rfl, .inl rfl⟩, ⟨"(0, 0)", by kernel_rfl, by kernel_rfl⟩⟩
    · exact ⟨by kernel_rfl, by kernel_rfl, ⟨false, by kernel_rfl, .inl rfl⟩, ⟨"(True,)", by kernel_rfl, by kernel_rfl⟩⟩
    · exact ⟨by kernel_rfl, by kernel_rfl, ⟨false, by kernel_rfl, .inl rfl⟩, ⟨"'0'", by kernel_rfl, by kernel_rfl⟩⟩
    · exact ⟨by kernel_rfl, by kernel_rfl, ⟨false, by kernel_rfl, .inl rfl⟩, ⟨"{}", by kernel_rfl, by kernel_rfl⟩⟩
    · exact ⟨by kernel_rfl, by kernel_rfl, ⟨false, by kernel_rfl, .inl rfl⟩, ⟨"(1, 0)", by kernel_rfl, by kernel_rfl⟩⟩
  · rcases ho with rfl | rfl | rfl | rfl | rfl | rfl | rfl | rfl | rfl
    · exact ⟨by kernel_rfl, by kernel_rfl, ⟨false, by kernel_rfl, .inl rfl⟩, ⟨"None", by kernel_rfl, by kernel_rfl⟩⟩
    · exact ⟨by kernel_rfl, by kernel_rfl, ⟨true, by kernel_rfl, .inr ⟨rfl, rfl⟩⟩, ⟨"()", by kernel_rfl, by kernel_rfl⟩⟩
    · exact ⟨by kernel_rfl, by kernel_rfl, ⟨false, by kernel_rfl, .inl rfl⟩, ⟨"(4,)", by kernel_rfl, by kernel_rfl⟩⟩
    · exact ⟨by kernel_rfl, by kernel_rfl, ⟨false, by kernel_rfl, .inl rfl⟩, ⟨"(-1,)", by kernel_rfl, by kernel_rfl⟩⟩
    · exact ⟨by kernel_rfl, by kernel_rfl, ⟨false, by kernel_rfl, .inl rfl⟩, ⟨"(0, 0)", by kernel_rfl, by kernel_rfl⟩⟩
    · exact ⟨by kernel_rfl, by kernel_rfl, ⟨false, by kernel_rfl, .inl rfl⟩, ⟨"(True,)", by kernel_rfl, by kernel_rfl⟩⟩
    · exact ⟨by kernel_rfl, by kernel_rfl, ⟨false, by kernel_rfl, .inl rfl⟩, ⟨"'0'", by kernel_rfl, by kernel_rfl⟩⟩
    · exact ⟨by kernel_rfl, by kernel_rfl, ⟨false, by kernel_rfl, .inl rfl⟩, ⟨"{}", by kernel_rfl, by kernel_rfl⟩⟩
    · exact ⟨by kernel_rfl, by kernel_rfl, ⟨false, by kernel_rfl, .inl rfl⟩, ⟨"(1, 0)", by kernel_rfl, by kernel_rfl⟩⟩
  · rcases ho with rfl | rfl | rfl | rfl | rfl | rfl | rfl | rfl | rfl
    · exact ⟨by kernel_rfl, by kernel_rfl, ⟨false, by kernel_rfl, .inl rfl⟩, ⟨"None", by kernel_rfl, by kernel_rfl⟩⟩
    · exact ⟨by kernel_rfl, by kernel_rfl, ⟨true, by kernel_rfl, .inr ⟨rfl, rfl⟩⟩, ⟨"()", by kernel_rfl, by kernel_rfl⟩⟩
    · exact ⟨by kernel_rfl, by kernel_rfl, ⟨false, by kernel_rfl, .inl rfl⟩, ⟨"(5,)", by kernel_rfl, by kernel_rfl⟩⟩
    · exact ⟨by kernel_rfl, by kernel_rfl, ⟨false, by kernel_rfl, .inl rfl⟩, ⟨"(-1,)", by kernel_rfl, by kernel_rfl⟩⟩
    · exact ⟨by kernel_rfl, by kernel_rfl, ⟨false, by kernel_rfl, .inl rfl⟩, ⟨"(0, 0)", by kernel_rfl, by kernel_rfl⟩⟩
    · exact ⟨by kernel_rfl, by kernel_rfl, ⟨false, by kernel_rfl, .inl rfl⟩, ⟨"(True,)", by kernel_rfl, by kernel_rfl⟩⟩
    · exact ⟨by kernel_rfl, by kernel_rfl, ⟨false, by kernel_rfl, .inl rfl⟩, ⟨"'0'", by kernel_rfl, by kernel_rfl⟩⟩
    · exact ⟨by kernel_rfl, by kernel_rfl, ⟨false, by kernel_rfl, .inl rfl⟩, ⟨"{}", by kernel_rfl, by kernel_rfl⟩⟩
    · exact ⟨by kernel_rfl, by kernel_rfl, ⟨false, by kernel_rfl, .inl rfl⟩, ⟨"(1, 0)", by kernel_rfl, by kernel_rfl⟩⟩
  · rcases ho with rfl | rfl | rfl | rfl | rfl | rfl | rfl | rfl | rfl
    · exact ⟨by kernel_rfl, by kernel_rfl, ⟨false, by kernel_rfl, .inl rfl⟩, ⟨"None", by kernel_rfl, by kernel_rfl⟩⟩
    · exact ⟨by kernel_rfl, by kernel_rfl, ⟨true, by kernel_rfl, .inr ⟨rfl, rfl⟩⟩, ⟨"()", by kernel_rfl, by kernel_rfl⟩⟩
    · exact ⟨by kernel_rfl, by kernel_rfl, ⟨false, by kernel_rfl, .inl rfl⟩, ⟨"(6,)", by kernel_rfl, by kernel_rfl⟩⟩
    · exact ⟨by kernel_rfl, by kernel_rfl, ⟨false, by kernel_rfl, .inl rfl⟩, ⟨"(-1,)", by kernel_rfl, by kernel_rfl⟩⟩
    · exact ⟨by kernel_rfl, by kernel_rfl, ⟨false, by kernel_rfl, .inl rfl⟩, ⟨"(0, 0)", by kernel_rfl, by kernel_rfl⟩⟩
    · exact ⟨by kernel_rfl, by kernel_rfl, ⟨false, by kernel_rfl, .inl rfl⟩, ⟨"(True,)", by kernel_rfl, by kernel_rfl⟩⟩
    · exact ⟨by kernel_rfl, by kernel_rfl, ⟨false, by kernel_rfl, .inl rfl⟩, ⟨"'0'", by kernel_rfl, by kernel_rfl⟩⟩
    · exact ⟨by kernel_rfl, by kernel_rfl, ⟨false, by kernel_rfl, .inl rfl⟩, ⟨"{}", by kernel_rfl, by kernel_rfl⟩⟩
    · exact ⟨by kernel_rfl, by kernel_rfl, ⟨false, by kernel_rfl, .inl rfl⟩, ⟨"(1, 0)", by kernel_rfl, by kernel_rfl⟩⟩
  · rcases ho with rfl | rfl | rfl | rfl | rfl | rfl | rfl | rfl | rfl
    · exact ⟨by kernel_rfl, by kernel_rfl, ⟨false, by kernel_rfl, .inl rfl⟩, ⟨"None", by kernel_rfl, by kernel_rfl⟩⟩
    · exact ⟨by kernel_rfl, by kernel_rfl, ⟨true, by kernel_rfl, .inr ⟨rfl, rfl⟩⟩, ⟨"()", by kernel_rfl, by kernel_rfl⟩⟩
    · exact ⟨by kernel_rfl, by kernel_rfl, ⟨false, by kernel_rfl, .inl rfl⟩, ⟨"(7,)", by kernel_rfl, by kernel_rfl⟩⟩
    · exact ⟨by kernel_rfl, by kernel_rfl, ⟨false, by kernel_rfl, .inl rfl⟩, ⟨"(-1,)", by kernel_rfl, by kernel_rfl⟩⟩
    · exact ⟨by kernel_rfl, by kernel_rfl, ⟨false, by kernel_rfl, .inl rfl⟩, ⟨"(0, 0)", by kernel_rfl, by kernel_rfl⟩⟩
    · exact ⟨by kernel_rfl, by kernel_rfl, ⟨false, by kernel_rfl, .inl rfl⟩, ⟨"(True,)", by kernel_rfl, by kernel_rfl⟩⟩
    · exact ⟨by kernel_rfl, by kernel_rfl, ⟨false, by kernel_rfl, .inl rfl⟩, ⟨"'0'", by kernel_rfl, by kernel_rfl⟩⟩
    · exact ⟨by kernel_rfl, by kernel_rfl, ⟨false, by kernel_rfl, .inl rfl⟩, ⟨"{}", by kernel_rfl, by kernel_rfl⟩⟩
    · exact ⟨by kernel_rfl, by kernel_rfl, ⟨false, by kernel_rfl, .inl rfl⟩, ⟨"(1, 0)", by kernel_rfl, by kernel_rfl⟩⟩
end K06

set_option Elab.async false
set_option linter.all false
set_option maxRecDepth 100000
set_option maxHeartbeats 4000000
namespace K06
open PySem PySem.Spec PyProof.Rows L2 FS
theorem evs_c {ρ : FS.Loc} {e : Ex} {es : Exs} {r : Rv} {rs : List Rv} (h : evE e ρ = .ok r) (t : evs es ρ = .ok rs) : evs (.cons e es) ρ = .ok (r :: rs) := by
  rw [e_cons, h, b_ok, t]
  rfl
def badE : Exs := match ss__law_bad_table with
  | .cons (.ret (.call _ _ _ es)) _ => es
  | _ => .nil
theorem ss_bad : ss__law_bad_table = .cons (.ret (.call "_law_pick" 2 m__law_pick badE)) .nil := rfl
def badO : List PV := [.non, .int 3, .tup [], .str "t", .bl true, .tup [.tup [.int 1, .int 2]], .tup [.tup [.int 1, .int 0], .tup [.int 0]], .tup [.tup [.int (-1)]], .tup [.tup [.bl true]], .tup [.tup [.non]], .tup [.tup [.int (10 ^ 60 + 1)]], .tup (List.replicate 13 (.tup (List.replicate 13 (.int 0)))), .dct true false [] [], .tup [.tup [.str "1"]]]
theorem badE_eq : evs badE [some .pen] = .ok [(true, .pen), (false, .lst true badO)] := by kernel_rfl
theorem badE_tk : takes [(true, .pen), (false, .lst true badO)] = some [.pen, .lst false badL] := by kernel_rfl
theorem bad_S {P : Out PV → Prop} (h : ∀ b ∈ badL, P (.ok b)) : Sy (m__law_bad_table [.pen]) P := by
  refine run_S (ρ := [some .pen]) rfl ?_
  rw [ss_bad]
  simp only [exB]
  exact sq_S2 (ret_S (call_S badE_eq badE_tk rfl (pick_S (by decide) (by decide) fun x hx => ⟨_, rfl, _, rfl, _, rfl, _, rfl, h x hx⟩)))
theorem evs2_S {ρ : FS.Loc} {e1 e2 : Ex} {P : Out (List Rv) → Prop} (h : Sy (evE e1 ρ) fun o => ∃ r1, o = .ok r1 ∧ Sy (evE e2 ρ) fun o => ∃ r2, o = .ok r2 ∧ P (.ok [r1, r2])) : Sy (evs (.cons e1 (.cons e2 .nil)) ρ) P := by
  rw [e_cons]
  refine .bind (h.imp fun o ⟨r1, e, g⟩ => ⟨r1, e, ?_⟩)
  rw [e_cons, e_nil]
  refine .bind (.bind (g.imp fun o ⟨r2, e, p⟩ => ⟨r2, e, ⟨⟨[r2], rfl, ⟨p⟩⟩⟩⟩))
theorem par2_S {ρ : FS.Loc} {i j : Nat} {es : Exs} {P : Out Fl → Prop} (h : Sy (evs es ρ) fun o => ∃ rs u v, o = .ok rs ∧ movs rs = some [u, v] ∧ P (.ok (.nx ((ρ.set i (some u)).set j (some v))))) : Sy (exS (.par2 i j es) ρ) P := by
  simp only [exS]
  unfold par2F
  refine .bind (h.imp fun o ⟨rs, u, v, e, m, p⟩ => ⟨rs, e, ?_⟩)
  rw [m]
  exact ⟨p⟩
def lenT : Ex := .blt .len (.cons (.var 1) .nil)
def nineE : Ex := .ife (.cmp .gt lenT (.int 1)) (.tup (.cons (.int 1) (.cons (.int 0) .nil))) (.tup (.cons (.int 0) (.cons (.int 0) .nil)))
def outE : Ex := .lst (.cons .non (.cons (.tup .nil) (.cons (.tup (.cons lenT .nil)) (.cons (.tup (.cons (.neg (.int 1)) .nil)) (.cons (.tup (.cons (.int 0) (.cons (.int 0) .nil))) (.cons (.tup (.cons (.bl true) .nil)) (.cons (.str "0") (.cons (.dnew false) (.cons nineE .nil)))))))))
def toldE : Ex := .lst (.cons (.call "_law_one" 2 m__law_one (.cons (.gl "rooms") (.cons (.var 2) .nil))) (.cons (.call "_law_one" 2 m__law_one (.cons (.gl "room_ways") (.cons (.var 2) .nil))) (.cons (.call "_law_two" 2 m__law_two (.cons (.var 2) (.cons (.var 3) .nil))) (.cons (.call "_law_two" 2 m__law_two (.cons (.var 1) (.cons (.var 3) .nil))) .nil))))
def dueE : Ex := .bin .add (.bin .mul (.lst (.cons (.tup (.cons (.str "table") (.cons (.str "table") .nil))) .nil)) (.int 3)) (.lst (.cons (.tup (.cons (.str "row") (.cons (.str "lot") (.cons (.prim reprPrim (.cons (.var 3) .nil)) .nil)))) .nil))
theorem ss_ref : ss__law_refused = .cons (.par2 2 3 (.cons (.call "_law_bad_table" 1 m__law_bad_table (.cons (.var 0) .nil)) (.cons (.call "_law_pick" 2 m__law_pick (.cons (.var 0) (.cons outE .nil))) .nil))) (.cons (.set 4 toldE) (.cons (.ret (.cmp .eq (.var 4) dueE)) .nil)) := rfl
section
variable {rows : List (List Int)} {n : Nat} {ρ : FS.Loc}
theorem nine_eq (hl : evE lenT ρ = .ok (false, .int (n : Nat))) : evE nineE ρ = .ok (false, out9 n) := by
  unfold nineE
  rw [e_ife, t_cmp, hl, b_ok, e_int, vB_bind]
  show ((Tr.ofO (cmpS .gt (.int (n : Nat)) (.int 1))).bind fun k => if k then evE (.tup (.cons (.int 1) (.cons (.int 0) .nil))) ρ else evE (.tup (.cons (.int 0) (.cons (.int 0) .nil))) ρ) = _
  rw [c_gt, ofO_some, b_ok]
  unfold out9
  by_cases h : (1 : Int) < (n : Nat)
  · rw [decide_eq_true h, if_pos rfl, if_pos rfl, e_tup, e_cons, e_int, e_cons, e_int, e_nil]
    rfl
  · rw [decide_eq_false h, if_neg (by decide), if_neg (by decide), e_tup, e_cons, e_int, e_cons, e_int, e_nil]
    rfl
theorem out9_mv (n : Nat) : FS.mov (false, out9 n) = some (out9 n) := mov_f _
theorem out9_fz (n : Nat) : (out9 n).fz = out9 n := by
  unfold out9
  split <;> rfl
theorem outE_eq (hl : evE lenT ρ = .ok (false, .int (n : Nat))) : evE outE ρ = .ok (false, .lst true (outO n)) := by
  unfold outE
  rw [e_lst]
  have h := evs_c (ρ := ρ) (e := .non) (r := (false, .non)) (by rw [e_non]; rfl) (evs_c (e := .tup .nil) (r := (false, .tup [])) (by rw [e_tup, e_nil]; rfl) (evs_c (e := .tup (.cons lenT .nil)) (r := (false, .tup [.int (n : Nat)])) (by rw [e_tup, e_cons, hl, e_nil]; rfl)
    (evs_c (e := .tup (.cons (.neg (.int 1)) .nil)) (r := (false, .tup [.int (-1)])) (by rw [e_tup, e_cons, e_neg, e_int, e_nil]; rfl) (evs_c (e := .tup (.cons (.int 0) (.cons (.int 0) .nil))) (r := (false, .tup [.int 0, .int 0])) (by rw [e_tup, e_cons, e_int, e_cons, e_int, e_nil]; rfl)
    (evs_c (e := .tup (.cons (.bl true) .nil)) (r := (false, .tup [.bl true])) (by rw [e_tup, e_cons, e_bl, e_nil]; rfl) (evs_c (e := .str "0") (r := (false, .str "0")) (by rw [e_str]; rfl) (evs_c (e := .dnew false) (r := (false, .dct true false [] [])) (by rw [e_dnew]; rfl) (evs_c (nine_eq hl) e_nil))))))))
  rw [h]
  rfl
theorem outO_fz (n : Nat) : PV.fzs (outO n) = outL n := by
  unfold outO outL
  simp only [PV.fzs, out9_fz]
  rfl
theorem runF_exn {l m : Nat} {ss : Ss} {xs : List PV} {c : Str} {ns : List Str} {ys : List PV} (hρ : xs.map some ++ List.replicate (l - m) none = ρ) (h : exB ss ρ = .ret (.exn c ns ys)) : runF l m ss xs = .ret (.exn c ns ys) := by
  unfold runF
  rw [hρ, h]
  rfl
theorem sq_exn {m k : FS.Loc → Tr Fl} {c : Str} {ns : List Str} {ys : List PV} (h : m ρ = .ret (.exn c ns ys)) : sqF m k ρ = .ret (.exn c ns ys) := by
  unfold sqF
  rw [h]
  rfl
theorem x_rs {c : Str} {ns : List Str} {es : Exs} {rs : List Rv} {xs : List PV} (h : evs es ρ = .ok rs) (t : takes rs = some xs) (hl : xs.length = ns.length) : exS (.rs c ns es) ρ = .ret (.exn c ns xs.reverse) := by
  simp only [exS]
  unfold rsF
  rw [h, b_ok, t]
  dsimp only
  rw [if_pos hl]
theorem x_setx {i : Nat} {e : Ex} {c : Str} {ns : List Str} {ys : List PV} (h : evE e ρ = .ret (.exn c ns ys)) : exS (.set i e) ρ = .ret (.exn c ns ys) := by
  simp only [exS]
  unfold setF
  rw [h]
  rfl
theorem two_eq {b o : PV} {r : PV} {out : Out PV} (hb : FS.take (true, b) = some b) (ho : FS.take (true, o) = some o) (hm : m_cut_to [b, o] = .ret out) (hr : faultV kF ((Tr.ret out).bind fun x => vB x) = .ok (false, r)) : m__law_two [b, o] = .ok r := by
  refine runF_eq (ρ := [some b, some o]) rfl ?_
  unfold ss__law_two
  simp only [exB]
  refine sq_rt ?_
  have e : evs (.cons (.var 0) (.cons (.var 1) .nil)) [some b, some o] = .ok [(true, b), (true, o)] := evs_c (by rw [e_var]; rfl) (evs_c (by rw [e_var]; rfl) e_nil)
  simp only [exS]
  rw [e_call, e, b_ok]
  simp only [takes, hb, ho]
  rw [if_pos (show [b, o].length = 2 from rfl), hm, hr]
  rfl
theorem cut_bad {b o : PV} (hb : Bad b) : m_cut_to [b, o] = .ret (.exn "BadTable" ["what"] [.str "table"]) := by
  refine runF_exn (ρ := [some b, some o, none]) rfl ?_
  unfold ss_cut_to
  simp only [exB]
  have e : evE (.call "need_table" 2 m_need_table (.cons (.var 0) (.cons (.str "table") .nil))) [some b, some o, none] = .ret (.exn "BadTable" ["what"] [.str "table"]) := by
    have e1 : evs (.cons (.var 0) (.cons (.str "table") .nil)) [some b, some o, none] = .ok [(true, b), (false, .str "table")] := evs_c (by rw [e_var]; rfl) (evs_c (by rw [e_str]; rfl) e_nil)
    rw [e_call, e1, b_ok]
    simp only [takes, hb.tk, tS]
    rw [if_pos (show [b, PV.str "table"].length = 2 from rfl), hb.nd]
    rfl
  exact sq_exn (x_setx e)
theorem cut_out (q : Sq rows n) {o : PV} (h : OutOk n o) : m_cut_to [tabP rows, o] = .ret (.exn "BadRow" ["row", "what"] [o, .str "lot"]) := by
  refine runF_exn (ρ := [some (tabP rows), some o, none]) rfl ?_
  unfold ss_cut_to
  simp only [exB]
  have s1 : exS (.set 2 (.call "need_table" 2 m_need_table (.cons (.var 0) (.cons (.str "table") .nil)))) [some (tabP rows), some o, none] = .ok (.nx [some (tabP rows), some o, some (tabP rows)]) := by
    refine (x_set (r := (false, tabP rows)) (y := tabP rows) (call2 (b1 := true) (b2 := false) (x := tabP rows) (y := .str "table") (by simp only [e_var, List.getElem?_cons_zero]) e_str (tTab _ _) (tS _ _) (need_eq (.inl rfl) q.two)) (mov_f _)).trans ?_
    simp only [List.set_cons_succ, List.set_cons_zero]
  obtain ⟨b, hb, hc⟩ := h.lot
  have h1 : evE (.call "is_lot" 2 m_is_lot (.cons (.var 1) (.cons (.blt .len (.cons (.var 2) .nil)) .nil))) [some (tabP rows), some o, some (tabP rows)] = .ok (false, .bl b) := call2 (b1 := true) (b2 := false) (x := o) (y := .int (n : Nat)) (by simp only [e_var, List.getElem?_cons_succ, List.getElem?_cons_zero]) (e_len q rfl) h.tk (tI _ _) hb
  have t1 : evT (.orr (.nt (.tru (.call "is_lot" 2 m_is_lot (.cons (.var 1) (.cons (.blt .len (.cons (.var 2) .nil)) .nil))))) (.one (.cmp .eq (.blt .len (.cons (.var 1) .nil)) (.int 0)))) [some (tabP rows), some o, some (tabP rows)] = .ok true := by
    rw [t_orr, t_nt, t_tru, h1, b_ok]
    rcases hc with rfl | ⟨rfl, rfl⟩
    · rfl
    · rw [t_one, t_cmp, len_tup (i := 1) (xs := []) rfl]
      rfl
  rw [sq_nx s1]
  refine sq_exn ?_
  rw [x_ite t1, if_pos rfl]
  have e : evs (.cons (.str "lot") (.cons (.var 1) .nil)) [some (tabP rows), some o, some (tabP rows)] = .ok [(false, .str "lot"), (true, o)] := evs_c (by rw [e_str]; rfl) (evs_c (by rw [e_var]; rfl) e_nil)
  simp only [exB]
  exact sq_exn (x_rs (ns := ["row", "what"]) (xs := [.str "lot", o]) e (by simp only [takes, tS, h.tk]) rfl)
theorem repr_ev {o : PV} {s : Str} (h3 : ρ[3]? = some (some o)) (hz : o.fz = o) (h : reprS o = some (.str s)) : evE (.prim reprPrim (.cons (.var 3) .nil)) ρ = .ok (false, .str s) := by
  rw [e_prim]
  show (evE (.var 3) ρ).bind (fun r => ofV (reprS r.2.fz)) = _
  rw [e_var, h3]
  show ofV (reprS o.fz) = _
  rw [hz, h]
  rfl
def tb4 (s : Str) : List PV := [tbP, tbP, tbP, refRow s]
theorem due_eq {o : PV} {s : Str} (h3 : ρ[3]? = some (some o)) (hz : o.fz = o) (h : reprS o = some (.str s)) : evE dueE ρ = .ok (false, .lst true (tb4 s)) := by
  unfold dueE
  have e1 : evE (.bin .mul (.lst (.cons (.tup (.cons (.str "table") (.cons (.str "table") .nil))) .nil)) (.int 3)) ρ = .ok (false, .lst true [tbP, tbP, tbP]) := by
    rw [e_bin, e_lst, e_cons, e_tup, e_cons, e_str, e_cons, e_nil, e_int]
    rfl
  have e2 : evE (.lst (.cons (.tup (.cons (.str "row") (.cons (.str "lot") (.cons (.prim reprPrim (.cons (.var 3) .nil)) .nil)))) .nil)) ρ = .ok (false, .lst true [refRow s]) := by
    rw [e_lst, e_cons, e_tup, e_cons, e_str, e_cons, e_str, e_cons, repr_ev h3 hz h, e_nil]
    rfl
  rw [e_bin, e1, b_ok, e2]
  rfl
theorem told_eq {b o : PV} {s : Str} (q : Sq rows n) (hb : Bad b) (ho : OutOk n o) (hs : faultV kF (.ret (.exn "BadRow" ["row", "what"] [o, .str "lot"])) = .ok (false, refRow s)) : evE toldE [some .pen, some (tabP rows), some b, some o, none] = .ok (false, .lst true (tb4 s)) := by
  obtain ⟨ρ, hρ⟩ : ∃ ρ, [some .pen, some (tabP rows), some b, some o, none] = ρ := ⟨_, rfl⟩
  have v1 : evE (.var 1) ρ = .ok (true, tabP rows) := by rw [← hρ, e_var]; rfl
  have v2 : evE (.var 2) ρ = .ok (true, b) := by rw [← hρ, e_var]; rfl
  have v3 : evE (.var 3) ρ = .ok (true, o) := by rw [← hρ, e_var]; rfl
  rw [hρ]
  have a1 : evE (.call "_law_one" 2 m__law_one (.cons (.gl "rooms") (.cons (.var 2) .nil))) ρ = .ok (false, tbP) := call2 (b1 := false) (b2 := true) (x := .gl "rooms") (y := b) (by rw [e_gl]; rfl) v2 rfl hb.tk hb.r1
  have a2 : evE (.call "_law_one" 2 m__law_one (.cons (.gl "room_ways") (.cons (.var 2) .nil))) ρ = .ok (false, tbP) := call2 (b1 := false) (b2 := true) (x := .gl "room_ways") (y := b) (by rw [e_gl]; rfl) v2 rfl hb.tk hb.r2
  have a3 : evE (.call "_law_two" 2 m__law_two (.cons (.var 2) (.cons (.var 3) .nil))) ρ = .ok (false, tbP) := call2 (b1 := true) (b2 := true) (x := b) (y := o) v2 v3 hb.tk ho.tk (two_eq hb.tk ho.tk (cut_bad hb) (by kernel_rfl))
  have a4 : evE (.call "_law_two" 2 m__law_two (.cons (.var 1) (.cons (.var 3) .nil))) ρ = .ok (false, refRow s) := call2 (b1 := true) (b2 := true) (x := tabP rows) (y := o) v1 v3 (tTab _ _) ho.tk (two_eq (tTab _ _) ho.tk (cut_out q ho) hs)
  unfold toldE
  rw [e_lst, evs_c a1 (evs_c a2 (evs_c a3 (evs_c a4 e_nil)))]
  rfl
theorem tb4_same (s : Str) : cmpS .eq (.lst false (tb4 s)) (.lst false (tb4 s)) = some true := by
  have h : PV.data (.lst false (tb4 s)) = some (.list [.tuple [.str "table", .str "table"], .tuple [.str "table", .str "table"], .tuple [.str "table", .str "table"], .tuple [.str "row", .str "lot", .str s]]) := rfl
  exact (cmp_same (d := .list [.tuple [.str "table", .str "table"], .tuple [.str "table", .str "table"], .tuple [.str "table", .str "table"], .tuple [.str "row", .str "lot", .str s]]) (by unfold PV.sdata; rw [h]; rfl) (PV.data_plain h)).2
theorem refused_S (q : Sq rows n) {P : Out PV → Prop} (h : P (.ok (.bl true))) : Sy (m__law_refused [.pen, tabP rows]) P := by
  refine run_S (ρ := [some .pen, some (tabP rows), none, none, none]) rfl ?_
  rw [ss_ref]
  simp only [exB]
  have hl : evE lenT [some .pen, some (tabP rows), none, none, none] = .ok (false, .int (n : Nat)) := e_len q rfl
  have o1 : evs (.cons (.var 0) .nil) [some .pen, some (tabP rows), none, none, none] = .ok [(true, .pen)] := evs_c (by rw [e_var]; rfl) e_nil
  have o2 : evs (.cons (.var 0) (.cons outE .nil)) [some .pen, some (tabP rows), none, none, none] = .ok [(true, .pen), (false, .lst true (outO n))] := evs_c (by rw [e_var]; rfl) (evs_c (outE_eq hl) e_nil)
  have tk2 : takes [(true, .pen), (false, .lst true (outO n))] = some [.pen, .lst false (outL n)] := by
    simp only [takes, takeI true _ stP fzP, take_f, PV.fz, outO_fz]
  refine sq_S (par2_S (evs2_S (call_S (xs := [.pen]) o1 (by simp only [takes, takeI true _ stP fzP]) rfl (bad_S fun b hb => ⟨_, rfl, _, rfl, call_S o2 tk2 rfl (pick_S (show 0 < 9 by decide) (show 9 < 1000 by decide) fun o ho => ⟨_, rfl, _, rfl, _, _, _, rfl, rfl, [some .pen, some (tabP rows), some b, some o, none], rfl, ?_⟩)⟩))))
  have hB := bad_all b hb
  have hO := out_ok n q.pos q.few o ho
  obtain ⟨s, hs1, hs2⟩ := hO.rp
  refine sq_S (.of (x_set (told_eq q hB hO hs2) (mov_f _)) ⟨[some .pen, some (tabP rows), some b, some o, some (.lst true (tb4 s))], rfl, ?_⟩)
  have hd := due_eq (ρ := [some .pen, some (tabP rows), some b, some o, some (.lst true (tb4 s))]) rfl hO.fz hs1
  have hc : evE (.cmp .eq (.var 4) dueE) [some .pen, some (tabP rows), some b, some o, some (.lst true (tb4 s))] = .ok (false, .bl true) := by
    rw [e_cmp, e_var, hd]
    show ofB (cmpS .eq (.lst false (tb4 s)) (.lst false (tb4 s))) = _
    rw [tb4_same]
    rfl
  exact sq_S2 (ret_S (.of hc ⟨_, rfl, _, rfl, _, rfl, h⟩))
end
end K06

set_option Elab.async false
set_option linter.all false
set_option maxRecDepth 100000
set_option maxHeartbeats 4000000
namespace K06
open PySem PySem.Spec PyProof.Rows L2 FS
/-! ### one round -/
def isC (a b : Ex) : Te := .nt (.tru (.call "_law_is" 2 (m__law_is 4) (.cons a (.cons b .nil))))
def rF : Ss := .cons (.ret (.bl false)) .nil
def rT : S := .set 1 (.ife (.cmp .eq d2 (.int 0)) (.call "_law_table" 3 m__law_table (.cons (.var 0) (.cons (.int 7) (.cons (.int 2) .nil)))) (.call "_law_in_steps" 1 m__law_in_steps (.cons (.var 0) .nil)))
def hE : Ex := .comp (.blt .list (.cons (.var 4) .nil)) (.v 4) (.seq (.var 1)) .yes [("row", 4)]
def rH : S := .parN [2, 3] (.cons (.ife (.cmp .eq d2 (.int 0)) hE (.var 1)) (.cons (.call "_law_rooms" 1 m__law_rooms (.cons (.var 1) .nil)) .nil))
def c1 : Te := isC (.call "rooms" 1 m_rooms (.cons (.var 2) .nil)) (.blt .tuple (.cons (.var 3) .nil))
def c2a : Te := isC (.call "room_ways" 1 m_room_ways (.cons (.var 2) .nil)) (.blt .tuple (.cons (.var 5) .nil))
def c2 : Te := .orr c2a (.one (.cmp .ne antE (.lst .nil)))
def lotE : Ex := .blt .tuple (.cons (.comp (.var 10) (.v 10) (.rng lenT) (.cmp .eq d2 (.int 0)) [("place", 10)]) .nil)
def cutE : Ex := .blt .tuple (.cons (.comp (.blt .tuple (.cons (.comp (.sub (.sub (.var 1) (.var 6)) (.var 7)) (.v 7) (.seq (.var 9)) .yes [("k", 7)]) .nil)) (.v 6) (.seq (.var 9)) .yes [("i", 6)]) .nil)
def c3a : Te := isC (.call "cut_to" 2 m_cut_to (.cons (.var 2) (.cons (.blt .list (.cons (.var 9) .nil)) .nil))) cutE
def c3 : Te := .an (.cmp .ne (.var 9) (.tup .nil)) (.one c3a)
def c4 : Te := .nt (.tru (.call "_law_is_one" 1 m__law_is_one (.cons (.call "cut_to" 2 m_cut_to (.cons (.var 1) (.cons (.var 11) .nil))) .nil)))
theorem ss_right : ss__law_right = .cons rT (.cons rH (.frz 2 (.cons (.ite c1 rF .nil) (.cons (.set 5 (.lst .nil)) (.cons (.fr (.v 6) (.rng (.blt .len (.cons (.var 3) .nil))) (.cons (.ext 5 pCo) .nil)) (.frz 2 (.cons (.ite c2 rF .nil) (.cons (.set 9 lotE) (.frz 2 (.cons (.ite c3 rF .nil) (.frz 3 (.cons (.fr (.v 11) (.seq (.var 3)) (.frz 11 (.cons (.ite c4 rF .nil) .nil))) (.cons (.ret (.call "_law_refused" 2 m__law_refused (.cons (.var 0) (.cons (.var 1) .nil)))) .nil))))))))))))) := rfl
section
variable {rows : List (List Int)} {n : Nat} {ρ : FS.Loc}
theorem frz_eq {i : Nat} {x : PV} (h : ρ[i]? = some (some x)) : frzL i ρ = .ok (.nx (ρ.set i (some x.fz))) := by
  unfold frzL
  rw [h]
theorem ite_nx {c : Te} {m : Ss} (h : evT c ρ = .ok false) : exS (.ite c m .nil) ρ = .ok (.nx ρ) := by
  rw [x_ite h, if_neg (by decide)]
  simp only [exB]
theorem isC_eq {a b : Ex} {x : PV} {b1 b2 : Bool} (ha : evE a ρ = .ok (b1, x)) (hb : evE b ρ = .ok (b2, x)) (t1 : FS.take (b1, x) = some x) (t2 : FS.take (b2, x) = some x) (h : m__law_is 4 [x, x] = .ok (.bl true)) : evT (isC a b) ρ = .ok false := by
  unfold isC
  rw [t_nt, t_tru, call2 ha hb t1 t2 h]
  rfl
theorem parN_S {is : List Nat} {es : Exs} {P : Out Fl → Prop} (h : Sy (evs es ρ) fun o => ∃ rs xs ρ', o = .ok rs ∧ movs rs = some xs ∧ xs.length ≤ 100000 ∧ bindTs is xs ρ = some ρ' ∧ P (.ok (.nx ρ'))) : Sy (exS (.parN is es) ρ) P := by
  simp only [exS]
  unfold parNF
  refine .bind (h.imp fun o ⟨rs, xs, ρ', e, m, l, b, p⟩ => ⟨rs, e, ?_⟩)
  rw [m]
  dsimp only
  rw [if_pos l, b]
  exact ⟨p⟩
theorem rT_S {P : Out Fl → Prop} (h : ∀ rows n, Dr rows n → n ≤ 7 → P (.ok (.nx [some .pen, some (tabP rows), none, none, none, none, none, none, none, none, none, none]))) : Sy (exS rT [some .pen, none, none, none, none, none, none, none, none, none, none, none]) P := by
  refine set_S (ife_S (eqd_S (b := false) (n := 2) rfl (by rw [e_int]; rfl) (by decide) (by decide) fun k => ⟨k, rfl, ?_⟩))
  cases k with
  | true =>
    rw [if_pos rfl]
    exact call_S (rs := [(true, .pen), (false, .int 7), (false, .int 2)]) (xs := [.pen, .int 7, .int 2]) (evs_c (by rw [e_var]; rfl) (evs_c (by rw [e_int]; rfl) (evs_c (by rw [e_int]; rfl) e_nil))) (by simp only [takes, takeI true _ stP fzP, tI]) rfl (table_W fun rows n d hn => ⟨_, rfl, _, _, rfl, mov_f _, h rows n d hn⟩)
  | false =>
    rw [if_neg (by decide)]
    exact call_S (rs := [(true, .pen)]) (xs := [.pen]) (evs_c (by rw [e_var]; rfl) e_nil) (by simp only [takes, takeI true _ stP fzP]) rfl (steps_S fun rows n d hn => ⟨_, rfl, _, _, rfl, mov_f _, h rows n d hn⟩)
theorem hE_eq (q : Sq rows n) : evE hE [some .pen, some (tabP rows), none, none, none, none, none, none, none, none, none, none] = .ok (false, tabO rows) := by
  have h7 := q.few
  unfold hE
  refine (e_comp (g := fun x => match x with | .tup xs => some (.lst true xs) | _ => none) (seq_tab rfl) (by rw [List.length_map, q.len]; omega) fun x hx => ?_).trans ?_
  · obtain ⟨r, _, rfl⟩ := List.mem_map.mp hx
    refine ⟨[some .pen, some (tabP rows), none, none, some (rowP r), none, none, none, none, none, none, none], rfl, .inr ⟨t_yes, (false, rowO r), rowO r, ?_, mov_f _, rfl⟩⟩
    rw [e_blt, e_cons, e_nil, e_var]
    rfl
  · have e := filterMap_rows (f := rowP) (g := rowO) (G := fun x => match x with | .tup xs => some (.lst true xs) | _ => none) (fun r => rfl) rows
    rw [e]
    rfl
theorem rH_S (q : Sq rows n) {P : Out Fl → Prop} (h : ∀ v, TabV v.fz rows → P (.ok (.nx (rtS rows n v none none none none none)))) : Sy (exS rH [some .pen, some (tabP rows), none, none, none, none, none, none, none, none, none, none]) P := by
  obtain ⟨ρ, hρ⟩ : ∃ ρ, [some .pen, some (tabP rows), none, none, none, none, none, none, none, none, none, none] = ρ := ⟨_, rfl⟩
  have g0 : ρ[0]? = some (some .pen) := by rw [← hρ]; rfl
  have g1 : evE (.var 1) ρ = .ok (true, tabP rows) := by rw [← hρ, e_var]; rfl
  have gh : evE hE ρ = .ok (false, tabO rows) := by rw [← hρ]; exact hE_eq q
  have hb : ∀ v, bindTs [2, 3] [v, .lst true (rmsP rows n)] ρ = some (rtS rows n v none none none none none) := fun v => by rw [← hρ]; rfl
  have g2 : evE (.call "_law_rooms" 1 m__law_rooms (.cons (.var 1) .nil)) ρ = .ok (false, .lst true (rmsP rows n)) := call1 (b := true) (x := tabP rows) g1 (tTab _ _) (lrooms_eq q)
  rw [hρ]
  unfold rH
  refine parN_S (evs2_S (ife_S (eqd_S (b := false) (n := 2) g0 (by rw [e_int]; rfl) (by decide) (by decide) fun k => ⟨k, rfl, ?_⟩)))
  cases k with
  | true =>
    rw [if_pos rfl]
    refine .of gh ⟨_, rfl, .of g2 ⟨_, rfl, _, [tabO rows, .lst true (rmsP rows n)], _, rfl, rfl, by simp, hb _, h _ (.inr ?_)⟩⟩
    show PV.lst false (PV.fzs (rows.map rowO)) = _
    rw [fzs_rowO]
  | false =>
    rw [if_neg (by decide)]
    exact .of g1 ⟨_, rfl, .of g2 ⟨_, rfl, _, [tabP rows, .lst true (rmsP rows n)], _, rfl, rfl, by simp, hb _, h _ (.inl rfl)⟩⟩
theorem fa2_sub : ∀ {l : List Nat} {ys : List (Option PV)}, Fa2 (fun x y => y = none ∨ y = some x) (natsP l) ys → ∃ L : List Nat, L.Sublist l ∧ ys.filterMap id = natsP L
  | [], _, .nil => ⟨[], .slnil, rfl⟩
  | k :: l, _, .cons e t => by
    obtain ⟨L, h1, h2⟩ := fa2_sub (l := l) t
    rcases e with rfl | rfl
    · exact ⟨L, h1.cons k, by rw [List.filterMap_cons]; exact h2⟩
    · refine ⟨k :: L, h1.cons₂ k, ?_⟩
      rw [List.filterMap_cons]
      show PV.int (k : Nat) :: _ = _
      rw [h2]
      rfl
theorem lot_S (q : Sq rows n) {v : PV} {x3 x5 x6 : Option PV} {P : Out Rv → Prop} (h : ∀ L : List Nat, L.Sublist (List.range n) → P (.ok (false, .tup (natsP L)))) : Sy (evE lotE [some .pen, some (tabP rows), some v, x3, none, x5, x6, none, none, none, none, none]) P := by
  have h7 := q.few
  have hl : evE lenT [some .pen, some (tabP rows), some v, x3, none, x5, x6, none, none, none, none, none] = .ok (false, .int (n : Nat)) := e_len q rfl
  unfold lotE
  refine blt_S (comp_S (b := true) (xs := natsP (List.range n)) (R := fun x y => y = none ∨ y = some x) (i_range h7 ⟨false, hl⟩) (by rw [nats_len, List.length_range]; omega) (fun x hx => ?_) fun ys hy => ?_)
  · obtain ⟨k, _, rfl⟩ := List.mem_map.mp hx
    refine ⟨[some .pen, some (tabP rows), some v, x3, none, x5, x6, none, none, none, some (.int (k : Nat)), none], rfl, ?_⟩
    exact eqd_S (b := false) (n := 2) rfl (by rw [e_int]; rfl) (by decide) (by decide) fun c => ⟨c, rfl, fun _ => .inl rfl, fun _ => .of (a := (true, .int (k : Nat))) (by rw [e_var]; rfl) ⟨_, _, rfl, rfl, .inr rfl⟩⟩
  · obtain ⟨L, h1, h2⟩ := fa2_sub hy
    rw [h2]
    refine ⟨_, _, rfl, ?_, h L h1⟩
    simp only [bltS, shal_f, PV.fz, fzs_nats]
end
end K06

set_option Elab.async false
set_option linter.all false
set_option maxRecDepth 100000
set_option maxHeartbeats 4000000
namespace K06
open PySem PySem.Spec PyProof.Rows L2 FS
section
variable {rows : List (List Int)} {n : Nat} {ρ : FS.Loc}
theorem c1_eq (q : Sq rows n) {w : PV} (hw : TabV w rows) (h2 : ρ[2]? = some (some w)) (h3 : ρ[3]? = some (some (.lst true (rmsP rows n)))) : evT c1 ρ = .ok false := by
  have a : evE (.call "rooms" 1 m_rooms (.cons (.var 2) .nil)) ρ = .ok (false, .tup (rmsP rows n)) := call1 (b := true) (x := w) (by rw [e_var, h2]) (hw.take _) (rooms_eq hw q)
  have b : evE (.blt .tuple (.cons (.var 3) .nil)) ρ = .ok (false, .tup (rmsP rows n)) := by
    rw [e_blt, e_cons, e_nil, e_var, h3]
    show ofV (bltS .tuple [(true, .lst true (rmsP rows n))]) = _
    simp only [bltS, shal_o _ rmsP_st]
    rfl
  exact isC_eq a b (tT _ _) (tT _ _) (is_rms q)
theorem c2_eq (q : Sq rows n) {w : PV} (hw : TabV w rows) {x6 x7 x9 x11 : Option PV} : evT c2 (rtS rows n w (some (.lst true (prs rows n (hds (Ed rows) n).length))) x6 x7 x9 x11) = .ok false := by
  have ha := ant_eq q (x0 := some .pen) (x1 := some (tabP rows)) (x2 := some w) (x3 := some (.lst true (rmsP rows n))) (x4 := none) (x6 := x6) (x7 := x7) (x8 := none) (x9 := x9) (x10 := none) (x11 := x11)
  obtain ⟨ρ, hρ⟩ : ∃ ρ, rtS rows n w (some (.lst true (prs rows n (hds (Ed rows) n).length))) x6 x7 x9 x11 = ρ := ⟨_, rfl⟩
  have h2 : ρ[2]? = some (some w) := by rw [← hρ]; rfl
  have h5 : ρ[5]? = some (some (.lst true (prs rows n (hds (Ed rows) n).length))) := by rw [← hρ]; rfl
  have ha' : evE antE ρ = .ok (false, .lst true []) := by rw [← hρ]; exact ha
  rw [hρ]
  have a : evE (.call "room_ways" 1 m_room_ways (.cons (.var 2) .nil)) ρ = .ok (false, .tup (prs rows n (hds (Ed rows) n).length)) := call1 (b := true) (x := w) (by rw [e_var, h2]) (hw.take _) (ways_eq hw q)
  have b : evE (.blt .tuple (.cons (.var 5) .nil)) ρ = .ok (false, .tup (prs rows n (hds (Ed rows) n).length)) := by
    rw [e_blt, e_cons, e_nil, e_var, h5]
    show ofV (bltS .tuple [(true, .lst true (prs rows n (hds (Ed rows) n).length))]) = _
    simp only [bltS, shal_o _ (prs_st _)]
    rfl
  have c : evT c2a ρ = .ok false := isC_eq a b (tT _ _) (tT _ _) (is_prs q)
  unfold c2
  rw [t_orr, c, b_ok, if_neg (by decide), t_one, t_cmp, ha', b_ok, e_lst, e_nil]
  kernel_rfl
theorem c3_eq (q : Sq rows n) {w : PV} (hw : TabV w rows) {L : List Nat} (hL : L.Sublist (List.range n)) {x3 x5 x6 : Option PV} : evT c3 [some .pen, some (tabP rows), some w, x3, none, x5, x6, none, none, some (.tup (natsP L)), none, none] = .ok false := by
  have h7 := q.few
  have hlt : ∀ k ∈ L, k < n := fun k hk => List.mem_range.mp (hL.mem hk)
  have hpw : L.Pairwise (· < ·) := List.pairwise_lt_range.sublist hL
  have hlen : L.length ≤ n := by
    have := hL.length_le
    rwa [List.length_range] at this
  have hcut := cut_ev (na := "i") (nb := "k") (ρ := [some .pen, some (tabP rows), some w, x3, none, x5, x6, none, none, some (.tup (natsP L)), none, none]) (t := 1) (l := 9) (a := 6) (b := 7) q rfl rfl (LotV.sq (.inl rfl)) hlt (by omega) (by simp) (by simp) (by decide) (by decide) (by decide) (by decide) (by decide)
  obtain ⟨ρ, hρ⟩ : ∃ ρ, [some .pen, some (tabP rows), some w, x3, none, x5, x6, none, none, some (.tup (natsP L)), none, none] = ρ := ⟨_, rfl⟩
  have h2 : ρ[2]? = some (some w) := by rw [← hρ]; rfl
  have h9 : ρ[9]? = some (some (.tup (natsP L))) := by rw [← hρ]; rfl
  rw [hρ] at hcut ⊢
  have t1 : evT (.cmp .ne (.var 9) (.tup .nil)) ρ = .ok (!L.isEmpty) := by
    rw [t_cmp, e_var, h9, e_tup, e_nil]
    show Tr.ofO (cmpS .ne (.tup (natsP L)) (.tup [])) = _
    rw [c_net]
    rfl
  unfold c3
  rw [t_an, t1, b_ok]
  cases L with
  | nil => rfl
  | cons k L =>
    show evT (.one c3a) ρ = _
    rw [t_one]
    have a : evE (.call "cut_to" 2 m_cut_to (.cons (.var 2) (.cons (.blt .list (.cons (.var 9) .nil)) .nil))) ρ = .ok (false, tabP (cutR rows (k :: L))) := by
      have e1 : evE (.blt .list (.cons (.var 9) .nil)) ρ = .ok (false, .lst true (natsP (k :: L))) := by
        rw [e_blt, e_cons, e_nil, e_var, h9]
        rfl
      rw [e_call, evs_c (by rw [e_var, h2]) (evs_c e1 e_nil), b_ok]
      simp only [takes, hw.take, take_f, PV.fz, fzs_nats]
      rw [if_pos (show [w, PV.lst false (natsP (k :: L))].length = 2 from rfl), cut_eq hw (.inr rfl) q hlt (by simp) (by omega) hpw]
      rfl
    refine isC_eq a hcut (tTab _ _) (tTab _ _) (is_tab _ (by simp only [cutR, List.length_map]; omega) fun r hr => ?_)
    obtain ⟨i, _, rfl⟩ := List.mem_map.mp hr
    rw [List.length_map]
    omega
theorem c4_eq (q : Sq rows n) {p : Nat} (hp : p < n) (hh : Hd (Ed rows) p) (h1 : ρ[1]? = some (some (tabP rows))) (h11 : ρ[11]? = some (some (scP rows n p))) : evT c4 ρ = .ok false := by
  have h7 := q.few
  have hl := SC_len (rows := rows) (n := n) (p := p)
  have a : evE (.call "cut_to" 2 m_cut_to (.cons (.var 1) (.cons (.var 11) .nil))) ρ = .ok (false, tabP (cutR rows (SC (Ed rows) n p))) := call2 (b1 := true) (b2 := true) (x := tabP rows) (y := scP rows n p) (by rw [e_var, h1]) (by rw [e_var, h11]) (tTab _ _) (tT _ _) (cut_eq (.inl rfl) (.inl rfl) q (fun k hk => (mem_SC.mp hk).1) (List.length_pos_iff.mpr (SC_ne hp hh)) (by omega) (List.pairwise_lt_range.sublist List.filter_sublist))
  unfold c4
  rw [t_nt, t_tru, call1 a (tTab _ _) (one_room q hp hh)]
  rfl
theorem right_S {P : Out PV → Prop} (h : P (.ok (.bl true))) : Sy (m__law_right [.pen]) P := by
  refine run_S (ρ := [some .pen, none, none, none, none, none, none, none, none, none, none, none]) rfl ?_
  rw [ss_right]
  simp only [exB]
  refine sq_S (rT_S fun rows n d hn => ⟨_, rfl, ?_⟩)
  have q := d.sq hn
  refine sq_S (rH_S q fun v hv => ⟨_, rfl, ?_⟩)
  obtain ⟨w, hw⟩ : ∃ w, v.fz = w := ⟨_, rfl⟩
  rw [hw] at hv
  refine sq_S (.of (frz_eq rfl) ⟨rtS rows n w none none none none none, by rw [hw]; rfl, ?_⟩)
  refine sq_S (.of (ite_nx (c1_eq q hv rfl rfl)) ⟨_, rfl, ?_⟩)
  refine sq_S (.of (x_set (r := (false, .lst true [])) (y := .lst true []) (by rw [e_lst, e_nil]; rfl) (mov_f _)) ⟨rtS rows n w (some (.lst true [])) none none none none, rfl, ?_⟩)
  obtain ⟨x6, hp⟩ := pairs_eq q (v := w)
  refine sq_S (.of hp ⟨_, rfl, ?_⟩)
  refine sq_S (.of (frz_eq rfl) ⟨rtS rows n w (some (.lst true (prs rows n (hds (Ed rows) n).length))) x6 none none none, by rw [hv.fz]; rfl, ?_⟩)
  refine sq_S (.of (ite_nx (c2_eq q hv)) ⟨_, rfl, ?_⟩)
  refine sq_S (set_S (lot_S q fun L hL => ⟨_, _, rfl, mov_f _, rtS rows n w (some (.lst true (prs rows n (hds (Ed rows) n).length))) x6 none (some (.tup (natsP L))) none, rfl, ?_⟩))
  refine sq_S (.of (frz_eq rfl) ⟨rtS rows n w (some (.lst true (prs rows n (hds (Ed rows) n).length))) x6 none (some (.tup (natsP L))) none, by rw [hv.fz]; rfl, ?_⟩)
  refine sq_S (.of (ite_nx (c3_eq q hv hL)) ⟨_, rfl, ?_⟩)
  refine sq_S (.of (frz_eq rfl) ⟨[some .pen, some (tabP rows), some w, some (.lst false (rmsP rows n)), none, some (.lst true (prs rows n (hds (Ed rows) n).length)), x6, none, none, some (.tup (natsP L)), none, none], by simp only [PV.fz, rmsP_fz]; rfl, ?_⟩)
  have hr : evI (.seq (.var 3)) [some .pen, some (tabP rows), some w, some (.lst false (rmsP rows n)), none, some (.lst true (prs rows n (hds (Ed rows) n).length)), x6, none, none, some (.tup (natsP L)), none, none] = .ok (true, rmsP rows n) := by
    rw [i_seq, e_var]
    rfl
  refine sq_S (xfor_S (fun _ ρ => ∃ x11, ρ = [some .pen, some (tabP rows), some w, some (.lst false (rmsP rows n)), none, some (.lst true (prs rows n (hds (Ed rows) n).length)), x6, none, none, some (.tup (natsP L)), none, x11]) hr ⟨none, rfl⟩ (fun j x ρ hx hI => ?_) fun ρ hI => ⟨ρ, rfl, ?_⟩)
  · obtain ⟨x11, rfl⟩ := hI
    obtain ⟨p, hp, rfl⟩ := List.mem_map.mp (List.mem_of_getElem? hx)
    obtain ⟨hp1, hp2⟩ := mem_hds.mp hp
    refine ⟨[some .pen, some (tabP rows), some w, some (.lst false (rmsP rows n)), none, some (.lst true (prs rows n (hds (Ed rows) n).length)), x6, none, none, some (.tup (natsP L)), none, some (scP rows n p)], rfl, ?_⟩
    simp only [exB]
    refine sq_S (.of (frz_eq rfl) ⟨[some .pen, some (tabP rows), some w, some (.lst false (rmsP rows n)), none, some (.lst true (prs rows n (hds (Ed rows) n).length)), x6, none, none, some (.tup (natsP L)), none, some (scP rows n p)], rfl, ?_⟩)
    refine sq_S (.of (ite_nx (c4_eq q hp1 hp2 rfl rfl)) ⟨_, rfl, .of rfl ⟨_, rfl, _, rfl⟩⟩)
  · obtain ⟨x11, rfl⟩ := hI
    refine sq_S2 (ret_S (call_S (rs := [(true, .pen), (true, tabP rows)]) (xs := [.pen, tabP rows]) (evs_c (by rw [e_var]; rfl) (evs_c (by rw [e_var]; rfl) e_nil)) (by simp only [takes, takeI true _ stP fzP, tTab]) rfl (refused_S q ⟨_, rfl, _, rfl, _, rfl, _, rfl, h⟩)))
/-! ### the law -/
def endE : Ex := .an (.cmp .eq (.call "rooms" 1 m_rooms (.cons (.tup (.cons (.tup (.cons (.int 0) .nil)) .nil)) .nil)) (.tup .nil)) (.one (.cmp .eq (.call "rooms" 1 m_rooms (.cons (.tup (.cons (.tup (.cons (.int 3) .nil)) .nil)) .nil)) (.tup (.cons (.tup (.cons (.int 0) .nil)) .nil))))
theorem ss_lawE : ss_law = .cons (.fr (.v 2) (.rng (.int 3)) (.cons (.ite (.nt (.tru (.call "_law_right" 1 m__law_right (.cons (.var 1) .nil)))) rF .nil) .nil)) (.cons (.ret endE) .nil) := rfl
theorem endE_eq (x : Option PV) : evE endE [none, some .pen, x] = .ok (false, .bl true) := by kernel_rfl
theorem tru_S {e : Ex} {P : Out Bool → Prop} (h : Sy (evE e ρ) fun o => ∃ b k, o = .ok (b, .bl k) ∧ P (.ok (!k))) : Sy (evT (.nt (.tru e)) ρ) P := by
  rw [t_nt, t_tru]
  exact .bind (.bind (h.imp fun o ⟨b, k, e, p⟩ => ⟨_, e, .of (a := k) rfl ⟨_, rfl, ⟨p⟩⟩⟩))
theorem law_S : Sy (exB ss_law [none, some .pen, none]) isTrueEnd := by
  rw [ss_lawE]
  simp only [exB]
  have hr : evI (.rng (.int 3)) [none, some .pen, none] = .ok (true, natsP (List.range 3)) := i_range (by decide) ⟨false, by rw [e_int]; rfl⟩
  refine sq_S (xfor_S (fun _ ρ => ∃ x, ρ = [none, some .pen, x]) hr ⟨none, rfl⟩ (fun j x ρ hx hI => ?_) fun ρ hI => ⟨ρ, rfl, ?_⟩)
  · obtain ⟨y, rfl⟩ := hI
    refine ⟨[none, some .pen, some x], rfl, ?_⟩
    simp only [exB]
    refine sq_S ?_
    simp only [exS, FS.iteF]
    refine .bind (tru_S (call_S (rs := [(true, .pen)]) (xs := [.pen]) (evs_c (by rw [e_var]; rfl) e_nil) (by simp only [takes, takeI true _ stP fzP]) rfl (right_S ⟨_, rfl, _, _, rfl, _, rfl, ?_⟩)))
    exact .of rfl ⟨_, rfl, .of rfl ⟨_, rfl, _, rfl⟩⟩
  · obtain ⟨y, rfl⟩ := hI
    exact sq_S2 (ret_S (.of (endE_eq y) ⟨_, rfl, _, rfl, trivial⟩))
theorem law_W : (exB ss_law ((List.replicate N_law.length none).set 1 (some .pen))).W isTrueEnd := law_S.h
end
end K06

set_option Elab.async false
set_option linter.all false
set_option maxRecDepth 100000
set_option maxHeartbeats 8000000
namespace FS
open PySem PySem.Spec PyProof.Rows L2

/-! ### the hook of a law whose defs make lambdas -/
def cTs (K : PySem.W.Frag) (x : Str) : Addr × Addr := He.cT K (x, none)
def lamQ (x : Str) : Str := (x ++ ".<locals>.") ++ "<lambda>"
def tabK (K : PySem.W.Frag) (tf : List Str) : List (Addr × Str) := tf.map fun x => ((cTs K x).2, lamQ x)
def csK (K : PySem.W.Frag) (tf : List Str) : List (Addr × Addr) := tf.map (cTs K)
def disB (K : PySem.W.Frag) (tf : List Str) : Bool := tf.all fun x => tf.all fun y => !decide ((cTs K x).2 = (cTs K y).2) || decide (x = y)
structure SaysL (tf : List Str) (h : Heap) (K : PySem.W.Frag) : Prop where
  hd : ∀ x ∈ tf, PySem.W.codeHdIn K (cTs K x).1 (cTs K x).2 = true
  out : ∀ x ∈ tf, K.lookup (cTs K x).2 = none
  empty : ∀ x ∈ tf, h.get? (cTs K x).2 = some emptyO
  dis : disB K tf = true
structure LamOk (tf : List Str) (W : Wd) : Prop where
  T : W.T = tabK W.K tf
  tb : ∀ x ∈ tf, LamX.TabB W.base W.mg (cTs W.K x).1 (cTs W.K x).2
  dis : disB W.K tf = true
theorem lam_at {tf : List Str} {W : Wd} {x : Str} {params : Arguments} {body : List Stmt} {scope : Scope} {fd : FuncData} (L : LamOk tf W) (hx : x ∈ tf) (F : FunD W.K x x params body scope [] [] (He.fAd W.K (x, none)) fd) : LamAt W fd.code (x ++ ".<locals>.") := by
  obtain ⟨oc, od, dV, kV, doc, pm, an, cdv, ct, osl, rfl, lk, hcd, _, _⟩ := F.ex
  obtain ⟨c, rfl⟩ := He.codeIn_ref hcd
  have e : (cTs W.K x).1 = c := He.codeOf_eq lk rfl
  have tb := L.tb x hx
  rw [e] at tb
  refine ⟨c, (cTs W.K x).2, rfl, tb, ?_, fun p hp he => ?_⟩
  · rw [L.T]
    exact List.mem_map_of_mem (f := fun x => ((cTs W.K x).2, lamQ x)) hx
  · rw [L.T] at hp
    obtain ⟨y, hy, rfl⟩ := List.mem_map.mp hp
    have := List.all_eq_true.mp (List.all_eq_true.mp L.dis y hy) x hx
    have he' : (cTs W.K y).2 = (cTs W.K x).2 := he
    rw [decide_eq_true he'] at this
    have h2 : y = x := by simpa using this
    rw [h2]
    rfl
theorem LamOk.ne {tf : List Str} {W : Wd} (L : LamOk tf W) (h : tf ≠ []) : W.T ≠ [] := by
  rw [L.T]
  cases tf with
  | nil => exact absurd rfl h
  | cons x tf => simp [tabK]
def dfs (tf : List Str) : List He.Defn := tf.map fun x => (x, none)
def obsLK (fn : List He.DefD) (tf : List Str) (ex : PySem.W.Frag → Bool) (g : Addr → Option Obj) (K : PySem.W.Frag) : He.AlD := ((ex K && fn.all fun d => d.ok K) && (He.tabsB g (dfs tf) K && disB K tf), fn.map fun d => He.fnW K d.at_)
def obsL (n : Nat) (fn : List He.DefD) (tf : List Str) (ex : PySem.W.Frag → Bool) (g : Addr → Option Obj) : He.AlD := obsLK fn tf ex g (He.frT g (asF g n))
def hookL (n : Nat) (fn : List He.DefD) (tf : List Str) (ex : PySem.W.Frag → Bool) : PySem.W.Hook where
  α := He.AlD
  obs := fun s => obsL n fn tf ex s.heap.get?
  val := fun _ => He.valD fn
  says := fun _ h => ∃ K : PySem.W.Frag, K.In h ∧ SaysF fn ex K ∧ SaysL tf h K
  of := fun _ s e => ⟨_, He.frT_in, by
    have e1 := congrArg (fun z : He.AlD => z.1) e
    obtain ⟨e2, e3⟩ := bt (show (_ && _) = true from e1)
    obtain ⟨e4, e5⟩ := bt e2
    obtain ⟨e6, e7⟩ := bt e3
    have key : ∀ x ∈ tf, PySem.W.codeHdIn (He.frT s.heap.get? (asF s.heap.get? n)) (cTs (He.frT s.heap.get? (asF s.heap.get? n)) x).1 (cTs (He.frT s.heap.get? (asF s.heap.get? n)) x).2 = true ∧ ∃ o, s.heap.get? (cTs (He.frT s.heap.get? (asF s.heap.get? n)) x).2 = some o ∧ He.emptyTab o = true := fun x hx => by
      obtain ⟨h3, h4⟩ := bt (List.all_eq_true.mp e6 (x, none) (List.mem_map_of_mem (f := fun x => (x, none)) hx))
      refine ⟨h3, ?_⟩
      have h5 : (match s.heap.get? (cTs (He.frT s.heap.get? (asF s.heap.get? n)) x).2 with | some o => He.emptyTab o | none => false) = true := h4
      cases q : s.heap.get? (cTs (He.frT s.heap.get? (asF s.heap.get? n)) x).2 with
      | none =>
        rw [q] at h5
        cases h5
      | some o =>
        rw [q] at h5
        exact ⟨o, rfl, h5⟩
    refine ⟨⟨e4, e5, congrArg (fun z : He.AlD => z.2) e⟩, ⟨fun x hx => (key x hx).1, fun x hx => ?_, fun x hx => ?_, e7⟩⟩
    · obtain ⟨_, o, q, z⟩ := key x hx
      exact He.frT_none q z
    · obtain ⟨_, o, q, z⟩ := key x hx
      rw [q, He.emptyTab_eq z]⟩
  keeps := fun _ _ _ ⟨K, hK, c, l⟩ k => ⟨K, PySem.W.Frag.In.keeps hK k, c, ⟨l.hd, l.out, fun x hx => k _ _ (l.empty x hx), l.dis⟩⟩
theorem obsL_eq {n : Nat} {fn : List He.DefD} {tf : List Str} {ex : PySem.W.Frag → Bool} {g : Addr → Option Obj} {s : Shared} (h : ∀ a, g a = s.heap.get? a) : obsL n fn tf ex g = (hookL n fn tf ex).obs s := by
  have e : g = s.heap.get? := funext h
  rw [e] <;> rfl
theorem RsS.mono {W : Wd} {j k : Nat} {c : Str} {ns : List Str} (h : RsS W j c ns) (l : j ≤ k) : RsS W k c ns := by
  obtain ⟨C, fI, fd, ps, i, h1, h2, h3, h4, h5, h6, h7⟩ := h.ex
  exact ⟨⟨C, fI, fd, ps, i, h1, h2, h3, h4, h5, Nat.le_trans h6 l, h7⟩⟩
def intB (K : PySem.W.Frag) (xs : List (Str × Int)) : Bool := xs.all fun p => (He.Fa.int p.1 p.2).ok K
theorem intB_ok {K : PySem.W.Frag} {h : Heap} {mg : Str → Option Value} {xs : List (Str × Int)} (X : K.In h) (G : h.Ns mainGlobals mg) (b : intB K xs = true) {x : Str} {i : Int} (hx : (x, i) ∈ xs) : ∃ t, mg x = some (.int i t) := He.int_ok X G (List.all_eq_true.mp b (x, i) hx)
/-- the tables at the start -/
theorem tabs_start {K : PySem.W.Frag} {tf : List Str} {H : Hp} (h : ∀ p ∈ csK K tf, H p.2 = some (.tbl #[])) : LamX.Tabs (tabK K tf) H := fun p hp => by
  obtain ⟨x, hx, rfl⟩ := List.mem_map.mp hp
  refine ⟨#[], h _ (List.mem_map_of_mem (f := cTs K) hx), trivial, fun pos cv hc => ?_⟩
  simp [codeAmong] at hc
theorem tin_start {K : PySem.W.Frag} {tf : List Str} {H : Hp} (h : ∀ b qs, H b = some (.tbl qs) → b ∈ (csK K tf).map (·.2)) : ∀ a ps, H a = some (.tbl ps) → ∃ q, (a, q) ∈ tabK K tf := fun a ps e => by
  obtain ⟨p, hp, rfl⟩ := List.mem_map.mp (h a ps e)
  obtain ⟨x, hx, rfl⟩ := List.mem_map.mp hp
  exact ⟨lamQ x, List.mem_map_of_mem (f := fun x => ((cTs K x).2, lamQ x)) hx⟩
end FS

set_option Elab.async false
set_option linter.all false
set_option maxRecDepth 100000
set_option maxHeartbeats 8000000
namespace K06
open PySem PySem.Spec PyProof.Rows L2 FS
theorem sc__law_kinds : FnScope ["e", "found"] ["e"] (defScope (top 46)) := C8.fnScope_by (by decide +kernel)
theorem ck0__law_kinds : setB ["e", "found"] (defScope (top 46)) ((defBody (top 46)).getD 0 (.Pass ⟨0, 0, 0, 0⟩)) = true := by decide +kernel
theorem cki__law_kinds : kStsB ["e", "found"] (defScope (top 46)) kTblK (((defBody (top 46)).drop 1).take 7) = true := by decide +kernel
theorem ckr__law_kinds : retMB ["e", "found"] (defScope (top 46)) ((defBody (top 46)).getD 8 (.Pass ⟨0, 0, 0, 0⟩)) = true := by decide +kernel
theorem bd__law_kinds : defBody (top 46) = (defBody (top 46)).getD 0 (.Pass ⟨0, 0, 0, 0⟩) :: (((defBody (top 46)).drop 1).take 7 ++ [(defBody (top 46)).getD 8 (.Pass ⟨0, 0, 0, 0⟩)]) := by rfl
theorem sc__law_more_kinds : FnScope ["e", "found"] ["e"] (defScope (top 47)) := C8.fnScope_by (by decide +kernel)
theorem ck0__law_more_kinds : setB ["e", "found"] (defScope (top 47)) ((defBody (top 47)).getD 0 (.Pass ⟨0, 0, 0, 0⟩)) = true := by decide +kernel
theorem cki__law_more_kinds : kStsB ["e", "found"] (defScope (top 47)) kTblM (((defBody (top 47)).drop 1).take 9) = true := by decide +kernel
theorem ckr__law_more_kinds : retB ["e", "found"] (defScope (top 47)) ((defBody (top 47)).getD 10 (.Pass ⟨0, 0, 0, 0⟩)) = true := by decide +kernel
theorem bd__law_more_kinds : defBody (top 47) = (defBody (top 47)).getD 0 (.Pass ⟨0, 0, 0, 0⟩) :: (((defBody (top 47)).drop 1).take 9 ++ [(defBody (top 47)).getD 10 (.Pass ⟨0, 0, 0, 0⟩)]) := by rfl
def mkD (x : Str) (i : Nat) : He.DefD := ⟨(x, none), x, x, defArgs (top i), defBody (top i), defScope (top i), [], []⟩
def ini (i : Nat) : Stmt := (C8.clsBody (top i)).getD 0 (.Pass ⟨0, 0, 0, 0⟩)
def mkM (x qn : Str) (i : Nat) : He.DefD := ⟨(x, some "__init__"), "__init__", qn, defArgs (ini i), defBody (ini i), defScope (ini i), [], []⟩
def fn : List He.DefD := [mkD "_law_pen" 40, mkD "_law_draw" 41, mkD "_law_kinds" 46, mkD "_law_more_kinds" 47, mkD "_law_fault" 45, mkD "as_tuples" 21, mkD "is_list" 22, mkD "is_integer" 23, mkD "is_index" 24, mkD "is_between" 25, mkD "is_indexes" 26, mkD "is_lot" 27, mkD "is_row_of" 28, mkD "is_table" 29, mkD "need_table" 30, mkD "goals_of" 32, mkD "walks_from" 33, mkD "rooms_by" 34, mkD "rooms" 35, mkD "room_ways" 36, mkD "cut_by" 37, mkD "cut_to" 38, mkD "_law_pick" 42, mkD "_law_shuffled" 43, mkD "_law_is" 44, mkD "_law_table" 48, mkD "_law_one_table" 49, mkD "_law_bad_table" 50, mkD "_law_from" 51, mkD "_law_is_one" 52, mkD "_law_rooms" 53, mkD "_law_in_steps" 54, mkD "_law_one" 57, mkD "_law_two" 58, mkD "_law_refused" 56, mkD "_law_right" 55, mkD "law" 59, mkM "BadRow" "BadRow.__init__" 3, mkM "BadTable" "BadTable.__init__" 5]
def names : List Str := (["ShiftError", "BadNumber", "BadRow", "BadWord", "BadTable", "BadBook", "BadName", "BadText", "NoPlace", "NoName", "TakenName", "Unlike", "NotThere", "TooMany", "NotKept", "NothingToUndo", "NothingToRedo", "_law_pen", "_law_draw", "_law_kinds", "_law_more_kinds", "_law_fault", "as_tuples", "is_list", "is_integer", "is_index", "is_between", "is_indexes", "is_lot", "is_row_of"] : List Str) ++ (["is_table", "need_table", "goals_of", "walks_from", "rooms_by", "rooms", "room_ways", "cut_by", "cut_to", "_law_pick", "_law_shuffled", "_law_is", "_law_table", "_law_one_table", "_law_bad_table", "_law_from", "_law_is_one", "_law_rooms", "_law_in_steps", "_law_one", "_law_two", "_law_refused", "_law_right", "law"] : List Str)
def frees : List Str := ["len", "range", "int", "list", "tuple", "all", "max", "sorted", "enumerate", "repr", "isinstance", "ValueError", "bool", "str"]
def tf : List Str := ["_law_one", "_law_two"]
def mks : List (Str × List Str) := [("BadRow", ["what", "row"]), ("BadTable", ["what"])]
def intsL : List (Str × Int) := [("MOST_ENTRY", 1000000000000000000000000000000000000000000000000000000000000), ("MOST_PLACES", 12)]
def ex (K : PySem.W.Frag) : Bool := gloB K names && (freeB K frees && ((K.lookup sysModules).isSome && (kCls.all (clsB K "ShiftError" kTbl) && (mks.all (fun p => mkB K p.1 p.2) && intB K intsL))))
section
variable {W : Wd} {h : Heap} (X : W.K.In h) (G : h.Ns mainGlobals W.mg) (c : SaysF fn ex W.K) (L : LamOk tf W)
include X G c
theorem gl_ {x : Str} (hx : x ∈ names) : W.mg x = some (.ref (He.ga W.K x)) := gloB_ok X G (bt c.ex).1 hx
theorem fr_ {x : Str} (hx : x ∈ frees) : W.mg x = none := freeB_ok X G (bt (bt c.ex).2).1 hx
theorem sys_ : (W.K.lookup sysModules).isSome = true := (bt (bt (bt c.ex).2).2).1
theorem cls_ {x : Str} (hx : x ∈ kCls) (hn : x ∈ names) : ∀ C, W.mg x = some (.ref C) → ClsS W (He.ga W.K "ShiftError") kTbl x C := clsB_ok X G (sys_ X G c) (fr_ X G c (by decide +kernel)) (fr_ X G c (by decide +kernel)) (gl_ X G c hn) (List.all_eq_true.mp (bt (bt (bt (bt c.ex).2).2).2).1 x hx)
theorem mk_ {p : Str × List Str} (hp : p ∈ mks) : mkB W.K p.1 p.2 = true := List.all_eq_true.mp (bt (bt (bt (bt (bt c.ex).2).2).2).2).1 p hp
theorem gi_ {x : Str} {i : Int} (hx : (x, i) ∈ intsL) : ∃ t, W.mg x = some (.int i t) := intB_ok X G (bt (bt (bt (bt (bt c.ex).2).2).2).2).2 hx
theorem rs_BadRow : RsS W 2 "BadRow" ["row", "what"] := by
  obtain ⟨fd, F⟩ := c.def_ 37 (d := mkM "BadRow" "BadRow.__init__" 3) rfl
  exact rs_ok (f0 := "what") (fr := ["row"]) (N := ["self", "what", "row"]) (gl_ X G c (by decide +kernel)) (mk_ X G c (p := ("BadRow", ["what", "row"])) (by decide +kernel)) F (C8.fnScope_by (by decide +kernel)) rfl (by decide +kernel) (FunD.bindsN F fun _ _ _ _ _ _ us hl => match us, hl with | [_, _, _], _ => rfl) (by decide)
theorem rs_BadTable : RsS W 2 "BadTable" ["what"] := by
  obtain ⟨fd, F⟩ := c.def_ 38 (d := mkM "BadTable" "BadTable.__init__" 5) rfl
  exact rs_ok (f0 := "what") (fr := []) (N := ["self", "what"]) (gl_ X G c (by decide +kernel)) (mk_ X G c (p := ("BadTable", ["what"])) (by decide +kernel)) F (C8.fnScope_by (by decide +kernel)) rfl (by decide +kernel) (FunD.bindsN F fun _ _ _ _ _ _ us hl => match us, hl with | [_, _], _ => rfl) (by decide)
theorem fs__law_draw : FnS W 1 "_law_draw" 2 drawM := by
  obtain ⟨fd, F⟩ := c.def_ 1 (d := mkD "_law_draw" 41) rfl
  exact draw_fn F (C8.fnScope_by (by decide +kernel)) (by decide +kernel) (gl_ X G c (by decide +kernel)) (FunD.bindsN (ps := ["pen", "many"]) F fun _ _ _ _ _ _ us hl => match us, hl with | [_, _], _ => rfl) (fr_ X G c (by decide +kernel)) (fr_ X G c (by decide +kernel))
theorem fe_more : ∃ fd, FunD W.K "_law_more_kinds" "_law_more_kinds" (defArgs (top 47)) (defBody (top 47)) (defScope (top 47)) [] [] (He.ga W.K "_law_more_kinds") fd ∧ FnE W.P W.w W.K W.mg W.base 1 (He.ga W.K "_law_more_kinds") fd ["e"] (spK W kTblM fun c ns xs => kRun c ns xs kTblM []) := by
  obtain ⟨fd, F⟩ := c.def_ 3 (d := mkD "_law_more_kinds" 47) rfl
  refine ⟨fd, F, ?_⟩
  have F2 : FunD W.K "_law_more_kinds" "_law_more_kinds" (defArgs (top 47)) (defBody (top 47)) (defScope (top 47)) [] [] (He.ga W.K "_law_more_kinds") fd := F
  rw [bd__law_more_kinds] at F2
  exact more_ok F2 sc__law_more_kinds ck0__law_more_kinds cki__law_more_kinds ckr__law_more_kinds
theorem fe_kinds : ∃ fd, FunD W.K "_law_kinds" "_law_kinds" (defArgs (top 46)) (defBody (top 46)) (defScope (top 46)) [] [] (He.ga W.K "_law_kinds") fd ∧ FnE W.P W.w W.K W.mg W.base 2 (He.ga W.K "_law_kinds") fd ["e"] (spK W kTbl kRes) := by
  obtain ⟨fd, F⟩ := c.def_ 2 (d := mkD "_law_kinds" 46) rfl
  obtain ⟨fdM, FM, hM⟩ := fe_more X G c
  refine ⟨fd, F, ?_⟩
  have F2 : FunD W.K "_law_kinds" "_law_kinds" (defArgs (top 46)) (defBody (top 46)) (defScope (top 46)) [] [] (He.ga W.K "_law_kinds") fd := F
  rw [bd__law_kinds] at F2
  exact kinds_ok F2 sc__law_kinds ck0__law_kinds cki__law_kinds ckr__law_kinds hM (Nat.le_refl 1) (gl_ X G c (by decide +kernel)) FM.kp (FunD.bindsN FM fun _ _ _ _ _ _ us hl => match us, hl with | [_], _ => rfl) (by decide)
include L
theorem flt {k : Nat} {e : Ex} (hk : 1 ≤ k) (nd : AllN W k (ndE e)) : FltS W (k + 2) kF e := by
  obtain ⟨fd, F⟩ := c.def_ 4 (d := mkD "_law_fault" 45) rfl
  obtain ⟨fdK, FK, hK⟩ := fe_kinds X G c
  have hcls : ∀ x ∈ kCls, ∀ C, W.mg x = some (.ref C) → ClsS W (He.ga W.K "ShiftError") kTbl x C := fun x hx => cls_ X G c hx (by
    have e : ∀ y ∈ kCls, y ∈ names := by decide +kernel
    exact e x hx)
  exact flt_ok F (C8.fnScope_by (by decide +kernel)) (by decide +kernel) (gl_ X G c (by decide +kernel)) (FunD.bindsN (ps := ["call"]) F fun _ _ _ _ _ _ us hl => match us, hl with | [_], _ => rfl) (gl_ X G c (by decide +kernel)) (fr_ X G c (by decide +kernel)) (fr_ X G c (by decide +kernel)) hcls hK (by omega : 2 ≤ k + 1) (gl_ X G c (by decide +kernel)) FK.kp (FunD.bindsN FK fun _ _ _ _ _ _ us hl => match us, hl with | [_], _ => rfl) (L.ne (by decide)) nd
theorem fs_as_tuples : ∀ d : Nat, FnS W (d + 1) "as_tuples" 1 (m_as_tuples d)
  | 0 => by
    obtain ⟨fd, F⟩ := c.def_ 5 (d := mkD "as_tuples" 21) rfl
    exact FnS.nil F (gl_ X G c (by decide +kernel)) (FunD.bindsN (ps := ["value"]) F fun _ _ _ _ _ _ us hl => match us, hl with | [_], _ => rfl) rfl
  | d + 1 => by
    obtain ⟨fd, F⟩ := c.def_ 5 (d := mkD "as_tuples" 21) rfl
    have nd : AllN W (d + 1) (ndB (ss_as_tuples (m_as_tuples d))) := (by repeat (first | exact trivial | exact fs_as_tuples d | exact fr_ X G c (by decide +kernel) | exact gi_ X G c (by decide +kernel) | exact ⟨_, gl_ X G c (by decide +kernel)⟩ | exact repr_need (fr_ X G c (by decide +kernel)) (sys_ X G c) | exact sort_need (fr_ X G c (by decide +kernel)) | refine And.intro ?_ ?_))
    have rs : AllR W (d + 1) (rsB (ss_as_tuples (m_as_tuples d))) := trivial
    exact FnS.of F (gl_ X G c (by decide +kernel)) (FunD.bindsN (ps := ["value"]) F fun _ _ _ _ _ _ us hl => match us, hl with | [_], _ => rfl) sc_as_tuples rfl (ss_as_tuples (m_as_tuples d)) (ck_as_tuples _) nd rs
theorem fs_is_list : FnS W 2 "is_list" 1 m_is_list := by
  obtain ⟨fd, F⟩ := c.def_ 6 (d := mkD "is_list" 22) rfl
  have nd : AllN W 1 (ndB ss_is_list) := (by repeat (first | exact trivial | exact fr_ X G c (by decide +kernel) | exact gi_ X G c (by decide +kernel) | exact ⟨_, gl_ X G c (by decide +kernel)⟩ | exact repr_need (fr_ X G c (by decide +kernel)) (sys_ X G c) | exact sort_need (fr_ X G c (by decide +kernel)) | refine And.intro ?_ ?_))
  have rs : AllR W 1 (rsB ss_is_list) := (by repeat (first | exact trivial | refine And.intro ?_ ?_))
  exact FnS.of F (gl_ X G c (by decide +kernel)) (FunD.bindsN (ps := ["value"]) F fun _ _ _ _ _ _ us hl => match us, hl with | [_], _ => rfl) sc_is_list rfl ss_is_list ck_is_list nd rs
theorem fs_is_integer : FnS W 2 "is_integer" 1 m_is_integer := by
  obtain ⟨fd, F⟩ := c.def_ 7 (d := mkD "is_integer" 23) rfl
  have nd : AllN W 1 (ndB ss_is_integer) := (by repeat (first | exact trivial | exact fr_ X G c (by decide +kernel) | exact gi_ X G c (by decide +kernel) | exact ⟨_, gl_ X G c (by decide +kernel)⟩ | exact repr_need (fr_ X G c (by decide +kernel)) (sys_ X G c) | exact sort_need (fr_ X G c (by decide +kernel)) | refine And.intro ?_ ?_))
  have rs : AllR W 1 (rsB ss_is_integer) := (by repeat (first | exact trivial | refine And.intro ?_ ?_))
  exact FnS.of F (gl_ X G c (by decide +kernel)) (FunD.bindsN (ps := ["value"]) F fun _ _ _ _ _ _ us hl => match us, hl with | [_], _ => rfl) sc_is_integer rfl ss_is_integer ck_is_integer nd rs
theorem fs_is_index : FnS W 3 "is_index" 2 m_is_index := by
  obtain ⟨fd, F⟩ := c.def_ 8 (d := mkD "is_index" 24) rfl
  have nd : AllN W 2 (ndB ss_is_index) := (by repeat (first | exact trivial | exact (fs_is_integer X G c L).mono (by decide) | exact fr_ X G c (by decide +kernel) | exact gi_ X G c (by decide +kernel) | exact ⟨_, gl_ X G c (by decide +kernel)⟩ | exact repr_need (fr_ X G c (by decide +kernel)) (sys_ X G c) | exact sort_need (fr_ X G c (by decide +kernel)) | refine And.intro ?_ ?_))
  have rs : AllR W 2 (rsB ss_is_index) := (by repeat (first | exact trivial | refine And.intro ?_ ?_))
  exact FnS.of F (gl_ X G c (by decide +kernel)) (FunD.bindsN (ps := ["value", "many"]) F fun _ _ _ _ _ _ us hl => match us, hl with | [_, _], _ => rfl) sc_is_index rfl ss_is_index ck_is_index nd rs
theorem fs_is_between : FnS W 3 "is_between" 3 m_is_between := by
  obtain ⟨fd, F⟩ := c.def_ 9 (d := mkD "is_between" 25) rfl
  have nd : AllN W 2 (ndB ss_is_between) := (by repeat (first | exact trivial | exact (fs_is_integer X G c L).mono (by decide) | exact fr_ X G c (by decide +kernel) | exact gi_ X G c (by decide +kernel) | exact ⟨_, gl_ X G c (by decide +kernel)⟩ | exact repr_need (fr_ X G c (by decide +kernel)) (sys_ X G c) | exact sort_need (fr_ X G c (by decide +kernel)) | refine And.intro ?_ ?_))
  have rs : AllR W 2 (rsB ss_is_between) := (by repeat (first | exact trivial | refine And.intro ?_ ?_))
  exact FnS.of F (gl_ X G c (by decide +kernel)) (FunD.bindsN (ps := ["value", "low", "high"]) F fun _ _ _ _ _ _ us hl => match us, hl with | [_, _, _], _ => rfl) sc_is_between rfl ss_is_between ck_is_between nd rs
theorem fs_is_indexes : FnS W 4 "is_indexes" 2 m_is_indexes := by
  obtain ⟨fd, F⟩ := c.def_ 10 (d := mkD "is_indexes" 26) rfl
  have nd : AllN W 3 (ndB ss_is_indexes) := (by repeat (first | exact trivial | exact (fs_is_list X G c L).mono (by decide) | exact (fs_is_index X G c L).mono (by decide) | exact fr_ X G c (by decide +kernel) | exact gi_ X G c (by decide +kernel) | exact ⟨_, gl_ X G c (by decide +kernel)⟩ | exact repr_need (fr_ X G c (by decide +kernel)) (sys_ X G c) | exact sort_need (fr_ X G c (by decide +kernel)) | refine And.intro ?_ ?_))
  have rs : AllR W 3 (rsB ss_is_indexes) := (by repeat (first | exact trivial | refine And.intro ?_ ?_))
  exact FnS.of F (gl_ X G c (by decide +kernel)) (FunD.bindsN (ps := ["value", "many"]) F fun _ _ _ _ _ _ us hl => match us, hl with | [_, _], _ => rfl) sc_is_indexes rfl ss_is_indexes ck_is_indexes nd rs
theorem fs_is_lot : FnS W 5 "is_lot" 2 m_is_lot := by
  obtain ⟨fd, F⟩ := c.def_ 11 (d := mkD "is_lot" 27) rfl
  have nd : AllN W 4 (ndB ss_is_lot) := (by repeat (first | exact trivial | exact (fs_is_indexes X G c L).mono (by decide) | exact fr_ X G c (by decide +kernel) | exact gi_ X G c (by decide +kernel) | exact ⟨_, gl_ X G c (by decide +kernel)⟩ | exact repr_need (fr_ X G c (by decide +kernel)) (sys_ X G c) | exact sort_need (fr_ X G c (by decide +kernel)) | refine And.intro ?_ ?_))
  have rs : AllR W 4 (rsB ss_is_lot) := (by repeat (first | exact trivial | refine And.intro ?_ ?_))
  exact FnS.of F (gl_ X G c (by decide +kernel)) (FunD.bindsN (ps := ["value", "many"]) F fun _ _ _ _ _ _ us hl => match us, hl with | [_, _], _ => rfl) sc_is_lot rfl ss_is_lot ck_is_lot nd rs
theorem fs_is_row_of : FnS W 4 "is_row_of" 2 m_is_row_of := by
  obtain ⟨fd, F⟩ := c.def_ 12 (d := mkD "is_row_of" 28) rfl
  have nd : AllN W 3 (ndB ss_is_row_of) := (by repeat (first | exact trivial | exact (fs_is_list X G c L).mono (by decide) | exact (fs_is_between X G c L).mono (by decide) | exact fr_ X G c (by decide +kernel) | exact gi_ X G c (by decide +kernel) | exact ⟨_, gl_ X G c (by decide +kernel)⟩ | exact repr_need (fr_ X G c (by decide +kernel)) (sys_ X G c) | exact sort_need (fr_ X G c (by decide +kernel)) | refine And.intro ?_ ?_))
  have rs : AllR W 3 (rsB ss_is_row_of) := (by repeat (first | exact trivial | refine And.intro ?_ ?_))
  exact FnS.of F (gl_ X G c (by decide +kernel)) (FunD.bindsN (ps := ["value", "many"]) F fun _ _ _ _ _ _ us hl => match us, hl with | [_, _], _ => rfl) sc_is_row_of rfl ss_is_row_of ck_is_row_of nd rs
theorem fs_is_table : FnS W 5 "is_table" 1 m_is_table := by
  obtain ⟨fd, F⟩ := c.def_ 13 (d := mkD "is_table" 29) rfl
  have nd : AllN W 4 (ndB ss_is_table) := (by repeat (first | exact trivial | exact (fs_is_list X G c L).mono (by decide) | exact (fs_is_row_of X G c L).mono (by decide) | exact fr_ X G c (by decide +kernel) | exact gi_ X G c (by decide +kernel) | exact ⟨_, gl_ X G c (by decide +kernel)⟩ | exact repr_need (fr_ X G c (by decide +kernel)) (sys_ X G c) | exact sort_need (fr_ X G c (by decide +kernel)) | refine And.intro ?_ ?_))
  have rs : AllR W 4 (rsB ss_is_table) := (by repeat (first | exact trivial | refine And.intro ?_ ?_))
  exact FnS.of F (gl_ X G c (by decide +kernel)) (FunD.bindsN (ps := ["value"]) F fun _ _ _ _ _ _ us hl => match us, hl with | [_], _ => rfl) sc_is_table rfl ss_is_table ck_is_table nd rs
theorem fs_need_table : FnS W 6 "need_table" 2 m_need_table := by
  obtain ⟨fd, F⟩ := c.def_ 14 (d := mkD "need_table" 30) rfl
  have nd : AllN W 5 (ndB ss_need_table) := (by repeat (first | exact trivial | exact (fs_as_tuples X G c L 4).mono (by decide) | exact (fs_is_table X G c L).mono (by decide) | exact fr_ X G c (by decide +kernel) | exact gi_ X G c (by decide +kernel) | exact ⟨_, gl_ X G c (by decide +kernel)⟩ | exact repr_need (fr_ X G c (by decide +kernel)) (sys_ X G c) | exact sort_need (fr_ X G c (by decide +kernel)) | refine And.intro ?_ ?_))
  have rs : AllR W 5 (rsB ss_need_table) := (by repeat (first | exact trivial | exact (rs_BadTable X G c).mono (by decide) | refine And.intro ?_ ?_))
  exact FnS.of F (gl_ X G c (by decide +kernel)) (FunD.bindsN (ps := ["table", "what"]) F fun _ _ _ _ _ _ us hl => match us, hl with | [_, _], _ => rfl) sc_need_table rfl ss_need_table ck_need_table nd rs
theorem fs_goals_of : FnS W 2 "goals_of" 2 m_goals_of := by
  obtain ⟨fd, F⟩ := c.def_ 15 (d := mkD "goals_of" 32) rfl
  have nd : AllN W 1 (ndB ss_goals_of) := (by repeat (first | exact trivial | exact fr_ X G c (by decide +kernel) | exact gi_ X G c (by decide +kernel) | exact ⟨_, gl_ X G c (by decide +kernel)⟩ | exact repr_need (fr_ X G c (by decide +kernel)) (sys_ X G c) | exact sort_need (fr_ X G c (by decide +kernel)) | refine And.intro ?_ ?_))
  have rs : AllR W 1 (rsB ss_goals_of) := (by repeat (first | exact trivial | refine And.intro ?_ ?_))
  exact FnS.of F (gl_ X G c (by decide +kernel)) (FunD.bindsN (ps := ["table", "place"]) F fun _ _ _ _ _ _ us hl => match us, hl with | [_, _], _ => rfl) sc_goals_of rfl ss_goals_of ck_goals_of nd rs
theorem fs_walks_from : FnS W 3 "walks_from" 2 m_walks_from := by
  obtain ⟨fd, F⟩ := c.def_ 16 (d := mkD "walks_from" 33) rfl
  have nd : AllN W 2 (ndB ss_walks_from) := (by repeat (first | exact trivial | exact (fs_goals_of X G c L).mono (by decide) | exact fr_ X G c (by decide +kernel) | exact gi_ X G c (by decide +kernel) | exact ⟨_, gl_ X G c (by decide +kernel)⟩ | exact repr_need (fr_ X G c (by decide +kernel)) (sys_ X G c) | exact sort_need (fr_ X G c (by decide +kernel)) | refine And.intro ?_ ?_))
  have rs : AllR W 2 (rsB ss_walks_from) := (by repeat (first | exact trivial | refine And.intro ?_ ?_))
  exact FnS.of F (gl_ X G c (by decide +kernel)) (FunD.bindsN (ps := ["table", "start"]) F fun _ _ _ _ _ _ us hl => match us, hl with | [_, _], _ => rfl) sc_walks_from rfl ss_walks_from ck_walks_from nd rs
theorem fs_rooms_by : FnS W 4 "rooms_by" 1 m_rooms_by := by
  obtain ⟨fd, F⟩ := c.def_ 17 (d := mkD "rooms_by" 34) rfl
  have nd : AllN W 3 (ndB ss_rooms_by) := (by repeat (first | exact trivial | exact (fs_walks_from X G c L).mono (by decide) | exact fr_ X G c (by decide +kernel) | exact gi_ X G c (by decide +kernel) | exact ⟨_, gl_ X G c (by decide +kernel)⟩ | exact repr_need (fr_ X G c (by decide +kernel)) (sys_ X G c) | exact sort_need (fr_ X G c (by decide +kernel)) | refine And.intro ?_ ?_))
  have rs : AllR W 3 (rsB ss_rooms_by) := (by repeat (first | exact trivial | refine And.intro ?_ ?_))
  exact FnS.of F (gl_ X G c (by decide +kernel)) (FunD.bindsN (ps := ["table"]) F fun _ _ _ _ _ _ us hl => match us, hl with | [_], _ => rfl) sc_rooms_by rfl ss_rooms_by ck_rooms_by nd rs
theorem fs_rooms : FnS W 7 "rooms" 1 m_rooms := by
  obtain ⟨fd, F⟩ := c.def_ 18 (d := mkD "rooms" 35) rfl
  have nd : AllN W 6 (ndB ss_rooms) := (by repeat (first | exact trivial | exact (fs_rooms_by X G c L).mono (by decide) | exact (fs_need_table X G c L).mono (by decide) | exact fr_ X G c (by decide +kernel) | exact gi_ X G c (by decide +kernel) | exact ⟨_, gl_ X G c (by decide +kernel)⟩ | exact repr_need (fr_ X G c (by decide +kernel)) (sys_ X G c) | exact sort_need (fr_ X G c (by decide +kernel)) | refine And.intro ?_ ?_))
  have rs : AllR W 6 (rsB ss_rooms) := (by repeat (first | exact trivial | refine And.intro ?_ ?_))
  exact FnS.of F (gl_ X G c (by decide +kernel)) (FunD.bindsN (ps := ["table"]) F fun _ _ _ _ _ _ us hl => match us, hl with | [_], _ => rfl) sc_rooms rfl ss_rooms ck_rooms nd rs
theorem fs_room_ways : FnS W 7 "room_ways" 1 m_room_ways := by
  obtain ⟨fd, F⟩ := c.def_ 19 (d := mkD "room_ways" 36) rfl
  have nd : AllN W 6 (ndB ss_room_ways) := (by repeat (first | exact trivial | exact (fs_need_table X G c L).mono (by decide) | exact (fs_rooms_by X G c L).mono (by decide) | exact (fs_walks_from X G c L).mono (by decide) | exact fr_ X G c (by decide +kernel) | exact gi_ X G c (by decide +kernel) | exact ⟨_, gl_ X G c (by decide +kernel)⟩ | exact repr_need (fr_ X G c (by decide +kernel)) (sys_ X G c) | exact sort_need (fr_ X G c (by decide +kernel)) | refine And.intro ?_ ?_))
  have rs : AllR W 6 (rsB ss_room_ways) := (by repeat (first | exact trivial | refine And.intro ?_ ?_))
  exact FnS.of F (gl_ X G c (by decide +kernel)) (FunD.bindsN (ps := ["table"]) F fun _ _ _ _ _ _ us hl => match us, hl with | [_], _ => rfl) sc_room_ways rfl ss_room_ways ck_room_ways nd rs
theorem fs_cut_by : FnS W 2 "cut_by" 2 m_cut_by := by
  obtain ⟨fd, F⟩ := c.def_ 20 (d := mkD "cut_by" 37) rfl
  have nd : AllN W 1 (ndB ss_cut_by) := (by repeat (first | exact trivial | exact fr_ X G c (by decide +kernel) | exact gi_ X G c (by decide +kernel) | exact ⟨_, gl_ X G c (by decide +kernel)⟩ | exact repr_need (fr_ X G c (by decide +kernel)) (sys_ X G c) | exact sort_need (fr_ X G c (by decide +kernel)) | refine And.intro ?_ ?_))
  have rs : AllR W 1 (rsB ss_cut_by) := (by repeat (first | exact trivial | refine And.intro ?_ ?_))
  exact FnS.of F (gl_ X G c (by decide +kernel)) (FunD.bindsN (ps := ["table", "lot"]) F fun _ _ _ _ _ _ us hl => match us, hl with | [_, _], _ => rfl) sc_cut_by rfl ss_cut_by ck_cut_by nd rs
theorem fs_cut_to : FnS W 7 "cut_to" 2 m_cut_to := by
  obtain ⟨fd, F⟩ := c.def_ 21 (d := mkD "cut_to" 38) rfl
  have nd : AllN W 6 (ndB ss_cut_to) := (by repeat (first | exact trivial | exact (fs_need_table X G c L).mono (by decide) | exact (fs_cut_by X G c L).mono (by decide) | exact (fs_is_lot X G c L).mono (by decide) | exact fr_ X G c (by decide +kernel) | exact gi_ X G c (by decide +kernel) | exact ⟨_, gl_ X G c (by decide +kernel)⟩ | exact repr_need (fr_ X G c (by decide +kernel)) (sys_ X G c) | exact sort_need (fr_ X G c (by decide +kernel)) | refine And.intro ?_ ?_))
  have rs : AllR W 6 (rsB ss_cut_to) := (by repeat (first | exact trivial | exact (rs_BadRow X G c).mono (by decide) | refine And.intro ?_ ?_))
  exact FnS.of F (gl_ X G c (by decide +kernel)) (FunD.bindsN (ps := ["table", "lot"]) F fun _ _ _ _ _ _ us hl => match us, hl with | [_, _], _ => rfl) sc_cut_to rfl ss_cut_to ck_cut_to nd rs
theorem fs__law_pick : FnS W 2 "_law_pick" 2 m__law_pick := by
  obtain ⟨fd, F⟩ := c.def_ 22 (d := mkD "_law_pick" 42) rfl
  have nd : AllN W 1 (ndB ss__law_pick) := (by repeat (first | exact trivial | exact (fs__law_draw X G c).mono (by decide) | exact fr_ X G c (by decide +kernel) | exact gi_ X G c (by decide +kernel) | exact ⟨_, gl_ X G c (by decide +kernel)⟩ | exact repr_need (fr_ X G c (by decide +kernel)) (sys_ X G c) | exact sort_need (fr_ X G c (by decide +kernel)) | refine And.intro ?_ ?_))
  have rs : AllR W 1 (rsB ss__law_pick) := (by repeat (first | exact trivial | refine And.intro ?_ ?_))
  exact FnS.of F (gl_ X G c (by decide +kernel)) (FunD.bindsN (ps := ["pen", "some"]) F fun _ _ _ _ _ _ us hl => match us, hl with | [_, _], _ => rfl) sc__law_pick rfl ss__law_pick ck__law_pick nd rs
theorem fs__law_shuffled : FnS W 2 "_law_shuffled" 2 m__law_shuffled := by
  obtain ⟨fd, F⟩ := c.def_ 23 (d := mkD "_law_shuffled" 43) rfl
  have nd : AllN W 1 (ndB ss__law_shuffled) := (by repeat (first | exact trivial | exact (fs__law_draw X G c).mono (by decide) | exact fr_ X G c (by decide +kernel) | exact gi_ X G c (by decide +kernel) | exact ⟨_, gl_ X G c (by decide +kernel)⟩ | exact repr_need (fr_ X G c (by decide +kernel)) (sys_ X G c) | exact sort_need (fr_ X G c (by decide +kernel)) | refine And.intro ?_ ?_))
  have rs : AllR W 1 (rsB ss__law_shuffled) := (by repeat (first | exact trivial | refine And.intro ?_ ?_))
  exact FnS.of F (gl_ X G c (by decide +kernel)) (FunD.bindsN (ps := ["pen", "some"]) F fun _ _ _ _ _ _ us hl => match us, hl with | [_, _], _ => rfl) sc__law_shuffled rfl ss__law_shuffled ck__law_shuffled nd rs
theorem fs__law_is : ∀ d : Nat, FnS W (d + 1) "_law_is" 2 (m__law_is d)
  | 0 => by
    obtain ⟨fd, F⟩ := c.def_ 24 (d := mkD "_law_is" 44) rfl
    exact FnS.nil F (gl_ X G c (by decide +kernel)) (FunD.bindsN (ps := ["told", "due"]) F fun _ _ _ _ _ _ us hl => match us, hl with | [_, _], _ => rfl) rfl
  | d + 1 => by
    obtain ⟨fd, F⟩ := c.def_ 24 (d := mkD "_law_is" 44) rfl
    have nd : AllN W (d + 1) (ndB (ss__law_is (m__law_is d))) := (by repeat (first | exact trivial | exact fs__law_is d | exact fr_ X G c (by decide +kernel) | exact gi_ X G c (by decide +kernel) | exact ⟨_, gl_ X G c (by decide +kernel)⟩ | exact repr_need (fr_ X G c (by decide +kernel)) (sys_ X G c) | exact sort_need (fr_ X G c (by decide +kernel)) | refine And.intro ?_ ?_))
    have rs : AllR W (d + 1) (rsB (ss__law_is (m__law_is d))) := trivial
    exact FnS.of F (gl_ X G c (by decide +kernel)) (FunD.bindsN (ps := ["told", "due"]) F fun _ _ _ _ _ _ us hl => match us, hl with | [_, _], _ => rfl) sc__law_is rfl (ss__law_is (m__law_is d)) (ck__law_is _) nd rs
theorem fs__law_table : FnS W 2 "_law_table" 3 m__law_table := by
  obtain ⟨fd, F⟩ := c.def_ 25 (d := mkD "_law_table" 48) rfl
  have nd : AllN W 1 (ndB ss__law_table) := (by repeat (first | exact trivial | exact (fs__law_draw X G c).mono (by decide) | exact fr_ X G c (by decide +kernel) | exact gi_ X G c (by decide +kernel) | exact ⟨_, gl_ X G c (by decide +kernel)⟩ | exact repr_need (fr_ X G c (by decide +kernel)) (sys_ X G c) | exact sort_need (fr_ X G c (by decide +kernel)) | refine And.intro ?_ ?_))
  have rs : AllR W 1 (rsB ss__law_table) := (by repeat (first | exact trivial | refine And.intro ?_ ?_))
  exact FnS.of F (gl_ X G c (by decide +kernel)) (FunD.bindsN (ps := ["pen", "most", "entry"]) F fun _ _ _ _ _ _ us hl => match us, hl with | [_, _, _], _ => rfl) sc__law_table rfl ss__law_table ck__law_table nd rs
theorem fs__law_one_table : FnS W 3 "_law_one_table" 3 m__law_one_table := by
  obtain ⟨fd, F⟩ := c.def_ 26 (d := mkD "_law_one_table" 49) rfl
  have nd : AllN W 2 (ndB ss__law_one_table) := (by repeat (first | exact trivial | exact (fs__law_shuffled X G c L).mono (by decide) | exact (fs__law_draw X G c).mono (by decide) | exact fr_ X G c (by decide +kernel) | exact gi_ X G c (by decide +kernel) | exact ⟨_, gl_ X G c (by decide +kernel)⟩ | exact repr_need (fr_ X G c (by decide +kernel)) (sys_ X G c) | exact sort_need (fr_ X G c (by decide +kernel)) | refine And.intro ?_ ?_))
  have rs : AllR W 2 (rsB ss__law_one_table) := (by repeat (first | exact trivial | refine And.intro ?_ ?_))
  exact FnS.of F (gl_ X G c (by decide +kernel)) (FunD.bindsN (ps := ["pen", "most", "entry"]) F fun _ _ _ _ _ _ us hl => match us, hl with | [_, _, _], _ => rfl) sc__law_one_table rfl ss__law_one_table ck__law_one_table nd rs
theorem fs__law_bad_table : FnS W 3 "_law_bad_table" 1 m__law_bad_table := by
  obtain ⟨fd, F⟩ := c.def_ 27 (d := mkD "_law_bad_table" 50) rfl
  have nd : AllN W 2 (ndB ss__law_bad_table) := (by repeat (first | exact trivial | exact (fs__law_pick X G c L).mono (by decide) | exact fr_ X G c (by decide +kernel) | exact gi_ X G c (by decide +kernel) | exact ⟨_, gl_ X G c (by decide +kernel)⟩ | exact repr_need (fr_ X G c (by decide +kernel)) (sys_ X G c) | exact sort_need (fr_ X G c (by decide +kernel)) | refine And.intro ?_ ?_))
  have rs : AllR W 2 (rsB ss__law_bad_table) := (by repeat (first | exact trivial | refine And.intro ?_ ?_))
  exact FnS.of F (gl_ X G c (by decide +kernel)) (FunD.bindsN (ps := ["pen"]) F fun _ _ _ _ _ _ us hl => match us, hl with | [_], _ => rfl) sc__law_bad_table rfl ss__law_bad_table ck__law_bad_table nd rs
theorem fs__law_from : FnS W 2 "_law_from" 2 m__law_from := by
  obtain ⟨fd, F⟩ := c.def_ 28 (d := mkD "_law_from" 51) rfl
  have nd : AllN W 1 (ndB ss__law_from) := (by repeat (first | exact trivial | exact fr_ X G c (by decide +kernel) | exact gi_ X G c (by decide +kernel) | exact ⟨_, gl_ X G c (by decide +kernel)⟩ | exact repr_need (fr_ X G c (by decide +kernel)) (sys_ X G c) | exact sort_need (fr_ X G c (by decide +kernel)) | refine And.intro ?_ ?_))
  have rs : AllR W 1 (rsB ss__law_from) := (by repeat (first | exact trivial | refine And.intro ?_ ?_))
  exact FnS.of F (gl_ X G c (by decide +kernel)) (FunD.bindsN (ps := ["table", "place"]) F fun _ _ _ _ _ _ us hl => match us, hl with | [_, _], _ => rfl) sc__law_from rfl ss__law_from ck__law_from nd rs
theorem fs__law_is_one : FnS W 3 "_law_is_one" 1 m__law_is_one := by
  obtain ⟨fd, F⟩ := c.def_ 29 (d := mkD "_law_is_one" 52) rfl
  have nd : AllN W 2 (ndB ss__law_is_one) := (by repeat (first | exact trivial | exact (fs__law_from X G c L).mono (by decide) | exact fr_ X G c (by decide +kernel) | exact gi_ X G c (by decide +kernel) | exact ⟨_, gl_ X G c (by decide +kernel)⟩ | exact repr_need (fr_ X G c (by decide +kernel)) (sys_ X G c) | exact sort_need (fr_ X G c (by decide +kernel)) | refine And.intro ?_ ?_))
  have rs : AllR W 2 (rsB ss__law_is_one) := (by repeat (first | exact trivial | refine And.intro ?_ ?_))
  exact FnS.of F (gl_ X G c (by decide +kernel)) (FunD.bindsN (ps := ["table"]) F fun _ _ _ _ _ _ us hl => match us, hl with | [_], _ => rfl) sc__law_is_one rfl ss__law_is_one ck__law_is_one nd rs
theorem fs__law_rooms : FnS W 3 "_law_rooms" 1 m__law_rooms := by
  obtain ⟨fd, F⟩ := c.def_ 30 (d := mkD "_law_rooms" 53) rfl
  have nd : AllN W 2 (ndB ss__law_rooms) := (by repeat (first | exact trivial | exact (fs__law_from X G c L).mono (by decide) | exact fr_ X G c (by decide +kernel) | exact gi_ X G c (by decide +kernel) | exact ⟨_, gl_ X G c (by decide +kernel)⟩ | exact repr_need (fr_ X G c (by decide +kernel)) (sys_ X G c) | exact sort_need (fr_ X G c (by decide +kernel)) | refine And.intro ?_ ?_))
  have rs : AllR W 2 (rsB ss__law_rooms) := (by repeat (first | exact trivial | refine And.intro ?_ ?_))
  exact FnS.of F (gl_ X G c (by decide +kernel)) (FunD.bindsN (ps := ["table"]) F fun _ _ _ _ _ _ us hl => match us, hl with | [_], _ => rfl) sc__law_rooms rfl ss__law_rooms ck__law_rooms nd rs
theorem fs__law_in_steps : FnS W 4 "_law_in_steps" 1 m__law_in_steps := by
  obtain ⟨fd, F⟩ := c.def_ 31 (d := mkD "_law_in_steps" 54) rfl
  have nd : AllN W 3 (ndB ss__law_in_steps) := (by repeat (first | exact trivial | exact (fs__law_one_table X G c L).mono (by decide) | exact (fs__law_shuffled X G c L).mono (by decide) | exact (fs__law_draw X G c).mono (by decide) | exact fr_ X G c (by decide +kernel) | exact gi_ X G c (by decide +kernel) | exact ⟨_, gl_ X G c (by decide +kernel)⟩ | exact repr_need (fr_ X G c (by decide +kernel)) (sys_ X G c) | exact sort_need (fr_ X G c (by decide +kernel)) | refine And.intro ?_ ?_))
  have rs : AllR W 3 (rsB ss__law_in_steps) := (by repeat (first | exact trivial | refine And.intro ?_ ?_))
  exact FnS.of F (gl_ X G c (by decide +kernel)) (FunD.bindsN (ps := ["pen"]) F fun _ _ _ _ _ _ us hl => match us, hl with | [_], _ => rfl) sc__law_in_steps rfl ss__law_in_steps ck__law_in_steps nd rs
theorem fs__law_one : FnS W 10 "_law_one" 2 m__law_one := by
  obtain ⟨fd, F⟩ := c.def_ 32 (d := mkD "_law_one" 57) rfl
  have nd : AllN W 9 (ndB ss__law_one) := trivial
  have rs : AllR W 9 (rsB ss__law_one) := ⟨flt X G c L (k := 7) (by decide) (by repeat (first | exact trivial | exact (fs_rooms X G c L).mono (by decide) | exact (fs_room_ways X G c L).mono (by decide) | exact call_need (fun q hq => by simp only [cvT, List.mem_cons, List.not_mem_nil, or_false] at hq; rcases hq with rfl | rfl <;> first | exact (fs_rooms X G c L).mono (by decide) | exact (fs_room_ways X G c L).mono (by decide)) | exact fr_ X G c (by decide +kernel) | exact gi_ X G c (by decide +kernel) | exact ⟨_, gl_ X G c (by decide +kernel)⟩ | exact repr_need (fr_ X G c (by decide +kernel)) (sys_ X G c) | exact sort_need (fr_ X G c (by decide +kernel)) | refine And.intro ?_ ?_)), trivial⟩
  exact FnS.of F (gl_ X G c (by decide +kernel)) (FunD.bindsN (ps := ["call", "one"]) F fun _ _ _ _ _ _ us hl => match us, hl with | [_, _], _ => rfl) sc__law_one rfl ss__law_one ck__law_one nd rs fun _ _ => lam_at L (by decide +kernel) F
theorem fs__law_two : FnS W 10 "_law_two" 2 m__law_two := by
  obtain ⟨fd, F⟩ := c.def_ 33 (d := mkD "_law_two" 58) rfl
  have nd : AllN W 9 (ndB ss__law_two) := trivial
  have rs : AllR W 9 (rsB ss__law_two) := ⟨flt X G c L (k := 7) (by decide) (by repeat (first | exact trivial | exact (fs_cut_to X G c L).mono (by decide) | exact call_need (fun q hq => by simp only [cvT, List.mem_cons, List.not_mem_nil, or_false] at hq; rcases hq with rfl <;> first | exact (fs_cut_to X G c L).mono (by decide)) | exact fr_ X G c (by decide +kernel) | exact gi_ X G c (by decide +kernel) | exact ⟨_, gl_ X G c (by decide +kernel)⟩ | exact repr_need (fr_ X G c (by decide +kernel)) (sys_ X G c) | exact sort_need (fr_ X G c (by decide +kernel)) | refine And.intro ?_ ?_)), trivial⟩
  exact FnS.of F (gl_ X G c (by decide +kernel)) (FunD.bindsN (ps := ["one", "lot"]) F fun _ _ _ _ _ _ us hl => match us, hl with | [_, _], _ => rfl) sc__law_two rfl ss__law_two ck__law_two nd rs fun _ _ => lam_at L (by decide +kernel) F
theorem fs__law_refused : FnS W 11 "_law_refused" 2 m__law_refused := by
  obtain ⟨fd, F⟩ := c.def_ 34 (d := mkD "_law_refused" 56) rfl
  have nd : AllN W 10 (ndB ss__law_refused) := (by repeat (first | exact trivial | exact (fs__law_bad_table X G c L).mono (by decide) | exact (fs__law_pick X G c L).mono (by decide) | exact (fs__law_one X G c L).mono (by decide) | exact (fs__law_two X G c L).mono (by decide) | exact fr_ X G c (by decide +kernel) | exact gi_ X G c (by decide +kernel) | exact ⟨_, gl_ X G c (by decide +kernel)⟩ | exact repr_need (fr_ X G c (by decide +kernel)) (sys_ X G c) | exact sort_need (fr_ X G c (by decide +kernel)) | refine And.intro ?_ ?_))
  have rs : AllR W 10 (rsB ss__law_refused) := (by repeat (first | exact trivial | refine And.intro ?_ ?_))
  exact FnS.of F (gl_ X G c (by decide +kernel)) (FunD.bindsN (ps := ["pen", "table"]) F fun _ _ _ _ _ _ us hl => match us, hl with | [_, _], _ => rfl) sc__law_refused rfl ss__law_refused ck__law_refused nd rs
theorem fs__law_right : FnS W 12 "_law_right" 1 m__law_right := by
  obtain ⟨fd, F⟩ := c.def_ 35 (d := mkD "_law_right" 55) rfl
  have nd : AllN W 11 (ndB ss__law_right) := (by repeat (first | exact trivial | exact (fs__law_refused X G c L).mono (by decide) | exact (fs__law_table X G c L).mono (by decide) | exact (fs__law_in_steps X G c L).mono (by decide) | exact (fs__law_rooms X G c L).mono (by decide) | exact (fs__law_is X G c L 4).mono (by decide) | exact (fs__law_draw X G c).mono (by decide) | exact (fs_rooms X G c L).mono (by decide) | exact (fs__law_is_one X G c L).mono (by decide) | exact (fs_room_ways X G c L).mono (by decide) | exact (fs_cut_to X G c L).mono (by decide) | exact (fs__law_from X G c L).mono (by decide) | exact fr_ X G c (by decide +kernel) | exact gi_ X G c (by decide +kernel) | exact ⟨_, gl_ X G c (by decide +kernel)⟩ | exact repr_need (fr_ X G c (by decide +kernel)) (sys_ X G c) | exact sort_need (fr_ X G c (by decide +kernel)) | refine And.intro ?_ ?_))
  have rs : AllR W 11 (rsB ss__law_right) := (by repeat (first | exact trivial | refine And.intro ?_ ?_))
  exact FnS.of F (gl_ X G c (by decide +kernel)) (FunD.bindsN (ps := ["pen"]) F fun _ _ _ _ _ _ us hl => match us, hl with | [_], _ => rfl) sc__law_right rfl ss__law_right ck__law_right nd rs
theorem nd_law : AllN W 12 (ndB ss_law) := (by repeat (first | exact trivial | exact (fs__law_right X G c L).mono (by decide) | exact (fs_rooms X G c L).mono (by decide) | exact fr_ X G c (by decide +kernel) | exact gi_ X G c (by decide +kernel) | exact ⟨_, gl_ X G c (by decide +kernel)⟩ | exact repr_need (fr_ X G c (by decide +kernel)) (sys_ X G c) | exact sort_need (fr_ X G c (by decide +kernel)) | refine And.intro ?_ ?_))
end
theorem bd_law : ∃ p0 p1 p2 p3 pos, defBody (top 59) = .Assign [.Name "pen" p0] (.Call (.Name "_law_pen" p1) [.Name "script" p2] [] p3) pos :: (defBody (top 59)).drop 1 := ⟨_, _, _, _, _, rfl⟩
theorem fact {B : Wb} {h : Heap} (X : B.K.In h) (G : h.Ns mainGlobals B.mg) (c : SaysF fn ex B.K) (dis : disB B.K tf = true) (hT : B.T = tabK B.K tf) :
    ∃ fd : FuncData, (∀ (s : Shared) (v : Value), BindsTo s fd ⟨[v], []⟩ [("script", v)]) ∧ ∀ b : Heap, (∀ x ∈ tf, LamX.TabB b B.mg (cTs B.K x).1 (cTs B.K x).2) → FnG B.P B.w B.K B.mg b CX0 13 (He.ga B.K "law") fd ["script"] (spLaw B.K B.T) := by
  obtain ⟨fdP, FP⟩ := c.def_ 0 (d := mkD "_law_pen" 40) rfl
  obtain ⟨fd, F⟩ := c.def_ 36 (d := mkD "law" 59) rfl
  have bb := FunD.bindsA (ps := ["script"]) F fun _ _ _ _ _ _ us hl => match us, hl with | [_], _ => rfl
  refine ⟨fd, fun s v => bb s [v] rfl, fun b tb => ?_⟩
  have hp : FnOk B.P B.w B.K B.mg b CX0 1 _ fdP ["script"] (spPen B.K) := pen_fn FP (C8.fnScope_by (by decide +kernel)) (by decide +kernel) (fr_ (W := B.at_ 0) X G c (by decide +kernel)) (fr_ (W := B.at_ 0) X G c (by decide +kernel))
  have F2 : FunD B.K "law" "law" (defArgs (top 59)) (defBody (top 59)) (defScope (top 59)) [] [] (He.ga B.K "law") fd := F
  obtain ⟨p0, p1, p2, p3, pos, e⟩ := bd_law
  rw [e] at F2
  let B' : Wb := ⟨B.P, B.w, B.K, B.mg, b, B.T⟩
  exact law_ok (B := B') (k := 12) (n := 1) F2 sc_law rfl rfl (by decide +kernel) (by decide +kernel) (by decide +kernel) (hp.mono (by decide)) (gl_ (W := B.at_ 0) X G c (by decide +kernel)) FP.kp (FunD.bindsN FP fun _ _ _ _ _ _ us hl => match us, hl with | [_], _ => rfl) ss_law ck_law (fun p => nd_law (W := B'.at_ p) X G c ⟨hT, tb, dis⟩) (fun p => trivial) law_W
abbrev R : PySem.W.OpenRow := PySem.W.OpenLaw.row PySem.Challenge.rw_flowshifts_k06_whole_rooms
abbrev hk : PySem.W.Hook := hookL 4 fn tf ex
def ob (s : PySem.W.SharedT) : He.AlD := obsL 4 fn tf ex (HandSHeadRun.getT s)
theorem ob_eq (s : PySem.W.SharedT) : ob s = hk.obs s.abs := obsL_eq (HandSHeadRun.getT_eq s)
def loose : List Str := (["MOST_ENTRY", "MOST_PLACES", "ShiftError", "BadNumber", "BadRow", "BadWord", "BadTable", "BadBook", "BadName", "BadText", "NoPlace", "NoName", "TakenName", "Unlike", "NotThere", "TooMany", "NotKept", "NothingToUndo", "NothingToRedo", "_law_pen", "_law_draw", "_law_kinds", "_law_more_kinds", "_law_fault", "as_tuples", "is_list", "is_integer", "is_index", "is_between", "is_indexes"] : List Str) ++ (["is_lot", "is_row_of", "is_table", "need_table", "goals_of", "walks_from", "rooms_by", "rooms", "room_ways", "cut_by", "cut_to", "_law_pick", "_law_shuffled", "_law_is", "_law_table", "_law_one_table", "_law_bad_table", "_law_from", "_law_is_one", "_law_rooms", "_law_in_steps", "_law_one", "_law_two", "_law_refused", "_law_right"] : List Str)
theorem run (w : World) : HandSHeadRun.RunEq R (PySem.W.view R.prog [59]) hk ob 20000 loose w := by
  intro os
  kernel_rfl
end K06
open PySem PySem.W PySem.Calls PyProof.Rows
theorem PySem.Challenge.cw_flowshifts_k06_whole_rooms_holds : PySem.Challenge.rw_flowshifts_k06_whole_rooms.Holds := by
  w_on; o_law
  refine HandSHeadRun.head_any (r := OpenLaw.row PySem.Challenge.rw_flowshifts_k06_whole_rooms) (q := view (OpenLaw.row PySem.Challenge.rw_flowshifts_k06_whole_rooms).prog [59]) (H := K06.hk) (ob := K06.ob) (M := 20000) (loose := K06.loose) (d := HandSHeadRun.topDef (OpenLaw.row PySem.Challenge.rw_flowshifts_k06_whole_rooms).prog 59) (kwd := []) K06.ob_eq
    (by kernel_rfl) (fun s => by kernel_rfl) K06.run (by kernel_rfl) (by kernel_rfl) (by kernel_rfl) (by rfl) (by first | assumption | decide +kernel) (by decide +kernel) ⟨rfl, rfl, rfl, rfl, rfl, by decide +kernel⟩ ?hw ?hc
  case hw => w_witness2
  case hc =>
    refine FS.walk_ofG (l := PySem.Challenge.rw_flowshifts_k06_whole_rooms) (n := 63) (k := 13) (x := "script") rfl (by decide) (by kernel_rfl) ⟨rfl, by decide, by decide⟩ ?F
    intro w mg fa h Y G hmg0
    obtain ⟨K, KX, c, l⟩ := Y
    have hmg : mg ("law" : PySem.Str) = some (.ref fa) := by
      have e : (HandSHeadRun.topDef (OpenLaw.row PySem.Challenge.rw_flowshifts_k06_whole_rooms).prog 59).name = ("law" : PySem.Str) := by kernel_rfl
      rw [← e]
      exact hmg0
    obtain ⟨fd, hb, hF⟩ := K06.fact (B := ⟨(PySem.Challenge.rw_flowshifts_k06_whole_rooms).prog, w, K, mg, h, FS.tabK K K06.tf⟩) KX G c l.dis rfl
    have e := hmg.symm.trans (K06.gl_ (W := ⟨(PySem.Challenge.rw_flowshifts_k06_whole_rooms).prog, w, K, mg, h, 0, []⟩) KX G c (by decide +kernel))
    cases e
    refine ⟨K, fd, FS.csK K K06.tf, FS.spLaw K (FS.tabK K K06.tf), KX, fun p hp => ?_, fun p hp => ?_, fun p hp => ?_, hb, fun H a ns hl hH hI hS => ⟨a, ns, rfl, hl, hS, FS.tabs_start hH, FS.tin_start hI, fun _ => rfl⟩, fun base _ _ tb => hF base fun x hx => tb _ (List.mem_map_of_mem (f := FS.cTs K) hx)⟩
    · obtain ⟨x, hx, rfl⟩ := List.mem_map.mp hp
      exact l.empty x hx
    · obtain ⟨x, hx, rfl⟩ := List.mem_map.mp hp
      exact l.out x hx
    · obtain ⟨x, hx, rfl⟩ := List.mem_map.mp hp
      exact PySem.W.codeHd_of_K KX (l.hd x hx)

