import PyProof.Rows.All
import Wide.All
import OpenK.AllK
import Wide.FinOn
import HandS.ForMost
import HandS.ForExc
import HandS.Lambda
import HandS.Wide
import HandS.WideBits
import HandS.TupAny
import HandS.StrMore
import HandS.IsInst
import HandS.Sort
import HandS.More
import HandS.Conv
import HandS.Replace
import HandS.Style
import KE.GoesEnum
import HandS.Defaults
import HandS.ExcInit
import HandS.ExcField
import HandS.SortKw
import KE.DatumOrd
import HandS.HeadHook4
import HandS.HeadWalk
import HandS.Head0
import HandS.Head1
import HandS.Head2
import HandS.HeadEnd
import PySem.Challenge.RW_landwatches_k27_whole_frames_by_lengths
set_option Elab.async false
set_option linter.all false
set_option maxRecDepth 100000
set_option maxHeartbeats 2000000
/-! LW0: data by value over the abstract heap; what a def's run knows: frozen heap, own cells, cells handed in. -/
namespace LW
open PySem PySem.Spec PyProof.Rows L2

abbrev Fg := PySem.W.Frag
abbrev D := PyData

def Ex (H H' : Hp) : Prop := ∀ a o, H a = some o → H' a = some o
theorem Ex.refl (H : Hp) : Ex H H := fun _ _ h => h
theorem Ex.trans {H H1 H2 : Hp} (a : Ex H H1) (b : Ex H1 H2) : Ex H H2 := fun x o h => b x o (a x o h)
theorem Ex.new {H : Hp} {p : Addr} {o : HO} (h : H p = none) : Ex H (upd H p o) := fun a u e => by
  rw [upd_ne (ne_of_none e h)]
  exact e
theorem Ex.none {H H' : Hp} {p : Addr} (e : Ex H H') (h : H' p = none) : H p = none := by
  cases q : H p with
  | none => rfl
  | some o => rw [e p o q] at h; cases h
theorem Ex.rd {H H' : Hp} {a : Addr} {u : HO} (e : Ex H H') (h : Rd H a u) : Rd H' a u := by
  rcases h with h | ⟨o, h⟩
  · exact Or.inl (e a _ h)
  · exact Or.inr ⟨o, e a _ h⟩
theorem Ex.sl {K : Fg} {H H' : Hp} {a : Addr} {xs : List V} (e : Ex H H') (h : SqL K H a xs) : SqL K H' a xs := by
  rcases h with h | h
  · exact Or.inl (e.rd h)
  · exact Or.inr h
theorem Ex.st {K : Fg} {H H' : Hp} {a : Addr} {xs : List V} (e : Ex H H') (h : SqT K H a xs) : SqT K H' a xs := by
  rcases h with h | h
  · exact Or.inl (e.rd h)
  · exact Or.inr h

/-! ### a value bears a datum -/
mutual
inductive Rep (K : Fg) (F : Hp) : V → D → Prop
  | non : Rep K F .non .none
  | bl (b : Bool) : Rep K F (.bl b) (.bool b)
  | int (i : Int) : Rep K F (.int i) (.int i)
  | str (x : Str) : Rep K F (.str x) (.str x)
  | lst {a : Addr} {xs : List V} {ds : List D} : SqL K F a xs → RepA K F xs ds → Rep K F (.ref a) (.list ds)
  | tup {a : Addr} {xs : List V} {ds : List D} : SqT K F a xs → RepA K F xs ds → Rep K F (.ref a) (.tuple ds)
inductive RepA (K : Fg) (F : Hp) : List V → List D → Prop
  | nil : RepA K F [] []
  | cons {v : V} {vs : List V} {d : D} {ds : List D} : Rep K F v d → RepA K F vs ds → RepA K F (v :: vs) (d :: ds)
end
mutual
theorem Rep.mono {K : Fg} {F F' : Hp} (e : Ex F F') : ∀ {v : V} {d : D}, Rep K F v d → Rep K F' v d
  | _, _, .non => .non
  | _, _, .bl b => .bl b
  | _, _, .int i => .int i
  | _, _, .str x => .str x
  | _, _, .lst h r => .lst (e.sl h) (RepA.mono e r)
  | _, _, .tup h r => .tup (e.st h) (RepA.mono e r)
theorem RepA.mono {K : Fg} {F F' : Hp} (e : Ex F F') : ∀ {vs : List V} {ds : List D}, RepA K F vs ds → RepA K F' vs ds
  | _, _, .nil => .nil
  | _, _, .cons a b => .cons (Rep.mono e a) (RepA.mono e b)
end
section
variable {K : Fg} {F F' H : Hp}
theorem RepA.length : ∀ {vs : List V} {ds : List D}, RepA K F vs ds → vs.length = ds.length
  | _, _, .nil => rfl
  | _, _, .cons _ b => by rw [List.length_cons, List.length_cons, RepA.length b]
theorem RepA.get : ∀ {vs : List V} {ds : List D} {i : Nat} {d : D}, RepA K F vs ds → ds[i]? = some d → ∃ v, vs[i]? = some v ∧ Rep K F v d
  | _, _, _, _, .nil, e => by simp at e
  | _, _, 0, _, .cons a _, e => by
    simp at e; subst e; exact ⟨_, rfl, a⟩
  | _, _, i + 1, d, .cons _ b, e => by
    obtain ⟨v, h1, h2⟩ := RepA.get (i := i) (d := d) b (by simpa using e)
    exact ⟨v, by simpa using h1, h2⟩
theorem RepA.get' : ∀ {vs : List V} {ds : List D} {i : Nat} {v : V}, RepA K F vs ds → vs[i]? = some v → ∃ d, ds[i]? = some d ∧ Rep K F v d
  | _, _, _, _, .nil, e => by simp at e
  | _, _, 0, _, .cons a _, e => by
    simp at e; subst e; exact ⟨_, rfl, a⟩
  | _, _, i + 1, d, .cons _ b, e => by
    obtain ⟨v, h1, h2⟩ := RepA.get' (i := i) (v := d) b (by simpa using e)
    exact ⟨v, by simpa using h1, h2⟩
theorem RepA.append : ∀ {vs ws : List V} {ds es : List D}, RepA K F vs ds → RepA K F ws es → RepA K F (vs ++ ws) (ds ++ es)
  | _, _, _, _, .nil, s => s
  | _, _, _, _, .cons r t, s => .cons r (RepA.append t s)
theorem RepA.take : ∀ {vs : List V} {ds : List D} (n : Nat), RepA K F vs ds → RepA K F (vs.take n) (ds.take n)
  | _, _, 0, _ => .nil
  | _, _, _ + 1, .nil => .nil
  | _, _, n + 1, .cons r t => .cons r (RepA.take n t)
theorem RepA.drop : ∀ {vs : List V} {ds : List D} (n : Nat), RepA K F vs ds → RepA K F (vs.drop n) (ds.drop n)
  | _, _, 0, r => r
  | _, _, _ + 1, .nil => .nil
  | _, _, n + 1, .cons _ t => RepA.drop n t
theorem RepA.set {v : V} {d : D} (r : Rep K F v d) : ∀ {vs : List V} {ds : List D} (i : Nat), RepA K F vs ds → RepA K F (vs.set i v) (ds.set i d)
  | _, _, _, .nil => .nil
  | _, _, 0, .cons _ t => .cons r t
  | _, _, i + 1, .cons q t => .cons q (RepA.set r i t)
theorem RepA.erase : ∀ {vs : List V} {ds : List D} (i : Nat), RepA K F vs ds → RepA K F (vs.eraseIdx i) (ds.eraseIdx i)
  | _, _, _, .nil => .nil
  | _, _, 0, .cons _ t => t
  | _, _, i + 1, .cons q t => .cons q (RepA.erase i t)
theorem RepA.dropLast : ∀ {vs : List V} {ds : List D}, RepA K F vs ds → RepA K F vs.dropLast ds.dropLast
  | _, _, .nil => .nil
  | _, _, .cons _ .nil => .nil
  | _, _, .cons r (.cons r2 t) => .cons r (RepA.dropLast (.cons r2 t))
theorem RepA.reverse {vs : List V} {ds : List D} (h : RepA K F vs ds) : RepA K F vs.reverse ds.reverse := by
  induction vs generalizing ds with
  | nil => cases h; exact .nil
  | cons v vs ih =>
    cases h with
    | cons a b =>
      rw [List.reverse_cons, List.reverse_cons]
      exact (ih b).append (.cons a .nil)
mutual
theorem Rep.dp : ∀ {v : V} {d : D}, Rep K F v d → Dp K F v d
  | _, _, .non => .non
  | _, _, .bl b => .bl b
  | _, _, .int i => .int i
  | _, _, .str x => .str x
  | _, _, .lst h r => .lst h (RepA.dp r)
  | _, _, .tup h r => .tup h (RepA.dp r)
theorem RepA.dp : ∀ {vs : List V} {ds : List D}, RepA K F vs ds → DpAll K F vs ds
  | _, _, .nil => .nil
  | _, _, .cons a b => .cons (Rep.dp a) (RepA.dp b)
end
/-- a row of ints, of texts, of truths -/
theorem RepA.ints : ∀ {vs : List V} {ns : List Int}, RepA K F vs (ns.map PyData.int) → vs = ns.map V.int
  | _, [], h => by cases h; rfl
  | _, n :: ns, h => by
    cases h with
    | cons a b =>
      cases a
      rw [RepA.ints b] <;> rfl
theorem RepA.strs : ∀ {vs : List V} {ns : List Str}, RepA K F vs (ns.map PyData.str) → vs = ns.map V.str
  | _, [], h => by cases h; rfl
  | _, n :: ns, h => by
    cases h with
    | cons a b =>
      cases a
      rw [RepA.strs b] <;> rfl
theorem RepA.bls : ∀ {vs : List V} {ns : List Bool}, RepA K F vs (ns.map PyData.bool) → vs = ns.map V.bl
  | _, [], h => by cases h; rfl
  | _, n :: ns, h => by
    cases h with
    | cons a b =>
      cases a
      rw [RepA.bls b] <;> rfl
theorem repA_strs : ∀ ns : List Str, RepA K F (ns.map V.str) (ns.map PyData.str)
  | [] => .nil
  | _ :: r => .cons (.str _) (repA_strs r)
theorem repA_ints : ∀ ns : List Int, RepA K F (ns.map V.int) (ns.map PyData.int)
  | [] => .nil
  | _ :: r => .cons (.int _) (repA_ints r)
end

/-! ### tables of code objects apart, nothing stands there -/
abbrev Tb := List (Addr × Str)
def NT (o : HO) : Prop := ∀ ps, o ≠ .tbl ps
def Nw (H : Hp) (p : Addr) : Prop := ∀ o, H p = some o → ¬ NT o
def NoT (F : Hp) : Prop := ∀ p o, F p = some o → NT o
theorem nt_lst {xs : List V} : NT (.lst xs) := fun _ z => nomatch z
theorem nt_tup {xs : List V} : NT (.tup xs) := fun _ z => nomatch z
theorem Nw.of {H : Hp} {p : Addr} (h : H p = none) : Nw H p := fun o e => by rw [h] at e; cases e
theorem Nw.ex {H H' : Hp} {p : Addr} (e : Ex H H') (h : Nw H' p) : Nw H p := fun o q => h o (e p o q)
theorem Nw.not {H : Hp} {p : Addr} {o : HO} (h : Nw H p) (e : H p = some o) (n : NT o) : False := h o e n
theorem NoT.none {F H : Hp} {p : Addr} (n : NoT F) (e : Ex F H) (h : Nw H p) : F p = none := by
  cases q : F p with
  | none => rfl
  | some o => exact (h o (e p o q) (n p o q)).elim
theorem NoT.upd {F : Hp} {p : Addr} {o : HO} (n : NoT F) (h : NT o) : NoT (upd F p o) := fun q u e => by
  by_cases z : q = p
  · rw [z, upd_same] at e; cases e; exact h
  · rw [upd_ne z] at e; exact n q u e
/-- what was there, tables apart, stays: what is new was so before -/
theorem Nw.up {H H' : Hp} {p : Addr} {o : HO} (h : Nw (upd H p o) p) (n : NT o) : False := h o upd_same n
theorem tabs_upd {T : Tb} {H : Hp} {p : Addr} {o : HO} (t : LamX.Tabs T H) (h : ∀ u, H p = some u → NT u ∧ ∀ q, u ≠ LamX.CodeO p q) : LamX.Tabs T (upd H p o) := by
  intro x hx
  obtain ⟨ps, a, b, c⟩ := t x hx
  have ne : x.1 ≠ p := fun z => by rw [z] at a; exact (h _ a).1 ps rfl
  refine ⟨ps, by rw [upd_ne ne]; exact a, b, fun pos cv hc => ?_⟩
  obtain ⟨k, e1, e2⟩ := c pos cv hc
  refine ⟨k, e1, ?_⟩
  rw [upd_ne fun z => by rw [z] at e2; exact (h _ e2).2 _ rfl]
  exact e2
theorem lst_code {p : Addr} {q : Str} {xs : List V} : HO.lst xs ≠ LamX.CodeO p q := fun z => by unfold LamX.CodeO at z; cases z

/-! ### a cell: an object that may be written -/
def Cell (K : Fg) (F H : Hp) (p : Addr) (d : D) : Prop := F p = none ∧ match d with
  | .list ds => ∃ xs, H p = some (.lst xs) ∧ RepA K F xs ds
  | _ => False
theorem Cell.lst {K : Fg} {F H : Hp} {p : Addr} {d : D} (c : Cell K F H p d) : ∃ ds xs, d = .list ds ∧ H p = some (.lst xs) ∧ RepA K F xs ds := by
  obtain ⟨_, h⟩ := c
  cases d with
  | list ds => obtain ⟨xs, a, b⟩ := h; exact ⟨ds, xs, rfl, a, b⟩
  | _ => exact h.elim
theorem Cell.mk {K : Fg} {F H : Hp} {p : Addr} {ds : List D} {xs : List V} (n : F p = none) (h : H p = some (.lst xs)) (r : RepA K F xs ds) : Cell K F H p (.list ds) := ⟨n, xs, h, r⟩
theorem Cell.mono {K : Fg} {F H F' H' : Hp} {p : Addr} {d : D} (c : Cell K F H p d) (e : Ex F F') (h : ∀ o, NT o → H p = some o → H' p = some o ∧ F' p = none) : Cell K F' H' p d := by
  obtain ⟨ds, xs, rfl, h1, h2⟩ := c.lst
  obtain ⟨a, b⟩ := h _ nt_lst h1
  exact ⟨b, xs, a, h2.mono e⟩
theorem Cell.there {K : Fg} {F H : Hp} {p : Addr} {d : D} (c : Cell K F H p d) : ∃ o, H p = some o ∧ NT o := by
  obtain ⟨ds, xs, rfl, h1, h2⟩ := c.lst
  exact ⟨_, h1, nt_lst⟩
theorem Cell.notNw {K : Fg} {F H : Hp} {p : Addr} {d : D} (c : Cell K F H p d) (h : Nw H p) : False := by
  obtain ⟨o, a, b⟩ := c.there
  exact h o a b
theorem Cell.code {K : Fg} {F H : Hp} {p : Addr} {d : D} (c : Cell K F H p d) : ∀ u, H p = some u → NT u ∧ ∀ q, u ≠ LamX.CodeO p q := fun u hu => by
  obtain ⟨ds, xs, rfl, h1, h2⟩ := c.lst
  rw [h1] at hu
  cases hu
  exact ⟨nt_lst, fun q => lst_code⟩
/-- the cell frozen -/
def fz (F H : Hp) (p : Addr) : Hp := match H p with
  | some o => upd F p o
  | none => F
theorem fz_eq {F H : Hp} {p : Addr} {o : HO} (h : H p = some o) : fz F H p = upd F p o := by unfold fz; rw [h]
theorem fz_ex {F H : Hp} {p : Addr} (h : F p = none) : Ex F (fz F H p) := by
  unfold fz
  split
  · exact Ex.new h
  · exact Ex.refl _
theorem fz_sub {F H : Hp} {p : Addr} (e : Ex F H) : Ex (fz F H p) H := by
  unfold fz
  split
  · rename_i o h
    intro a u q
    by_cases z : a = p
    · subst z; rw [upd_same] at q; cases q; exact h
    · rw [upd_ne z] at q; exact e a u q
  · exact e
theorem fz_ne {F H : Hp} {p q : Addr} (h : q ≠ p) : fz F H p q = F q := by
  unfold fz
  cases H p with
  | some o => exact upd_ne h
  | none => rfl
theorem Cell.rep {K : Fg} {F H : Hp} {p : Addr} {d : D} (c : Cell K F H p d) : Rep K (fz F H p) (.ref p) d := by
  obtain ⟨ds, xs, rfl, h1, h2⟩ := c.lst
  refine .lst (.inl (.inl ?_)) (h2.mono (fz_ex c.1))
  rw [fz_eq h1, upd_same]

theorem Cell.nt {K : Fg} {F H : Hp} {p : Addr} {d : D} (c : Cell K F H p d) (n : NoT F) : NoT (fz F H p) := by
  obtain ⟨ds, xs, rfl, e, _⟩ := c.lst
  rw [fz_eq e]
  exact n.upd nt_lst

/-! ### what is read as a datum: a frozen value, or a cell -/
def Vw (K : Fg) (F H : Hp) (v : V) (d : D) : Prop := Rep K F v d ∨ ∃ p, v = .ref p ∧ Cell K F H p d
theorem Vw.lst {K : Fg} {F H : Hp} {v : V} {ds : List D} (e : Ex F H) (h : Vw K F H v (.list ds)) : ∃ a xs, v = .ref a ∧ SqL K H a xs ∧ RepA K F xs ds := by
  rcases h with h | ⟨p, rfl, c⟩
  · cases h with
    | lst h r => exact ⟨_, _, rfl, e.sl h, r⟩
  · obtain ⟨ds', xs, e1, h1, h2⟩ := c.lst
    cases e1
    exact ⟨p, xs, rfl, .inl (.inl h1), h2⟩
theorem Vw.tup {K : Fg} {F H : Hp} {v : V} {ds : List D} (e : Ex F H) (h : Vw K F H v (.tuple ds)) : ∃ a xs, v = .ref a ∧ SqT K H a xs ∧ RepA K F xs ds := by
  rcases h with h | ⟨p, rfl, c⟩
  · cases h with
    | tup h r => exact ⟨_, _, rfl, e.st h, r⟩
  · obtain ⟨ds', xs, e1, h1, h2⟩ := c.lst
    cases e1
theorem Vw.int {K : Fg} {F H : Hp} {v : V} {i : Int} (h : Vw K F H v (.int i)) : v = .int i := by
  rcases h with h | ⟨p, rfl, c⟩
  · cases h; rfl
  · obtain ⟨_, _, e, _⟩ := c.lst; cases e
theorem Vw.bl {K : Fg} {F H : Hp} {v : V} {i : Bool} (h : Vw K F H v (.bool i)) : v = .bl i := by
  rcases h with h | ⟨p, rfl, c⟩
  · cases h; rfl
  · obtain ⟨_, _, e, _⟩ := c.lst; cases e
theorem Vw.str {K : Fg} {F H : Hp} {v : V} {i : Str} (h : Vw K F H v (.str i)) : v = .str i := by
  rcases h with h | ⟨p, rfl, c⟩
  · cases h; rfl
  · obtain ⟨_, _, e, _⟩ := c.lst; cases e
theorem Vw.non {K : Fg} {F H : Hp} {v : V} (h : Vw K F H v .none) : v = .non := by
  rcases h with h | ⟨p, rfl, c⟩
  · cases h; rfl
  · obtain ⟨_, _, e, _⟩ := c.lst; cases e
theorem Vw.frz {K : Fg} {F H : Hp} {v : V} {d : D} (h : Vw K F H v d) (n : (match d with | .list _ => false | _ => true) = true) : Rep K F v d := by
  rcases h with h | ⟨p, rfl, c⟩
  · exact h
  · obtain ⟨_, _, rfl, _⟩ := c.lst; cases n
theorem Vw.dp {K : Fg} {F H : Hp} {v : V} {d : D} (e : Ex F H) (h : Vw K F H v d) : Dp K H v d := by
  rcases h with h | ⟨p, rfl, c⟩
  · exact (h.mono e).dp
  · exact ((Cell.rep c).mono (fz_sub e)).dp

/-! ### the names' store by value -/
inductive Slot where
  /-- a frozen datum -/
  | val (d : D)
  /-- a cell of one's own -/
  | own (d : D)
  /-- the k-th cell that was handed in -/
  | io (k : Nat)
  /-- any other value -/
  | raw (v : V)
structure Env where
  sl : List (Option Slot)
  io : List D
/-- what an expression comes to -/
inductive EV where
  | val (d : D)
  /-- a new cell, of no name -/
  | own (d : D)
  /-- what the i-th name holds -/
  | loc (i : Nat)
  | io (k : Nat)
  | raw (v : V)
inductive Out (α : Type) where
  | ok (a : α) (ρ : Env)
  | exc (x : Str) (p : D) (ρ : Env)
  | stk
abbrev M (α : Type) := Env → Out α
def Out.bind {α β : Type} : Out α → (α → Env → Out β) → Out β
  | .ok a ρ, f => f a ρ
  | .exc x p ρ, _ => .exc x p ρ
  | .stk, _ => .stk
@[simp] theorem Out.bind_ok {α β : Type} (a : α) (ρ : Env) (f : α → Env → Out β) : (Out.ok a ρ).bind f = f a ρ := rfl
@[simp] theorem Out.bind_exc {α β : Type} (x : Str) (p : D) (ρ : Env) (f : α → Env → Out β) : (Out.exc x p ρ).bind f = .exc x p ρ := rfl
@[simp] theorem Out.bind_stk {α β : Type} (f : α → Env → Out β) : (Out.stk : Out α).bind f = .stk := rfl
def Slot.dat : Slot → Option D
  | .val d => some d
  | .own d => some d
  | _ => none
def Env.cont (ρ : Env) : EV → Option D
  | .val d => some d
  | .own d => some d
  | .loc i => match ρ.sl[i]? with
    | some (some s) => s.dat
    | _ => none
  | .io k => ρ.io[k]?
  | .raw _ => none
/-- frozen: the datum, the store behind it -/
def Env.frz (ρ : Env) : EV → Option (D × Env)
  | .val d => some (d, ρ)
  | .own d => some (d, ρ)
  | .loc i => match ρ.sl[i]? with
    | some (some (.val d)) => some (d, ρ)
    | some (some (.own d)) => some (d, { ρ with sl := ρ.sl.set i (some (.val d)) })
    | _ => none
  | .io _ => none
  | .raw _ => none

/-- a def's run: the cells handed in, the frozen heap and the heap at its entry, the error classes' places, the wish of errors -/
structure G where
  A : List Addr
  F0 : Hp
  H0 : Hp
  C : Str → Addr
  fd : Str → Str
  W : WX
  T : Tb

def OwnAt (σ : L2.St) (ρ : Env) (p : Addr) : Prop := ∃ (i : Nat) (d : D), ρ.sl[i]? = some (some (.own d)) ∧ σ[i]? = some (some (.ref p))
def SlotOk (K : Fg) (g : G) (F H : Hp) (v : V) : Slot → Prop
  | .val d => Rep K F v d
  | .own d => ∃ p, v = .ref p ∧ Cell K F H p d ∧ Nw g.H0 p
  | .io k => ∃ p, g.A[k]? = some p ∧ v = .ref p
  | .raw w => v = w
structure Sta (K : Fg) (g : G) (F H : Hp) (σ : L2.St) (ρ : Env) : Prop where
  ex0 : Ex g.F0 F
  ex : Ex F H
  len : ρ.sl.length = σ.length
  slot : ∀ (i : Nat) (s : Slot), ρ.sl[i]? = some (some s) → ∃ v, σ[i]? = some (some v) ∧ SlotOk K g F H v s
  sep : ∀ (i j : Nat) (d d' : D) (p : Addr), ρ.sl[i]? = some (some (.own d)) → ρ.sl[j]? = some (some (.own d')) → σ[i]? = some (some (.ref p)) → σ[j]? = some (some (.ref p)) → i = j
  iok : ∀ (k : Nat) (p : Addr), g.A[k]? = some p → ∃ d, ρ.io[k]? = some d ∧ Cell K F H p d
  ion : g.A.Nodup
  ioe : ∀ p ∈ g.A, ¬ Nw g.H0 p
  keep : ∀ (p : Addr) (o : HO), NT o → g.H0 p = some o → g.F0 p = none → p ∉ g.A → H p = some o ∧ F p = none
  dom : ∀ p : Addr, Nw H p → Nw g.H0 p
  nt : NoT F
  tabs : LamX.Tabs g.T H
/-- from one state of a run to a later one within an expression -/
structure Fr (K : Fg) (g : G) (F H F' H' : Hp) (σ : L2.St) (ρ ρ' : Env) : Prop where
  ex : Ex F F'
  fr : ∀ (p : Addr) (o : HO), NT o → H p = some o → F p = none → ¬ OwnAt σ ρ p → p ∉ g.A → H' p = some o ∧ F' p = none
  own : ∀ p : Addr, OwnAt σ ρ' p → OwnAt σ ρ p
  dom : ∀ p : Addr, Nw H' p → Nw H p
  loc : ∀ (i : Nat) (s : Slot) (d : D), ρ.sl[i]? = some (some s) → s.dat = some d → ∃ (s' : Slot) (d' : D), ρ'.sl[i]? = some (some s') ∧ s'.dat = some d'
section
variable {K : Fg} {g : G} {F H F' H' F'' H'' : Hp} {σ : L2.St} {ρ ρ' ρ'' : Env} {v : V} {e : EV} {d : D}
theorem Fr.refl : Fr K g F H F H σ ρ ρ := ⟨Ex.refl _, fun _ _ _ h n _ _ => ⟨h, n⟩, fun _ h => h, fun _ h => h, fun _ s d h h2 => ⟨s, d, h, h2⟩⟩
theorem Fr.trans (a : Fr K g F H F' H' σ ρ ρ') (b : Fr K g F' H' F'' H'' σ ρ' ρ'') : Fr K g F H F'' H'' σ ρ ρ'' where
  ex := a.ex.trans b.ex
  fr := fun p o m h n h1 h2 => by
    obtain ⟨x, y⟩ := a.fr p o m h n h1 h2
    exact b.fr p o m x y (fun z => h1 (a.own p z)) h2
  own := fun p h => a.own p (b.own p h)
  dom := fun p h => a.dom p (b.dom p h)
  loc := fun i s d h h2 => by
    obtain ⟨s', d', x, y⟩ := a.loc i s d h h2
    exact b.loc i s' d' x y
/-- a value on its way -/
def InF (K : Fg) (g : G) (F H : Hp) (σ : L2.St) (ρ : Env) (v : V) : EV → Prop
  | .val d => Rep K F v d
  | .own d => ∃ p, v = .ref p ∧ Cell K F H p d ∧ ¬ OwnAt σ ρ p ∧ p ∉ g.A ∧ Nw g.H0 p
  | .loc i => (∃ (s : Slot) (d : D), ρ.sl[i]? = some (some s) ∧ s.dat = some d) ∧ σ[i]? = some (some v)
  | .io k => ∃ p, g.A[k]? = some p ∧ v = .ref p
  | .raw w => v = w
theorem InF.mono (h : InF K g F H σ ρ v e) (f : Fr K g F H F' H' σ ρ ρ') : InF K g F' H' σ ρ' v e := by
  cases e with
  | val d => exact Rep.mono f.ex h
  | own d =>
    obtain ⟨p, rfl, c, h1, h2, h3⟩ := h
    exact ⟨p, rfl, c.mono f.ex fun o no ho => f.fr p o no ho c.1 h1 h2, fun z => h1 (f.own p z), h2, h3⟩
  | loc i =>
    obtain ⟨⟨s, d, h1, h2⟩, h3⟩ := h
    exact ⟨f.loc i s d h1 h2, h3⟩
  | io k => exact h
  | raw w => exact h
/-- what is read off a value on its way -/
theorem InF.vw (S : Sta K g F H σ ρ) (h : InF K g F H σ ρ v e) (hc : ρ.cont e = some d) : Vw K F H v d := by
  cases e with
  | val d' => cases hc; exact .inl h
  | own d' =>
    cases hc
    obtain ⟨p, rfl, c, _⟩ := h
    exact .inr ⟨p, rfl, c⟩
  | loc i =>
    obtain ⟨⟨s, d', h1, h2⟩, h3⟩ := h
    obtain ⟨w, e1, e2⟩ := S.slot i s h1
    rw [h3] at e1
    cases e1
    have hc : (match ρ.sl[i]? with | some (some s) => s.dat | _ => none) = some d := hc
    rw [h1] at hc
    have hc : s.dat = some d := hc
    cases s with
    | val d0 => cases hc; exact .inl e2
    | own d0 =>
      cases hc
      obtain ⟨p, rfl, c, _⟩ := e2
      exact .inr ⟨p, rfl, c⟩
    | io k => cases hc
    | raw w => cases hc
  | io k =>
    obtain ⟨p, h1, rfl⟩ := h
    obtain ⟨d0, h2, c⟩ := S.iok k p h1
    have hc : ρ.io[k]? = some d := hc
    rw [h2] at hc
    cases hc
    exact .inr ⟨p, rfl, c⟩
  | raw w => cases hc

/-- an expression's end: from F, H, ρ it came to e, borne by v -/
structure PostE (K : Fg) (g : G) (F H F' H' : Hp) (σ : L2.St) (ρ ρ' : Env) (v : V) (e : EV) : Prop where
  st : Sta K g F' H' σ ρ'
  fr : Fr K g F H F' H' σ ρ ρ'
  inf : InF K g F' H' σ ρ' v e
  new : ∀ d p, e = .own d → v = .ref p → Nw H p

/-- the heap grows by new objects alone -/
structure Grow (F H F' H' : Hp) : Prop where
  ex : Ex F F'
  sub : Ex F' H'
  hp : Ex H H'
  nw : ∀ p, F p = none → H p ≠ none → F' p = none
  nt : NoT F → NoT F'
theorem Grow.refl (e : Ex F H) : Grow F H F H := ⟨Ex.refl _, e, Ex.refl _, fun _ h _ => h, id⟩
theorem Grow.trans (a : Grow F H F' H') (b : Grow F' H' F'' H'') : Grow F H F'' H'' :=
  ⟨a.ex.trans b.ex, b.sub, a.hp.trans b.hp, fun p h n => b.nw p (a.nw p h n) fun z => n (a.hp.none z), fun n => b.nt (a.nt n)⟩
/-- a new object, frozen -/
theorem Grow.frz {p : Addr} {o : HO} (e : Ex F H) (h : H p = none) (n : NT o := by exact fun _ z => nomatch z) : Grow F H (upd F p o) (upd H p o) where
  ex := Ex.new (e.none h)
  sub := fun a u q => by
    by_cases z : a = p
    · subst z; rw [upd_same] at q ⊢; exact q
    · rw [upd_ne z] at q ⊢; exact e a u q
  hp := Ex.new h
  nw := fun q n m => by
    by_cases z : q = p
    · subst z; exact absurd h m
    · rw [upd_ne z]; exact n
  nt := fun m => m.upd n
/-- a new object, left open -/
theorem Grow.opn {p : Addr} {o : HO} (e : Ex F H) (h : H p = none) : Grow F H F (upd H p o) :=
  ⟨Ex.refl _, e.trans (Ex.new h), Ex.new h, fun _ n _ => n, id⟩
/-- the same, the tables apart -/
structure GrowT (T : Tb) (F H F' H' : Hp) : Prop where
  ex : Ex F F'
  sub : Ex F' H'
  hp : ∀ p o, NT o → H p = some o → F p = none → H' p = some o ∧ F' p = none
  nt : NoT F → NoT F'
  tb : LamX.Tabs T H → LamX.Tabs T H'
theorem GrowT.dom {T : Tb} (w : GrowT T F H F' H') (e : Ex F H) : ∀ p, Nw H' p → Nw H p := fun p h o q n => by
  cases z : F p with
  | none => exact h o (w.hp p o n q z).1 n
  | some o' =>
    have : o' = o := Option.some.inj ((e p o' z).symm.trans q)
    subst this
    exact h o' (w.sub p o' (w.ex p o' z)) n
theorem Grow.t {T : Tb} (w : Grow F H F' H') : GrowT T F H F' H' := ⟨w.ex, w.sub, fun p o _ h n => ⟨w.hp p o h, w.nw p n (by rw [h]; exact fun z => nomatch z)⟩, w.nt, fun t => t.ext w.hp⟩
theorem Sta.growT (S : Sta K g F H σ ρ) (w : GrowT g.T F H F' H') : Sta K g F' H' σ ρ where
  ex0 := S.ex0.trans w.ex
  ex := w.sub
  len := S.len
  slot := fun i s h => by
    obtain ⟨v, h1, h2⟩ := S.slot i s h
    refine ⟨v, h1, ?_⟩
    cases s with
    | val d => exact Rep.mono w.ex h2
    | own d =>
      obtain ⟨p, rfl, c, n⟩ := h2
      exact ⟨p, rfl, c.mono w.ex fun o no ho => w.hp p o no ho c.1, n⟩
    | io k => exact h2
    | raw v' => exact h2
  sep := S.sep
  iok := fun k p h => by
    obtain ⟨d, h1, c⟩ := S.iok k p h
    exact ⟨d, h1, c.mono w.ex fun o no ho => w.hp p o no ho c.1⟩
  ion := S.ion
  ioe := S.ioe
  keep := fun p o m h n a => by
    obtain ⟨h1, h2⟩ := S.keep p o m h n a
    exact w.hp p o m h1 h2
  dom := fun p h => S.dom p (w.dom S.ex p h)
  nt := w.nt S.nt
  tabs := w.tb S.tabs
theorem GrowT.fr {T : Tb} (w : GrowT T F H F' H') (e : Ex F H) : Fr K g F H F' H' σ ρ ρ :=
  ⟨w.ex, fun p o m h n _ _ => w.hp p o m h n, fun _ h => h, w.dom e, fun _ s d h h2 => ⟨s, d, h, h2⟩⟩
theorem Sta.grow (S : Sta K g F H σ ρ) (w : Grow F H F' H') : Sta K g F' H' σ ρ := S.growT w.t
theorem Grow.fr (w : Grow F H F' H') : Fr K g F H F' H' σ ρ ρ :=
  ⟨w.ex, fun p o _ h n _ _ => ⟨w.hp p o h, w.nw p n (by rw [h]; exact fun z => nomatch z)⟩, fun _ h => h, fun _ h => h.ex w.hp, fun _ s d h h2 => ⟨s, d, h, h2⟩⟩
theorem Sta.ownA (S : Sta K g F H σ ρ) (i : Nat) (d : D) (p : Addr) (h : ρ.sl[i]? = some (some (.own d))) (h2 : σ[i]? = some (some (.ref p))) (z : p ∈ g.A) : False := by
  obtain ⟨v, e1, q, rfl, _, n⟩ := S.slot i _ h
  rw [h2] at e1
  cases e1
  exact S.ioe p z n
/-- own cells are there -/
theorem OwnAt.there (S : Sta K g F H σ ρ) {p : Addr} (h : OwnAt σ ρ p) : ¬ Nw H p := by
  obtain ⟨i, d, h1, h2⟩ := h
  obtain ⟨v, e1, e2⟩ := S.slot i _ h1
  rw [h2] at e1
  cases e1
  obtain ⟨q, e, c, _⟩ := e2
  cases e
  exact c.notNw
theorem Sta.newA (S : Sta K g F H σ ρ) {p : Addr} (h : Nw H p) : p ∉ g.A := fun z => by
  obtain ⟨k, hk⟩ := List.mem_iff_getElem?.mp z
  obtain ⟨d, _, c⟩ := S.iok k p hk
  exact c.notNw h
/-- a new cell is on its way -/
theorem Sta.newOwn (S : Sta K g F H σ ρ) {p : Addr} (h : Nw H p) (c : Cell K F' H' p d) : InF K g F' H' σ ρ (.ref p) (.own d) :=
  ⟨p, rfl, c, fun z => OwnAt.there S z h, S.newA h, S.dom p h⟩

/-- freezing the cell at p, on its way or of the i-th name -/
theorem Sta.fz {p : Addr} (S : Sta K g F H σ ρ) (c : Cell K F H p d) (h1 : p ∉ g.A) (h0 : Nw g.H0 p) {ρ' : Env} (hio : ρ'.io = ρ.io) (hl : ρ'.sl.length = ρ.sl.length)
    (hs : ∀ (i : Nat) (s : Slot), ρ'.sl[i]? = some (some s) → (ρ.sl[i]? = some (some s) ∧ ∀ d', s = .own d' → σ[i]? ≠ some (some (.ref p))) ∨ (∃ d', s = .val d' ∧ ρ.sl[i]? = some (some (.own d')) ∧ σ[i]? = some (some (.ref p)))) :
    Sta K g (fz F H p) H σ ρ' where
  ex0 := S.ex0.trans (fz_ex c.1)
  ex := fz_sub S.ex
  len := hl.trans S.len
  slot := fun i s h => by
    rcases hs i s h with ⟨h2, h3⟩ | ⟨d', rfl, h2, h3⟩
    · obtain ⟨v, e1, e2⟩ := S.slot i s h2
      refine ⟨v, e1, ?_⟩
      cases s with
      | val d => exact Rep.mono (fz_ex c.1) e2
      | own d =>
        obtain ⟨q, rfl, c2, n⟩ := e2
        exact ⟨q, rfl, c2.mono (fz_ex c.1) fun o _ ho => ⟨ho, by rw [fz_ne fun z => h3 d rfl (by rw [e1, z])]; exact c2.1⟩, n⟩
      | io k => exact e2
      | raw v' => exact e2
    · obtain ⟨v, e1, q, rfl, c2, n⟩ := S.slot i _ h2
      rw [h3] at e1
      cases e1
      exact ⟨_, h3, c2.rep⟩
  sep := fun i j d d' q h h' e e' => by
    rcases hs i _ h with ⟨h2, _⟩ | ⟨_, z, _⟩
    · rcases hs j _ h' with ⟨h3, _⟩ | ⟨_, z, _⟩
      · exact S.sep i j d d' q h2 h3 e e'
      · cases z
    · cases z
  iok := fun k q h => by
    obtain ⟨d, e, c2⟩ := S.iok k q h
    refine ⟨d, by rw [hio]; exact e, c2.mono (fz_ex c.1) fun o _ ho => ⟨ho, ?_⟩⟩
    rw [fz_ne fun z => h1 (by rw [← z]; exact List.mem_of_getElem? h)]
    exact c2.1
  ion := S.ion
  ioe := S.ioe
  keep := fun q o m h n a => by
    obtain ⟨x, y⟩ := S.keep q o m h n a
    refine ⟨x, ?_⟩
    rw [fz_ne fun z => by rw [z] at h; exact h0 _ h m]
    exact y
  dom := S.dom
  nt := by
    obtain ⟨ds, xs, rfl, e, _⟩ := c.lst
    rw [fz_eq e]
    exact S.nt.upd nt_lst
  tabs := S.tabs
theorem Fr.fz {p : Addr} (c : Cell K F H p d) {ρ' : Env}
    (hp : OwnAt σ ρ p ∨ ∃ H0 : Hp, False) (hs : ∀ (i : Nat) (s : Slot), ρ'.sl[i]? = some (some s) → ρ.sl[i]? = some (some s) ∨ ∃ d', s = .val d' ∧ ρ.sl[i]? = some (some (.own d')))
    (hl : ∀ (i : Nat) (s : Slot) (d : D), ρ.sl[i]? = some (some s) → s.dat = some d → ∃ (s' : Slot) (d' : D), ρ'.sl[i]? = some (some s') ∧ s'.dat = some d') :
    Fr K g F H (LW.fz F H p) H σ ρ ρ' where
  ex := fz_ex c.1
  fr := fun q o _ h n h1 h2 => ⟨h, by
    rw [fz_ne fun z => by
      rcases hp with hp | ⟨_, z⟩
      · exact h1 (z ▸ hp)
      · exact z]
    exact n⟩
  own := fun q ⟨i, d, h1, h2⟩ => by
    rcases hs i _ h1 with h3 | ⟨_, z, _⟩
    · exact ⟨i, d, h3, h2⟩
    · cases z
  dom := fun _ h => h
  loc := hl
end
end LW
set_option Elab.async false
set_option linter.all false
set_option maxRecDepth 100000
set_option maxHeartbeats 2000000
/-! LW1: expressions by value. -/
namespace LW
open PySem PySem.Spec PyProof.Rows L2
section
variable {K : Fg} {g : G} {F H F1 H1 F' H' F'' H'' : Hp} {σ : L2.St} {ρ ρ1 ρ' ρ'' : Env} {v : V} {e : EV} {d : D}
/-- an error's end: its own dict at dx -/
structure PostX (K : Fg) (g : G) (F H F' H' : Hp) (σ : L2.St) (ρ ρ' : Env) (dx : Addr) (v : V) (x : Str) (p : D) : Prop where
  st : Sta K g F' H' σ ρ'
  fr : Fr K g F H F' H' σ ρ ρ'
  rep : Rep K F' v p
  xd : H' dx = some (.xd [(g.fd x, v)])
def EndE (K : Fg) (g : G) (F H : Hp) (σ : L2.St) (ρ : Env) (o : Out EV) (Q : VK) : Prop := match o with
  | .ok e ρ' => ∀ v F' H', PostE K g F H F' H' σ ρ ρ' v e → Q v H'
  | .exc x p ρ' => ∀ dx v F' H', PostX K g F H F' H' σ ρ ρ' dx v x p → g.W (.ref (g.C x)) (some dx) σ H'
  | .stk => False
def tD (K : Fg) (g : G) (m : M EV) : TE := fun σ H Q => ∃ F ρ, Sta K g F H σ ρ ∧ EndE K g F H σ ρ (m ρ) Q
theorem PostE.from' (f : Fr K g F H F1 H1 σ ρ ρ1) (h : PostE K g F1 H1 F' H' σ ρ1 ρ' v e) : PostE K g F H F' H' σ ρ ρ' v e :=
  ⟨h.st, f.trans h.fr, h.inf, fun d p a b => f.dom p (h.new d p a b)⟩
theorem EndE.rebase {o : Out EV} {Q : VK} (h : EndE K g F H σ ρ o Q) (f : Fr K g F H F1 H1 σ ρ ρ1) : EndE K g F1 H1 σ ρ1 o Q := by
  cases o with
  | ok e ρ' => exact fun v F' H' P => h v F' H' (P.from' f)
  | exc x p ρ' => exact fun dx v F' H' P => h dx v F' H' ⟨P.st, f.trans P.fr, P.rep, P.xd⟩
  | stk => exact h
theorem EndE.seq {m : M EV} {f : EV → Env → Out EV} {Q Q' : VK} (h : EndE K g F H σ ρ ((m ρ).bind f) Q)
    (k : ∀ e ρ1 v F1 H1, PostE K g F H F1 H1 σ ρ ρ1 v e → EndE K g F1 H1 σ ρ1 (f e ρ1) Q → Q' v H1) : EndE K g F H σ ρ (m ρ) Q' := by
  cases hm : m ρ with
  | ok e ρ1 =>
    rw [hm] at h
    exact fun v F1 H1 P => k e ρ1 v F1 H1 P (EndE.rebase (show EndE K g F H σ ρ (f e ρ1) Q from h) P.fr)
  | exc x p ρ' => rw [hm] at h; exact h
  | stk => rw [hm] at h; exact h
/-- what may come of an operation: a frozen value, a new cell -/
inductive RV where
  | val (d : D)
  | own (d : D)
def RV.ev : RV → EV
  | .val d => .val d
  | .own d => .own d
def RV.dat : RV → D
  | .val d => d
  | .own d => d
def PR (K : Fg) (F H : Hp) (r : RV) (Q : VK) : Prop := match r with
  | .val d => ∀ v F' H', Grow F H F' H' → Rep K F' v d → Q v H'
  | .own d => ∀ p F' H', Grow F H F' H' → Nw H p → Cell K F' H' p d → Q (.ref p) H'
theorem EndE.pr {r : RV} {Q : VK} (S : Sta K g F H σ ρ) (h : EndE K g F H σ ρ (.ok r.ev ρ) Q) : PR K F H r Q := by
  cases r with
  | val d => exact fun v F' H' w r => h v F' H' ⟨S.grow w, w.fr, r, fun _ _ z => nomatch z⟩
  | own d => exact fun p F' H' w n c => h (.ref p) F' H' ⟨S.grow w, w.fr, S.newOwn n c, fun _ q _ z => by cases z; exact n⟩
theorem EndE.here {e : EV} {Q : VK} (S : Sta K g F H σ ρ) (i : InF K g F H σ ρ v e) (n : ∀ d, e ≠ .own d) (h : EndE K g F H σ ρ (.ok e ρ) Q) : Q v H :=
  h v F H ⟨S, Fr.refl, i, fun d _ z => absurd z (n d)⟩
theorem PR.same {Q : VK} (e : Ex F H) (h : PR K F H (.val d) Q) (r : Rep K F v d) : Q v H := h v F H (Grow.refl e) r
theorem Grow.frz' {p : Addr} {o : HO} (e : Ex F H) (h : H p = none) (n : NT o := by exact fun _ z => nomatch z) : Grow F H (upd F p o) (upd H p o) := Grow.frz e h n
theorem PR.newTup {Q : VK} {ds : List D} {xs : List V} (e : Ex F H) (h : PR K F H (.val (.tuple ds)) Q) (r : RepA K F xs ds) : ∀ p, H p = none → Q (.ref p) (upd H p (.tup xs)) := fun p n =>
  h (.ref p) _ _ (Grow.frz e n) (.tup (.inl (.inl upd_same)) (r.mono (Ex.new (e.none n))))
theorem PR.newLst {Q : VK} {ds : List D} {xs : List V} (e : Ex F H) (h : PR K F H (.own (.list ds)) Q) (r : RepA K F xs ds) : ∀ p, H p = none → Q (.ref p) (upd H p (.lst xs)) := fun p n =>
  h p _ _ (Grow.opn e n) (Nw.of n) (.mk (e.none n) upd_same r)

/-- frozen: of a value on its way since H -/
theorem freezeE {x : D × Env} (S : Sta K g F' H' σ ρ') (f : Fr K g F H F' H' σ ρ ρ') (i : InF K g F' H' σ ρ' v e) (n : ∀ d p, e = .own d → v = .ref p → Nw H p) (hf : ρ'.frz e = some x) :
    ∃ F'', Sta K g F'' H' σ x.2 ∧ Fr K g F H F'' H' σ ρ x.2 ∧ Rep K F'' v x.1 := by
  cases e with
  | val d => cases hf; exact ⟨F', S, f, i⟩
  | own d =>
    cases hf
    obtain ⟨p, rfl, c, h1, h2, h3⟩ := i
    have np := n d p rfl rfl
    refine ⟨fz F' H' p, S.fz c h2 h3 rfl rfl fun j s hj => .inl ⟨hj, fun d' z q => h1 ⟨j, d', by rw [hj, z], q⟩⟩, ?_, c.rep⟩
    refine ⟨f.ex.trans (fz_ex c.1), fun q o mq hq nq a b => ?_, f.own, f.dom, f.loc⟩
    obtain ⟨x, y⟩ := f.fr q o mq hq nq a b
    exact ⟨x, by rw [fz_ne fun z => by rw [z] at hq; exact np _ hq mq]; exact y⟩
  | loc j =>
    obtain ⟨⟨s, d, h1, h2⟩, h3⟩ := i
    have hf : (match ρ'.sl[j]? with
      | some (some (.val d)) => some (d, ρ')
      | some (some (.own d)) => some (d, { ρ' with sl := ρ'.sl.set j (some (.val d)) })
      | _ => none) = some x := hf
    rw [h1] at hf
    cases s with
    | val d0 =>
      cases hf
      obtain ⟨w, e1, e2⟩ := S.slot j _ h1
      rw [h3] at e1
      cases e1
      exact ⟨F', S, f, e2⟩
    | own d0 =>
      cases hf
      obtain ⟨w, e1, p, rfl, c, n0⟩ := S.slot j _ h1
      rw [h3] at e1
      cases e1
      have hA : p ∉ g.A := fun z => by
        -- a cell handed in stands at the entry; one's own does not
        obtain ⟨k, hk⟩ := List.mem_iff_getElem?.mp z
        exact S.ownA j d0 p h1 h3 z
      have hlt : j < ρ'.sl.length := (List.getElem?_eq_some_iff.mp h1).1
      have hs : ∀ (i : Nat) (s : Slot), (ρ'.sl.set j (some (.val d0)))[i]? = some (some s) → (ρ'.sl[i]? = some (some s) ∧ ∀ d', s = .own d' → σ[i]? ≠ some (some (.ref p))) ∨ (∃ d', s = .val d' ∧ ρ'.sl[i]? = some (some (.own d')) ∧ σ[i]? = some (some (.ref p))) := fun i s hi => by
        by_cases z : i = j
        · subst z
          rw [List.getElem?_set_self hlt] at hi
          cases hi
          exact .inr ⟨d0, rfl, h1, h3⟩
        · rw [List.getElem?_set_ne (Ne.symm z)] at hi
          exact .inl ⟨hi, fun d' e q => z (S.sep i j d' d0 p (by rw [hi, e]) h1 q h3)⟩
      refine ⟨fz F' H' p, S.fz c hA n0 rfl (List.length_set ..) hs, f.trans (Fr.fz c (.inl ⟨j, d0, h1, h3⟩) (fun i s hi => ?_) fun i s d hi hd => ?_), c.rep⟩
      · rcases hs i s hi with ⟨a, _⟩ | ⟨d', a, b, _⟩
        · exact .inl a
        · exact .inr ⟨d', a, b⟩
      · by_cases z : i = j
        · subst z
          exact ⟨.val d0, d0, List.getElem?_set_self hlt, rfl⟩
        · exact ⟨s, d, (List.getElem?_set_ne (Ne.symm z)).trans hi, hd⟩
    | io k => cases hf
    | raw w => cases hf
  | io k => cases hf
  | raw w => cases hf
end
end LW
set_option Elab.async false
set_option linter.all false
set_option maxRecDepth 100000
set_option maxHeartbeats 2000000
/-! LW2: the rules of expressions. -/
namespace LW
open PySem PySem.Spec PyProof.Rows L2

theorem PE.to {X : Cx} {e : Expr} {t t' : TE} (h : PE X e t) (i : ∀ σ H Q, t' σ H Q → t σ H Q) : PE X e t' := ⟨fun pins s σ H Q I q => h.run pins s σ H Q I (i σ H Q q)⟩
theorem PT.to {X : Cx} {e : Expr} {t t' : TT} (h : PT X e t) (i : ∀ σ H Q, t' σ H Q → t σ H Q) : PT X e t' := ⟨fun pins s σ H Q I q => h.run pins s σ H Q I (i σ H Q q)⟩
theorem PA.to {X : Cx} {e : List Expr} {t t' : TA} (h : PA X e t) (i : ∀ σ H Q, t' σ H Q → t σ H Q) : PA X e t' := ⟨fun pos pins s σ H Q I q => h.run pos pins s σ H Q I (i σ H Q q)⟩
def RE (X : Cx) (g : G) (e : Expr) (m : M EV) : Prop := PE X e (tD X.K g m)

/-! ### operations by values, all at once -/
def rU (X : Cx) (f : Value → Value → Sem Value) : R2 := fun x y H Q => ∃ r, OpR X f r ∧ r x y H Q
theorem rU_ok {X : Cx} {f : Value → Value → Sem Value} : OpR X f (rU X f) := fun pins s σ H x y v u Q I rx ry ⟨r, h, q⟩ => h pins s σ H x y v u Q I rx ry q
def rUn (X : Cx) (f : Value → Sem Value) : V → Hp → VK → Prop := fun x H Q => ∃ r, UnR X f r ∧ r x H Q
theorem rUn_ok {X : Cx} {f : Value → Sem Value} : UnR X f (rUn X f) := fun pins s σ H x v Q I rx ⟨r, h, q⟩ => h pins s σ H x v Q I rx q
def rCa (X : Cx) (f : Value) : List V → Hp → VK → Prop := fun xs H Q => ∃ r, CallR X f r ∧ r xs H Q
theorem rCa_ok {X : Cx} {f : Value} : CallR X f (rCa X f) := fun pins s σ H xs us Q I rx ⟨r, h, q⟩ => h pins s σ H xs us Q I rx q
def rMt (X : Cx) (id : String) : V → List V → Hp → VK → Prop := fun x xs H Q => ∃ r, MtR X id r ∧ r x xs H Q
theorem rMt_ok {X : Cx} {id : String} : MtR X id (rMt X id) := fun pins s σ H x xs v us Q I rx rs ⟨r, h, q⟩ => h pins s σ H x xs v us Q I rx rs q
def rIxU (X : Cx) : R2 := fun x y H Q => ∃ r, IxR X r ∧ r x y H Q
theorem rIxU_ok {X : Cx} : IxR X (rIxU X) := fun a b pins s σ H x y v u Q I rx ry ⟨r, h, q⟩ hs => h a b pins s σ H x y v u Q I rx ry q hs
def rSlU (X : Cx) : V → Option Int → Option Int → Hp → VK → Prop := fun x lo hi H Q => ∃ r, SlR X r ∧ r x lo hi H Q
theorem rSlU_ok {X : Cx} : SlR X (rSlU X) := fun pins s σ H x v vl vu lo hi sl Q I rx hs pl pu ⟨r, h, q⟩ => h pins s σ H x v vl vu lo hi sl Q I rx hs pl pu q

/-! ### names, constants -/
def mVar (i : Nat) : M EV := fun ρ => match ρ.sl[i]? with
  | some (some (.val d)) => .ok (.val d) ρ
  | some (some (.own _)) => .ok (.loc i) ρ
  | some (some (.io k)) => .ok (.io k) ρ
  | some (some (.raw v)) => .ok (.raw v) ρ
  | _ => .stk
def mVal (d : D) : M EV := fun ρ => .ok (.val d) ρ
def mRaw (v : V) : M EV := fun ρ => .ok (.raw v) ρ
section
variable {X : Cx} {g : G} {x : Str} {pos : Pos}
theorem re_var (i : Nat) (hN : X.N[i]? = some x := by rfl) (hv : Vis X.env.scope x := by first | exact Or.inl rfl | exact Or.inr (Or.inl rfl) | exact Or.inr (Or.inr rfl)) (hd : (x == ("__debug__" : Str)) = false := by decide)
    (hcd : (x == ("__classdict__" : Str)) = false := by decide) : RE X g (.Name x pos) (mVar i) := by
  refine PE.to (pe_var hN hv hd hcd) ?_
  rintro σ H Q ⟨F, ρ, S, h⟩
  unfold mVar at h
  cases hs : ρ.sl[i]? with
  | none => rw [hs] at h; exact False.elim h
  | some o =>
    rw [hs] at h
    cases o with
    | none => exact False.elim h
    | some s =>
      obtain ⟨v, e1, e2⟩ := S.slot i s hs
      refine ⟨v, e1, ?_⟩
      cases s with
      | val d => exact EndE.here (e := .val d) S e2 (fun _ z => nomatch z) h
      | own d => exact EndE.here (e := .loc i) S ⟨⟨_, d, hs, rfl⟩, e1⟩ (fun _ z => nomatch z) h
      | io k => exact EndE.here (e := .io k) S e2 (fun _ z => nomatch z) h
      | raw w => exact EndE.here (e := .raw w) S e2 (fun _ z => nomatch z) h
theorem re_c {e : Expr} {v : V} {d : D} (h : PE X e (tC v)) (r : ∀ F, Rep X.K F v d) : RE X g e (mVal d) := by
  refine PE.to h ?_
  rintro σ H Q ⟨F, ρ, S, h⟩
  exact EndE.here S (e := .val d) (r F) (fun _ z => nomatch z) h
theorem re_raw {e : Expr} {v : V} (h : PE X e (tC v)) : RE X g e (mRaw v) := by
  refine PE.to h ?_
  rintro σ H Q ⟨F, ρ, S, h⟩
  exact EndE.here S (e := .raw v) rfl (fun _ z => nomatch z) h
theorem re_int {i : Int} {j : Nat} : RE X g (.Constant (.int i) j pos) (mVal (.int i)) := re_c pe_int fun _ => .int i
theorem re_bl {b : Bool} {j : Nat} : RE X g (.Constant (.bool b) j pos) (mVal (.bool b)) := re_c pe_bl fun _ => .bl b
theorem re_non {j : Nat} : RE X g (.Constant .none j pos) (mVal .none) := re_c pe_non fun _ => .non
theorem re_str {y : Str} {j : Nat} : RE X g (.Constant (.str y) j pos) (mVal (.str y)) := re_c pe_str fun _ => .str y
/-- a module's constant -/
theorem re_glob {v : V} {u : Value} {d : D} (hm : X.mg x = some u) (r : RelV v u) (q : ∀ F, Rep X.K F v d) (hg : Gl X x := by rfl) (hd : (x == ("__debug__" : Str)) = false := by decide) : RE X g (.Name x pos) (mVal d) := re_c (pe_glob hg hm r hd) q
theorem re_globR {v : V} {u : Value} (hm : X.mg x = some u) (r : RelV v u) (hg : Gl X x := by rfl) (hd : (x == ("__debug__" : Str)) = false := by decide) : RE X g (.Name x pos) (mRaw v) := re_raw (pe_glob hg hm r hd)
/-- a built-in type as a value -/
theorem re_ty {T : String} (hm : X.mg x = none) (hv : bootBuiltins x = some (.type T)) (hg : Gl X x := by rfl) (hn : x ≠ "__name__" := by decide) (hd : (x == ("__debug__" : Str)) = false := by decide) : RE X g (.Name x pos) (mRaw (.ty T)) :=
  re_raw (pe_bltn hg hm hv rfl hn hd)
end

/-! ### two-place operations -/
def opt (ρ : Env) : Option RV → Out EV
  | some r => .ok r.ev ρ
  | none => .stk
@[simp] theorem opt_some (ρ : Env) (r : RV) : opt ρ (some r) = .ok r.ev ρ := rfl
@[simp] theorem opt_none (ρ : Env) : opt ρ none = .stk := rfl
def mBin (f : D → D → Option RV) (ma mb : M EV) : M EV := fun ρ => (ma ρ).bind fun a ρ1 => (mb ρ1).bind fun b ρ2 => match ρ2.cont a, ρ2.cont b with
  | some x, some y => opt ρ2 (f x y)
  | _, _ => .stk
def OpD (X : Cx) (f : Value → Value → Sem Value) (gop : D → D → Option RV) : Prop :=
  ∀ F H x y dx dy r Q, Ex F H → Vw X.K F H x dx → Vw X.K F H y dy → gop dx dy = some r → PR X.K F H r Q → rU X f x y H Q
section
variable {X : Cx} {g : G} {a b : Expr} {ma mb : M EV} {pos : Pos}
/-- two values, read -/
theorem bin_end {f : D → D → Option RV} {fo : R2} (hk : ∀ F H x y dx dy r Q, Ex F H → Vw X.K F H x dx → Vw X.K F H y dy → f dx dy = some r → PR X.K F H r Q → fo x y H Q) :
    ∀ σ H Q, tD X.K g (mBin f ma mb) σ H Q → tOp fo (tD X.K g ma) (tD X.K g mb) σ H Q := by
  rintro σ H Q ⟨F, ρ, S, h⟩
  refine ⟨F, ρ, S, EndE.seq h fun a ρ1 v F1 H1 P1 h1 => ⟨F1, ρ1, P1.st, EndE.seq h1 fun b ρ2 w F2 H2 P2 h2 => ?_⟩⟩
  have I1 := P1.inf.mono P2.fr
  cases ha : ρ2.cont a with
  | none => rw [ha] at h2; exact False.elim h2
  | some dx =>
    cases hb : ρ2.cont b with
    | none => rw [ha, hb] at h2; exact False.elim h2
    | some dy =>
      rw [ha, hb] at h2
      cases hf : f dx dy with
      | none =>
        have h2 : EndE X.K g F2 H2 σ ρ2 (opt ρ2 (f dx dy)) Q := h2
        rw [hf] at h2
        exact False.elim h2
      | some r =>
        have h2 : EndE X.K g F2 H2 σ ρ2 (opt ρ2 (f dx dy)) Q := h2
        rw [hf] at h2
        exact hk F2 H2 v w dx dy r Q P2.st.ex (I1.vw P2.st ha) (P2.inf.vw P2.st hb) hf (EndE.pr P2.st h2)
theorem re_op {op : Operator} {f : D → D → Option RV} (ho : OpD X (binaryOp op) f) (ha : RE X g a ma) (hb : RE X g b mb) : RE X g (.BinOp a op b pos) (mBin f ma mb) :=
  PE.to (pe_op rU_ok ha hb) (bin_end ho)
theorem re_cmp {op : CmpOp} {f : D → D → Option RV} (ho : OpD X (compareOp op) f) (ha : RE X g a ma) (hb : RE X g b mb) (hm : behindInMarks op b = false := by rfl) : RE X g (.Compare a [op] [b] pos) (mBin f ma mb) :=
  PE.to (pe_cmpR rU_ok ha hb hm) (bin_end ho)

/-! the operations -/
def gInt2 (f : Int → Int → Option D) : D → D → Option RV
  | .int i, .int j => (f i j).map RV.val
  | _, _ => none
def bool2 : Bool → Int := fun b => if b then 1 else 0
def gAdd : D → D → Option RV
  | .int i, .int j => some (.val (.int (i + j)))
  | .str x, .str y => if x.length + y.length ≤ sizeLine then some (.val (.str (x ++ y))) else none
  | .list xs, .list ys => if xs.length + ys.length ≤ sizeLine then some (.own (.list (xs ++ ys))) else none
  | .tuple xs, .tuple ys => if xs.length + ys.length ≤ sizeLine then some (.val (.tuple (xs ++ ys))) else none
  | _, _ => none
def gSub : D → D → Option RV
  | .int i, .int j => some (.val (.int (i - j)))
  | _, _ => none
def gMul : D → D → Option RV
  | .int i, .int j => if (-(2 ^ 64) < i ∧ i < 2 ^ 64) ∨ (-(2 ^ 64) < j ∧ j < 2 ^ 64) then some (.val (.int (i * j))) else none
  | .str x, .int j => if 1 < j ∧ j < 16777216 ∧ 0 < x.length ∧ x.length * j.toNat ≤ sizeLine then some (.val (.str ⟨(List.replicate j.toNat x.cps).foldl (· ++ ·) #[]⟩)) else none
  | _, _ => none
def gMod : D → D → Option RV
  | .int i, .int j => if 0 < j then some (.val (.int (i % j))) else none
  | _, _ => none
def gDiv : D → D → Option RV
  | .int i, .int j => if 0 < j ∧ j < 1073741824 then some (.val (.int (i / j))) else none
  | _, _ => none
def gPow : D → D → Option RV
  | .int i, .int j => if 0 ≤ j ∧ j ≤ 1000000 ∧ i.natAbs < 2 ^ 64 then some (.val (.int (i ^ j.toNat))) else none
  | _, _ => none
theorem od_int {op : Value → Value → Sem Value} {C : Int → Int → Prop} {f : Int → Int → Int} {gop : D → D → Option RV} (h : OpR X op (rI C fun i j => .int (f i j)))
    (hg : ∀ dx dy r, gop dx dy = some r → ∃ i j, dx = .int i ∧ dy = .int j ∧ C i j ∧ r = .val (.int (f i j))) : OpD X op gop := by
  intro F H x y dx dy r Q ex hx hy hf q
  obtain ⟨i, j, rfl, rfl, c, rfl⟩ := hg dx dy r hf
  exact ⟨_, h, i, j, hx.int, hy.int, c, q.same ex (.int _)⟩
theorem od_sub : OpD X (binaryOp .Sub) gSub := by
  intro F H x y dx dy r Q ex hx hy hf q
  unfold gSub at hf
  split at hf
  case h_2 => cases hf
  cases hf
  exact ⟨_, op_sub, _, _, hx.int, hy.int, q.same ex (.int _)⟩
theorem od_mod : OpD X (binaryOp .Mod) gMod := by
  intro F H x y dx dy r Q ex hx hy hf q
  unfold gMod at hf
  split at hf
  case h_2 => cases hf
  rename_i i j
  split at hf
  · rename_i h
    cases hf
    exact ⟨_, op_mod, _, _, hx.int, hy.int, h, q.same ex (.int _)⟩
  · cases hf
theorem od_div : OpD X (binaryOp .FloorDiv) gDiv := by
  intro F H x y dx dy r Q ex hx hy hf q
  unfold gDiv at hf
  split at hf
  case h_2 => cases hf
  rename_i i j
  split at hf
  · rename_i h
    cases hf
    exact ⟨_, op_fdiv, _, _, hx.int, hy.int, h, q.same ex (.int _)⟩
  · cases hf
theorem od_pow : OpD X (binaryOp .Pow) gPow := by
  intro F H x y dx dy r Q ex hx hy hf q
  unfold gPow at hf
  split at hf
  case h_2 => cases hf
  rename_i i j
  split at hf
  · rename_i h
    cases hf
    exact ⟨_, op_pow, _, _, hx.int, hy.int, h, q.same ex (.int _)⟩
  · cases hf
/-- two lists, tracked, frozen or the module's -/
def rCatS (K : Fg) : R2 := fun x y H Q => ∃ l b xs zs, x = .ref l ∧ y = .ref b ∧ SqL K H l xs ∧ SqL K H b zs ∧ xs.length + zs.length ≤ sizeLine ∧ ∀ p, H p = none → Q (.ref p) (upd H p (.lst (xs ++ zs)))
theorem op_catS : OpR X (binaryOp .Add) (rCatS X.K) := by
  intro pins s σ H x y v u Q I rx ry h
  obtain ⟨l, b, xs, zs, rfl, rfl, hH, hB, hz, q⟩ := h
  cases rx
  cases ry
  obtain ⟨its, r, pl, z⟩ := I.list hH
  obtain ⟨its2, r2, pl2, z2⟩ := I.list hB
  have hl := r.length
  have hl2 := r2.length
  obtain ⟨⟨cls, dd, data, sl⟩, ho, hc, n, hd⟩ := pl.isList
  obtain ⟨⟨cls2, dd2, data2, sl2⟩, ho2, hc2, n2, hd2⟩ := pl2.isList
  simp only at hc hd hc2 hd2
  subst hc hd hc2 hd2
  have ea : its.toArray ++ its2.toArray = (its ++ its2).toArray := by simp
  refine concat_meets ⟨_, ho, rfl⟩ ⟨_, ho2, rfl⟩ noFill_list_add seq_list_add PySem.F.slot_list_add PySem.F.entry_list_add (PySem.F.args_list_add_2 _ _) (list_addW l b its.toArray its2.toArray n n2 dd dd2 sl sl2 (by rw [List.size_toArray, List.size_toArray]; omega)) ⟨ho, ho2, ?_⟩
  rw [ea]
  exact ⟨.ref _, _, I.lnew (t' := s.toks) (r.append r2) (by rw [List.length_append]; omega), rfl, q _ I.fresh⟩
/-- a text, so many times over -/
theorem op_mulS : OpR X (binaryOp .Mult) (fun x y H Q => ∃ (a : Str) (j : Int), x = .str a ∧ y = .int j ∧ (1 < j ∧ j < 16777216 ∧ 0 < a.length ∧ a.length * j.toNat ≤ sizeLine) ∧ Q (.str ⟨(List.replicate j.toNat a.cps).foldl (· ++ ·) #[]⟩) H) := by
  intro pins s σ H x y v u Q I rx ry h
  obtain ⟨a, j, rfl, rfl, ⟨h1, h2, h3, h4⟩, q⟩ := h
  obtain ⟨t, rfl⟩ := rx
  obtain ⟨t2, rfl⟩ := ry
  refine PySem.P.mul_str ?_ ?_ ?_ ?_
  · rw [decide_eq_false (by omega), decide_eq_false (by omega)] <;> rfl
  · intro _ _ z
    have e : (j.toNat : Int) = j := Int.toNat_of_nonneg (by omega)
    have h5 : (a.length : Int) * j ≤ 16777216 := by
      rw [← e]
      have h4' : a.length * j.toNat ≤ 16777216 := by rw [← show (sizeLine : Nat) = 16777216 from by rw [sizeLine_eq]]; exact h4
      have h5 : ((a.length * j.toNat : Nat) : Int) ≤ ((16777216 : Nat) : Int) := Int.ofNat_le.mpr h4'
      rw [Int.natCast_mul] at h5
      exact h5
    have h6 : (a.length : Int) ≤ 16777216 := by
      have : (a.length : Int) * 1 ≤ (a.length : Int) * j := Int.mul_le_mul_of_nonneg_left (by omega) (by omega)
      omega
    have h7 : (16777216 : Int) ≤ (2 ^ 63 - 1) / j := by
      refine (Int.le_ediv_iff_mul_le (by omega)).mpr ?_
      have : (16777216 : Int) * j ≤ 16777216 * 16777216 := Int.mul_le_mul_of_nonneg_left (by omega) (by omega)
      omega
    omega
  · intro _ _
    exact decide_eq_false (Nat.not_lt.mpr h4)
  · rw [if_neg (by omega), if_neg (by
      intro z
      rw [Bool.or_eq_true] at z
      rcases z with z | z
      · have := eq_of_beq z
        omega
      · have := eq_of_beq z
        omega)]
    have hz : Builtin.Str.tooLong (a.length * j.toNat) = false := decide_eq_false (Nat.not_lt.mpr h4)
    exact ⟨PySem.fits_reps hz, ⟨.str _, H, I.tok _, ⟨_, rfl⟩, q⟩⟩
theorem od_add : OpD X (binaryOp .Add) gAdd := by
  intro F H x y dx dy r Q ex hx hy hf q
  unfold gAdd at hf
  split at hf
  · cases hf
    exact ⟨_, op_add, _, _, hx.int, hy.int, q.same ex (.int _)⟩
  · split at hf
    · rename_i h
      cases hf
      exact ⟨_, op_add_str, _, _, hx.str, hy.str, h, q.same ex (.str _)⟩
    · cases hf
  · split at hf
    · rename_i xs ys h
      cases hf
      obtain ⟨a, us, rfl, ha, ra⟩ := hx.lst ex
      obtain ⟨b, ws, rfl, hb, rb⟩ := hy.lst ex
      refine ⟨_, op_catS, a, b, us, ws, rfl, rfl, ha, hb, by rw [ra.length, rb.length]; exact h, q.newLst ex (ra.append rb)⟩
    · cases hf
  · split at hf
    · rename_i xs ys h
      cases hf
      obtain ⟨a, us, rfl, ha, ra⟩ := hx.tup ex
      obtain ⟨b, ws, rfl, hb, rb⟩ := hy.tup ex
      have ka : Rep X.K F (.ref a) (.tuple xs) := hx.frz rfl
      have kb : Rep X.K F (.ref b) (.tuple ys) := hy.frz rfl
      refine ⟨_, op_catA, a, b, us, ws, rfl, rfl, ha, hb, by rw [ra.length, rb.length]; exact h, fun z => ?_, fun z z2 => ?_, fun _ _ => q.newTup ex (ra.append rb)⟩
      · subst z
        cases ra
        exact q.same ex kb
      · subst z2
        cases rb
        rw [List.append_nil] at q
        exact q.same ex ka
    · cases hf
  · cases hf
theorem od_mul : OpD X (binaryOp .Mult) gMul := by
  intro F H x y dx dy r Q ex hx hy hf q
  unfold gMul at hf
  split at hf
  · split at hf
    · rename_i h
      cases hf
      exact ⟨_, op_mul, _, _, hx.int, hy.int, h, q.same ex (.int _)⟩
    · cases hf
  · split at hf
    · rename_i a j h
      cases hf
      exact ⟨_, op_mulS, a, j, hx.str, hy.int, h, q.same ex (.str _)⟩
    · cases hf
  · cases hf
end
end LW
set_option Elab.async false
set_option linter.all false
set_option maxRecDepth 100000
set_option maxHeartbeats 2000000
/-! LW3: comparisons, truth, arguments, displays. -/
namespace LW
open PySem PySem.Spec PyProof.Rows L2

/-! ### ends that bear plain data -/
section
variable {K : Fg} {g : G} {F H F1 H1 F' H' F'' H'' : Hp} {σ : L2.St} {ρ ρ1 ρ' ρ'' : Env} {v : V} {e : EV} {d : D}
def EndG {α : Type} (K : Fg) (g : G) (F H : Hp) (σ : L2.St) (ρ : Env) (o : Out α) (Q : α → Hp → Prop) : Prop := match o with
  | .ok a ρ' => ∀ F' H', Sta K g F' H' σ ρ' → Fr K g F H F' H' σ ρ ρ' → Q a H'
  | .exc x p ρ' => ∀ dx v F' H', PostX K g F H F' H' σ ρ ρ' dx v x p → g.W (.ref (g.C x)) (some dx) σ H'
  | .stk => False
def tG {α : Type} (K : Fg) (g : G) (m : M α) : L2.St → Hp → (α → Hp → Prop) → Prop := fun σ H Q => ∃ F ρ, Sta K g F H σ ρ ∧ EndG K g F H σ ρ (m ρ) Q
theorem EndG.rebase {α : Type} {o : Out α} {Q : α → Hp → Prop} (h : EndG K g F H σ ρ o Q) (f : Fr K g F H F1 H1 σ ρ ρ1) : EndG K g F1 H1 σ ρ1 o Q := by
  cases o with
  | ok e ρ' => exact fun F' H' S P => h F' H' S (f.trans P)
  | exc x p ρ' => exact fun dx v F' H' P => h dx v F' H' ⟨P.st, f.trans P.fr, P.rep, P.xd⟩
  | stk => exact h
/-- an expression ahead of plain data -/
theorem EndG.seqE {α : Type} {m : M EV} {f : EV → Env → Out α} {Q : α → Hp → Prop} {Q' : VK} (h : EndG K g F H σ ρ ((m ρ).bind f) Q)
    (k : ∀ e ρ1 v F1 H1, PostE K g F H F1 H1 σ ρ ρ1 v e → EndG K g F1 H1 σ ρ1 (f e ρ1) Q → Q' v H1) : EndE K g F H σ ρ (m ρ) Q' := by
  cases hm : m ρ with
  | ok e ρ1 =>
    rw [hm] at h
    exact fun v F1 H1 P => k e ρ1 v F1 H1 P (EndG.rebase (show EndG K g F H σ ρ (f e ρ1) Q from h) P.fr)
  | exc x p ρ' => rw [hm] at h; exact h
  | stk => rw [hm] at h; exact h
/-- plain data ahead of an expression -/
theorem EndE.seqG {α : Type} {m : M α} {f : α → Env → Out EV} {Q : VK} {Q' : α → Hp → Prop} (h : EndE K g F H σ ρ ((m ρ).bind f) Q)
    (k : ∀ a ρ1 F1 H1, Sta K g F1 H1 σ ρ1 → Fr K g F H F1 H1 σ ρ ρ1 → EndE K g F1 H1 σ ρ1 (f a ρ1) Q → Q' a H1) : EndG K g F H σ ρ (m ρ) Q' := by
  cases hm : m ρ with
  | ok a ρ1 =>
    rw [hm] at h
    exact fun F1 H1 S P => k a ρ1 F1 H1 S P (EndE.rebase (show EndE K g F H σ ρ (f a ρ1) Q from h) P)
  | exc x p ρ' => rw [hm] at h; exact h
  | stk => rw [hm] at h; exact h
theorem EndG.seqG {α β : Type} {m : M α} {f : α → Env → Out β} {Q : β → Hp → Prop} {Q' : α → Hp → Prop} (h : EndG K g F H σ ρ ((m ρ).bind f) Q)
    (k : ∀ a ρ1 F1 H1, Sta K g F1 H1 σ ρ1 → Fr K g F H F1 H1 σ ρ ρ1 → EndG K g F1 H1 σ ρ1 (f a ρ1) Q → Q' a H1) : EndG K g F H σ ρ (m ρ) Q' := by
  cases hm : m ρ with
  | ok a ρ1 =>
    rw [hm] at h
    exact fun F1 H1 S P => k a ρ1 F1 H1 S P (EndG.rebase (show EndG K g F H σ ρ (f a ρ1) Q from h) P)
  | exc x p ρ' => rw [hm] at h; exact h
  | stk => rw [hm] at h; exact h
end

/-! ### comparisons -/
def gEqS : D → D → Option Bool
  | .int i, .int j => some (i == j)
  | .str i, .str j => some (i == j)
  | .bool i, .bool j => some (i == j)
  | .none, .none => some true
  | .none, .int _ => some false
  | .none, .str _ => some false
  | .none, .bool _ => some false
  | .int _, .none => some false
  | .str _, .none => some false
  | .bool _, .none => some false
  | .int _, .str _ => some false
  | .str _, .int _ => some false
  | .bool _, .str _ => some false
  | .str _, .bool _ => some false
  | _, _ => none
def eqD (d e : D) : Option Bool := match gEqS d e with
  | some b => some b
  | none => if SeqAt.shaped d = true ∧ SeqAt.shaped e = true then some (PyData.eqv d e) else none
def gEq (d e : D) : Option RV := (eqD d e).map fun b => .val (.bool b)
def gNe (d e : D) : Option RV := (eqD d e).map fun b => .val (.bool (!b))
section
variable {X : Cx} {g : G} {a b : Expr} {ma mb : M EV} {pos : Pos}
theorem eq_scal {x y : V} {K : Fg} {F H : Hp} {d e : D} {c : Bool} (hx : Vw K F H x d) (hy : Vw K F H y e) (h : gEqS d e = some c) : scal x y = true ∧ decide (x = y) = c := by
  unfold gEqS at h
  split at h
  all_goals first | (cases h; done) | skip
  all_goals (injection h with h; subst h)
  · rw [hx.int, hy.int]; exact ⟨rfl, dec_int⟩
  · rw [hx.str, hy.str]; exact ⟨rfl, dec_str⟩
  · rw [hx.bl, hy.bl]; exact ⟨rfl, dec_bl⟩
  · rw [hx.non, hy.non]; exact ⟨rfl, by decide⟩
  · rw [hx.non, hy.int]; exact ⟨rfl, decide_eq_false (fun z => nomatch z)⟩
  · rw [hx.non, hy.str]; exact ⟨rfl, decide_eq_false (fun z => nomatch z)⟩
  · rw [hx.non, hy.bl]; exact ⟨rfl, decide_eq_false (fun z => nomatch z)⟩
  · rw [hx.int, hy.non]; exact ⟨rfl, decide_eq_false (fun z => nomatch z)⟩
  · rw [hx.str, hy.non]; exact ⟨rfl, decide_eq_false (fun z => nomatch z)⟩
  · rw [hx.bl, hy.non]; exact ⟨rfl, decide_eq_false (fun z => nomatch z)⟩
  · rw [hx.int, hy.str]; exact ⟨rfl, decide_eq_false (fun z => nomatch z)⟩
  · rw [hx.str, hy.int]; exact ⟨rfl, decide_eq_false (fun z => nomatch z)⟩
  · rw [hx.bl, hy.str]; exact ⟨rfl, decide_eq_false (fun z => nomatch z)⟩
  · rw [hx.str, hy.bl]; exact ⟨rfl, decide_eq_false (fun z => nomatch z)⟩
theorem od_eq (hu : X.A.units + 64 < cLine) : OpD X (compareOp .Eq) gEq := by
  intro F H x y dx dy r Q ex hx hy hf q
  unfold gEq eqD at hf
  split at hf
  · rename_i c h
    cases hf
    obtain ⟨h1, h2⟩ := eq_scal hx hy h
    exact ⟨_, op_eq, h1, by rw [h2]; exact q.same ex (.bl _)⟩
  · split at hf
    · rename_i h
      cases hf
      exact ⟨_, op_eqD hu, dx, dy, hx.dp ex, hy.dp ex, h.1, h.2, q.same ex (.bl _)⟩
    · cases hf
theorem od_ne (hu : X.A.units + 64 < cLine) : OpD X (compareOp .NotEq) gNe := by
  intro F H x y dx dy r Q ex hx hy hf q
  unfold gNe eqD at hf
  split at hf
  · rename_i c h
    cases hf
    obtain ⟨h1, h2⟩ := eq_scal hx hy h
    exact ⟨_, op_ne, h1, by rw [h2]; exact q.same ex (.bl _)⟩
  · split at hf
    · rename_i h
      cases hf
      exact ⟨_, op_neD hu, dx, dy, hx.dp ex, hy.dp ex, h.1, h.2, q.same ex (.bl _)⟩
    · cases hf
def gLt : D → D → Option RV
  | .int i, .int j => some (.val (.bool (decide (i < j))))
  | .str i, .str j => some (.val (.bool (decide (i.cps.toList < j.cps.toList))))
  | _, _ => none
def gLe : D → D → Option RV
  | .int i, .int j => some (.val (.bool (decide (i ≤ j))))
  | _, _ => none
def gGt : D → D → Option RV
  | .int i, .int j => some (.val (.bool (decide (j < i))))
  | _, _ => none
def gGe : D → D → Option RV
  | .int i, .int j => some (.val (.bool (decide (j ≤ i))))
  | _, _ => none
theorem od_lt : OpD X (compareOp .Lt) gLt := by
  intro F H x y dx dy r Q ex hx hy hf q
  unfold gLt at hf
  split at hf
  · cases hf
    exact ⟨_, op_lt, _, _, hx.int, hy.int, q.same ex (.bl _)⟩
  · cases hf
    exact ⟨_, op_lt_str, _, _, hx.str, hy.str, q.same ex (.bl _)⟩
  · cases hf
theorem od_le : OpD X (compareOp .LtE) gLe := by
  intro F H x y dx dy r Q ex hx hy hf q
  unfold gLe at hf
  split at hf
  · cases hf
    exact ⟨_, op_le, _, _, hx.int, hy.int, q.same ex (.bl _)⟩
  · cases hf
theorem od_gt : OpD X (compareOp .Gt) gGt := by
  intro F H x y dx dy r Q ex hx hy hf q
  unfold gGt at hf
  split at hf
  · cases hf
    exact ⟨_, op_gt, _, _, hx.int, hy.int, q.same ex (.bl _)⟩
  · cases hf
theorem od_ge : OpD X (compareOp .GtE) gGe := by
  intro F H x y dx dy r Q ex hx hy hf q
  unfold gGe at hf
  split at hf
  · cases hf
    exact ⟨_, op_ge, _, _, hx.int, hy.int, q.same ex (.bl _)⟩
  · cases hf
def isNone : D → Bool
  | .none => true
  | _ => false
theorem isNone_of {K : Fg} {F H : Hp} {x : V} {d : D} (h : Vw K F H x d) : decide (x = .non) = isNone d := by
  rcases h with h | ⟨p, rfl, c⟩
  · cases h <;> first | exact decide_eq_true rfl | exact decide_eq_false (fun z => nomatch z)
  · obtain ⟨_, _, rfl, _⟩ := c.lst
    exact decide_eq_false (fun z => nomatch z)
def gIs : D → D → Option RV
  | d, .none => some (.val (.bool (isNone d)))
  | _, _ => none
def gIsNot : D → D → Option RV
  | d, .none => some (.val (.bool (!isNone d)))
  | _, _ => none
theorem od_is : OpD X (compareOp .Is) gIs := by
  intro F H x y dx dy r Q ex hx hy hf q
  unfold gIs at hf
  split at hf
  · cases hf
    exact ⟨_, op_isN, hy.non, by rw [isNone_of hx]; exact q.same ex (.bl _)⟩
  · cases hf
theorem od_isnot : OpD X (compareOp .IsNot) gIsNot := by
  intro F H x y dx dy r Q ex hx hy hf q
  unfold gIsNot at hf
  split at hf
  · cases hf
    exact ⟨_, op_notN, hy.non, by rw [isNone_of hx]; exact q.same ex (.bl _)⟩
  · cases hf
/-- in: a sign in a text; a flat value in a row of flat ones -/
def flatD : D → Bool
  | .none => true
  | .bool _ => true
  | .int _ => true
  | .str _ => true
  | _ => false
theorem flat_of {K : Fg} {F : Hp} {x : V} {d : D} (h : Rep K F x d) : flatV x = flatD d := by cases h <;> rfl
theorem eqV_eqv {K : Fg} {F : Hp} {x y : V} {d e : D} (h : Rep K F x d) (h' : Rep K F y e) (fd : flatD d = true) (fe : flatD e = true) : eqV x y = PyData.eqv d e := by
  cases h <;> cases h' <;> first | (cases fd; done) | (cases fe; done) | (simp only [eqV, PyData.eqv]; done) | rfl
theorem inV_any {K : Fg} {F : Hp} {x : V} {d : D} (h : Rep K F x d) (fd : flatD d = true) : ∀ {xs : List V} {ds : List D}, RepA K F xs ds → ds.all flatD = true → xs.all flatV = true ∧ inV x xs = ds.any fun z => PyData.eqv z d
  | _, _, .nil, _ => ⟨rfl, rfl⟩
  | _, _, .cons a b, f => by
    rw [List.all_cons, Bool.and_eq_true] at f
    obtain ⟨h1, h2⟩ := inV_any h fd b f.2
    refine ⟨by rw [List.all_cons, flat_of a, f.1, h1] <;> rfl, ?_⟩
    show (eqV _ x || inV x _) = _
    rw [eqV_eqv a h f.1 fd, h2, List.any_cons]
def inD : D → D → Option Bool
  | .str x, .str z => match x.cps.toList with
    | [c] => some (decide (c ∈ z.cps.toList))
    | _ => none
  | d, .list ds => if flatD d = true ∧ ds.all flatD = true then some (ds.any fun z => PyData.eqv z d) else none
  | d, .tuple ds => if flatD d = true ∧ ds.all flatD = true then some (ds.any fun z => PyData.eqv z d) else none
  | _, _ => none
def gIn (d e : D) : Option RV := (inD d e).map fun b => .val (.bool b)
def gNotIn (d e : D) : Option RV := (inD d e).map fun b => .val (.bool (!b))
theorem Vw.flat {K : Fg} {F H : Hp} {x : V} {d : D} (h : Vw K F H x d) (f : flatD d = true) : Rep K F x d := by
  rcases h with h | ⟨p, rfl, c⟩
  · exact h
  · obtain ⟨_, _, rfl, _⟩ := c.lst; cases f
theorem sign_eq {x : Str} {c : Nat} (h : x.cps.toList = [c]) : x = ⟨#[c]⟩ := by
  obtain ⟨cs⟩ := x
  congr
  exact Array.ext' h
theorem in_cases {K : Fg} {F H : Hp} {x y : V} {dx dy : D} {c : Bool} (ex : Ex F H) (hx : Vw K F H x dx) (hy : Vw K F H y dy) (hf : inD dx dy = some c) :
    (∃ (s : Nat) (z : Str), x = .str ⟨#[s]⟩ ∧ y = .str z ∧ decide (s ∈ z.cps.toList) = c) ∨ (∃ p xs, y = .ref p ∧ (SqL K H p xs ∨ SqT K H p xs) ∧ flatV x = true ∧ xs.all flatV = true ∧ inV x xs = c) := by
  unfold inD at hf
  split at hf
  · split at hf
    · rename_i s hs
      cases hf
      exact .inl ⟨s, _, by rw [hx.str, sign_eq hs], hy.str, rfl⟩
    · cases hf
  · split at hf
    · rename_i h
      cases hf
      obtain ⟨a, us, rfl, ha, ra⟩ := hy.lst ex
      have kx := hx.flat h.1
      obtain ⟨h1, h2⟩ := inV_any kx h.1 ra h.2
      exact .inr ⟨a, us, rfl, .inl ha, (flat_of kx).trans h.1, h1, h2⟩
    · cases hf
  · split at hf
    · rename_i h
      cases hf
      obtain ⟨a, us, rfl, ha, ra⟩ := hy.tup ex
      have kx := hx.flat h.1
      obtain ⟨h1, h2⟩ := inV_any kx h.1 ra h.2
      exact .inr ⟨a, us, rfl, .inr ha, (flat_of kx).trans h.1, h1, h2⟩
    · cases hf
  · cases hf
theorem od_in : OpD X (compareOp .In) gIn := by
  intro F H x y dx dy r Q ex hx hy hf q
  unfold gIn at hf
  obtain ⟨c, hc, rfl⟩ := Option.map_eq_some_iff.mp hf
  rcases in_cases ex hx hy hc with ⟨s, z, e1, e2, e3⟩ | ⟨p, xs, e1, e2, e3, e4, e5⟩
  · exact ⟨_, op_in_sign, s, z, e1, e2, by rw [e3]; exact q.same ex (.bl _)⟩
  · refine ⟨_, op_in_seq, p, xs, e1, e2, e3, e4, ?_⟩
    rw [if_neg Bool.false_ne_true, e5]
    exact q.same ex (.bl _)
theorem od_notin : OpD X (compareOp .NotIn) gNotIn := by
  intro F H x y dx dy r Q ex hx hy hf q
  unfold gNotIn at hf
  obtain ⟨c, hc, rfl⟩ := Option.map_eq_some_iff.mp hf
  rcases in_cases ex hx hy hc with ⟨s, z, e1, e2, e3⟩ | ⟨p, xs, e1, e2, e3, e4, e5⟩
  · exact ⟨_, op_notIn_sign, s, z, e1, e2, by rw [e3]; exact q.same ex (.bl _)⟩
  · refine ⟨_, op_notIn_seq, p, xs, e1, e2, e3, e4, ?_⟩
    rw [if_pos rfl, e5]
    exact q.same ex (.bl _)

/-! ### truths as values -/
def Env.bool (ρ : Env) (e : EV) : Option Bool := match ρ.cont e with
  | some (.bool b) => some b
  | _ => none
def mBool (m : M EV) : M Bool := fun ρ => (m ρ).bind fun e ρ1 => match ρ1.bool e with
  | some b => .ok b ρ1
  | none => .stk
def mAndV (ma mb : M EV) : M EV := fun ρ => (mBool ma ρ).bind fun b ρ1 => if b = true then mb ρ1 else .ok (.val (.bool false)) ρ1
def mOrV (ma mb : M EV) : M EV := fun ρ => (mBool ma ρ).bind fun b ρ1 => if b = true then .ok (.val (.bool true)) ρ1 else mb ρ1
def mNotV (ma : M EV) : M EV := fun ρ => (mBool ma ρ).bind fun b ρ1 => .ok (.val (.bool (!b))) ρ1
theorem Env.bool_of {ρ : Env} {e : EV} {b : Bool} (h : ρ.bool e = some b) : ρ.cont e = some (.bool b) := by
  unfold Env.bool at h
  split at h
  · rename_i c hc
    cases h
    exact hc
  · cases h
/-- a value that is a truth -/
theorem bool_end {α : Type} {K : Fg} {F H : Hp} {σ : L2.St} {ρ : Env} {m : M EV} {f : Bool → Env → Out α} {Q : α → Hp → Prop} {Q' : Bool → Hp → Prop} (h : EndG K g F H σ ρ ((mBool m ρ).bind f) Q)
    (k : ∀ b ρ1 F1 H1, Sta K g F1 H1 σ ρ1 → Fr K g F H F1 H1 σ ρ ρ1 → EndG K g F1 H1 σ ρ1 (f b ρ1) Q → Q' b H1) : EndE K g F H σ ρ (m ρ) (fun x H1 => ∃ c, x = .bl c ∧ Q' c H1) := by
  have h2 : EndG K g F H σ ρ ((m ρ).bind fun e ρ1 => (match ρ1.bool e with
      | some b => Out.ok b ρ1
      | none => .stk : Out Bool).bind f) Q := by
    have e : (mBool m ρ).bind f = (m ρ).bind fun e ρ1 => (match ρ1.bool e with
      | some b => Out.ok b ρ1
      | none => .stk : Out Bool).bind f := by
      unfold mBool
      cases m ρ <;> rfl
    rw [← e]
    exact h
  refine EndG.seqE h2 fun e ρ1 v F1 H1 P h3 => ?_
  cases hb : ρ1.bool e with
  | none => rw [hb] at h3; exact False.elim h3
  | some b =>
    rw [hb] at h3
    have hv := (P.inf.vw P.st (Env.bool_of hb)).bl
    exact ⟨b, hv, k b ρ1 F1 H1 P.st P.fr h3⟩
theorem bool_endE {K : Fg} {F H : Hp} {σ : L2.St} {ρ : Env} {m : M EV} {f : Bool → Env → Out EV} {Q : VK} {Q' : Bool → Hp → Prop} (h : EndE K g F H σ ρ ((mBool m ρ).bind f) Q)
    (k : ∀ b ρ1 F1 H1, Sta K g F1 H1 σ ρ1 → Fr K g F H F1 H1 σ ρ ρ1 → EndE K g F1 H1 σ ρ1 (f b ρ1) Q → Q' b H1) : EndE K g F H σ ρ (m ρ) (fun x H1 => ∃ c, x = .bl c ∧ Q' c H1) := by
  have h2 : EndE K g F H σ ρ ((m ρ).bind fun e ρ1 => (match ρ1.bool e with
      | some b => Out.ok b ρ1
      | none => .stk : Out Bool).bind f) Q := by
    have e : (mBool m ρ).bind f = (m ρ).bind fun e ρ1 => (match ρ1.bool e with
      | some b => Out.ok b ρ1
      | none => .stk : Out Bool).bind f := by
      unfold mBool
      cases m ρ <;> rfl
    rw [← e]
    exact h
  refine EndE.seq h2 fun e ρ1 v F1 H1 P h3 => ?_
  cases hb : ρ1.bool e with
  | none => rw [hb] at h3; exact False.elim h3
  | some b =>
    rw [hb] at h3
    have hv := (P.inf.vw P.st (Env.bool_of hb)).bl
    exact ⟨b, hv, k b ρ1 F1 H1 P.st P.fr h3⟩
theorem re_and {rest : List Expr} (ha : RE X g a ma) (hb : RE X g (.BoolOp .And (b :: rest) pos) mb) : RE X g (.BoolOp .And (a :: b :: rest) pos) (mAndV ma mb) := by
  refine PE.to (pe_and ha hb) ?_
  rintro σ H Q ⟨F, ρ, S, h⟩
  refine ⟨F, ρ, S, bool_endE h fun b ρ1 F1 H1 S1 f1 h1 => ?_⟩
  cases b with
  | true => exact ⟨F1, ρ1, S1, h1⟩
  | false => exact EndE.here S1 (e := .val (.bool false)) (.bl false) (fun _ z => nomatch z) h1
theorem re_or {rest : List Expr} (ha : RE X g a ma) (hb : RE X g (.BoolOp .Or (b :: rest) pos) mb) : RE X g (.BoolOp .Or (a :: b :: rest) pos) (mOrV ma mb) := by
  refine PE.to (pe_or ha hb) ?_
  rintro σ H Q ⟨F, ρ, S, h⟩
  refine ⟨F, ρ, S, bool_endE h fun b ρ1 F1 H1 S1 f1 h1 => ?_⟩
  cases b with
  | true => exact EndE.here S1 (e := .val (.bool true)) (.bl true) (fun _ z => nomatch z) h1
  | false => exact ⟨F1, ρ1, S1, h1⟩
theorem re_one {op} (ha : RE X g a ma) : RE X g (.BoolOp op [a] pos) ma := pe_one ha
theorem re_not (ha : RE X g a ma) : RE X g (.UnaryOp .Not a pos) (mNotV ma) := by
  refine PE.to (pe_not ha) ?_
  rintro σ H Q ⟨F, ρ, S, h⟩
  refine ⟨F, ρ, S, bool_endE h fun b ρ1 F1 H1 S1 f1 h1 => ?_⟩
  exact EndE.here S1 (e := .val (.bool (!b))) (.bl _) (fun _ z => nomatch z) h1

/-! ### tests -/
def RT (X : Cx) (g : G) (e : Expr) (m : M Bool) : Prop := PT X e (tG X.K g m)
def RW (X : Cx) (g : G) (e : Expr) (m : M Bool) : Prop := PW X e (tG X.K g m)
theorem PW.to {X : Cx} {e : Expr} {t t' : TT} (h : PW X e t) (i : ∀ σ H Q, t' σ H Q → t σ H Q) : PW X e t' := ⟨fun wh pins s σ H Q I q => h.run wh pins s σ H Q I (i σ H Q q)⟩
theorem RW.rt {m : M Bool} (h : RW X g a m) : RT X g a m := PW.pt h
def mAnd (ma mb : M Bool) : M Bool := fun ρ => (ma ρ).bind fun b ρ1 => if b = true then mb ρ1 else .ok false ρ1
def mOr (ma mb : M Bool) : M Bool := fun ρ => (ma ρ).bind fun b ρ1 => if b = true then .ok true ρ1 else mb ρ1
def mNot (ma : M Bool) : M Bool := fun ρ => (ma ρ).bind fun b ρ1 => .ok (!b) ρ1
theorem bool_out {K : Fg} {F H : Hp} {σ : L2.St} {ρ : Env} {m : M EV} {Q : Bool → Hp → Prop} (h : EndG K g F H σ ρ (mBool m ρ) Q) : EndE K g F H σ ρ (m ρ) (fun x H1 => ∃ c, x = .bl c ∧ Q c H1) := by
  refine bool_end (f := fun b ρ => .ok b ρ) (Q := Q) ?_ fun b ρ1 F1 H1 S1 f1 h1 => h1 F1 H1 S1 Fr.refl
  have e : (mBool m ρ).bind (fun b ρ => Out.ok b ρ) = mBool m ρ := by cases mBool m ρ <;> rfl
  rw [e]
  exact h
theorem rt_val (ha : RE X g a ma) (he : ∀ whole, isTrue a X.env whole = (do let v ← whole; standAt a.pos; holding [v] (truthy v)) := by intro _; rfl) : RT X g a (mBool ma) :=
  PT.to (pt_val ha he) fun σ H Q ⟨F, ρ, S, h⟩ => ⟨F, ρ, S, bool_out h⟩
theorem rt_cmp {op : CmpOp} {f : D → D → Option RV} (ho : OpD X (compareOp op) f) (ha : RE X g a ma) (hb : RE X g b mb) (hm : behindInMarks op b = false := by rfl) : RT X g (.Compare a [op] [b] pos) (mBool (mBin f ma mb)) := by
  refine PT.to (pt_cmpR rU_ok ha hb hm) fun σ H Q ⟨F, ρ, S, h⟩ => ?_
  exact bin_end ho σ H _ ⟨F, ρ, S, bool_out h⟩
theorem rt_not {m : M Bool} (ha : RT X g a m) : RT X g (.UnaryOp .Not a pos) (mNot m) :=
  PT.to (pt_not ha) fun σ H Q ⟨F, ρ, S, h⟩ => ⟨F, ρ, S, EndG.seqG h fun b ρ1 F1 H1 S1 f1 h1 => h1 F1 H1 S1 Fr.refl⟩
theorem rw_and1 {m : M Bool} (ha : RT X g a m) : RW X g (.BoolOp .And [a] pos) m := pw_and1 ha
theorem rw_or1 {m : M Bool} (ha : RT X g a m) : RW X g (.BoolOp .Or [a] pos) m := pw_or1 ha
theorem rw_and {rest : List Expr} {m n : M Bool} (ha : RT X g a m) (hb : RW X g (.BoolOp .And (b :: rest) pos) n) : RW X g (.BoolOp .And (a :: b :: rest) pos) (mAnd m n) :=
  PW.to (pw_and ha hb) fun σ H Q ⟨F, ρ, S, h⟩ => ⟨F, ρ, S, EndG.seqG h fun b ρ1 F1 H1 S1 f1 h1 => by
    cases b with
    | true => exact ⟨F1, ρ1, S1, h1⟩
    | false => exact h1 F1 H1 S1 Fr.refl⟩
theorem rw_or {rest : List Expr} {m n : M Bool} (ha : RT X g a m) (hb : RW X g (.BoolOp .Or (b :: rest) pos) n) : RW X g (.BoolOp .Or (a :: b :: rest) pos) (mOr m n) :=
  PW.to (pw_or ha hb) fun σ H Q ⟨F, ρ, S, h⟩ => ⟨F, ρ, S, EndG.seqG h fun b ρ1 F1 H1 S1 f1 h1 => by
    cases b with
    | true => exact h1 F1 H1 S1 Fr.refl
    | false => exact ⟨F1, ρ1, S1, h1⟩⟩
def mIf (c : M Bool) (ma mb : M EV) : M EV := fun ρ => (c ρ).bind fun b ρ1 => if b = true then ma ρ1 else mb ρ1
theorem re_if {c : Expr} {m : M Bool} (hc : RT X g c m) (ha : RE X g a ma) (hb : RE X g b mb) : RE X g (.IfExp c a b pos) (mIf m ma mb) :=
  PE.to (pe_ifExp hc ha hb) fun σ H Q ⟨F, ρ, S, h⟩ => ⟨F, ρ, S, EndE.seqG h fun b ρ1 F1 H1 S1 f1 h1 => by
    cases b with
    | true => exact ⟨F1, ρ1, S1, h1⟩
    | false => exact ⟨F1, ρ1, S1, h1⟩⟩
/-- a < b <= c .. of ints -/
def mChain (f f' : D → D → Option RV) (ma mb mc : M EV) : M EV := fun ρ => (ma ρ).bind fun x ρ1 => (mb ρ1).bind fun y ρ2 => match ρ2.cont x, ρ2.cont y with
  | some dx, some dy => match f dx dy with
    | some (.val (.bool true)) => mBin f' (fun ρ => .ok y ρ) mc ρ2
    | some (.val (.bool false)) => .ok (.val (.bool false)) ρ2
    | _ => .stk
  | _, _ => .stk
end
end LW
set_option Elab.async false
set_option linter.all false
set_option maxRecDepth 100000
set_option maxHeartbeats 2000000
/-! LW4: chains, arguments, displays, subscripts, slices, built-ins. -/
namespace LW
open PySem PySem.Spec PyProof.Rows L2

/-! ### a < b <= c -/
section
variable {X : Cx} {g : G} {a b c : Expr} {ma mb mc : M EV} {pos : Pos}
theorem chain_end {f f' : D → D → Option RV} {fo fo' : R2} (hk : ∀ F H x y dx dy r Q, Ex F H → Vw X.K F H x dx → Vw X.K F H y dy → f dx dy = some r → PR X.K F H r Q → fo x y H Q)
    (hk' : ∀ F H x y dx dy r Q, Ex F H → Vw X.K F H x dx → Vw X.K F H y dy → f' dx dy = some r → PR X.K F H r Q → fo' x y H Q) :
    ∀ σ H Q, tD X.K g (mChain f f' ma mb mc) σ H Q → tChain fo fo' (tD X.K g ma) (tD X.K g mb) (tD X.K g mc) σ H Q := by
  rintro σ H Q ⟨F, ρ, S, h⟩
  refine ⟨F, ρ, S, EndE.seq h fun a ρ1 v F1 H1 P1 h1 => ⟨F1, ρ1, P1.st, EndE.seq h1 fun b ρ2 w F2 H2 P2 h2 => ?_⟩⟩
  have I1 := P1.inf.mono P2.fr
  cases ha : ρ2.cont a with
  | none => rw [ha] at h2; exact False.elim h2
  | some dx =>
    cases hb : ρ2.cont b with
    | none => rw [ha, hb] at h2; exact False.elim h2
    | some dy =>
      rw [ha, hb] at h2
      have vx := I1.vw P2.st ha
      have vy := P2.inf.vw P2.st hb
      have h2 : EndE X.K g F2 H2 σ ρ2 (match f dx dy with
        | some (.val (.bool true)) => mBin f' (fun ρ => .ok b ρ) mc ρ2
        | some (.val (.bool false)) => .ok (.val (.bool false)) ρ2
        | _ => .stk) Q := h2
      have go : ∀ k : Bool, f dx dy = some (.val (.bool k)) → fo v w H2 (fun z H3 => ∃ k, z = .bl k ∧ (if k = true then tD X.K g mc σ H3 fun w' H4 => fo' w w' H4 Q else Q (.bl false) H3)) := fun k hf => by
        rw [hf] at h2
        refine hk F2 H2 v w dx dy _ _ P2.st.ex vx vy hf ?_
        intro z F3 H3 gr r
        cases r
        refine ⟨k, rfl, ?_⟩
        have S3 := P2.st.grow gr
        cases k with
        | false =>
          exact EndE.here S3 (e := .val (.bool false)) (.bl false) (fun _ z => nomatch z) (EndE.rebase (show EndE X.K g F2 H2 σ ρ2 (.ok (.val (.bool false)) ρ2) Q from h2) gr.fr)
        | true =>
          have h3 : EndE X.K g F3 H3 σ ρ2 (mBin f' (fun ρ => .ok b ρ) mc ρ2) Q := EndE.rebase (show EndE X.K g F2 H2 σ ρ2 (mBin f' (fun ρ => .ok b ρ) mc ρ2) Q from h2) gr.fr
          have iy := P2.inf.mono (gr.fr (g := g) (σ := σ) (ρ := ρ2))
          refine ⟨F3, ρ2, S3, EndE.seq h3 fun c ρ4 u F4 H4 P4 h4 => ?_⟩
          have i4 := iy.mono P4.fr
          cases hb' : ρ4.cont b with
          | none => rw [hb'] at h4; exact False.elim h4
          | some dy' =>
            cases hc : ρ4.cont c with
            | none => rw [hb', hc] at h4; exact False.elim h4
            | some dz =>
              rw [hb', hc] at h4
              have h4 : EndE X.K g F4 H4 σ ρ4 (opt ρ4 (f' dy' dz)) Q := h4
              cases hf' : f' dy' dz with
              | none => rw [hf'] at h4; exact False.elim h4
              | some r => rw [hf'] at h4; exact hk' F4 H4 w u dy' dz r Q P4.st.ex (i4.vw P4.st hb') (P4.inf.vw P4.st hc) hf' (EndE.pr P4.st h4)
      split at h2
      · rename_i hf; exact go true hf
      · rename_i hf; exact go false hf
      · exact False.elim h2
theorem re_chain {op op' : CmpOp} {f f' : D → D → Option RV} (ho : OpD X (compareOp op) f) (ho' : OpD X (compareOp op') f') (ha : RE X g a ma) (hb : RE X g b mb) (hc : RE X g c mc)
    (hm : lastMarks [op, op'] [b, c] = false := by with_unfolding_all rfl) : RE X g (.Compare a [op, op'] [b, c] pos) (mChain f f' ma mb mc) :=
  PE.to (pe_chain rU_ok rU_ok ha hb hc hm) (chain_end ho ho')
theorem rt_chain {op op' : CmpOp} {f f' : D → D → Option RV} (ho : OpD X (compareOp op) f) (ho' : OpD X (compareOp op') f') (ha : RE X g a ma) (hb : RE X g b mb) (hc : RE X g c mc)
    (hm : lastMarks [op, op'] [b, c] = false := by with_unfolding_all rfl) : RT X g (.Compare a [op, op'] [b, c] pos) (mBool (mChain f f' ma mb mc)) := by
  refine PT.to (pt_chain rU_ok rU_ok ha hb hc hm) fun σ H Q ⟨F, ρ, S, h⟩ => ?_
  exact chain_end ho ho' σ H _ ⟨F, ρ, S, bool_out h⟩
end

/-! ### arguments -/
def InFA (K : Fg) (g : G) (F H : Hp) (σ : L2.St) (ρ : Env) : List V → List EV → Prop
  | [], [] => True
  | v :: vs, e :: es => InF K g F H σ ρ v e ∧ (∀ d, e ≠ .own d) ∧ InFA K g F H σ ρ vs es
  | _, _ => False
section
variable {K : Fg} {g : G} {F H F1 H1 F' H' F'' H'' : Hp} {σ : L2.St} {ρ ρ1 ρ' ρ'' : Env} {v : V} {e : EV} {d : D}
theorem InFA.mono (f : Fr K g F H F' H' σ ρ ρ') : ∀ {vs : List V} {es : List EV}, InFA K g F H σ ρ vs es → InFA K g F' H' σ ρ' vs es
  | [], [], _ => trivial
  | v :: vs, e :: es, h => ⟨h.1.mono f, h.2.1, InFA.mono f h.2.2⟩
  | [], _ :: _, h => h.elim
  | _ :: _, [], h => h.elim
theorem InFA.length : ∀ {vs : List V} {es : List EV}, InFA K g F H σ ρ vs es → vs.length = es.length
  | [], [], _ => rfl
  | v :: vs, e :: es, h => congrArg Nat.succ (InFA.length h.2.2)
  | [], _ :: _, h => h.elim
  | _ :: _, [], h => h.elim
def EndA (K : Fg) (g : G) (F H : Hp) (σ : L2.St) (ρ : Env) (o : Out (List EV)) (Q : List V → Hp → Prop) : Prop := match o with
  | .ok es ρ' => ∀ vs F' H', Sta K g F' H' σ ρ' → Fr K g F H F' H' σ ρ ρ' → InFA K g F' H' σ ρ' vs es → Q vs H'
  | .exc x p ρ' => ∀ dx v F' H', PostX K g F H F' H' σ ρ ρ' dx v x p → g.W (.ref (g.C x)) (some dx) σ H'
  | .stk => False
def tAr (K : Fg) (g : G) (m : M (List EV)) : TA := fun σ H Q => ∃ F ρ, Sta K g F H σ ρ ∧ EndA K g F H σ ρ (m ρ) Q
theorem EndA.rebase {o : Out (List EV)} {Q : List V → Hp → Prop} (h : EndA K g F H σ ρ o Q) (f : Fr K g F H F1 H1 σ ρ ρ1) : EndA K g F1 H1 σ ρ1 o Q := by
  cases o with
  | ok e ρ' => exact fun vs F' H' S P i => h vs F' H' S (f.trans P) i
  | exc x p ρ' => exact fun dx v F' H' P => h dx v F' H' ⟨P.st, f.trans P.fr, P.rep, P.xd⟩
  | stk => exact h
theorem EndA.seqE {m : M EV} {f : EV → Env → Out (List EV)} {Q : List V → Hp → Prop} {Q' : VK} (h : EndA K g F H σ ρ ((m ρ).bind f) Q)
    (k : ∀ e ρ1 v F1 H1, PostE K g F H F1 H1 σ ρ ρ1 v e → EndA K g F1 H1 σ ρ1 (f e ρ1) Q → Q' v H1) : EndE K g F H σ ρ (m ρ) Q' := by
  cases hm : m ρ with
  | ok e ρ1 =>
    rw [hm] at h
    exact fun v F1 H1 P => k e ρ1 v F1 H1 P (EndA.rebase (show EndA K g F H σ ρ (f e ρ1) Q from h) P.fr)
  | exc x p ρ' => rw [hm] at h; exact h
  | stk => rw [hm] at h; exact h
theorem EndA.seqA {m : M (List EV)} {f : List EV → Env → Out (List EV)} {Q Q' : List V → Hp → Prop} (h : EndA K g F H σ ρ ((m ρ).bind f) Q)
    (k : ∀ es ρ1 vs F1 H1, Sta K g F1 H1 σ ρ1 → Fr K g F H F1 H1 σ ρ ρ1 → InFA K g F1 H1 σ ρ1 vs es → EndA K g F1 H1 σ ρ1 (f es ρ1) Q → Q' vs H1) : EndA K g F H σ ρ (m ρ) Q' := by
  cases hm : m ρ with
  | ok es ρ1 =>
    rw [hm] at h
    exact fun vs F1 H1 S P i => k es ρ1 vs F1 H1 S P i (EndA.rebase (show EndA K g F H σ ρ (f es ρ1) Q from h) P)
  | exc x p ρ' => rw [hm] at h; exact h
  | stk => rw [hm] at h; exact h
theorem EndE.seqA {m : M (List EV)} {f : List EV → Env → Out EV} {Q : VK} {Q' : List V → Hp → Prop} (h : EndE K g F H σ ρ ((m ρ).bind f) Q)
    (k : ∀ es ρ1 vs F1 H1, Sta K g F1 H1 σ ρ1 → Fr K g F H F1 H1 σ ρ ρ1 → InFA K g F1 H1 σ ρ1 vs es → EndE K g F1 H1 σ ρ1 (f es ρ1) Q → Q' vs H1) : EndA K g F H σ ρ (m ρ) Q' := by
  cases hm : m ρ with
  | ok es ρ1 =>
    rw [hm] at h
    exact fun vs F1 H1 S P i => k es ρ1 vs F1 H1 S P i (EndE.rebase (show EndE K g F H σ ρ (f es ρ1) Q from h) P)
  | exc x p ρ' => rw [hm] at h; exact h
  | stk => rw [hm] at h; exact h
/-- an argument: a new cell is frozen at once -/
def EV.arg : EV → EV
  | .own d => .val d
  | e => e
def mNil : M (List EV) := fun ρ => .ok [] ρ
def mCons (m : M EV) (ms : M (List EV)) : M (List EV) := fun ρ => (m ρ).bind fun e ρ1 => (ms ρ1).bind fun es ρ2 => .ok (e.arg :: es) ρ2
theorem EV.arg_own (e : EV) : ∀ d, e.arg ≠ .own d := by
  cases e <;> intro d z <;> cases z
/-- an argument has come -/
theorem PostE.arg (P : PostE K g F H F' H' σ ρ ρ' v e) : ∃ F'', Sta K g F'' H' σ ρ' ∧ Fr K g F H F'' H' σ ρ ρ' ∧ InF K g F'' H' σ ρ' v e.arg := by
  cases e with
  | own d =>
    obtain ⟨F'', S, f, r⟩ := freezeE (x := (d, ρ')) P.st P.fr P.inf P.new rfl
    exact ⟨F'', S, f, r⟩
  | val d => exact ⟨F', P.st, P.fr, P.inf⟩
  | loc i => exact ⟨F', P.st, P.fr, P.inf⟩
  | io k => exact ⟨F', P.st, P.fr, P.inf⟩
  | raw w => exact ⟨F', P.st, P.fr, P.inf⟩
theorem EndA.seqArg {m : M EV} {f : EV → Env → Out (List EV)} {Q : List V → Hp → Prop} {Q' : VK} (h : EndA K g F H σ ρ ((m ρ).bind fun e ρ1 => f e.arg ρ1) Q)
    (k : ∀ e ρ1 v F1 H1, Sta K g F1 H1 σ ρ1 → Fr K g F H F1 H1 σ ρ ρ1 → InF K g F1 H1 σ ρ1 v e → (∀ d, e ≠ .own d) → EndA K g F1 H1 σ ρ1 (f e ρ1) Q → Q' v H1) : EndE K g F H σ ρ (m ρ) Q' := by
  cases hm : m ρ with
  | ok e ρ1 =>
    rw [hm] at h
    intro v F1 H1 P
    obtain ⟨F2, S2, f2, i2⟩ := P.arg
    exact k e.arg ρ1 v F2 H1 S2 f2 i2 e.arg_own (EndA.rebase (show EndA K g F H σ ρ (f e.arg ρ1) Q from h) f2)
  | exc x p ρ' => rw [hm] at h; exact h
  | stk => rw [hm] at h; exact h
end
def RA (X : Cx) (g : G) (es : List Expr) (m : M (List EV)) : Prop := PA X es (tAr X.K g m)
section
variable {X : Cx} {g : G} {a b c : Expr} {es : List Expr} {ma mb mc : M EV} {ms : M (List EV)} {pos : Pos}
theorem ra_nil : RA X g [] mNil := PA.to pa_nil fun σ H Q ⟨F, ρ, S, h⟩ => h [] F H S Fr.refl trivial
theorem ra_cons (ha : RE X g a ma) (hr : RA X g es ms) (hs : starEach (a :: es) X.env = (false, eval a X.env) :: starEach es X.env := by rfl) : RA X g (a :: es) (mCons ma ms) := by
  refine PA.to (pa_cons ha hr hs) ?_
  rintro σ H Q ⟨F, ρ, S, h⟩
  refine ⟨F, ρ, S, EndA.seqArg (f := fun e ρ1 => (ms ρ1).bind fun es ρ2 => .ok (e :: es) ρ2) h fun e ρ1 v F1 H1 S1 f1 i1 n1 h1 => ?_⟩
  refine ⟨F1, ρ1, S1, EndA.seqA h1 fun es ρ2 vs F2 H2 S2 f2 i2 h2 => ?_⟩
  exact h2 (v :: vs) F2 H2 S2 Fr.refl ⟨i1.mono f2, n1, i2⟩

/-! ### displays -/
def Env.frzA : Env → List EV → Option (List D × Env)
  | ρ, [] => some ([], ρ)
  | ρ, e :: es => (ρ.frz e).bind fun x => (Env.frzA x.2 es).map fun y => (x.1 :: y.1, y.2)
theorem freezeA {K : Fg} {H : Hp} {σ : L2.St} : ∀ {es : List EV} {vs : List V} {F : Hp} {ρ : Env} {y : List D × Env}, Sta K g F H σ ρ → InFA K g F H σ ρ vs es → ρ.frzA es = some y →
    ∃ F', Sta K g F' H σ y.2 ∧ Fr K g F H F' H σ ρ y.2 ∧ RepA K F' vs y.1
  | [], [], F, ρ, y, S, _, h => by
    cases h
    exact ⟨F, S, Fr.refl, .nil⟩
  | e :: es, v :: vs, F, ρ, y, S, i, h => by
    have h : ((ρ.frz e).bind fun x => (Env.frzA x.2 es).map fun y => (x.1 :: y.1, y.2)) = some y := h
    obtain ⟨x, h1, h2⟩ := Option.bind_eq_some_iff.mp h
    obtain ⟨z, h3, rfl⟩ := Option.map_eq_some_iff.mp h2
    obtain ⟨F1, S1, f1, r1⟩ := freezeE S Fr.refl i.1 (fun d p z => absurd z (i.2.1 d)) h1
    obtain ⟨F2, S2, f2, r2⟩ := freezeA S1 (InFA.mono f1 i.2.2) h3
    exact ⟨F2, S2, f1.trans f2, .cons (r1.mono f2.ex) r2⟩
  | [], _ :: _, _, _, _, _, i, _ => i.elim
  | _ :: _, [], _, _, _, _, i, _ => i.elim
def mTup (ms : M (List EV)) : M EV := fun ρ => (ms ρ).bind fun es ρ1 => match ρ1.frzA es with
  | some (ds, ρ2) => if ds.length ≤ sizeLine then .ok (.val (.tuple ds)) ρ2 else .stk
  | none => .stk
def mLst (ms : M (List EV)) : M EV := fun ρ => (ms ρ).bind fun es ρ1 => match ρ1.frzA es with
  | some (ds, ρ2) => if ds.length ≤ sizeLine then .ok (.own (.list ds)) ρ2 else .stk
  | none => .stk
theorem re_tup {x1 : Nat} (h : RA X g es ms) : RE X g (.Tuple es x1 pos) (mTup ms) := by
  refine PE.to (pe_tup h) ?_
  rintro σ H Q ⟨F, ρ, S, h⟩
  refine ⟨F, ρ, S, EndE.seqA h fun es ρ1 vs F1 H1 S1 f1 i1 h1 => ?_⟩
  cases hf : ρ1.frzA es with
  | none => rw [hf] at h1; exact False.elim h1
  | some y =>
    rw [hf] at h1
    obtain ⟨F2, S2, f2, r2⟩ := freezeA S1 i1 hf
    have h1 : EndE X.K g F1 H1 σ ρ1 (if y.1.length ≤ sizeLine then .ok (.val (.tuple y.1)) y.2 else .stk) Q := h1
    split at h1
    · rename_i hz
      exact ⟨by rw [r2.length]; exact hz, PR.newTup S2.ex (EndE.pr (r := .val (.tuple y.1)) S2 (h1.rebase f2)) r2⟩
    · exact False.elim h1
theorem re_lst (h : RA X g es ms) : RE X g (.List es pos) (mLst ms) := by
  refine PE.to (pe_lst h) ?_
  rintro σ H Q ⟨F, ρ, S, h⟩
  refine ⟨F, ρ, S, EndE.seqA h fun es ρ1 vs F1 H1 S1 f1 i1 h1 => ?_⟩
  cases hf : ρ1.frzA es with
  | none => rw [hf] at h1; exact False.elim h1
  | some y =>
    rw [hf] at h1
    obtain ⟨F2, S2, f2, r2⟩ := freezeA S1 i1 hf
    have h1 : EndE X.K g F1 H1 σ ρ1 (if y.1.length ≤ sizeLine then .ok (.own (.list y.1)) y.2 else .stk) Q := h1
    split at h1
    · rename_i hz
      exact ⟨by rw [r2.length]; exact hz, PR.newLst S2.ex (EndE.pr (r := .own (.list y.1)) S2 (h1.rebase f2)) r2⟩
    · exact False.elim h1

/-! ### one-place operations, subscripts, slices -/
def mUn (f : D → Option RV) (ma : M EV) : M EV := fun ρ => (ma ρ).bind fun a ρ1 => match ρ1.cont a with
  | some x => opt ρ1 (f x)
  | none => .stk
theorem un_end {f : D → Option RV} {fo : V → Hp → VK → Prop} (hk : ∀ F H x dx r Q, Ex F H → Vw X.K F H x dx → f dx = some r → PR X.K F H r Q → fo x H Q) :
    ∀ σ H Q, tD X.K g (mUn f ma) σ H Q → tD X.K g ma σ H fun x H1 => fo x H1 Q := by
  rintro σ H Q ⟨F, ρ, S, h⟩
  refine ⟨F, ρ, S, EndE.seq h fun a ρ1 v F1 H1 P1 h1 => ?_⟩
  cases ha : ρ1.cont a with
  | none => rw [ha] at h1; exact False.elim h1
  | some dx =>
    rw [ha] at h1
    have h1 : EndE X.K g F1 H1 σ ρ1 (opt ρ1 (f dx)) Q := h1
    cases hf : f dx with
    | none => rw [hf] at h1; exact False.elim h1
    | some r => rw [hf] at h1; exact hk F1 H1 v dx r Q P1.st.ex (P1.inf.vw P1.st ha) hf (EndE.pr P1.st h1)
def gNeg : D → Option RV
  | .int i => some (.val (.int (-i)))
  | _ => none
theorem re_neg (ha : RE X g a ma) : RE X g (.UnaryOp .USub a pos) (mUn gNeg ma) := by
  refine PE.to (pe_un rUn_ok ha) (un_end ?_)
  intro F H x dx r Q ex hx hf q
  unfold gNeg at hf
  split at hf
  · cases hf
    exact ⟨_, un_neg, _, hx.int, q.same ex (.int _)⟩
  · cases hf
/-- xs[i] -/
def gIx : D → D → Option RV
  | .list ds, .int i => (atI ds i).map .val
  | .tuple ds, .int i => (atI ds i).map .val
  | .str z, .int i => if z.length ≤ sizeLine then (atI z.cps.toList i).map fun c => .val (.str ⟨#[c]⟩) else none
  | _, _ => none
theorem atI_rep {K : Fg} {F : Hp} {xs : List V} {ds : List D} {i : Int} {d : D} (r : RepA K F xs ds) (h : atI ds i = some d) : ∃ v, atI xs i = some v ∧ Rep K F v d := by
  unfold atI at h ⊢
  obtain ⟨j, h1, h2⟩ := Option.bind_eq_some_iff.mp h
  obtain ⟨v, h3, h4⟩ := r.get h2
  exact ⟨v, by rw [r.length, h1]; exact h3, h4⟩
theorem re_ix (ha : RE X g a ma) (hb : RE X g b mb) (hs : PlainIx b := by intro _ _; rfl) : RE X g (.Subscript a b pos) (mBin gIx ma mb) := by
  refine PE.to (pe_ix rIxU_ok ha hb hs) (bin_end ?_)
  intro F H x y dx dy r Q ex hx hy hf q
  unfold gIx at hf
  split at hf
  · obtain ⟨d, hd, rfl⟩ := Option.map_eq_some_iff.mp hf
    obtain ⟨p, xs, rfl, hs, rs⟩ := hx.lst ex
    obtain ⟨v, h1, h2⟩ := atI_rep rs hd
    exact ⟨_, ix_list, p, xs, _, v, rfl, hy.int, hs, h1, q.same ex h2⟩
  · obtain ⟨d, hd, rfl⟩ := Option.map_eq_some_iff.mp hf
    obtain ⟨p, xs, rfl, hs, rs⟩ := hx.tup ex
    obtain ⟨v, h1, h2⟩ := atI_rep rs hd
    exact ⟨_, ix_tup, p, xs, _, v, rfl, hy.int, hs, h1, q.same ex h2⟩
  · split at hf
    · rename_i hz
      obtain ⟨c, hc, rfl⟩ := Option.map_eq_some_iff.mp hf
      exact ⟨_, ix_str, _, _, c, hx.str, hy.int, hz, hc, q.same ex (.str _)⟩
    · cases hf
  · cases hf
/-- a slice's part -/
def mPart : Option (M EV) → M (Option Int)
  | none => fun ρ => .ok none ρ
  | some m => fun ρ => (m ρ).bind fun e ρ1 => match ρ1.cont e with
    | some (.int i) => .ok (some i) ρ1
    | _ => .stk
def RO (X : Cx) (g : G) (e : Option Expr) (m : M (Option Int)) : Prop := PO X e (tG X.K g m)
theorem PO.to {e : Option Expr} {t t' : TO} (h : PO X e t) (i : ∀ σ H Q, t' σ H Q → t σ H Q) : PO X e t' := ⟨fun pins s σ H Q I q => h.run pins s σ H Q I (i σ H Q q)⟩
theorem ro_none : RO X g none (mPart none) := PO.to po_none fun σ H Q ⟨F, ρ, S, h⟩ => h F H S Fr.refl
theorem ro_some (ha : RE X g a ma) : RO X g (some a) (mPart (some ma)) := by
  refine PO.to (po_some ha) ?_
  rintro σ H Q ⟨F, ρ, S, h⟩
  refine ⟨F, ρ, S, EndG.seqE h fun e ρ1 v F1 H1 P h1 => ?_⟩
  have h1 : EndG X.K g F1 H1 σ ρ1 (match ρ1.cont e with
    | some (.int i) => .ok (some i) ρ1
    | _ => .stk) Q := h1
  split at h1
  · rename_i i hi
    exact ⟨i, (P.inf.vw P.st hi).int, h1 F1 H1 P.st Fr.refl⟩
  · exact False.elim h1
/-- x[lo:hi] -/
def cutD (ds : List D) (lo hi : Option Int) : List D := (ds.drop (HT.sIx ds.length 0 lo)).take (HT.sIx ds.length ds.length hi - HT.sIx ds.length 0 lo)
def gCut (lo hi : Option Int) : D → Option RV
  | .list ds => some (.own (.list (cutD ds lo hi)))
  | .tuple ds => some (.val (.tuple (cutD ds lo hi)))
  | .str z => if z.length ≤ sizeLine then some (.val (.str (cutS z lo hi))) else none
  | _ => none
theorem cutV_rep {K : Fg} {F : Hp} {xs : List V} {ds : List D} (r : RepA K F xs ds) (lo hi : Option Int) : RepA K F (cutV xs lo hi) (cutD ds lo hi) := by
  unfold cutV cutD
  rw [r.length]
  exact (r.drop _).take _
def mCut (ma : M EV) (ml mh : M (Option Int)) : M EV := fun ρ => (ma ρ).bind fun a ρ1 => (ml ρ1).bind fun lo ρ2 => (mh ρ2).bind fun hi ρ3 => match ρ3.cont a with
  | some x => opt ρ3 (gCut lo hi x)
  | none => .stk
theorem re_cut {lo hi : Option Expr} {ml mh : M (Option Int)} {p2 : Pos} (ha : RE X g a ma) (hl : RO X g lo ml) (hh : RO X g hi mh) : RE X g (.Subscript a (.Slice lo hi none p2) pos) (mCut ma ml mh) := by
  refine PE.to (pe_slice rSlU_ok ha hl hh) ?_
  rintro σ H Q ⟨F, ρ, S, h⟩
  refine ⟨F, ρ, S, EndE.seq h fun a ρ1 v F1 H1 P1 h1 => ⟨F1, ρ1, P1.st, EndE.seqG h1 fun lo ρ2 F2 H2 S2 f2 h2 => ⟨F2, ρ2, S2, EndE.seqG h2 fun hi ρ3 F3 H3 S3 f3 h3 => ?_⟩⟩⟩
  have i3 := P1.inf.mono (f2.trans f3)
  cases ha : ρ3.cont a with
  | none => rw [ha] at h3; exact False.elim h3
  | some dx =>
    rw [ha] at h3
    have h3 : EndE X.K g F3 H3 σ ρ3 (opt ρ3 (gCut lo hi dx)) Q := h3
    have vx := i3.vw S3 ha
    cases hf : gCut lo hi dx with
    | none => rw [hf] at h3; exact False.elim h3
    | some r =>
      rw [hf] at h3
      have q := EndE.pr S3 h3
      unfold gCut at hf
      split at hf
      · cases hf
        obtain ⟨p, xs, rfl, hs, rs⟩ := vx.lst S3.ex
        exact ⟨_, sl_list, p, xs, rfl, hs, q.newLst S3.ex (cutV_rep rs lo hi)⟩
      · cases hf
        have kx := vx.frz rfl
        obtain ⟨p, xs, rfl, hs, rs⟩ := vx.tup S3.ex
        refine ⟨_, sl_tupA, p, xs, rfl, hs, fun z => ?_, fun _ => q.newTup S3.ex (cutV_rep rs lo hi)⟩
        have cutAll : ∀ ds : List D, RepA X.K H3 xs ds → cutD ds lo hi = ds := fun ds rs => by
          unfold cutD
          rw [rs.length] at z
          rw [z.1, z.2, List.drop_zero, Nat.sub_zero, List.take_length]
        rw [cutAll _ (rs.mono S3.ex)] at q
        exact q.same S3.ex kx
      · split at hf
        · rename_i hz
          cases hf
          exact ⟨_, sl_str, _, vx.str, hz, q.same S3.ex (.str _)⟩
        · cases hf
      · cases hf
end
end LW
set_option Elab.async false
set_option linter.all false
set_option maxRecDepth 100000
set_option maxHeartbeats 2000000
/-! LW5: built-in functions, methods of texts. -/
namespace LW
open PySem PySem.Spec PyProof.Rows L2
def Env.contA (ρ : Env) : List EV → Option (List D)
  | [] => some []
  | e :: es => (ρ.cont e).bind fun d => (Env.contA ρ es).map fun ds => d :: ds
def VwA (K : Fg) (F H : Hp) : List V → List D → Prop
  | [], [] => True
  | v :: vs, d :: ds => Vw K F H v d ∧ VwA K F H vs ds
  | _, _ => False
def mCallB (f : List D → Option RV) (ms : M (List EV)) : M EV := fun ρ => (ms ρ).bind fun es ρ1 => match ρ1.contA es with
  | some ds => opt ρ1 (f ds)
  | none => .stk
section
variable {K : Fg} {g : G} {F H : Hp} {σ : L2.St} {ρ : Env}
theorem InFA.vw (S : Sta K g F H σ ρ) : ∀ {vs : List V} {es : List EV} {ds : List D}, InFA K g F H σ ρ vs es → ρ.contA es = some ds → VwA K F H vs ds
  | [], [], ds, _, h => by cases h; trivial
  | v :: vs, e :: es, ds, i, h => by
    have h : ((ρ.cont e).bind fun d => (Env.contA ρ es).map fun ds => d :: ds) = some ds := h
    obtain ⟨d, h1, h2⟩ := Option.bind_eq_some_iff.mp h
    obtain ⟨ds', h3, rfl⟩ := Option.map_eq_some_iff.mp h2
    exact ⟨i.1.vw S h1, InFA.vw S i.2.2 h3⟩
  | [], _ :: _, _, i, _ => i.elim
  | _ :: _, [], _, i, _ => i.elim
theorem VwA.one {vs : List V} {d : D} (h : VwA K F H vs [d]) : ∃ v, vs = [v] ∧ Vw K F H v d := by
  match vs, h with
  | [v], h => exact ⟨v, rfl, h.1⟩
theorem VwA.two {vs : List V} {d e : D} (h : VwA K F H vs [d, e]) : ∃ v w, vs = [v, w] ∧ Vw K F H v d ∧ Vw K F H w e := by
  match vs, h with
  | [v, w], h => exact ⟨v, w, rfl, h.1, h.2.1⟩
end
def CaD (X : Cx) (f : Value) (gop : List D → Option RV) : Prop :=
  ∀ F H xs ds r Q, Ex F H → VwA X.K F H xs ds → gop ds = some r → PR X.K F H r Q → rCa X f xs H Q
section
variable {X : Cx} {g : G} {a b c e : Expr} {es : List Expr} {ma mb mc : M EV} {ms : M (List EV)} {pos p : Pos} {x : Str} {id T : String}
theorem call_end {f : List D → Option RV} {fo : List V → Hp → VK → Prop} (hk : ∀ F H xs ds r Q, Ex F H → VwA X.K F H xs ds → f ds = some r → PR X.K F H r Q → fo xs H Q) :
    ∀ σ H Q, tD X.K g (mCallB f ms) σ H Q → tAr X.K g ms σ H fun xs H1 => fo xs H1 Q := by
  rintro σ H Q ⟨F, ρ, S, h⟩
  refine ⟨F, ρ, S, EndE.seqA h fun es ρ1 vs F1 H1 S1 f1 i1 h1 => ?_⟩
  cases ha : ρ1.contA es with
  | none => rw [ha] at h1; exact False.elim h1
  | some ds =>
    rw [ha] at h1
    have h1 : EndE X.K g F1 H1 σ ρ1 (opt ρ1 (f ds)) Q := h1
    cases hf : f ds with
    | none => rw [hf] at h1; exact False.elim h1
    | some r => rw [hf] at h1; exact hk F1 H1 vs ds r Q S1.ex (InFA.vw S1 i1 ha) hf (EndE.pr S1 h1)
theorem re_callB {f : List D → Option RV} (hk : CaD X (.builtin id) f) (ha : RA X g (e :: es) ms) (hm : X.mg x = none) (hv : bootBuiltins x = some (.builtin id)) (hg : Gl X x := by rfl) (hn : x ≠ "__name__" := by decide) (hdb : (x == ("__debug__" : Str)) = false := by decide)
    (he : starEach (e :: es) X.env = (false, eval e X.env) :: starEach es X.env := by rfl) (hpl : (backTo pos (starEach es X.env)).any (·.1) = false := by rfl) : RE X g (.Call (.Name x p) (e :: es) [] pos) (mCallB f ms) :=
  PE.to (pe_callB rCa_ok hg hm hv ha hn hdb he hpl) (call_end hk)
theorem re_callTy {f : List D → Option RV} (hk : CaD X (.type T) f) (ha : RA X g (e :: es) ms) (hm : X.mg x = none) (hv : bootBuiltins x = some (.type T)) (hg : Gl X x := by rfl) (hn : x ≠ "__name__" := by decide) (hdb : (x == ("__debug__" : Str)) = false := by decide)
    (he : starEach (e :: es) X.env = (false, eval e X.env) :: starEach es X.env := by rfl) (hpl : (backTo pos (starEach es X.env)).any (·.1) = false := by rfl) : RE X g (.Call (.Name x p) (e :: es) [] pos) (mCallB f ms) :=
  PE.to (pe_callTy rCa_ok hg hm hv ha hn hdb he hpl) (call_end hk)

/-! len, abs, int, str, divmod, sum, all, any, max, min, tuple, list -/
def gLen : List D → Option RV
  | [.str x] => if x.length ≤ sizeLine then some (.val (.int x.length)) else none
  | [.list ds] => some (.val (.int ds.length))
  | [.tuple ds] => some (.val (.int ds.length))
  | _ => none
theorem cd_len : CaD X (.builtin "len") gLen := by
  intro F H xs ds r Q ex hx hf q
  unfold gLen at hf
  split at hf
  · split at hf
    · rename_i hz
      cases hf
      obtain ⟨v, rfl, vx⟩ := hx.one
      exact ⟨_, call_len, v, _, rfl, by rw [vx.str]; exact ⟨hz, rfl⟩, q.same ex (.int _)⟩
    · cases hf
  · cases hf
    obtain ⟨v, rfl, vx⟩ := hx.one
    obtain ⟨a, us, rfl, ha, ra⟩ := vx.lst ex
    refine ⟨_, call_len, _, us.length, rfl, .inl ⟨us, ha, rfl⟩, ?_⟩
    rw [ra.length]
    exact q.same ex (.int _)
  · cases hf
    obtain ⟨v, rfl, vx⟩ := hx.one
    obtain ⟨a, us, rfl, ha, ra⟩ := vx.tup ex
    refine ⟨_, call_len, _, us.length, rfl, .inr ⟨us, ha, rfl⟩, ?_⟩
    rw [ra.length]
    exact q.same ex (.int _)
  · cases hf
def gAbs : List D → Option RV
  | [.int i] => some (.val (.int (if i < 0 then -i else i)))
  | _ => none
theorem cd_abs : CaD X (.builtin "abs") gAbs := by
  intro F H xs ds r Q ex hx hf q
  unfold gAbs at hf
  split at hf
  · cases hf
    obtain ⟨v, rfl, vx⟩ := hx.one
    exact ⟨_, call_abs, _, by rw [vx.int], q.same ex (.int _)⟩
  · cases hf
def gInt : List D → Option RV
  | [.int i] => some (.val (.int i))
  | [.bool b] => some (.val (.int (if b then 1 else 0)))
  | [.str a] => match PySem.intText? a with
    | some n => if a.length ≤ 640 then some (.val (.int n)) else none
    | none => none
  | _ => none
theorem cd_int : CaD X (.type "int") gInt := by
  intro F H xs ds r Q ex hx hf q
  unfold gInt at hf
  split at hf
  · cases hf
    obtain ⟨v, rfl, vx⟩ := hx.one
    exact ⟨_, call_int1, .inl ⟨_, by rw [vx.int], q.same ex (.int _)⟩⟩
  · cases hf
    obtain ⟨v, rfl, vx⟩ := hx.one
    exact ⟨_, call_int1, .inr ⟨_, by rw [vx.bl], q.same ex (.int _)⟩⟩
  · split at hf
    · rename_i n hn
      split at hf
      · rename_i hz
        cases hf
        obtain ⟨v, rfl, vx⟩ := hx.one
        exact ⟨_, call_int_str, _, n, by rw [vx.str], hn, hz, q.same ex (.int _)⟩
      · cases hf
    · cases hf
  · cases hf
def gStr : List D → Option RV
  | [.int i] => if i.natAbs.log2 < 1920 then some (.val (.str (Str.ofString (toString i)))) else none
  | _ => none
theorem cd_str : CaD X (.type "str") gStr := by
  intro F H xs ds r Q ex hx hf q
  unfold gStr at hf
  split at hf
  · split at hf
    · rename_i hz
      cases hf
      obtain ⟨v, rfl, vx⟩ := hx.one
      exact ⟨_, call_str_int, _, by rw [vx.int], hz, q.same ex (.str _)⟩
    · cases hf
  · cases hf
def gDivmod : List D → Option RV
  | [.int i, .int j] => if 0 < j ∧ j < 1073741824 then some (.val (.tuple [.int (i / j), .int (i % j)])) else none
  | _ => none
theorem cd_divmod : CaD X (.builtin "divmod") gDivmod := by
  intro F H xs ds r Q ex hx hf q
  unfold gDivmod at hf
  split at hf
  · split at hf
    · rename_i hz
      cases hf
      obtain ⟨v, w, rfl, vx, vy⟩ := hx.two
      exact ⟨_, call_divmod, _, _, by rw [vx.int, vy.int], hz, q.newTup ex (.cons (.int _) (.cons (.int _) .nil))⟩
    · cases hf
  · cases hf
def intsD : List D → Option (List Int)
  | [] => some []
  | .int i :: ds => (intsD ds).map (i :: ·)
  | _ => none
theorem intsD_of : ∀ {ds : List D} {ns : List Int}, intsD ds = some ns → ds = ns.map .int
  | [], ns, h => by cases h; rfl
  | .int i :: ds, ns, h => by
    have h : (intsD ds).map (i :: ·) = some ns := h
    obtain ⟨ms, h1, rfl⟩ := Option.map_eq_some_iff.mp h
    rw [intsD_of h1] <;> rfl
  | .none :: _, _, h => by cases h
  | .bool _ :: _, _, h => by cases h
  | .str _ :: _, _, h => by cases h
  | .list _ :: _, _, h => by cases h
  | .tuple _ :: _, _, h => by cases h
  | .dict _ :: _, _, h => by cases h
theorem intsD_map : ∀ ns : List Int, intsD (ns.map .int) = some ns
  | [] => rfl
  | n :: ns => by
    show (intsD (ns.map .int)).map (n :: ·) = _
    rw [intsD_map ns] <;> rfl
def blsD : List D → Option (List Bool)
  | [] => some []
  | .bool i :: ds => (blsD ds).map (i :: ·)
  | _ => none
theorem blsD_of : ∀ {ds : List D} {ns : List Bool}, blsD ds = some ns → ds = ns.map .bool
  | [], ns, h => by cases h; rfl
  | .bool i :: ds, ns, h => by
    have h : (blsD ds).map (i :: ·) = some ns := h
    obtain ⟨ms, h1, rfl⟩ := Option.map_eq_some_iff.mp h
    rw [blsD_of h1] <;> rfl
  | .none :: _, _, h => by cases h
  | .int _ :: _, _, h => by cases h
  | .str _ :: _, _, h => by cases h
  | .list _ :: _, _, h => by cases h
  | .tuple _ :: _, _, h => by cases h
  | .dict _ :: _, _, h => by cases h
theorem blsD_map : ∀ ns : List Bool, blsD (ns.map .bool) = some ns
  | [] => rfl
  | n :: ns => by
    show (blsD (ns.map .bool)).map (n :: ·) = _
    rw [blsD_map ns] <;> rfl
def strsD : List D → Option (List Str)
  | [] => some []
  | .str i :: ds => (strsD ds).map (i :: ·)
  | _ => none
theorem strsD_of : ∀ {ds : List D} {ns : List Str}, strsD ds = some ns → ds = ns.map .str
  | [], ns, h => by cases h; rfl
  | .str i :: ds, ns, h => by
    have h : (strsD ds).map (i :: ·) = some ns := h
    obtain ⟨ms, h1, rfl⟩ := Option.map_eq_some_iff.mp h
    rw [strsD_of h1] <;> rfl
  | .none :: _, _, h => by cases h
  | .int _ :: _, _, h => by cases h
  | .bool _ :: _, _, h => by cases h
  | .list _ :: _, _, h => by cases h
  | .tuple _ :: _, _, h => by cases h
  | .dict _ :: _, _, h => by cases h
theorem strsD_map : ∀ ns : List Str, strsD (ns.map .str) = some ns
  | [] => rfl
  | n :: ns => by
    show (strsD (ns.map .str)).map (n :: ·) = _
    rw [strsD_map ns] <;> rfl
def gSum : List D → Option RV
  | [.list ds] => (intsD ds).map fun ns => .val (.int ns.sum)
  | _ => none
theorem cd_sum (hc : X.calm = true) : CaD X (.builtin "sum") gSum := by
  intro F H xs ds r Q ex hx hf q
  unfold gSum at hf
  split at hf
  · obtain ⟨ns, hn, rfl⟩ := Option.map_eq_some_iff.mp hf
    obtain ⟨v, rfl, vx⟩ := hx.one
    obtain ⟨a, us, rfl, ha, ra⟩ := vx.lst ex
    rw [intsD_of hn] at ra
    rw [ra.ints] at ha
    exact ⟨_, cr_sum hc, a, ns, rfl, ha, q.same ex (.int _)⟩
  · cases hf
def gAll : List D → Option RV
  | [.list ds] => (blsD ds).map fun bs => .val (.bool (bs.all fun b => b))
  | _ => none
def gAny : List D → Option RV
  | [.list ds] => (blsD ds).map fun bs => .val (.bool (bs.any fun b => b))
  | _ => none
theorem cd_all (hc : X.calm = true) : CaD X (.builtin "all") gAll := by
  intro F H xs ds r Q ex hx hf q
  unfold gAll at hf
  split at hf
  · obtain ⟨ns, hn, rfl⟩ := Option.map_eq_some_iff.mp hf
    obtain ⟨v, rfl, vx⟩ := hx.one
    obtain ⟨a, us, rfl, ha, ra⟩ := vx.lst ex
    rw [blsD_of hn] at ra
    rw [ra.bls] at ha
    exact ⟨_, cr_all hc, a, ns, rfl, ha, q.same ex (.bl _)⟩
  · cases hf
theorem cd_any (hc : X.calm = true) : CaD X (.builtin "any") gAny := by
  intro F H xs ds r Q ex hx hf q
  unfold gAny at hf
  split at hf
  · obtain ⟨ns, hn, rfl⟩ := Option.map_eq_some_iff.mp hf
    obtain ⟨v, rfl, vx⟩ := hx.one
    obtain ⟨a, us, rfl, ha, ra⟩ := vx.lst ex
    rw [blsD_of hn] at ra
    rw [ra.bls] at ha
    exact ⟨_, cr_any hc, a, ns, rfl, ha, q.same ex (.bl _)⟩
  · cases hf
/-- the greatest, the least of some ints -/
def maxI : List Int → Int
  | [] => 0
  | [n] => n
  | n :: ns => max n (maxI ns)
def minI : List Int → Int
  | [] => 0
  | [n] => n
  | n :: ns => min n (minI ns)
theorem maxI_spec : ∀ {ns : List Int} {m : Int}, m ∈ ns → (∀ y, y ∈ ns → y ≤ m) → maxI ns = m
  | [n], m, h, _ => (List.mem_singleton.mp h).symm
  | n :: k :: ns, m, h, hy => by
    show max n (maxI (k :: ns)) = m
    by_cases z : m ∈ k :: ns
    · rw [maxI_spec z fun y q => hy y (List.mem_cons_of_mem _ q)]
      have := hy n (List.mem_cons_self ..)
      omega
    · have e : m = n := by
        rcases List.mem_cons.mp h with q | q
        · exact q
        · exact absurd q z
      subst e
      have : maxI (k :: ns) ≤ m := by
        have key : ∀ l : List Int, l ≠ [] → maxI l ∈ l := by
          intro l
          induction l with
          | nil => intro q; exact absurd rfl q
          | cons a l ih =>
            intro _
            cases l with
            | nil => exact List.mem_cons_self ..
            | cons b l =>
              show max a (maxI (b :: l)) ∈ _
              by_cases q : a ≤ maxI (b :: l)
              · rw [Int.max_eq_right q]
                exact List.mem_cons_of_mem _ (ih (by simp))
              · rw [Int.max_eq_left (by omega)]
                exact List.mem_cons_self ..
        exact hy _ (List.mem_cons_of_mem _ (key _ (by simp)))
      omega
def gMax : List D → Option RV
  | [.int i, .int j] => some (.val (.int (if j > i then j else i)))
  | [.list ds] => match intsD ds with
    | some ns => if 0 < ns.length then some (.val (.int (maxI ns))) else none
    | none => none
  | _ => none
theorem cd_max (hc : X.calm = true) : CaD X (.builtin "max") gMax := by
  intro F H xs ds r Q ex hx hf q
  unfold gMax at hf
  split at hf
  · cases hf
    obtain ⟨v, w, rfl, vx, vy⟩ := hx.two
    exact ⟨_, call_max2 hc, _, _, by rw [vx.int, vy.int], q.same ex (.int _)⟩
  · split at hf
    · rename_i ns hn
      split at hf
      · rename_i hl
        cases hf
        obtain ⟨v, rfl, vx⟩ := hx.one
        obtain ⟨a, us, rfl, ha, ra⟩ := vx.lst ex
        rw [intsD_of hn] at ra
        rw [ra.ints] at ha
        refine ⟨_, cr_max hc, a, ns, rfl, ha, hl, fun m h1 h2 => ?_⟩
        rw [← maxI_spec h1 h2]
        exact q.same ex (.int _)
      · cases hf
    · cases hf
  · cases hf
def gTuple : List D → Option RV
  | [.list ds] => some (.val (.tuple ds))
  | [.tuple ds] => some (.val (.tuple ds))
  | _ => none
theorem cd_tuple : CaD X (.type "tuple") gTuple := by
  intro F H xs ds r Q ex hx hf q
  unfold gTuple at hf
  split at hf
  · cases hf
    obtain ⟨v, rfl, vx⟩ := hx.one
    obtain ⟨a, us, rfl, ha, ra⟩ := vx.lst ex
    exact ⟨_, call_tuple_of, a, us, rfl, .inl ⟨ha, q.newTup ex ra⟩⟩
  · cases hf
    obtain ⟨v, rfl, vx⟩ := hx.one
    have kx := vx.frz rfl
    obtain ⟨a, us, rfl, ha, ra⟩ := vx.tup ex
    exact ⟨_, call_tuple_of, a, us, rfl, .inr ⟨ha, q.same ex kx⟩⟩
  · cases hf
def gList : List D → Option RV
  | [.list ds] => some (.own (.list ds))
  | [.tuple ds] => some (.own (.list ds))
  | _ => none
theorem cd_list : CaD X (.type "list") gList := by
  intro F H xs ds r Q ex hx hf q
  unfold gList at hf
  split at hf
  · cases hf
    obtain ⟨v, rfl, vx⟩ := hx.one
    obtain ⟨a, us, rfl, ha, ra⟩ := vx.lst ex
    exact ⟨_, call_list_of, a, us, rfl, .inl ha, q.newLst ex ra⟩
  · cases hf
    obtain ⟨v, rfl, vx⟩ := hx.one
    obtain ⟨a, us, rfl, ha, ra⟩ := vx.tup ex
    exact ⟨_, call_list_of, a, us, rfl, .inr ha, q.newLst ex ra⟩
  · cases hf

/-! isinstance(x, T) -/
def isiD (T : String) : D → Option Bool
  | .none => if T = "int" ∨ T = "bool" ∨ T = "str" ∨ T = "tuple" ∨ T = "list" then some false else none
  | .bool _ => if T = "int" ∨ T = "bool" then some true else if T = "str" ∨ T = "tuple" ∨ T = "list" then some false else none
  | .int _ => if T = "int" then some true else if T = "bool" ∨ T = "str" ∨ T = "tuple" ∨ T = "list" then some false else none
  | .str _ => if T = "str" then some true else if T = "int" ∨ T = "bool" ∨ T = "tuple" ∨ T = "list" then some false else none
  | .list _ => if T = "list" then some true else if T = "int" ∨ T = "bool" ∨ T = "tuple" ∨ T = "str" then some false else none
  | .tuple _ => if T = "tuple" then some true else if T = "int" ∨ T = "bool" ∨ T = "str" ∨ T = "list" then some false else none
  | _ => none
theorem isiD_of {K : Fg} {F H : Hp} {T : String} {v : V} {d : D} {b : Bool} (ex : Ex F H) (h : isiD T d = some b) (r : Vw K F H v d) : ∃ t, TyX K H v t ∧ PySem.W.kitOne K t (.type T) = some b := by
  have lst : ∀ {a : Addr} {xs : List V}, SqL K H a xs → TyX K H (.ref a) (.type "list") := fun {a xs} h => by
    rcases h with (h | ⟨o, h⟩) | ⟨o, its, n, h1, h2, _⟩
    · exact .base (.lst h)
    · exact .base (.frz h)
    · exact .kList h1 h2
  have tup : ∀ {a : Addr} {xs : List V}, SqT K H a xs → TyX K H (.ref a) (.type "tuple") := fun {a xs} h => by
    rcases h with (h | ⟨o, h⟩) | ⟨o, its, n, h1, h2, _⟩
    · exact .base (.tup h)
    · exact .fTuple h
    · exact .kTuple h1 h2
  unfold isiD at h
  cases d with
  | none =>
    rw [r.non]
    refine ⟨_, .base .non, ?_⟩
    have h : (if T = "int" ∨ T = "bool" ∨ T = "str" ∨ T = "tuple" ∨ T = "list" then some false else none) = some b := h
    split at h
    · rename_i q
      cases h
      rcases q with rfl | rfl | rfl | rfl | rfl <;> rfl
    · cases h
  | bool x =>
    rw [r.bl]
    refine ⟨_, .base (.bl x), ?_⟩
    have h : (if T = "int" ∨ T = "bool" then some true else if T = "str" ∨ T = "tuple" ∨ T = "list" then some false else none) = some b := h
    split at h
    · rename_i q
      cases h
      rcases q with rfl | rfl <;> rfl
    · split at h
      · rename_i q
        cases h
        rcases q with rfl | rfl | rfl <;> rfl
      · cases h
  | int x =>
    rw [r.int]
    refine ⟨_, .base (.int x), ?_⟩
    have h : (if T = "int" then some true else if T = "bool" ∨ T = "str" ∨ T = "tuple" ∨ T = "list" then some false else none) = some b := h
    split at h
    · rename_i q
      cases h
      cases q
      rfl
    · split at h
      · rename_i q
        cases h
        rcases q with rfl | rfl | rfl | rfl <;> rfl
      · cases h
  | str x =>
    rw [r.str]
    refine ⟨_, .base (.str x), ?_⟩
    have h : (if T = "str" then some true else if T = "int" ∨ T = "bool" ∨ T = "tuple" ∨ T = "list" then some false else none) = some b := h
    split at h
    · rename_i q
      cases h
      cases q
      rfl
    · split at h
      · rename_i q
        cases h
        rcases q with rfl | rfl | rfl | rfl <;> rfl
      · cases h
  | list x =>
    obtain ⟨a, us, rfl, ha, ra⟩ := r.lst ex
    refine ⟨_, lst ha, ?_⟩
    have h : (if T = "list" then some true else if T = "int" ∨ T = "bool" ∨ T = "tuple" ∨ T = "str" then some false else none) = some b := h
    split at h
    · rename_i q
      cases h
      cases q
      rfl
    · split at h
      · rename_i q
        cases h
        rcases q with rfl | rfl | rfl | rfl <;> rfl
      · cases h
  | tuple x =>
    obtain ⟨a, us, rfl, ha, ra⟩ := r.tup ex
    refine ⟨_, tup ha, ?_⟩
    have h : (if T = "tuple" then some true else if T = "int" ∨ T = "bool" ∨ T = "str" ∨ T = "list" then some false else none) = some b := h
    split at h
    · rename_i q
      cases h
      cases q
      rfl
    · split at h
      · rename_i q
        cases h
        rcases q with rfl | rfl | rfl | rfl <;> rfl
      · cases h
  | dict x => cases h
def mIsi (T : String) (ma : M EV) : M EV := fun ρ => (mCons ma (mCons (mRaw (.ty T)) mNil) ρ).bind fun es ρ1 => match es with
  | e :: _ => (match ρ1.cont e with
    | some d => opt ρ1 ((isiD T d).map fun b => .val (.bool b))
    | none => .stk)
  | _ => .stk
theorem re_isi {T : String} {tx : Str} {tpos : Pos} (ha : RE X g a ma) (ht : RE X g (.Name tx tpos) (mRaw (.ty T))) (hm : X.mg "isinstance" = none) (hg : Gl X "isinstance" := by rfl)
    (he : starEach [a, .Name tx tpos] X.env = (false, eval a X.env) :: starEach [.Name tx tpos] X.env := by rfl) (he2 : starEach [.Name tx tpos] X.env = (false, eval (.Name tx tpos) X.env) :: starEach [] X.env := by rfl)
    (hpl : (backTo pos (starEach [.Name tx tpos] X.env)).any (·.1) = false := by rfl) : RE X g (.Call (.Name "isinstance" p) [a, .Name tx tpos] [] pos) (mIsi T ma) := by
  refine PE.to (pe_callB call_isi hg hm (by decide +kernel) (ra_cons ha (ra_cons ht ra_nil he2) he) (by decide) (by decide) he hpl) ?_
  rintro σ H Q ⟨F, ρ, S, h⟩
  refine ⟨F, ρ, S, ?_⟩
  have em : (mCons ma (mCons (mRaw (.ty T)) mNil)) ρ = (ma ρ).bind fun e ρ1 => .ok [e.arg, .raw (.ty T)] ρ1 := rfl
  unfold mIsi at h
  rw [em] at h ⊢
  cases hm : ma ρ with
  | exc x p ρ' => rw [hm] at h; exact h
  | stk => rw [hm] at h; exact h
  | ok e ρ1 =>
    rw [hm] at h
    intro vs F1 H1 S1 f1 i1
    match vs, i1 with
    | [v, w], i1 =>
      have hw : w = .ty T := i1.2.2.1
      subst hw
      have h1 : EndE X.K g F1 H1 σ ρ1 (match ρ1.cont e.arg with
        | some d => opt ρ1 ((isiD T d).map fun b => .val (.bool b))
        | none => .stk) Q := EndE.rebase (show EndE X.K g F H σ ρ (match ρ1.cont e.arg with
        | some d => opt ρ1 ((isiD T d).map fun b => .val (.bool b))
        | none => .stk) Q from h) f1
      split at h1
      · rename_i d hd
        cases hf : isiD T d with
        | none => rw [hf] at h1; exact False.elim h1
        | some b =>
          rw [hf] at h1
          obtain ⟨t, h2, h3⟩ := isiD_of S1.ex hf (i1.1.vw S1 hd)
          exact ⟨v, .ty T, t, .type T, b, rfl, .ty T, h2, h3, EndE.here S1 (e := .val (.bool b)) (.bl b) (fun _ z => nomatch z) h1⟩
      · exact False.elim h1
/-! methods of texts that change nothing -/
def mMeth (f : D → List D → Option RV) (mo : M EV) (ms : M (List EV)) : M EV := fun ρ => (mo ρ).bind fun o ρ1 => (ms ρ1).bind fun es ρ2 => match ρ2.cont o, ρ2.contA es with
  | some d, some ds => opt ρ2 (f d ds)
  | _, _ => .stk
/-- what a method of a value of the built-in type T comes to -/
def MtD (X : Cx) (id : String) (gop : D → List D → Option RV) : Prop :=
  ∀ F H x xs d ds r Q, Ex F H → Vw X.K F H x d → VwA X.K F H xs ds → gop d ds = some r → PR X.K F H r Q → rMt X id x xs H Q
def tyD (T : String) : D → Bool
  | .str _ => T == "str"
  | .list _ => T == "list"
  | _ => false
theorem tyD_of {K : Fg} {F H : Hp} {T : String} {v : V} {d : D} (ex : Ex F H) (r : Vw K F H v d) (h : tyD T d = true) : tyV K T v H := by
  cases d with
  | str x => rw [r.str]; exact eq_of_beq h
  | list ds =>
    obtain ⟨a, us, rfl, ha, ra⟩ := r.lst ex
    exact .inl ⟨eq_of_beq h, us, ha⟩
  | _ => cases h
/-- the receiver's type is asked ahead of the arguments -/
def mOn (T : String) (mo : M EV) : M EV := fun ρ => (mo ρ).bind fun o ρ1 => match ρ1.cont o with
  | some d => if tyD T d = true then .ok o ρ1 else .stk
  | none => .stk
theorem meth_end {f : D → List D → Option RV} {fo : V → List V → Hp → VK → Prop} (hk : ∀ F H x xs d ds r Q, Ex F H → Vw X.K F H x d → VwA X.K F H xs ds → f d ds = some r → PR X.K F H r Q → fo x xs H Q) :
    ∀ σ H Q, tD X.K g (mMeth f (mOn T ma) ms) σ H Q → tBM X.K T fo (tD X.K g ma) (tAr X.K g ms) σ H Q := by
  rintro σ H Q ⟨F, ρ, S, h⟩
  refine ⟨F, ρ, S, ?_⟩
  have e : mMeth f (mOn T ma) ms ρ = (ma ρ).bind fun o ρ1 => (match ρ1.cont o with
    | some d => if tyD T d = true then .ok o ρ1 else .stk
    | none => .stk : Out EV).bind fun o ρ1 => (ms ρ1).bind fun es ρ2 => match ρ2.cont o, ρ2.contA es with
      | some d, some ds => opt ρ2 (f d ds)
      | _, _ => .stk := by
    unfold mMeth mOn
    cases ma ρ <;> rfl
  rw [e] at h
  refine EndE.seq h fun o ρ1 v F1 H1 P1 h1 => ?_
  cases hc : ρ1.cont o with
  | none => rw [hc] at h1; exact False.elim h1
  | some d0 =>
    rw [hc] at h1
    by_cases ht : tyD T d0 = true
    · have h1 : EndE X.K g F1 H1 σ ρ1 ((if tyD T d0 = true then .ok o ρ1 else .stk : Out EV).bind fun o ρ1 => (ms ρ1).bind fun es ρ2 => match ρ2.cont o, ρ2.contA es with
        | some d, some ds => opt ρ2 (f d ds)
        | _, _ => .stk) Q := h1
      rw [if_pos ht] at h1
      refine ⟨tyD_of P1.st.ex (P1.inf.vw P1.st hc) ht, F1, ρ1, P1.st, EndE.seqA h1 fun es ρ2 vs F2 H2 S2 f2 i2 h2 => ?_⟩
      have io := P1.inf.mono f2
      cases ha : ρ2.cont o with
      | none => rw [ha] at h2; exact False.elim h2
      | some d =>
        cases hb : ρ2.contA es with
        | none => rw [ha, hb] at h2; exact False.elim h2
        | some ds =>
          rw [ha, hb] at h2
          have h2 : EndE X.K g F2 H2 σ ρ2 (opt ρ2 (f d ds)) Q := h2
          cases hf : f d ds with
          | none => rw [hf] at h2; exact False.elim h2
          | some r => rw [hf] at h2; exact hk F2 H2 v vs d ds r Q S2.ex (io.vw S2 ha) (InFA.vw S2 i2 hb) hf (EndE.pr S2 h2)
    · have h1 : EndE X.K g F1 H1 σ ρ1 ((if tyD T d0 = true then .ok o ρ1 else .stk : Out EV).bind fun o ρ1 => (ms ρ1).bind fun es ρ2 => match ρ2.cont o, ρ2.contA es with
        | some d, some ds => opt ρ2 (f d ds)
        | _, _ => .stk) Q := h1
      rw [if_neg ht] at h1
      exact False.elim h1
theorem re_meth {o : Expr} {name : Str} {apos cpos : Pos} {f : D → List D → Option RV} (hk : MtD X id f) (pa : PlainAttrs T) (slot : PySem.Slot T name id) (hty : typeOf (.builtin id) = pure (.type "method_descriptor")) (ho : RE X g o ma) (ha : RA X g (e :: es) ms)
    (hbase : attributeBase o name X.env (eval o X.env) = eval o X.env := by rfl)
    (hfew : ((backTo cpos (starEach (e :: es) X.env)).all (fun x => !x.1) && (backToKw cpos (keywordEach [] X.env)).all (fun x => x.1.isSome)
      && decide ((e :: es).length + ([] : List Keyword).length + (if ([] : List Keyword).isEmpty then 0 else 1) < 30)) = true := by rfl)
    (hline : (apos.endLine == cpos.line) = true := by rfl) (hs : starEach (e :: es) X.env = (false, eval e X.env) :: starEach es X.env := by rfl) (hplain : (backTo cpos (starEach es X.env)).any (·.1) = false := by rfl) :
    RE X g (.Call (.Attribute o name apos) (e :: es) [] cpos) (mMeth f (mOn T ma) ms) :=
  PE.to (pe_bm pa slot hty rMt_ok ho ha hbase hfew hline hs hplain) (meth_end hk)
/-! index, zfill, startswith, join -/
def gIndex : D → List D → Option RV
  | .str a, [.str b] => match Builtin.Str.occurrences a b 0 a.length 1 with
    | i :: _ => some (.val (.int (i : Nat)))
    | [] => none
  | _, _ => none
theorem md_index : MtD X "str.index" gIndex := by
  intro F H x xs d ds r Q ex hx hxs hf q
  unfold gIndex at hf
  split at hf
  · split at hf
    · rename_i i rest ho
      cases hf
      obtain ⟨v, rfl, vy⟩ := hxs.one
      exact ⟨_, mt_sindex, _, _, i, rest, hx.str, by rw [vy.str], ho, q.same ex (.int _)⟩
    · cases hf
  · cases hf
def gZfill : D → List D → Option RV
  | .str a, [.int i] => if PadOk i = true then some (.val (.str (Txt.zfill a i))) else none
  | _, _ => none
theorem md_zfill : MtD X "str.zfill" gZfill := by
  intro F H x xs d ds r Q ex hx hxs hf q
  unfold gZfill at hf
  split at hf
  · split at hf
    · rename_i hp
      cases hf
      obtain ⟨v, rfl, vy⟩ := hxs.one
      exact ⟨_, mt_zfill, _, _, hx.str, by rw [vy.int], hp, q.same ex (.str _)⟩
    · cases hf
  · cases hf
def gStarts : D → List D → Option RV
  | .str a, [.str b] => some (.val (.bool (Txt.startswith a b)))
  | _, _ => none
theorem md_starts : MtD X "str.startswith" gStarts := by
  intro F H x xs d ds r Q ex hx hxs hf q
  unfold gStarts at hf
  split at hf
  · cases hf
    obtain ⟨v, rfl, vy⟩ := hxs.one
    exact ⟨_, mt_startswith, _, _, hx.str, by rw [vy.str], q.same ex (.bl _)⟩
  · cases hf
def gJoin : D → List D → Option RV
  | .str a, [.list ds] => match strsD ds with
    | some ys => if (ys.map (·.length)).sum + ys.length * a.length ≤ 16777216 then some (.val (.str (Txt.join a ys))) else none
    | none => none
  | _, _ => none
theorem md_join : MtD X "str.join" gJoin := by
  intro F H x xs d ds r Q ex hx hxs hf q
  unfold gJoin at hf
  split at hf
  · split at hf
    · rename_i ys hy
      split at hf
      · rename_i hz
        cases hf
        obtain ⟨v, rfl, vy⟩ := hxs.one
        obtain ⟨b, us, rfl, hb, rb⟩ := vy.lst ex
        rw [strsD_of hy] at rb
        rw [rb.strs] at hb
        exact ⟨_, mt_join, _, b, ys, hx.str, rfl, .inl hb, hz, q.same ex (.str _)⟩
      · cases hf
    · cases hf
  · cases hf
end
end LW
set_option Elab.async false
set_option linter.all false
set_option maxRecDepth 100000
set_option maxHeartbeats 2000000
/-! LW6: defs by what they come to, and their calls. -/
namespace LW
open PySem PySem.Spec PyProof.Rows L2
inductive FRes where
  | ok (r : RV) (outs : List D)
  | exc (x : Str) (p : D)
  | stk
/-- a def: which parameters are cells handed in (true), what it comes to -/
structure FS where
  md : List Bool
  run : List D → FRes
def ArgsOk (K : Fg) (F H : Hp) : List Bool → List V → List D → List Addr → Prop
  | [], [], [], [] => True
  | false :: m, v :: vs, d :: ds, A => Rep K F v d ∧ ArgsOk K F H m vs ds A
  | true :: m, v :: vs, d :: ds, p :: A => v = .ref p ∧ Cell K F H p d ∧ ArgsOk K F H m vs ds A
  | _, _, _, _ => False
def OutsOk (K : Fg) (F H : Hp) : List Addr → List D → Prop
  | [], [] => True
  | p :: A, d :: ds => Cell K F H p d ∧ OutsOk K F H A ds
  | _, _ => False
/-- behind a call: all that stood there stands, but for the cells A -/
structure Back (T : Tb) (K : Fg) (F H F' H' : Hp) (A : List Addr) : Prop where
  ex : Ex F F'
  sub : Ex F' H'
  keep : ∀ p o, NT o → H p = some o → F p = none → p ∉ A → H' p = some o ∧ F' p = none
  dom : ∀ p, Nw H' p → Nw H p
  nt : NoT F'
  tb : LamX.Tabs T H'
def RetV (K : Fg) (H F' H' : Hp) (v : V) : RV → Prop
  | .val d => Rep K F' v d
  | .own d => ∃ p, v = .ref p ∧ Cell K F' H' p d ∧ Nw H p
/-- the promise: C, fd tell the error classes' places and fields -/
def spF (T : Tb) (K : Fg) (C fd : Str → Str → Str) (cl : Str → Addr) (fl : Str → Str) (f : FS) : Sp := fun vs H Q E => ∃ F A ds, Ex F H ∧ NoT F ∧ LamX.Tabs T H ∧ ArgsOk K F H f.md vs ds A ∧ A.Nodup ∧ match f.run ds with
  | .ok r outs => ∀ v F' H', Back T K F H F' H' A → OutsOk K F' H' A outs → RetV K H F' H' v r → Q v H'
  | .exc x p => ∀ dx v F' H', Back T K F H F' H' A → Rep K F' v p → H' dx = some (.xd [(fl x, v)]) → E (.ref (cl x)) (some dx) H'
  | .stk => False
abbrev spf (T : Tb) (K : Fg) (cl : Str → Addr) (fl : Str → Str) (f : FS) : Sp := spF T K (fun x _ => x) (fun x _ => x) cl fl f
section
variable {K : Fg} {g : G} {F H F1 H1 F' H' F'' H'' : Hp} {σ : L2.St} {ρ ρ1 ρ' ρ'' : Env} {v : V} {e : EV} {d : D}
theorem Back.grow {T : Tb} (b : Back T K F H F' H' []) : GrowT T F H F' H' :=
  ⟨b.ex, b.sub, fun p o m h n => b.keep p o m h n (by simp), fun _ => b.nt, fun _ => b.tb⟩
theorem argsOk_len : ∀ {m : List Bool} {vs : List V} {ds : List D} {A : List Addr}, ArgsOk K F H m vs ds A → vs.length = m.length
  | [], [], [], [], _ => rfl
  | false :: m, v :: vs, d :: ds, A, h => congrArg Nat.succ (argsOk_len h.2)
  | true :: m, v :: vs, d :: ds, p :: A, h => congrArg Nat.succ (argsOk_len h.2.2)
/-- all by value -/
def pureMd : List Bool → Bool
  | [] => true
  | b :: m => !b && pureMd m
theorem argsOk_rep : ∀ {m : List Bool} {vs : List V} {ds : List D}, pureMd m = true → m.length = vs.length → RepA K F vs ds → ArgsOk K F H m vs ds []
  | [], [], _, _, _, h => by cases h; trivial
  | false :: m, v :: vs, _, hm, hl, .cons a b => ⟨a, argsOk_rep (m := m) (vs := vs) hm (by simpa using hl) b⟩
  | true :: m, _, _, hm, _, _ => by cases hm
/-! ### frozen for the time of a call -/
theorem Vw.lend {K : Fg} {F H : Hp} {v : V} {d : D} (e : Ex F H) (h : Vw K F H v d) : ∃ F', Ex F F' ∧ Ex F' H ∧ Rep K F' v d ∧ (NoT F → NoT F') := by
  rcases h with h | ⟨p, rfl, c⟩
  · exact ⟨F, Ex.refl _, e, h, id⟩
  · exact ⟨fz F H p, fz_ex c.1, fz_sub e, c.rep, c.nt⟩
theorem Vw.up {K : Fg} {F F' H : Hp} {v : V} {d : D} (e : Ex F F') (e' : Ex F' H) (h : Vw K F H v d) : Vw K F' H v d := by
  rcases h with h | ⟨p, rfl, c⟩
  · exact .inl (h.mono e)
  · cases q : F' p with
    | none => exact .inr ⟨p, rfl, c.mono e fun o _ ho => ⟨ho, q⟩⟩
    | some o =>
      obtain ⟨ds, xs, rfl, h1, h2⟩ := c.lst
      have : o = .lst xs := Option.some.inj ((e' p o q).symm.trans h1)
      subst this
      exact .inl (.lst (.inl (.inl q)) (h2.mono e))
theorem lendA : ∀ {vs : List V} {ds : List D} {F : Hp}, Ex F H → VwA K F H vs ds → ∃ F', Ex F F' ∧ Ex F' H ∧ RepA K F' vs ds ∧ (NoT F → NoT F')
  | [], [], F, e, _ => ⟨F, Ex.refl _, e, .nil, id⟩
  | v :: vs, d :: ds, F, e, h => by
    obtain ⟨F1, e1, s1, r1, n1⟩ := h.1.lend e
    have up : ∀ {vs : List V} {ds : List D}, VwA K F H vs ds → VwA K F1 H vs ds := fun {vs ds} => by
      intro q
      induction vs generalizing ds with
      | nil => cases ds <;> exact q
      | cons w ws ih =>
        cases ds with
        | nil => exact q
        | cons x xs => exact ⟨q.1.up e1 s1, ih q.2⟩
    obtain ⟨F2, e2, s2, r2, n2⟩ := lendA s1 (up h.2)
    exact ⟨F2, e1.trans e2, s2, .cons (r1.mono e2) r2, fun n => n2 (n1 n)⟩
  | [], _ :: _, _, _, h => h.elim
  | _ :: _, [], _, _, h => h.elim
/-- what is frozen was so to be read -/
theorem frz_cont {x : D × Env} (h : ρ.frz e = some x) : ρ.cont e = some x.1 ∧ ∀ e', x.2.cont e' = ρ.cont e' := by
  cases e with
  | val d => cases h; exact ⟨rfl, fun _ => rfl⟩
  | own d => cases h; exact ⟨rfl, fun _ => rfl⟩
  | io k => cases h
  | raw w => cases h
  | loc i =>
    have h : (match ρ.sl[i]? with
      | some (some (.val d)) => some (d, ρ)
      | some (some (.own d)) => some (d, { ρ with sl := ρ.sl.set i (some (.val d)) })
      | _ => none) = some x := h
    split at h
    · rename_i d hd
      cases h
      exact ⟨by show (match ρ.sl[i]? with | some (some s) => s.dat | _ => none) = _; rw [hd] <;> rfl, fun _ => rfl⟩
    · rename_i d hd
      cases h
      refine ⟨by show (match ρ.sl[i]? with | some (some s) => s.dat | _ => none) = _; rw [hd] <;> rfl, fun e' => ?_⟩
      have hlt : i < ρ.sl.length := (List.getElem?_eq_some_iff.mp hd).1
      cases e' with
      | loc j =>
        show (match (ρ.sl.set i (some (.val d)))[j]? with | some (some s) => s.dat | _ => none) = (match ρ.sl[j]? with | some (some s) => s.dat | _ => none)
        by_cases z : j = i
        · subst z
          rw [List.getElem?_set_self hlt, hd] <;> rfl
        · rw [List.getElem?_set_ne (Ne.symm z)]
      | _ => rfl
    · cases h
theorem frzA_cont : ∀ {es : List EV} {ρ : Env} {y : List D × Env}, ρ.frzA es = some y → ρ.contA es = some y.1
  | [], ρ, y, h => by cases h; rfl
  | e :: es, ρ, y, h => by
    have h : ((ρ.frz e).bind fun x => (Env.frzA x.2 es).map fun y => (x.1 :: y.1, y.2)) = some y := h
    obtain ⟨x, h1, h2⟩ := Option.bind_eq_some_iff.mp h
    obtain ⟨z, h3, rfl⟩ := Option.map_eq_some_iff.mp h2
    obtain ⟨c1, c2⟩ := frz_cont h1
    have ca : ∀ es : List EV, x.2.contA es = ρ.contA es := fun es => by
      induction es with
      | nil => rfl
      | cons e es ih =>
        show ((x.2.cont e).bind fun d => (Env.contA x.2 es).map fun ds => d :: ds) = ((ρ.cont e).bind fun d => (Env.contA ρ es).map fun ds => d :: ds)
        rw [c2, ih]
    show ((ρ.cont e).bind fun d => (Env.contA ρ es).map fun ds => d :: ds) = _
    rw [c1, ← ca, frzA_cont h3] <;> rfl
def scalD : D → Bool
  | .none => true
  | .bool _ => true
  | .int _ => true
  | .str _ => true
  | _ => false
theorem scal_rep {d : D} (h : scalD d = true) (r : Rep K F v d) : Rep K F' v d := by
  cases r <;> first | (cases h; done) | constructor
end
/-- a call by value: what is read is frozen for its time where a scalar comes back, for good else -/
def mCallP (f : FS) (ms : M (List EV)) : M EV := fun ρ => (ms ρ).bind fun es ρ1 => match ρ1.contA es with
  | some ds => (match f.run ds with
    | .ok r [] => if scalD r.dat = true then .ok (.val r.dat) ρ1 else (match ρ1.frzA es with
      | some y => .ok r.ev y.2
      | none => .stk)
    | .exc x p => (match ρ1.frzA es with
      | some y => .exc x p y.2
      | none => .stk)
    | _ => .stk)
  | none => .stk
section
variable {X : Cx} {g : G} {a b c e : Expr} {es : List Expr} {ma mb mc : M EV} {ms : M (List EV)} {pos p : Pos} {x : Str} {k : Nat} {fa : Addr} {fd : FuncData} {ps : List Str} {f : FS}
theorem call_endP (hp : pureMd f.md = true) (hl : ∀ ρ es ρ', ms ρ = .ok es ρ' → es.length = f.md.length) :
    ∀ σ H Q, tD X.K g (mCallP f ms) σ H Q → tAr X.K g ms σ H fun vs H1 => spf g.T X.K g.C g.fd f vs H1 Q (WE g.W σ) := by
  rintro σ H Q ⟨F, ρ, S, h⟩
  refine ⟨F, ρ, S, ?_⟩
  unfold mCallP at h
  cases hm : ms ρ with
  | exc x p ρ' => rw [hm] at h; exact h
  | stk => rw [hm] at h; exact h
  | ok es ρ1 =>
    rw [hm] at h
    intro vs F1 H1 S1 f1 i1
    have hlen : f.md.length = vs.length := by rw [← hl _ _ _ hm, i1.length]
    have h := EndE.rebase (show EndE X.K g F H σ ρ (match ρ1.contA es with
      | some ds => (match f.run ds with
        | .ok r [] => if scalD r.dat = true then .ok (.val r.dat) ρ1 else (match ρ1.frzA es with
          | some y => .ok r.ev y.2
          | none => .stk)
        | .exc x p => (match ρ1.frzA es with
          | some y => .exc x p y.2
          | none => .stk)
        | _ => .stk)
      | none => .stk) Q from h) f1
    split at h
    case h_2 => exact False.elim h
    rename_i ds hds
    split at h
    · -- a value
      rename_i r hr
      split at h
      · rename_i hs
        obtain ⟨Fc, e1, s1, ra, nc⟩ := lendA S1.ex (InFA.vw S1 i1 hds)
        refine ⟨Fc, [], ds, s1, nc S1.nt, S1.tabs, argsOk_rep hp hlen ra, List.nodup_nil, ?_⟩
        rw [hr]
        intro v F' H' bk _ rv
        have rv' : Rep X.K F1 v r.dat := by
          cases r with
          | val d => exact scal_rep hs rv
          | own d =>
            obtain ⟨p, _, c, _⟩ := rv
            obtain ⟨_, _, rfl, _⟩ := c.lst
            cases hs
        have hp' : ∀ p o, NT o → H1 p = some o → H' p = some o := fun p o m q => by
          cases z : Fc p with
          | none => exact (bk.keep p o m q z (by simp)).1
          | some o' =>
            have : o' = o := Option.some.inj ((s1 p o' z).symm.trans q)
            subst this
            exact bk.sub p o' (bk.ex p o' z)
        have gr : GrowT g.T F1 H1 F1 H' := ⟨Ex.refl _, fun p o q => hp' p o (S1.nt p o q) (S1.ex p o q), fun p o m q n => ⟨hp' p o m q, n⟩, id, fun _ => bk.tb⟩
        exact h v F1 H' ⟨S1.growT gr, gr.fr S1.ex, rv', fun _ _ z => nomatch z⟩
      · split at h
        case h_2 => exact False.elim h
        rename_i y hy
        obtain ⟨F2, S2, f2, ra⟩ := freezeA S1 i1 hy
        have : ds = y.1 := Option.some.inj (hds.symm.trans (frzA_cont hy))
        subst this
        refine ⟨F2, [], y.1, S2.ex, S2.nt, S2.tabs, argsOk_rep hp hlen ra, List.nodup_nil, ?_⟩
        rw [hr]
        intro v F' H' bk _ rv
        have gr := bk.grow
        have S3 := S2.growT gr
        have h3 := EndE.rebase (EndE.rebase h f2) (gr.fr (g := g) (σ := σ) (ρ := y.2) S2.ex)
        cases r with
        | val d => exact EndE.here S3 (e := .val d) rv (fun _ z => nomatch z) h3
        | own d =>
          obtain ⟨q, rfl, c, n⟩ := rv
          exact EndE.rebase h f2 (.ref q) F' H' ⟨S3, gr.fr S2.ex, S2.newOwn n c, fun _ _ _ z => by cases z; exact n⟩
    · -- an error
      rename_i x p hr
      split at h
      case h_2 => exact False.elim h
      rename_i y hy
      obtain ⟨F2, S2, f2, ra⟩ := freezeA S1 i1 hy
      have : ds = y.1 := Option.some.inj (hds.symm.trans (frzA_cont hy))
      subst this
      refine ⟨F2, [], y.1, S2.ex, S2.nt, S2.tabs, argsOk_rep hp hlen ra, List.nodup_nil, ?_⟩
      rw [hr]
      intro dx v F' H' bk rv hx
      have gr := bk.grow
      exact EndE.rebase h f2 dx v F' H' ⟨S2.growT gr, gr.fr S2.ex, rv, hx⟩
    · exact False.elim h
theorem re_callP (Fk : FnOk X.prog X.w X.K X.mg X.base (L2.CX X.prog X.w) k fa fd ps (spf g.T X.K g.C g.fd f)) (hr : Room k X.A) (tk : Takes X g.W) (hm : X.mg x = some (.ref fa)) (hk : PySem.W.keepIn X.K (.ref fa) = true) (hb : Binds X.K fd ps [])
    (ha : RA X g (e :: es) ms) (hp : pureMd f.md = true) (hl : ∀ ρ es ρ', ms ρ = .ok es ρ' → es.length = f.md.length)
    (hg : Gl X x := by rfl) (hdb : (x == ("__debug__" : Str)) = false := by decide) (he : starEach (e :: es) X.env = (false, eval e X.env) :: starEach es X.env := by rfl) (hpl : (backTo pos (starEach es X.env)).any (·.1) = false := by rfl) :
    RE X g (.Call (.Name x p) (e :: es) [] pos) (mCallP f ms) :=
  PE.to (pe_callS Fk hr hg hm hk hb (fun σ => passAt tk σ) ha hdb he hpl) (call_endP hp hl)
/-- how many arguments -/
def Many (n : Nat) (ms : M (List EV)) : Prop := ∀ ρ es ρ', ms ρ = .ok es ρ' → es.length = n
theorem many_nil : Many 0 mNil := fun ρ es ρ' h => by cases h; rfl
theorem many_cons {n : Nat} {m : M EV} {ms : M (List EV)} (h : Many n ms) : Many (n + 1) (mCons m ms) := fun ρ es ρ' q => by
  unfold mCons at q
  cases hm : m ρ with
  | ok e ρ1 =>
    rw [hm] at q
    have q : (ms ρ1).bind (fun es ρ2 => Out.ok (e.arg :: es) ρ2) = .ok es ρ' := q
    cases hs : ms ρ1 with
    | ok es' ρ2 =>
      rw [hs] at q
      cases q
      exact congrArg Nat.succ (h _ _ _ hs)
    | exc x p ρ2 => rw [hs] at q; cases q
    | stk => rw [hs] at q; cases q
  | exc x p ρ2 => rw [hm] at q; cases q
  | stk => rw [hm] at q; cases q
end
end LW
set_option Elab.async false
set_option linter.all false
set_option maxRecDepth 100000
set_option maxHeartbeats 2000000
/-! LW7: calls that hand a cell in. -/
namespace LW
open PySem PySem.Spec PyProof.Rows L2
inductive Tg where
  | loc (i : Nat)
  | io (k : Nat)
def Env.frzM : List Bool → List EV → Env → Option Env
  | [], [], ρ => some ρ
  | false :: m, e :: es, ρ => (ρ.frz e).bind fun x => Env.frzM m es x.2
  | true :: m, _ :: es, ρ => Env.frzM m es ρ
  | _, _, _ => none
def Env.readV (ρ : Env) : EV → Option D
  | .val d => some d
  | .loc i => match ρ.sl[i]? with
    | some (some (.val d)) => some d
    | _ => none
  | _ => none
def Env.readT (ρ : Env) : EV → Option (D × Tg)
  | .io k => (ρ.io[k]?).map fun d => (d, .io k)
  | .loc i => match ρ.sl[i]? with
    | some (some (.own d)) => some (d, .loc i)
    | _ => none
  | _ => none
def Env.readM (ρ : Env) : List Bool → List EV → Option (List D × List Tg)
  | [], [] => some ([], [])
  | false :: m, e :: es => (ρ.readV e).bind fun d => (Env.readM ρ m es).map fun y => (d :: y.1, y.2)
  | true :: m, e :: es => (ρ.readT e).bind fun d => (Env.readM ρ m es).map fun y => (d.1 :: y.1, d.2 :: y.2)
  | _, _ => none
def Env.setT (ρ : Env) (d : D) : Tg → Env
  | .loc i => { ρ with sl := ρ.sl.set i (some (.own d)) }
  | .io k => { ρ with io := ρ.io.set k d }
def mCallIO (f : FS) (ms : M (List EV)) : M EV := fun ρ => (ms ρ).bind fun es ρ1 => match ρ1.frzM f.md es with
  | some ρ2 => (match ρ2.readM f.md es with
    | some (ds, [t]) => (match f.run ds with
      | .ok r [out] => .ok r.ev (ρ2.setT out t)
      | _ => .stk)
    | _ => .stk)
  | none => .stk
def TgAt (σ : L2.St) (A : List Addr) (p : Addr) : Tg → Prop
  | .loc i => σ[i]? = some (some (.ref p))
  | .io k => A[k]? = some p
def TgA (σ : L2.St) (A : List Addr) : List Tg → List Addr → Prop
  | [], [] => True
  | t :: ts, p :: ps => TgAt σ A p t ∧ TgA σ A ts ps
  | _, _ => False
section
variable {K : Fg} {g : G} {F H F1 H1 F' H' F'' H'' : Hp} {σ : L2.St} {ρ ρ1 ρ' ρ'' : Env} {v : V} {e : EV} {d : D}
theorem frzM_ok : ∀ {m : List Bool} {es : List EV} {vs : List V} {F : Hp} {ρ ρ' : Env}, Sta K g F H σ ρ → InFA K g F H σ ρ vs es → ρ.frzM m es = some ρ' → ∃ F', Sta K g F' H σ ρ' ∧ Fr K g F H F' H σ ρ ρ'
  | [], [], vs, F, ρ, ρ', S, i, h => by cases h; exact ⟨F, S, Fr.refl⟩
  | false :: m, e :: es, v :: vs, F, ρ, ρ', S, i, h => by
    obtain ⟨x, h1, h2⟩ := Option.bind_eq_some_iff.mp (show ((ρ.frz e).bind fun x => Env.frzM m es x.2) = some ρ' from h)
    obtain ⟨F1, S1, f1, r1⟩ := freezeE S Fr.refl i.1 (fun d p z => absurd z (i.2.1 d)) h1
    obtain ⟨F2, S2, f2⟩ := frzM_ok S1 (InFA.mono f1 i.2.2) h2
    exact ⟨F2, S2, f1.trans f2⟩
  | true :: m, e :: es, v :: vs, F, ρ, ρ', S, i, h => frzM_ok S i.2.2 (show Env.frzM m es ρ = some ρ' from h)
  | false :: _, _ :: _, [], _, _, _, _, i, _ => i.elim
  | true :: _, _ :: _, [], _, _, _, _, i, _ => i.elim
  | [], _ :: _, _, _, _, _, _, _, h => by cases h
  | false :: _, [], _, _, _, _, _, _, h => by cases h
  | true :: _, [], _, _, _, _, _, _, h => by cases h
theorem readM_ok (S : Sta K g F H σ ρ) : ∀ {m : List Bool} {es : List EV} {vs : List V} {y : List D × List Tg}, InFA K g F H σ ρ vs es → ρ.readM m es = some y → ∃ A, ArgsOk K F H m vs y.1 A ∧ TgA σ g.A y.2 A
  | [], [], [], y, i, h => by cases h; exact ⟨[], trivial, trivial⟩
  | false :: m, e :: es, v :: vs, y, i, h => by
    obtain ⟨d, h1, h2⟩ := Option.bind_eq_some_iff.mp (show ((ρ.readV e).bind fun d => (Env.readM ρ m es).map fun y => (d :: y.1, y.2)) = some y from h)
    obtain ⟨z, h3, rfl⟩ := Option.map_eq_some_iff.mp h2
    obtain ⟨A, a1, a2⟩ := readM_ok S i.2.2 h3
    refine ⟨A, ⟨?_, a1⟩, a2⟩
    cases e with
    | val d0 => cases h1; exact i.1
    | loc j =>
      have h1 : (match ρ.sl[j]? with
        | some (some (.val d)) => some d
        | _ => none) = some d := h1
      split at h1
      · rename_i d0 hd
        cases h1
        obtain ⟨w, e1, e2⟩ := S.slot j _ hd
        obtain ⟨_, i2⟩ := i.1
        rw [i2] at e1
        cases e1
        exact e2
      · cases h1
    | _ => cases h1
  | true :: m, e :: es, v :: vs, y, i, h => by
    obtain ⟨d, h1, h2⟩ := Option.bind_eq_some_iff.mp (show ((ρ.readT e).bind fun d => (Env.readM ρ m es).map fun y => (d.1 :: y.1, d.2 :: y.2)) = some y from h)
    obtain ⟨z, h3, rfl⟩ := Option.map_eq_some_iff.mp h2
    obtain ⟨A, a1, a2⟩ := readM_ok S i.2.2 h3
    cases e with
    | io k =>
      obtain ⟨d0, h4, rfl⟩ := Option.map_eq_some_iff.mp (show (ρ.io[k]?).map (fun d => (d, Tg.io k)) = some d from h1)
      obtain ⟨p, e1, rfl⟩ := i.1
      obtain ⟨d', e2, c⟩ := S.iok k p e1
      rw [h4] at e2
      cases e2
      exact ⟨p :: A, ⟨rfl, c, a1⟩, e1, a2⟩
    | loc j =>
      have h1 : (match ρ.sl[j]? with
        | some (some (.own d)) => some (d, Tg.loc j)
        | _ => none) = some d := h1
      split at h1
      · rename_i d0 hd
        cases h1
        obtain ⟨w, e1, p, rfl, c, _⟩ := S.slot j _ hd
        obtain ⟨_, i2⟩ := i.1
        rw [i2] at e1
        cases e1
        exact ⟨p :: A, ⟨rfl, c, a1⟩, i2, a2⟩
      · cases h1
    | _ => cases h1
  | false :: _, _ :: _, [], _, i, _ => i.elim
  | true :: _, _ :: _, [], _, i, _ => i.elim
  | [], _ :: _, _, _, _, h => by cases h
  | false :: _, [], _, _, _, h => by cases h
  | true :: _, [], _, _, _, h => by cases h
  | [], [], _ :: _, _, i, _ => i.elim
/-- the target's slot -/
def TgOk (ρ : Env) : Tg → Prop
  | .loc i => ∃ d, ρ.sl[i]? = some (some (.own d))
  | .io k => ∃ d, ρ.io[k]? = some d
theorem readM_tg : ∀ {m : List Bool} {es : List EV} {y : List D × List Tg}, ρ.readM m es = some y → ∀ t ∈ y.2, TgOk ρ t
  | [], [], y, h => by cases h; intro t ht; cases ht
  | false :: m, e :: es, y, h => by
    obtain ⟨d, h1, h2⟩ := Option.bind_eq_some_iff.mp (show ((ρ.readV e).bind fun d => (Env.readM ρ m es).map fun y => (d :: y.1, y.2)) = some y from h)
    obtain ⟨z, h3, rfl⟩ := Option.map_eq_some_iff.mp h2
    exact readM_tg (y := z) h3
  | true :: m, e :: es, y, h => by
    obtain ⟨d, h1, h2⟩ := Option.bind_eq_some_iff.mp (show ((ρ.readT e).bind fun d => (Env.readM ρ m es).map fun y => (d.1 :: y.1, d.2 :: y.2)) = some y from h)
    obtain ⟨z, h3, rfl⟩ := Option.map_eq_some_iff.mp h2
    intro t ht
    rcases List.mem_cons.mp ht with rfl | ht
    · cases e with
      | io k =>
        obtain ⟨d0, h4, rfl⟩ := Option.map_eq_some_iff.mp (show (ρ.io[k]?).map (fun d => (d, Tg.io k)) = some d from h1)
        exact ⟨d0, h4⟩
      | loc j =>
        have h1 : (match ρ.sl[j]? with
          | some (some (.own d)) => some (d, Tg.loc j)
          | _ => none) = some d := h1
        split at h1
        · rename_i d0 hd
          cases h1
          exact ⟨d0, hd⟩
        · cases h1
      | _ => cases h1
    · exact readM_tg (y := z) h3 t ht
  | [], _ :: _, _, h => by cases h
  | false :: _, [], _, h => by cases h
  | true :: _, [], _, h => by cases h
/-- behind a call that may have written the cell at p -/
theorem Sta.back {p : Addr} {t : Tg} {out : D} (S : Sta K g F H σ ρ) (ta : TgAt σ g.A p t) (tk : TgOk ρ t) (bk : Back g.T K F H F' H' [p]) (c : Cell K F' H' p out) :
    Sta K g F' H' σ (ρ.setT out t) ∧ Fr K g F H F' H' σ ρ (ρ.setT out t) := by
  have kp : ∀ q o, NT o → H q = some o → F q = none → q ≠ p → H' q = some o ∧ F' q = none := fun q o m h n z => bk.keep q o m h n (by simpa using z)
  -- p is one's own, or handed in
  have own_p : OwnAt σ ρ p ∨ p ∈ g.A := by
    cases t with
    | loc i => obtain ⟨d, hd⟩ := tk; exact .inl ⟨i, d, hd, ta⟩
    | io k => exact .inr (List.mem_of_getElem? ta)
  have old : ∀ (i : Nat) (s : Slot), ρ.sl[i]? = some (some s) → (∀ d, s = .own d → σ[i]? ≠ some (some (.ref p))) → ∃ v, σ[i]? = some (some v) ∧ SlotOk K g F' H' v s := fun i s h hn => by
    obtain ⟨v, h1, h2⟩ := S.slot i s h
    refine ⟨v, h1, ?_⟩
    cases s with
    | val d => exact Rep.mono bk.ex h2
    | own d =>
      obtain ⟨q, rfl, c2, n⟩ := h2
      have ne : q ≠ p := fun z => hn d rfl (by rw [h1, z])
      exact ⟨q, rfl, c2.mono bk.ex fun o no ho => kp q o no ho c2.1 ne, n⟩
    | io k => exact h2
    | raw v' => exact h2
  have keep : ∀ (q : Addr) (o : HO), NT o → g.H0 q = some o → g.F0 q = none → q ∉ g.A → H' q = some o ∧ F' q = none := fun q o m h n a => by
    obtain ⟨x, y⟩ := S.keep q o m h n a
    refine kp q o m x y fun z => ?_
    subst z
    rcases own_p with ⟨i, d, h1, h2⟩ | hA
    · obtain ⟨v, e1, r, e2, _, n0⟩ := S.slot i _ h1
      rw [h2] at e1
      cases e1
      cases e2
      exact n0 _ h m
    · exact a hA
  have dom : ∀ q : Addr, Nw H' q → Nw g.H0 q := fun q h => S.dom q (bk.dom q h)
  cases t with
  | loc i =>
    obtain ⟨d, hd⟩ := tk
    have hlt : i < ρ.sl.length := (List.getElem?_eq_some_iff.mp hd).1
    have ta : σ[i]? = some (some (.ref p)) := ta
    have at_ : ∀ (j : Nat) (s : Slot), (ρ.sl.set i (some (.own out)))[j]? = some (some s) → (j = i ∧ s = .own out) ∨ (j ≠ i ∧ ρ.sl[j]? = some (some s)) := fun j s h => by
      by_cases z : j = i
      · subst z
        rw [List.getElem?_set_self hlt] at h
        cases h
        exact .inl ⟨rfl, rfl⟩
      · rw [List.getElem?_set_ne (Ne.symm z)] at h
        exact .inr ⟨z, h⟩
    have n0 : Nw g.H0 p := by
      obtain ⟨v, e1, r, e2, _, n0⟩ := S.slot i _ hd
      rw [ta] at e1
      cases e1
      cases e2
      exact n0
    have nA : p ∉ g.A := fun z => S.ownA i d p hd ta z
    refine ⟨⟨S.ex0.trans bk.ex, bk.sub, (List.length_set ..).trans S.len, fun j s h => ?_, fun j k d1 d2 q h1 h2 e1 e2 => ?_, fun k q h => ?_, S.ion, S.ioe, keep, dom, bk.nt, bk.tb⟩, ⟨bk.ex, fun q o m h n h1 h2 => kp q o m h n fun z => h1 (z ▸ ⟨i, d, hd, ta⟩), fun q ⟨j, d1, h1, h2⟩ => ?_, fun q h => bk.dom q h, fun j s d1 h h2 => ?_⟩⟩
    · rcases at_ j s h with ⟨rfl, rfl⟩ | ⟨z, h⟩
      · exact ⟨.ref p, ta, p, rfl, c, n0⟩
      · exact old j s h fun d' e q => z (S.sep j i d' d p (by rw [h, e]) hd q ta)
    · have g1 : ∃ d', ρ.sl[j]? = some (some (.own d')) := by
        rcases at_ j _ h1 with ⟨rfl, _⟩ | ⟨_, h⟩
        · exact ⟨d, hd⟩
        · exact ⟨d1, h⟩
      have g2 : ∃ d', ρ.sl[k]? = some (some (.own d')) := by
        rcases at_ k _ h2 with ⟨rfl, _⟩ | ⟨_, h⟩
        · exact ⟨d, hd⟩
        · exact ⟨d2, h⟩
      obtain ⟨_, g1⟩ := g1
      obtain ⟨_, g2⟩ := g2
      exact S.sep j k _ _ q g1 g2 e1 e2
    · obtain ⟨d', h1, c2⟩ := S.iok k q h
      exact ⟨d', h1, c2.mono bk.ex fun o no ho => kp q o no ho c2.1 fun z => nA (z ▸ List.mem_of_getElem? h)⟩
    · rcases at_ j _ h1 with ⟨rfl, _⟩ | ⟨_, h⟩
      · exact ⟨j, d, hd, h2⟩
      · exact ⟨j, d1, h, h2⟩
    · by_cases z : j = i
      · subst z
        exact ⟨.own out, out, List.getElem?_set_self hlt, rfl⟩
      · exact ⟨s, d1, (List.getElem?_set_ne (Ne.symm z)).trans h, h2⟩
  | io k =>
    obtain ⟨d, hd⟩ := tk
    have hlt : k < ρ.io.length := (List.getElem?_eq_some_iff.mp hd).1
    have ta : g.A[k]? = some p := ta
    have hA : p ∈ g.A := List.mem_of_getElem? ta
    refine ⟨⟨S.ex0.trans bk.ex, bk.sub, S.len, fun j s h => old j s h fun d' e q => S.ownA j d' p (by rw [← e]; exact h) q hA, S.sep, fun j q h => ?_, S.ion, S.ioe, keep, dom, bk.nt, bk.tb⟩, ⟨bk.ex, fun q o m h n h1 h2 => kp q o m h n fun z => h2 (z ▸ hA), fun q h => h, fun q h => bk.dom q h, fun j s d1 h h2 => ⟨s, d1, h, h2⟩⟩⟩
    by_cases z : j = k
    · subst z
      rw [ta] at h
      cases h
      exact ⟨out, List.getElem?_set_self hlt, c⟩
    · obtain ⟨d', h1, c2⟩ := S.iok j q h
      refine ⟨d', (List.getElem?_set_ne (Ne.symm z)).trans h1, c2.mono bk.ex fun o no ho => kp q o no ho c2.1 fun y => z ?_⟩
      subst y
      exact (List.getElem?_inj (List.getElem?_eq_some_iff.mp h).1 S.ion).mp (h.trans ta.symm)
end
section
variable {X : Cx} {g : G} {a b c e : Expr} {es : List Expr} {ma mb mc : M EV} {ms : M (List EV)} {pos p : Pos} {x : Str} {k : Nat} {fa : Addr} {fd : FuncData} {ps : List Str} {f : FS}
theorem call_endIO : ∀ σ H Q, tD X.K g (mCallIO f ms) σ H Q → tAr X.K g ms σ H fun vs H1 => spf g.T X.K g.C g.fd f vs H1 Q (WE g.W σ) := by
  rintro σ H Q ⟨F, ρ, S, h⟩
  refine ⟨F, ρ, S, EndE.seqA h fun es ρ1 vs F1 H1 S1 f1 i1 h => ?_⟩
  split at h
  case h_2 => exact False.elim h
  rename_i ρ2 h2
  split at h
  case h_2 => exact False.elim h
  rename_i ds t h3
  obtain ⟨F2, S2, f2⟩ := frzM_ok S1 i1 h2
  have i2 := InFA.mono f2 i1
  obtain ⟨A, a1, a2⟩ := readM_ok S2 i2 h3
  match A, a2 with
  | [p], a2 =>
    have tk := readM_tg h3 t (List.mem_singleton.mpr rfl)
    refine ⟨F2, [p], ds, S2.ex, S2.nt, S2.tabs, a1, List.nodup_cons.mpr ⟨by simp, List.nodup_nil⟩, ?_⟩
    split at h
    case h_2 => exact False.elim h
    rename_i r out hr
    rw [hr]
    intro v F' H' bk oo rv
    obtain ⟨S3, f3⟩ := S2.back a2.1 tk bk oo.1
    have h := EndE.rebase h f2
    refine h v F' H' ⟨S3, f3, ?_, fun d q z z2 => ?_⟩
    · cases r with
      | val d => exact rv
      | own d =>
        obtain ⟨q, rfl, c, n⟩ := rv
        exact ⟨q, rfl, c, fun z => OwnAt.there S2 (f3.own q z) n, S2.newA n, S2.dom q n⟩
    · cases r with
      | val d => cases z
      | own d =>
        obtain ⟨q', e, c, n⟩ := rv
        rw [z2] at e
        cases e
        exact n
theorem re_callIO (Fk : FnOk X.prog X.w X.K X.mg X.base (L2.CX X.prog X.w) k fa fd ps (spf g.T X.K g.C g.fd f)) (hr : Room k X.A) (tk : Takes X g.W) (hm : X.mg x = some (.ref fa)) (hk : PySem.W.keepIn X.K (.ref fa) = true) (hb : Binds X.K fd ps [])
    (ha : RA X g (e :: es) ms)
    (hg : Gl X x := by rfl) (hdb : (x == ("__debug__" : Str)) = false := by decide) (he : starEach (e :: es) X.env = (false, eval e X.env) :: starEach es X.env := by rfl) (hpl : (backTo pos (starEach es X.env)).any (·.1) = false := by rfl) :
    RE X g (.Call (.Name x p) (e :: es) [] pos) (mCallIO f ms) :=
  PE.to (pe_callS Fk hr hg hm hk hb (fun σ => passAt tk σ) ha hdb he hpl) call_endIO
end
end LW
set_option Elab.async false
set_option linter.all false
set_option maxRecDepth 100000
set_option maxHeartbeats 2000000
/-! LW8: statements. -/
namespace LW
open PySem PySem.Spec PyProof.Rows L2
inductive SO where
  | nx (ρ : Env)
  | rt (r : RV) (ρ : Env)
  | bk (ρ : Env)
  | ct (ρ : Env)
  | exc (x : Str) (p : D) (ρ : Env)
  | stk
abbrev MS := Env → SO
def Out.toS {α : Type} : Out α → (α → Env → SO) → SO
  | .ok a ρ, f => f a ρ
  | .exc x p ρ, _ => .exc x p ρ
  | .stk, _ => .stk
@[simp] theorem Out.toS_ok {α : Type} (a : α) (ρ : Env) (f : α → Env → SO) : (Out.ok a ρ).toS f = f a ρ := rfl
@[simp] theorem Out.toS_exc {α : Type} (x : Str) (p : D) (ρ : Env) (f : α → Env → SO) : (Out.exc x p ρ : Out α).toS f = .exc x p ρ := rfl
@[simp] theorem Out.toS_stk {α : Type} (f : α → Env → SO) : (Out.stk : Out α).toS f = .stk := rfl
/-- what a def leaves -/
structure RetS (K : Fg) (g : G) (F' H' : Hp) (ρ' : Env) (v : V) (r : RV) : Prop where
  ex0 : Ex g.F0 F'
  ex : Ex F' H'
  keep : ∀ (p : Addr) (o : HO), NT o → g.H0 p = some o → g.F0 p = none → p ∉ g.A → H' p = some o ∧ F' p = none
  dom : ∀ p : Addr, Nw H' p → Nw g.H0 p
  nt : NoT F'
  tabs : LamX.Tabs g.T H'
  iok : ∀ (k : Nat) (p : Addr), g.A[k]? = some p → ∃ d, ρ'.io[k]? = some d ∧ Cell K F' H' p d
  ret : RetV K g.H0 F' H' v r
def EndS (K : Fg) (g : G) (F : Hp) (o : SO) (D : Ends) : Prop := match o with
  | .nx ρ' => ∀ σ' F' H', Sta K g F' H' σ' ρ' → Ex F F' → D.nx σ' H'
  | .bk ρ' => ∀ σ' F' H', Sta K g F' H' σ' ρ' → Ex F F' → D.bk σ' H'
  | .ct ρ' => ∀ σ' F' H', Sta K g F' H' σ' ρ' → Ex F F' → D.ct σ' H'
  | .rt r ρ' => ∀ v F' H', RetS K g F' H' ρ' v r → D.rt v H'
  | .exc x p ρ' => ∀ dx v σ' F' H', Sta K g F' H' σ' ρ' → Rep K F' v p → H' dx = some (.xd [(g.fd x, v)]) → g.W (.ref (g.C x)) (some dx) σ' H'
  | .stk => False
def tSt (K : Fg) (g : G) (m : MS) : TS := fun D σ H => ∃ F ρ, Sta K g F H σ ρ ∧ EndS K g F (m ρ) D
section
variable {K : Fg} {g : G} {F H F1 H1 F' H' F'' H'' : Hp} {σ : L2.St} {ρ ρ1 ρ' ρ'' : Env} {v : V} {e : EV} {d : D}
theorem EndS.rebase {o : SO} {D : Ends} (h : EndS K g F o D) (f : Ex F F1) : EndS K g F1 o D := by
  cases o with
  | nx ρ' => exact fun σ' F' H' S e => h σ' F' H' S (f.trans e)
  | bk ρ' => exact fun σ' F' H' S e => h σ' F' H' S (f.trans e)
  | ct ρ' => exact fun σ' F' H' S e => h σ' F' H' S (f.trans e)
  | rt r ρ' => exact h
  | exc x p ρ' => exact h
  | stk => exact h
theorem EndS.seqE0 {m : M EV} {f : EV → Env → SO} {D : Ends} {Q' : VK} (h : EndS K g F ((m ρ).toS f) D)
    (k : ∀ e ρ1 v F1 H1, PostE K g F H F1 H1 σ ρ ρ1 v e → EndS K g F (f e ρ1) D → Q' v H1) : EndE K g F H σ ρ (m ρ) Q' := by
  cases hm : m ρ with
  | ok e ρ1 =>
    rw [hm] at h
    exact fun v F1 H1 P => k e ρ1 v F1 H1 P h
  | exc x p ρ' =>
    rw [hm] at h
    exact fun dx v F' H' P => h dx v σ F' H' P.st P.rep P.xd
  | stk => rw [hm] at h; exact h
theorem EndS.seqG {α : Type} {m : M α} {f : α → Env → SO} {D : Ends} {Q' : α → Hp → Prop} (h : EndS K g F ((m ρ).toS f) D)
    (k : ∀ a ρ1 F1 H1, Sta K g F1 H1 σ ρ1 → Fr K g F H F1 H1 σ ρ ρ1 → EndS K g F1 (f a ρ1) D → Q' a H1) : EndG K g F H σ ρ (m ρ) Q' := by
  cases hm : m ρ with
  | ok e ρ1 =>
    rw [hm] at h
    exact fun F1 H1 S P => k e ρ1 F1 H1 S P (EndS.rebase (show EndS K g F (f e ρ1) D from h) P.ex)
  | exc x p ρ' =>
    rw [hm] at h
    exact fun dx v F' H' P => h dx v σ F' H' P.st P.rep P.xd
  | stk => rw [hm] at h; exact h

/-! ### a value is stored -/
/-- what another name holds is frozen -/
def Env.still (ρ : Env) : EV → Option (EV × Env)
  | .loc i => (ρ.frz (.loc i)).map fun x => (.val x.1, x.2)
  | e => some (e, ρ)
def NoLoc : EV → Prop
  | .loc _ => False
  | _ => True
theorem stillE {x : EV × Env} (P : PostE K g F H F' H' σ ρ ρ' v e) (hs : ρ'.still e = some x) :
    ∃ F'', PostE K g F H F'' H' σ ρ x.2 v x.1 ∧ NoLoc x.1 ∧ Ex F' F'' := by
  cases e with
  | loc i =>
    obtain ⟨y, h1, rfl⟩ := Option.map_eq_some_iff.mp (show (ρ'.frz (.loc i)).map (fun x => (EV.val x.1, x.2)) = some x from hs)
    obtain ⟨F2, S2, f2, r2⟩ := freezeE P.st Fr.refl P.inf (fun _ _ z => nomatch z) h1
    exact ⟨F2, ⟨S2, P.fr.trans f2, r2, fun _ _ z => nomatch z⟩, trivial, f2.ex⟩
  | val d => cases hs; exact ⟨F', P, trivial, Ex.refl _⟩
  | own d => cases hs; exact ⟨F', P, trivial, Ex.refl _⟩
  | io k => cases hs; exact ⟨F', P, trivial, Ex.refl _⟩
  | raw w => cases hs; exact ⟨F', P, trivial, Ex.refl _⟩
def EV.slot : EV → Option Slot
  | .val d => some (.val d)
  | .own d => some (.own d)
  | .io k => some (.io k)
  | .raw v => some (.raw v)
  | .loc _ => none
def Env.put (ρ : Env) (i : Nat) (e : EV) : Env := { ρ with sl := ρ.sl.set i e.slot }
theorem Sta.put (S : Sta K g F H σ ρ) (i : InF K g F H σ ρ v e) (n : NoLoc e) (j : Nat) : Sta K g F H (σ.set j (some v)) (ρ.put j e) := by
  have lenS : (ρ.put j e).sl.length = (σ.set j (some v)).length := by
    show (ρ.sl.set j e.slot).length = _
    rw [List.length_set, List.length_set, S.len]
  have at_ : ∀ (k : Nat) (s : Slot), (ρ.put j e).sl[k]? = some (some s) → (k = j ∧ j < ρ.sl.length ∧ e.slot = some s) ∨ (k ≠ j ∧ ρ.sl[k]? = some (some s)) := fun k s h => by
    have h : (ρ.sl.set j e.slot)[k]? = some (some s) := h
    by_cases z : k = j
    · subst z
      have hlt : k < ρ.sl.length := by
        have := (List.getElem?_eq_some_iff.mp h).1
        rwa [List.length_set] at this
      rw [List.getElem?_set_self hlt] at h
      exact .inl ⟨rfl, hlt, Option.some.inj h⟩
    · rw [List.getElem?_set_ne (Ne.symm z)] at h
      exact .inr ⟨z, h⟩
  have atσ : ∀ (k : Nat), k ≠ j → (σ.set j (some v))[k]? = σ[k]? := fun k z => List.getElem?_set_ne (Ne.symm z)
  have atj : j < ρ.sl.length → (σ.set j (some v))[j]? = some (some v) := fun h => List.getElem?_set_self (by rw [← S.len]; exact h)
  refine ⟨S.ex0, S.ex, lenS, fun k s h => ?_, fun k l d d' p h h' q q' => ?_, S.iok, S.ion, S.ioe, S.keep, S.dom, S.nt, S.tabs⟩
  · rcases at_ k s h with ⟨rfl, hlt, hs⟩ | ⟨z, h⟩
    · refine ⟨v, atj hlt, ?_⟩
      cases e with
      | val d => cases hs; exact i
      | own d =>
        cases hs
        obtain ⟨p, e1, c, _, _, n0⟩ := i
        exact ⟨p, e1, c, n0⟩
      | io k' => cases hs; exact i
      | raw w => cases hs; exact i
      | loc _ => cases hs
    · obtain ⟨w, e1, e2⟩ := S.slot k s h
      exact ⟨w, (atσ k z).trans e1, e2⟩
  · have fresh : ∀ (k : Nat) (d : D) (p : Addr), ρ.sl[k]? = some (some (.own d)) → k ≠ j → (σ.set j (some v))[k]? = some (some (.ref p)) → (∃ d', e = .own d') → v ≠ .ref p := fun kk dd pp hk z q ⟨d', hd⟩ hv => by
      rw [hd] at i
      obtain ⟨p', e1, _, h1, _⟩ := i
      rw [e1] at hv
      cases hv
      rw [atσ kk z] at q
      exact h1 ⟨kk, dd, hk, q⟩
    have isown : ∀ {d : D}, e.slot = some (.own d) → ∃ d', e = .own d' := fun {d} h => by
      cases e <;> first | exact ⟨_, rfl⟩ | cases h
    rcases at_ k _ h with ⟨rfl, hlt, hs⟩ | ⟨z, h⟩
    · rcases at_ l _ h' with ⟨rfl, _, _⟩ | ⟨z', h'⟩
      · rfl
      · rw [atj hlt] at q
        cases q
        exact absurd rfl (fresh l _ _ h' z' q' (isown hs))
    · rcases at_ l _ h' with ⟨zl, hlt, hs⟩ | ⟨z', h'⟩
      · rw [zl, atj hlt] at q'
        cases q'
        exact absurd rfl (fresh k _ _ h z q (isown hs))
      · rw [atσ k z] at q
        rw [atσ l z'] at q'
        exact S.sep k l d d' p h h' q q'
/-- another value on its way stays on it -/
theorem InF.put {e' : EV} {v' : V} (i' : InF K g F H σ ρ v' e') (n : NoLoc e') (i : InF K g F H σ ρ v e) (hs : ∀ d d', e = .own d → e' = .own d' → v ≠ v') (j : Nat) : InF K g F H (σ.set j (some v)) (ρ.put j e) v' e' := by
  cases e' with
  | val d => exact i'
  | loc _ => exact n.elim
  | io k => exact i'
  | raw w => exact i'
  | own d =>
    obtain ⟨p, rfl, c, h1, h2, h3⟩ := i'
    refine ⟨p, rfl, c, fun ⟨k, d', a, b⟩ => ?_, h2, h3⟩
    have a : (ρ.sl.set j e.slot)[k]? = some (some (.own d')) := a
    by_cases z : k = j
    · subst z
      have hlt : k < ρ.sl.length := by
        have := (List.getElem?_eq_some_iff.mp a).1
        rwa [List.length_set] at this
      have hlt2 : k < σ.length := by
        have := (List.getElem?_eq_some_iff.mp b).1
        rwa [List.length_set] at this
      rw [List.getElem?_set_self hlt] at a
      rw [List.getElem?_set_self hlt2] at b
      cases b
      cases e with
      | own d0 => exact hs d0 d rfl rfl rfl
      | val _ => cases a
      | loc _ => cases a
      | io _ => cases a
      | raw _ => cases a
    · rw [List.getElem?_set_ne (Ne.symm z)] at a b
      exact h1 ⟨k, d', a, b⟩
end

def RS (X : Cx) (g : G) (s : Stmt) (m : MS) : Prop := PS X s (tSt X.K g m)
def RSs (X : Cx) (g : G) (s : List Stmt) (m : MS) : Prop := PSs X s (tSt X.K g m)
theorem PS.to {X : Cx} {s : Stmt} {t t' : TS} (h : PS X s t) (i : ∀ D σ H, t' D σ H → t D σ H) : PS X s t' := ⟨fun pins s σ H D I q => h.run pins s σ H D I (i D σ H q)⟩
theorem PSs.to {X : Cx} {s : List Stmt} {t t' : TS} (h : PSs X s t) (i : ∀ D σ H, t' D σ H → t D σ H) : PSs X s t' := ⟨fun pins s σ H D I q => h.run pins s σ H D I (i D σ H q)⟩
def SO.then : SO → MS → SO
  | .nx ρ, f => f ρ
  | o, _ => o
@[simp] theorem SO.then_nx (ρ : Env) (f : MS) : (SO.nx ρ).then f = f ρ := rfl
@[simp] theorem SO.then_rt (r : RV) (ρ : Env) (f : MS) : (SO.rt r ρ).then f = .rt r ρ := rfl
@[simp] theorem SO.then_bk (ρ : Env) (f : MS) : (SO.bk ρ).then f = .bk ρ := rfl
@[simp] theorem SO.then_ct (ρ : Env) (f : MS) : (SO.ct ρ).then f = .ct ρ := rfl
@[simp] theorem SO.then_exc (x : Str) (p : D) (ρ : Env) (f : MS) : (SO.exc x p ρ).then f = .exc x p ρ := rfl
@[simp] theorem SO.then_stk (f : MS) : (SO.stk).then f = .stk := rfl
def mSkip : MS := fun ρ => .nx ρ
def mSeq (a b : MS) : MS := fun ρ => (a ρ).then b
def mSet (i : Nat) (m : M EV) : MS := fun ρ => (m ρ).toS fun e ρ1 => match ρ1.still e with
  | some x => .nx (x.2.put i x.1)
  | none => .stk
def mDrop (m : M EV) : MS := fun ρ => (m ρ).toS fun _ ρ1 => .nx ρ1
def Env.leave (ρ : Env) : EV → Option RV
  | .val d => some (.val d)
  | .own d => some (.own d)
  | .loc i => match ρ.sl[i]? with
    | some (some (.val d)) => some (.val d)
    | some (some (.own d)) => some (.own d)
    | _ => none
  | _ => none
def mRet (m : M EV) : MS := fun ρ => (m ρ).toS fun e ρ1 => match ρ1.leave e with
  | some r => .rt r ρ1
  | none => .stk
def mRetN : MS := fun ρ => .rt (.val .none) ρ
def mIte (c : M Bool) (a b : MS) : MS := fun ρ => (c ρ).toS fun t ρ1 => if t = true then a ρ1 else b ρ1
def mBreak : MS := fun ρ => .bk ρ
def mCont : MS := fun ρ => .ct ρ
section
variable {X : Cx} {g : G} {a b c e : Expr} {s : Stmt} {ss : List Stmt} {ma mb mc : M EV} {m1 m2 : MS} {pos p : Pos} {x : Str}
theorem rss_nil : RSs X g [] mSkip := PSs.to pss_nil fun D σ H ⟨F, ρ, S, h⟩ => h σ F H S (Ex.refl _)
theorem rss_cons (h1 : RS X g s m1) (h2 : RSs X g ss m2) : RSs X g (s :: ss) (mSeq m1 m2) := by
  refine PSs.to (pss_cons h1 h2) ?_
  rintro D σ H ⟨F, ρ, S, h⟩
  refine ⟨F, ρ, S, ?_⟩
  unfold mSeq at h
  cases hm : m1 ρ with
  | nx ρ1 =>
    rw [hm] at h
    exact fun σ' F' H' S' e => ⟨F', ρ1, S', EndS.rebase (show EndS X.K g F (m2 ρ1) D from h) e⟩
  | rt r ρ1 => rw [hm] at h; exact h
  | bk ρ1 => rw [hm] at h; exact h
  | ct ρ1 => rw [hm] at h; exact h
  | exc y q ρ1 => rw [hm] at h; exact h
  | stk => rw [hm] at h; exact h
theorem rss_one (h1 : RS X g s m1) : RSs X g [s] m1 := pss_one h1
theorem set_end {i : Nat} : ∀ D σ H, tSt X.K g (mSet i ma) D σ H → tAsg (tD X.K g ma) (gName i) D σ H := by
  rintro D σ H ⟨F, ρ, S, h⟩
  refine ⟨F, ρ, S, EndS.seqE0 h fun e ρ1 v F1 H1 P h1 => ?_⟩
  split at h1
  · rename_i y hy
    obtain ⟨F2, P2, n2, e2⟩ := stillE P hy
    exact h1 _ F2 H1 (P2.st.put P2.inf n2 i) P2.fr.ex
  · exact False.elim h1
theorem rs_set {i : Nat} {pos' : Pos} (ha : RE X g e ma) (hN : X.N.Nodup) (hi : X.N[i]? = some x := by rfl) (hx : Loc X.env.scope x := by first | exact Or.inl rfl | exact Or.inr rfl)
    (hs : swapsWith e (some (.Name x pos')) pos.line X.env = pure false := by rfl) (hf : X.fn x = true ∨ X.env.scope.names.lookup x = some .local := by first | exact .inl rfl | exact .inr rfl | assumption) :
    RS X g (.Assign [.Name x pos'] e pos) (mSet i ma) := PS.to (ps_set hN hi hx ha hs hf) set_end
theorem rs_drop (ha : RE X g e ma) (hs : swapsWith e none pos.line X.env = pure false := by rfl) : RS X g (.Expr e pos) (mDrop ma) := by
  refine PS.to (ps_expr ha hs) ?_
  rintro D σ H ⟨F, ρ, S, h⟩
  refine ⟨F, ρ, S, EndS.seqE0 h fun e ρ1 v F1 H1 P h1 => h1 σ F1 H1 P.st P.fr.ex⟩
theorem rs_pass : RS X g (.Pass pos) mSkip := PS.to ps_pass fun D σ H ⟨F, ρ, S, h⟩ => h σ F H S (Ex.refl _)
theorem rs_break : RS X g (.Break pos) mBreak := PS.to ps_break fun D σ H ⟨F, ρ, S, h⟩ => h σ F H S (Ex.refl _)
theorem rs_cont : RS X g (.Continue pos) mCont := PS.to ps_continue fun D σ H ⟨F, ρ, S, h⟩ => h σ F H S (Ex.refl _)
theorem Sta.ret {K : Fg} {F H : Hp} {σ : L2.St} {ρ : Env} {v : V} {r : RV} (S : Sta K g F H σ ρ) (h : RetV K g.H0 F H v r) : RetS K g F H ρ v r := ⟨S.ex0, S.ex, S.keep, S.dom, S.nt, S.tabs, S.iok, h⟩
theorem rs_ret (ha : RE X g e ma) : RS X g (.Return (some e) pos) (mRet ma) := by
  refine PS.to (ps_ret ha) ?_
  rintro D σ H ⟨F, ρ, S, h⟩
  refine ⟨F, ρ, S, EndS.seqE0 h fun e ρ1 v F1 H1 P h1 => ?_⟩
  split at h1
  · rename_i r hr
    refine h1 v F1 H1 (P.st.ret ?_)
    cases e with
    | val d => cases hr; exact P.inf
    | own d =>
      cases hr
      obtain ⟨q, e1, c, _, _, n0⟩ := P.inf
      exact ⟨q, e1, c, n0⟩
    | loc i =>
      have hr : (match ρ1.sl[i]? with
        | some (some (.val d)) => some (RV.val d)
        | some (some (.own d)) => some (RV.own d)
        | _ => none) = some r := hr
      obtain ⟨_, i2⟩ := P.inf
      split at hr
      · rename_i d hd
        cases hr
        obtain ⟨w, e1, e2⟩ := P.st.slot i _ hd
        rw [i2] at e1
        cases e1
        exact e2
      · rename_i d hd
        cases hr
        obtain ⟨w, e1, e2⟩ := P.st.slot i _ hd
        rw [i2] at e1
        cases e1
        exact e2
      · cases hr
    | io k => cases hr
    | raw w => cases hr
  · exact False.elim h1
theorem rs_retN : RS X g (.Return none pos) mRetN := PS.to ps_retN fun D σ H ⟨F, ρ, S, h⟩ => h .non F H (S.ret .non)
theorem rs_if {p q : List Stmt} {t : M Bool} (hc : RT X g c t) (ha : RSs X g p m1) (hb : RSs X g q m2) : RS X g (.If c p q pos) (mIte t m1 m2) := by
  refine PS.to (ps_if hc ha hb) ?_
  rintro D σ H ⟨F, ρ, S, h⟩
  refine ⟨F, ρ, S, EndS.seqG h fun t ρ1 F1 H1 S1 f1 h1 => ?_⟩
  cases t with
  | true => exact ⟨F1, ρ1, S1, h1⟩
  | false => exact ⟨F1, ρ1, S1, h1⟩
end
end LW
set_option Elab.async false
set_option linter.all false
set_option maxRecDepth 100000
set_option maxHeartbeats 2000000
/-! LW9: several targets, loops. -/
namespace LW
open PySem PySem.Spec PyProof.Rows L2

/-! ### a, b = x, y -/
def Apart : V → EV → V → EV → Prop := fun v e w f => ∀ d d', e = .own d → f = .own d' → v ≠ w
def InFL (K : Fg) (g : G) (F H : Hp) (σ : L2.St) (ρ : Env) : List V → List EV → Prop
  | [], [] => True
  | v :: vs, e :: es => InF K g F H σ ρ v e ∧ NoLoc e ∧ (∀ p ∈ vs.zip es, Apart v e p.1 p.2) ∧ InFL K g F H σ ρ vs es
  | _, _ => False
section
variable {K : Fg} {g : G} {F H F1 H1 F' H' F'' H'' : Hp} {σ : L2.St} {ρ ρ1 ρ' ρ'' : Env} {v : V} {e : EV} {d : D}
theorem InFL.length : ∀ {vs : List V} {es : List EV}, InFL K g F H σ ρ vs es → vs.length = es.length
  | [], [], _ => rfl
  | v :: vs, e :: es, h => congrArg Nat.succ (InFL.length h.2.2.2)
  | [], _ :: _, h => h.elim
  | _ :: _, [], h => h.elim
def EndL (K : Fg) (g : G) (F H : Hp) (σ : L2.St) (ρ : Env) (o : Out (List EV)) (Q : List V → Hp → Prop) : Prop := match o with
  | .ok es ρ' => ∀ vs F' H', Sta K g F' H' σ ρ' → Fr K g F H F' H' σ ρ ρ' → InFL K g F' H' σ ρ' vs es → (∀ p ∈ vs.zip es, ∀ d q, p.2 = .own d → p.1 = .ref q → Nw H q) → Q vs H'
  | .exc x p ρ' => ∀ dx v F' H', PostX K g F H F' H' σ ρ ρ' dx v x p → g.W (.ref (g.C x)) (some dx) σ H'
  | .stk => False
def tLs (K : Fg) (g : G) (m : M (List EV)) : TA := fun σ H Q => ∃ F ρ, Sta K g F H σ ρ ∧ EndL K g F H σ ρ (m ρ) Q
def mConsL (m : M EV) (ms : M (List EV)) : M (List EV) := fun ρ => (m ρ).bind fun e ρ1 => match ρ1.still e with
  | some x => (ms x.2).bind fun es ρ2 => .ok (x.1 :: es) ρ2
  | none => .stk
theorem EndL.rebase {o : Out (List EV)} {Q : List V → Hp → Prop} (h : EndL K g F H σ ρ o Q) (f : Fr K g F H F1 H1 σ ρ ρ1) : EndL K g F1 H1 σ ρ1 o Q := by
  cases o with
  | ok e ρ' => exact fun vs F' H' S P i n => h vs F' H' S (f.trans P) i fun p hp d q a b => f.dom q (n p hp d q a b)
  | exc x p ρ' => exact fun dx v F' H' P => h dx v F' H' ⟨P.st, f.trans P.fr, P.rep, P.xd⟩
  | stk => exact h
end
def RL (X : Cx) (g : G) (es : List Expr) (m : M (List EV)) : Prop := PA X es (tLs X.K g m)
section
variable {X : Cx} {g : G} {a b c e : Expr} {es : List Expr} {ma mb mc : M EV} {ms : M (List EV)} {pos : Pos}
theorem rl_nil : RL X g [] mNil := PA.to pa_nil fun σ H Q ⟨F, ρ, S, h⟩ => h [] F H S Fr.refl trivial fun p hp => by cases hp
theorem rl_cons (ha : RE X g a ma) (hr : RL X g es ms) (hs : starEach (a :: es) X.env = (false, eval a X.env) :: starEach es X.env := by rfl) : RL X g (a :: es) (mConsL ma ms) := by
  refine PA.to (pa_cons ha hr hs) ?_
  rintro σ H Q ⟨F, ρ, S, h⟩
  refine ⟨F, ρ, S, ?_⟩
  unfold mConsL at h
  cases hm : ma ρ with
  | exc x p ρ' => rw [hm] at h; exact h
  | stk => rw [hm] at h; exact h
  | ok e ρ1 =>
    rw [hm] at h
    intro v F1 H1 P
    have h : EndL X.K g F H σ ρ (match ρ1.still e with
      | some x => (ms x.2).bind fun es ρ2 => .ok (x.1 :: es) ρ2
      | none => .stk) Q := h
    split at h
    case h_2 => exact False.elim h
    rename_i x hx
    obtain ⟨F2, P2, n2, e2⟩ := stillE P hx
    refine ⟨F2, x.2, P2.st, ?_⟩
    cases hs : ms x.2 with
    | exc y p ρ' =>
      rw [hs] at h
      exact fun dx v F' H' PX => h dx v F' H' ⟨PX.st, P2.fr.trans PX.fr, PX.rep, PX.xd⟩
    | stk => rw [hs] at h; exact h
    | ok es ρ2 =>
      rw [hs] at h
      intro vs F3 H3 S3 f3 i3 n3
      refine h (v :: vs) F3 H3 S3 (P2.fr.trans f3) ⟨P2.inf.mono f3, n2, fun p hp d d' z z' hv => ?_, i3⟩ fun p hp d q z z' => ?_
      · -- the later ones are new where the first one stands
        have i2 := P2.inf
        rw [z] at i2
        obtain ⟨q, e1, c, _⟩ := i2
        exact c.notNw (n3 p hp d' q z' (by rw [← hv, e1]))
      · rcases List.mem_cons.mp hp with rfl | hp
        · exact P2.new d q z z'
        · exact P2.fr.dom q (n3 p hp d q z z')

def Env.putL : Env → List Nat → List EV → Env
  | ρ, i :: is, e :: es => Env.putL (ρ.put i e) is es
  | ρ, _, _ => ρ
def setL : L2.St → List Nat → List V → L2.St
  | σ, i :: is, v :: vs => setL (σ.set i (some v)) is vs
  | σ, _, _ => σ
theorem Sta.putL {K : Fg} {F H : Hp} : ∀ {is : List Nat} {vs : List V} {es : List EV} {σ : L2.St} {ρ : Env}, Sta K g F H σ ρ → InFL K g F H σ ρ vs es → is.length = es.length → Sta K g F H (setL σ is vs) (ρ.putL is es)
  | [], [], [], σ, ρ, S, _, _ => S
  | i :: is, v :: vs, e :: es, σ, ρ, S, h, hl => by
    obtain ⟨i1, n1, ap, i2⟩ := h
    have key : ∀ {vs : List V} {es : List EV}, (∀ p ∈ vs.zip es, Apart v e p.1 p.2) → InFL K g F H σ ρ vs es → InFL K g F H (σ.set i (some v)) (ρ.put i e) vs es := fun {vs es} => by
      induction vs generalizing es with
      | nil => intro _ q; cases es <;> exact q
      | cons w ws ih =>
        intro ap q
        cases es with
        | nil => exact q
        | cons f fs => exact ⟨q.1.put q.2.1 i1 (ap (w, f) (List.mem_cons_self ..)) i, q.2.1, q.2.2.1, ih (fun p hp => ap p (List.mem_cons_of_mem _ hp)) q.2.2.2⟩
    exact Sta.putL (is := is) (vs := vs) (es := es) (S.put i1 n1 i) (key ap i2) (by simpa using hl)
  | _, [], _ :: _, _, _, _, h, _ => h.elim
  | _, _ :: _, [], _, _, _, h, _ => h.elim
  | [], _ :: _, _ :: _, _, _, _, _, hl => by cases hl
  | _ :: _, [], [], _, _, _, _, hl => by cases hl
def mPar (is : List Nat) (ms : M (List EV)) : MS := fun ρ => (ms ρ).toS fun es ρ1 => if is.length = es.length then .nx (ρ1.putL is es) else .stk
theorem par_end {is : List Nat} : ∀ D σ H, tSt X.K g (mPar is ms) D σ H → tLs X.K g ms σ H fun vs H1 => vs.length = is.length ∧ ∀ H2, Ex H1 H2 → (∀ p, H2 p = none → H1 p = none) → D.nx (setL σ is vs) H2 := by
  rintro D σ H ⟨F, ρ, S, h⟩
  refine ⟨F, ρ, S, ?_⟩
  unfold mPar at h
  cases hm : ms ρ with
  | exc x p ρ' =>
    rw [hm] at h
    exact fun dx v F' H' P => h dx v σ F' H' P.st P.rep P.xd
  | stk => rw [hm] at h; exact h
  | ok es ρ1 =>
    rw [hm] at h
    intro vs F1 H1 S1 f1 i1 n1
    have h : EndS X.K g F (if is.length = es.length then .nx (ρ1.putL is es) else .stk) D := h
    split at h
    · rename_i hl
      refine ⟨i1.length.trans hl.symm, fun H2 e2 d2 => h _ F1 H2 ?_ f1.ex⟩
      have gr : Grow F1 H1 F1 H2 := ⟨Ex.refl _, S1.ex.trans e2, e2, fun _ n _ => n, id⟩
      exact (S1.putL i1 hl).grow gr
    · exact False.elim h
theorem rs_par2 {i j : Nat} {x y : Str} {px py pt : Pos} {kt k2 : Nat} {pt2 : Pos} (hr : RL X g [a, b] ms) (hN : X.N.Nodup) (hc : X.calm = true := by rfl) (hi : X.N[i]? = some x := by rfl) (hj : X.N[j]? = some y := by rfl) (hij : i ≠ j := by decide)
    (hx : X.env.scope.names.lookup x = some .local := by rfl) (hy : X.env.scope.names.lookup y = some .local := by rfl)
    (hw : swappedStores [.Tuple [.Name x px, .Name y py] kt pt] (.Tuple [a, b] k2 pt2) X.env = pure (some [x, y]) := by rfl)
    (hs : swapsWithSole [.Tuple [.Name x px, .Name y py] kt pt] (.Tuple [a, b] k2 pt2) pos.line X.env = pure false := by rfl) :
    RS X g (.Assign [.Tuple [.Name x px, .Name y py] kt pt] (.Tuple [a, b] k2 pt2) pos) (mPar [i, j] ms) := by
  refine PS.to (ps_par hc hN hi hj hij hx hy hr hw hs) fun D σ H h => ?_
  have h2 := par_end D σ H h
  obtain ⟨F, ρ, S, h3⟩ := h2
  refine ⟨F, ρ, S, ?_⟩
  cases hm : ms ρ with
  | exc x p ρ' => rw [hm] at h3; exact h3
  | stk => rw [hm] at h3; exact h3
  | ok es ρ1 =>
    rw [hm] at h3
    intro vs F1 H1 S1 f1 i1 n1
    obtain ⟨hl, q⟩ := h3 vs F1 H1 S1 f1 i1 n1
    match vs, hl with
    | [v, w], _ => exact ⟨v, w, rfl, q H1 (Ex.refl _) fun _ z => z⟩
theorem rs_par3 {i j l : Nat} {x y z : Str} {px py pz pt : Pos} {kt k2 : Nat} {pt2 : Pos} (hr : RL X g [a, b, c] ms) (hN : X.N.Nodup) (hc : X.calm = true := by rfl) (hi : X.N[i]? = some x := by rfl) (hj : X.N[j]? = some y := by rfl) (hl : X.N[l]? = some z := by rfl)
    (hij : i ≠ j := by decide) (hil : i ≠ l := by decide) (hjl : j ≠ l := by decide)
    (hx : X.env.scope.names.lookup x = some .local := by rfl) (hy : X.env.scope.names.lookup y = some .local := by rfl) (hz : X.env.scope.names.lookup z = some .local := by rfl)
    (hw : swappedStores [.Tuple [.Name x px, .Name y py, .Name z pz] kt pt] (.Tuple [a, b, c] k2 pt2) X.env = pure (some [x, y, z]) := by rfl)
    (hs : swapsWithSole [.Tuple [.Name x px, .Name y py, .Name z pz] kt pt] (.Tuple [a, b, c] k2 pt2) pos.line X.env = pure false := by rfl) :
    RS X g (.Assign [.Tuple [.Name x px, .Name y py, .Name z pz] kt pt] (.Tuple [a, b, c] k2 pt2) pos) (mPar [i, j, l] ms) := by
  refine PS.to (ps_par3 hc hN hi hj hl hij hil hjl hx hy hz hr hw hs) fun D σ H h => ?_
  have h2 := par_end D σ H h
  obtain ⟨F, ρ, S, h3⟩ := h2
  refine ⟨F, ρ, S, ?_⟩
  cases hm : ms ρ with
  | exc x p ρ' => rw [hm] at h3; exact h3
  | stk => rw [hm] at h3; exact h3
  | ok es ρ1 =>
    rw [hm] at h3
    intro vs F1 H1 S1 f1 i1 n1
    obtain ⟨hl, q⟩ := h3 vs F1 H1 S1 f1 i1 n1
    match vs, hl with
    | [u, v, w], _ => exact ⟨u, v, w, rfl, q H1 (Ex.refl _) fun _ z => z⟩
/-- the pair is made and taken apart (a name that is a cell) -/
def gNames : List Nat → TGs
  | [] => gNil
  | i :: is => gCons (gName i) (gNames is)
theorem gNames_of {Q : L2.St → Hp → Prop} {H : Hp} : ∀ {is : List Nat} {vs : List V} {σ : L2.St}, vs.length = is.length → Q (setL σ is vs) H → gNames is vs σ H Q
  | [], [], σ, _, q => ⟨rfl, q⟩
  | i :: is, v :: vs, σ, hl, q => ⟨v, vs, rfl, gNames_of (is := is) (vs := vs) (by simpa using hl) q⟩
theorem rs_parG {tg : Expr} {is : List Nat} {k2 : Nat} {pt2 : Pos} (hr : RL X g es ms) (hg : PG X tg (gTup X.K is.length (gNames is))) (hz : is.length ≤ sizeLine := by decide)
    (hs : swapsWithSole [tg] (.Tuple es k2 pt2) pos.line X.env = pure false := by rfl) (hw : swappedStores [tg] (.Tuple es k2 pt2) X.env = pure none := by rfl)
    (h1 : (assignEach [tg] X.env).map (·.2) = [assign tg X.env] := by rfl) : RS X g (.Assign [tg] (.Tuple es k2 pt2) pos) (mPar is ms) := by
  refine PS.to (ps_asg (pe_tup hr) hg hs hw h1) fun D σ H h => ?_
  obtain ⟨F, ρ, S, h3⟩ := par_end D σ H h
  refine ⟨F, ρ, S, ?_⟩
  cases hm : ms ρ with
  | exc x p ρ' => rw [hm] at h3; exact h3
  | stk => rw [hm] at h3; exact h3
  | ok es ρ1 =>
    rw [hm] at h3
    intro vs F1 H1 S1 f1 i1 n1
    obtain ⟨hl, q⟩ := h3 vs F1 H1 S1 f1 i1 n1
    refine ⟨by rw [hl]; exact hz, fun p hp => ⟨p, vs, rfl, .inl (.inl upd_same), hl, gNames_of hl (q _ (Ex.new hp) fun r hr => ?_)⟩⟩
    by_cases z : r = p
    · rw [z]; exact hp
    · rw [upd_ne z] at hr; exact hr
end

/-! ### targets of frozen data: mt what is stored, sl the names that change -/
abbrev MT := D → Env → Option Env
def tGt (K : Fg) (g : G) (mt : MT) (sl : List Nat) : TG := fun v σ H Q => ∃ F ρ d, Sta K g F H σ ρ ∧ Rep K F v d ∧ match mt d ρ with
  | some ρ' => ∀ σ' F' H', Sta K g F' H' σ' ρ' → Ex F F' → (∀ j, j ∉ sl → σ'[j]? = σ[j]?) → σ'.length = σ.length → Q σ' H'
  | none => False
def tGts (K : Fg) (g : G) (mt : List D → Env → Option Env) (sl : List Nat) : TGs := fun vs σ H Q => ∃ F ρ ds, Sta K g F H σ ρ ∧ RepA K F vs ds ∧ match mt ds ρ with
  | some ρ' => ∀ σ' F' H', Sta K g F' H' σ' ρ' → Ex F F' → (∀ j, j ∉ sl → σ'[j]? = σ[j]?) → σ'.length = σ.length → Q σ' H'
  | none => False
def RG (X : Cx) (g : G) (t : Expr) (mt : MT) (sl : List Nat) : Prop := PG X t (tGt X.K g mt sl)
def RGs (X : Cx) (g : G) (t : List Expr) (mt : List D → Env → Option Env) (sl : List Nat) : Prop := PGs X t (tGts X.K g mt sl)
theorem PG.to {X : Cx} {e : Expr} {t t' : TG} (h : PG X e t) (i : ∀ v σ H Q, t' v σ H Q → t v σ H Q) : PG X e t' := ⟨fun pins s σ H v u Q I r q => h.run pins s σ H v u Q I r (i v σ H Q q)⟩
theorem PGs.to {X : Cx} {e : List Expr} {t t' : TGs} (h : PGs X e t) (i : ∀ v σ H Q, t' v σ H Q → t v σ H Q) : PGs X e t' := ⟨fun pins s σ H v u Q I r q => h.run pins s σ H v u Q I r (i v σ H Q q)⟩
theorem PG.or {X : Cx} {e : Expr} {t t' : TG} (h : PG X e t) (h' : PG X e t') : PG X e (fun v σ H Q => t v σ H Q ∨ t' v σ H Q) := ⟨fun pins s σ H v u Q I r q => q.elim (h.run pins s σ H v u Q I r) (h'.run pins s σ H v u Q I r)⟩
def tgName (i : Nat) : MT := fun d ρ => some (ρ.put i (.val d))
def tgNil : List D → Env → Option Env
  | [], ρ => some ρ
  | _, _ => none
def tgCons (m : MT) (ms : List D → Env → Option Env) : List D → Env → Option Env
  | d :: ds, ρ => (m d ρ).bind fun ρ' => ms ds ρ'
  | _, _ => none
def tgTup (n : Nat) (ms : List D → Env → Option Env) : MT := fun d ρ => match d with
  | .tuple ds => if ds.length = n then ms ds ρ else none
  | .list ds => if ds.length = n then ms ds ρ else none
  | _ => none
section
variable {X : Cx} {g : G} {t e : Expr} {ts es : List Expr} {mt : MT} {mts : List D → Env → Option Env} {sl sls : List Nat} {pos : Pos} {x : Str}
theorem rg_name {i : Nat} (hN : X.N.Nodup) (hi : X.N[i]? = some x := by rfl) (hx : Loc X.env.scope x := by first | exact Or.inl rfl | exact Or.inr rfl) (hf : X.fn x = true ∨ X.env.scope.names.lookup x = some .local := by first | exact .inl rfl | exact .inr rfl | assumption) :
    RG X g (.Name x pos) (tgName i) [i] := by
  refine PG.to (pg_name hN hi hx hf) ?_
  rintro v σ H Q ⟨F, ρ, d, S, r, h⟩
  exact h _ F H (S.put (e := .val d) r trivial i) (Ex.refl _) (fun j hj => List.getElem?_set_ne fun z => hj (by simp [z])) (List.length_set ..)
theorem rgs_nil : RGs X g [] tgNil [] := by
  refine PGs.to pgs_nil ?_
  rintro v σ H Q ⟨F, ρ, d, S, r, h⟩
  cases r with
  | nil => exact ⟨rfl, h σ F H S (Ex.refl _) (fun _ _ => rfl) rfl⟩
  | cons _ _ => exact False.elim h
theorem rgs_cons (h1 : RG X g t mt sl) (h2 : RGs X g ts mts sls) (hs : (assignEach (t :: ts) X.env).map (·.2) = assign t X.env :: (assignEach ts X.env).map (·.2) := by rfl) : RGs X g (t :: ts) (tgCons mt mts) (sl ++ sls) := by
  refine PGs.to (pgs_cons h1 h2 hs) ?_
  rintro v σ H Q ⟨F, ρ, d, S, r, h⟩
  cases r with
  | nil => exact False.elim h
  | cons r1 r2 =>
    rename_i v vs d ds
    refine ⟨v, vs, rfl, F, ρ, d, S, r1, ?_⟩
    have h : (match (mt d ρ).bind fun ρ' => mts ds ρ' with
      | some ρ' => ∀ σ' F' H', Sta X.K g F' H' σ' ρ' → Ex F F' → (∀ j, j ∉ sl ++ sls → σ'[j]? = σ[j]?) → σ'.length = σ.length → Q σ' H'
      | none => False) := h
    cases hm : mt d ρ with
    | none => rw [hm] at h; exact h
    | some ρ1 =>
      rw [hm] at h
      intro σ1 F1 H1 S1 e1 k1 l1
      refine ⟨F1, ρ1, ds, S1, r2.mono e1, ?_⟩
      have h : (match mts ds ρ1 with
        | some ρ' => ∀ σ' F' H', Sta X.K g F' H' σ' ρ' → Ex F F' → (∀ j, j ∉ sl ++ sls → σ'[j]? = σ[j]?) → σ'.length = σ.length → Q σ' H'
        | none => False) := h
      cases hn : mts ds ρ1 with
      | none => rw [hn] at h; exact h
      | some ρ2 =>
        rw [hn] at h
        intro σ2 F2 H2 S2 e2 k2 l2
        exact h σ2 F2 H2 S2 (e1.trans e2) (fun j hj => (k2 j fun z => hj (List.mem_append_right _ z)).trans (k1 j fun z => hj (List.mem_append_left _ z))) (l2.trans l1)
theorem rg_tup {k n : Nat} (h : RGs X g es mts sl) (hc : X.calm = true := by rfl) (hn : (assignEach es X.env).length = n := by rfl) (hst : (assignEach es X.env).findIdx? (·.1) = none := by rfl) : RG X g (.Tuple es k pos) (tgTup n mts) sl := by
  refine PG.to (PG.or (pg_tup hc h hn hst) (pg_lst hc h hn hst)) ?_
  rintro v σ H Q ⟨F, ρ, d, S, r, h⟩
  cases d with
  | tuple ds =>
    cases r with
    | tup hs ra =>
      have h : (match (if ds.length = n then mts ds ρ else none : Option Env) with
        | some ρ' => ∀ σ' F' H', Sta X.K g F' H' σ' ρ' → Ex F F' → (∀ j, j ∉ sl → σ'[j]? = σ[j]?) → σ'.length = σ.length → Q σ' H'
        | none => False) := h
      by_cases hl : ds.length = n
      · rw [if_pos hl] at h
        exact .inl ⟨_, _, rfl, S.ex.st hs, ra.length.trans hl, F, ρ, ds, S, ra, h⟩
      · rw [if_neg hl] at h
        exact False.elim h
  | list ds =>
    cases r with
    | lst hs ra =>
      have h : (match (if ds.length = n then mts ds ρ else none : Option Env) with
        | some ρ' => ∀ σ' F' H', Sta X.K g F' H' σ' ρ' → Ex F F' → (∀ j, j ∉ sl → σ'[j]? = σ[j]?) → σ'.length = σ.length → Q σ' H'
        | none => False) := h
      by_cases hl : ds.length = n
      · rw [if_pos hl] at h
        exact .inr ⟨_, _, rfl, S.ex.sl hs, ra.length.trans hl, F, ρ, ds, S, ra, h⟩
      · rw [if_neg hl] at h
        exact False.elim h
  | _ => exact False.elim h
/-! ### x[i] = v of a cell -/
def Env.wr (ρ : Env) (e : EV) (k : Int) (d : D) : Option Env := match ρ.readT e with
  | some (.list ds, t) => (ixN ds.length k).map fun j => ρ.setT (.list (ds.set j d)) t
  | _ => none
theorem Sta.write {K : Fg} {F H : Hp} {σ : L2.St} {ρ : Env} {p : Addr} {t : Tg} {o : HO} {out d : D} (S : Sta K g F H σ ρ) (ta : TgAt σ g.A p t) (tk : TgOk ρ t) (c0 : Cell K F H p d) (c : Cell K F (upd H p o) p out) :
    Sta K g F (upd H p o) σ (ρ.setT out t) ∧ Fr K g F H F (upd H p o) σ ρ (ρ.setT out t) := by
  refine S.back ta tk ⟨Ex.refl _, fun a u q => ?_, fun q o' m h n z => ?_, fun q h => ?_, S.nt, tabs_upd S.tabs c0.code⟩ c
  · rw [upd_ne fun z => by rw [z, c0.1] at q; cases q]
    exact S.ex a u q
  · rw [upd_ne (by simpa using z)]
    exact ⟨h, n⟩
  · intro u hu
    by_cases z : q = p
    · subst z
      obtain ⟨_, xs, _, e, _⟩ := c.lst
      exact (h _ e nt_lst).elim
    · exact h u (by rw [upd_ne z]; exact hu)
theorem readT_at {K : Fg} {F H : Hp} {σ : L2.St} {ρ : Env} {v : V} {ev : EV} {y : D × Tg} (S : Sta K g F H σ ρ) (i : InF K g F H σ ρ v ev) (h : ρ.readT ev = some y) :
    ∃ p, v = .ref p ∧ Cell K F H p y.1 ∧ TgAt σ g.A p y.2 ∧ TgOk ρ y.2 := by
  cases ev with
  | io k =>
    obtain ⟨d0, h4, rfl⟩ := Option.map_eq_some_iff.mp (show (ρ.io[k]?).map (fun d => (d, Tg.io k)) = some y from h)
    obtain ⟨p, e1, rfl⟩ := i
    obtain ⟨d', e2, c⟩ := S.iok k p e1
    rw [h4] at e2
    cases e2
    exact ⟨p, rfl, c, e1, d0, h4⟩
  | loc j =>
    have h1 : (match ρ.sl[j]? with
      | some (some (.own d)) => some (d, Tg.loc j)
      | _ => none) = some y := h
    split at h1
    · rename_i d0 hd
      cases h1
      obtain ⟨w, e1, p, rfl, c, _⟩ := S.slot j _ hd
      obtain ⟨_, i2⟩ := i
      rw [i2] at e1
      cases e1
      exact ⟨p, rfl, c, i2, d0, hd⟩
    · cases h1
  | _ => cases h
def tgSub (mo mi : M EV) : MT := fun d ρ => match mo ρ with
  | .ok o ρ1 => (match mi ρ1 with
    | .ok i ρ2 => (match ρ2.cont i with
      | some (.int k) => ρ2.wr o k d
      | _ => none)
    | _ => none)
  | _ => none
theorem rg_sub {o i : Expr} {mo mi : M EV} (ho : RE X g o mo) (hi : RE X g i mi)
    (ha : ∀ v, assign (.Subscript o i pos) X.env v = (do
      let ov ← holding [v] (eval o X.env)
      let iv ← holding [v, ov] (eval i X.env)
      standAt pos
      holding [v, ov, iv] (setItem ov iv v)
      release [v, ov, iv] []) := by intro _; rfl) : RG X g (.Subscript o i pos) (tgSub mo mi) [] := by
  refine PG.to (pg_sub ho hi set_list ha) ?_
  rintro v σ H Q ⟨F, ρ, d, S, r, h⟩
  unfold tgSub at h
  refine ⟨F, ρ, S, ?_⟩
  cases hm : mo ρ with
  | exc x p ρ' => rw [hm] at h; exact h.elim
  | stk => rw [hm] at h; exact h.elim
  | ok oe ρ1 =>
    rw [hm] at h
    intro ov F1 H1 P1
    refine ⟨F1, ρ1, P1.st, ?_⟩
    have h : (match (match mi ρ1 with
      | .ok i ρ2 => (match ρ2.cont i with
        | some (.int k) => ρ2.wr oe k d
        | _ => none)
      | _ => none : Option Env) with
      | some ρ' => ∀ σ' F' H', Sta X.K g F' H' σ' ρ' → Ex F F' → (∀ j, j ∉ ([] : List Nat) → σ'[j]? = σ[j]?) → σ'.length = σ.length → Q σ' H'
      | none => False) := h
    cases hn : mi ρ1 with
    | exc x p ρ' => rw [hn] at h; exact h.elim
    | stk => rw [hn] at h; exact h.elim
    | ok ie ρ2 =>
      rw [hn] at h
      intro iv F2 H2 P2
      have i2 := P1.inf.mono P2.fr
      have h : (match (match ρ2.cont ie with
        | some (.int k) => ρ2.wr oe k d
        | _ => none : Option Env) with
        | some ρ' => ∀ σ' F' H', Sta X.K g F' H' σ' ρ' → Ex F F' → (∀ j, j ∉ ([] : List Nat) → σ'[j]? = σ[j]?) → σ'.length = σ.length → Q σ' H'
        | none => False) := h
      cases hc : ρ2.cont ie with
      | none => rw [hc] at h; exact h.elim
      | some dk =>
        rw [hc] at h
        cases dk with
        | int k =>
          have h : (match ρ2.wr oe k d with
            | some ρ' => ∀ σ' F' H', Sta X.K g F' H' σ' ρ' → Ex F F' → (∀ j, j ∉ ([] : List Nat) → σ'[j]? = σ[j]?) → σ'.length = σ.length → Q σ' H'
            | none => False) := h
          cases hr : ρ2.readT oe with
          | none => unfold Env.wr at h; rw [hr] at h; exact h.elim
          | some y =>
            obtain ⟨p, rfl, c, ta, tk⟩ := readT_at P2.st i2 hr
            obtain ⟨ds, xs, e1, hp, ra⟩ := c.lst
            obtain ⟨y1, y2⟩ := y
            have e1 : y1 = .list ds := e1
            subst e1
            unfold Env.wr at h
            rw [hr] at h
            have h : (match (ixN ds.length k).map fun j => ρ2.setT (.list (ds.set j d)) y2 with
              | some ρ' => ∀ σ' F' H', Sta X.K g F' H' σ' ρ' → Ex F F' → (∀ j, j ∉ ([] : List Nat) → σ'[j]? = σ[j]?) → σ'.length = σ.length → Q σ' H'
              | none => False) := h
            cases hi : ixN ds.length k with
            | none => rw [hi] at h; exact h.elim
            | some j =>
              rw [hi] at h
              have r2 : Rep X.K F2 v d := r.mono (P1.fr.ex.trans P2.fr.ex)
              have c2 : Cell X.K F2 (upd H2 p (.lst (xs.set j v))) p (.list (ds.set j d)) := .mk c.1 upd_same (RepA.set r2 j ra)
              obtain ⟨S3, f3⟩ := P2.st.write ta tk c c2
              refine ⟨p, xs, k, j, rfl, (P2.inf.vw P2.st hc).int, hp, by rw [ra.length]; exact hi, ?_⟩
              exact h σ F2 _ S3 (P1.fr.ex.trans P2.fr.ex) (fun _ _ => rfl) rfl
        | _ => exact h.elim
/-- target = value, the value frozen -/
def mAsg (m : M EV) (mt : MT) : MS := fun ρ => (m ρ).toS fun e ρ1 => match ρ1.frz e with
  | some x => (match mt x.1 x.2 with
    | some ρ2 => .nx ρ2
    | none => .stk)
  | none => .stk
theorem rs_asg {m : M EV} (he : RE X g e m) (hg : RG X g t mt sl) (hs : swapsWithSole [t] e pos.line X.env = pure false := by rfl) (hw : swappedStores [t] e X.env = pure none := by rfl)
    (h1 : (assignEach [t] X.env).map (·.2) = [assign t X.env] := by rfl) : RS X g (.Assign [t] e pos) (mAsg m mt) := by
  refine PS.to (ps_asg he hg hs hw h1) ?_
  rintro D σ H ⟨F, ρ, S, h⟩
  refine ⟨F, ρ, S, EndS.seqE0 h fun e ρ1 v F1 H1 P h1 => ?_⟩
  split at h1
  case h_2 => exact h1.elim
  rename_i y hy
  obtain ⟨F2, S2, f2, r2⟩ := freezeE P.st P.fr P.inf P.new hy
  refine ⟨F2, y.2, y.1, S2, r2, ?_⟩
  split at h1
  case h_2 => exact h1.elim
  rename_i ρ2 hm
  exact fun σ' F' H' S' e' _ _ => h1 σ' F' H' S' (f2.ex.trans e')
end
end LW
set_option Elab.async false
set_option linter.all false
set_option maxRecDepth 100000
set_option maxHeartbeats 2000000
/-! LW10: methods that write, iterables, loops. -/
namespace LW
open PySem PySem.Spec PyProof.Rows L2
/-! ### methods that write a cell -/
def mMut (f : D → List D → Option (D × D)) (mo : M EV) (ms : M (List EV)) : M EV := fun ρ => (mo ρ).bind fun o ρ1 => (ms ρ1).bind fun es ρ2 => match ρ2.frzA es with
  | some y => (match y.2.readT o with
    | some c => (match f c.1 y.1 with
      | some z => .ok (.val z.2) (y.2.setT z.1 c.2)
      | none => .stk)
    | none => .stk)
  | none => .stk
def MuD (X : Cx) (id : String) (f : D → List D → Option (D × D)) : Prop :=
  ∀ F H p xs d ds z Q, Ex F H → Cell X.K F H p d → RepA X.K F xs ds → f d ds = some z → (∀ o w, Cell X.K F (upd H p o) p z.1 → Rep X.K F w z.2 → Q w (upd H p o)) → rMt X id (.ref p) xs H Q
section
variable {X : Cx} {g : G} {a b c e : Expr} {es : List Expr} {ma mb mc : M EV} {ms : M (List EV)} {pos p : Pos} {x : Str} {T id : String}
theorem mut_core {f : D → List D → Option (D × D)} (hk : MuD X id f) {F H F1 H1 F2 H2 : Hp} {σ : L2.St} {ρ ρ1 ρ2 : Env} {v : V} {o : EV} {vs : List V} {es : List EV} {Q : VK}
    (S2 : Sta X.K g F2 H2 σ ρ2) (io : InF X.K g F2 H2 σ ρ2 v o) (i2 : InFA X.K g F2 H2 σ ρ2 vs es)
    (h : EndE X.K g F2 H2 σ ρ2 (match ρ2.frzA es with
  | some y => (match y.2.readT o with
    | some c => (match f c.1 y.1 with
      | some z => .ok (.val z.2) (y.2.setT z.1 c.2)
      | none => .stk)
    | none => .stk)
  | none => .stk) Q) : rMt X id v vs H2 Q := by
  split at h
  case h_2 => exact h.elim
  rename_i y hy
  obtain ⟨F3, S3, f3, r3⟩ := freezeA S2 i2 hy
  have io3 := io.mono f3
  split at h
  case h_2 => exact h.elim
  rename_i c hc
  obtain ⟨p, rfl, cc, ta, tk⟩ := readT_at S3 io3 hc
  split at h
  case h_2 => exact h.elim
  rename_i z hz
  refine hk F3 H2 p vs c.1 y.1 z Q S3.ex cc r3 hz fun o w c' r' => ?_
  obtain ⟨S4, f4⟩ := S3.write ta tk cc c'
  exact h w F3 _ ⟨S4, f3.trans f4, r', fun _ _ z => nomatch z⟩
theorem mut_end {f : D → List D → Option (D × D)} (hk : MuD X id f) (hT : ∀ F H p d, Ex F H → Cell X.K F H p d → tyV X.K T (.ref p) H) :
    ∀ σ H Q, tD X.K g (mMut f (mOn T ma) ms) σ H Q → tBM X.K T (rMt X id) (tD X.K g ma) (tAr X.K g ms) σ H Q := by
  rintro σ H Q ⟨F, ρ, S, h⟩
  refine ⟨F, ρ, S, ?_⟩
  have e : mMut f (mOn T ma) ms ρ = (ma ρ).bind fun o ρ1 => (match ρ1.cont o with
    | some d => if tyD T d = true then .ok o ρ1 else .stk
    | none => .stk : Out EV).bind fun o ρ1 => (ms ρ1).bind fun es ρ2 => match ρ2.frzA es with
      | some y => (match y.2.readT o with
        | some c => (match f c.1 y.1 with
          | some z => .ok (.val z.2) (y.2.setT z.1 c.2)
          | none => .stk)
        | none => .stk)
      | none => .stk := by
    unfold mMut mOn
    cases ma ρ <;> rfl
  rw [e] at h
  refine EndE.seq h fun o ρ1 v F1 H1 P1 h1 => ?_
  cases hc : ρ1.cont o with
  | none => rw [hc] at h1; exact False.elim h1
  | some d0 =>
    rw [hc] at h1
    by_cases ht : tyD T d0 = true
    · simp only [if_pos ht, Out.bind_ok] at h1
      refine ⟨tyD_of P1.st.ex (P1.inf.vw P1.st hc) ht, F1, ρ1, P1.st, EndE.seqA h1 fun es ρ2 vs F2 H2 S2 f2 i2 h2 => ?_⟩
      exact mut_core hk (F := F) (H := H) (F1 := F1) (H1 := H1) (ρ := ρ) (ρ1 := ρ1) S2 (P1.inf.mono f2) i2 h2
    · simp only [if_neg ht, Out.bind_stk] at h1
      exact False.elim h1
theorem re_mut {o : Expr} {name : Str} {apos cpos : Pos} {f : D → List D → Option (D × D)} (hk : MuD X id f) (pa : PlainAttrs "list") (slot : PySem.Slot "list" name id) (hty : typeOf (.builtin id) = pure (.type "method_descriptor")) (ho : RE X g o ma) (ha : RA X g (e :: es) ms)
    (hbase : attributeBase o name X.env (eval o X.env) = eval o X.env := by rfl)
    (hfew : ((backTo cpos (starEach (e :: es) X.env)).all (fun x => !x.1) && (backToKw cpos (keywordEach [] X.env)).all (fun x => x.1.isSome)
      && decide ((e :: es).length + ([] : List Keyword).length + (if ([] : List Keyword).isEmpty then 0 else 1) < 30)) = true := by rfl)
    (hline : (apos.endLine == cpos.line) = true := by rfl) (hs : starEach (e :: es) X.env = (false, eval e X.env) :: starEach es X.env := by rfl) (hplain : (backTo cpos (starEach es X.env)).any (·.1) = false := by rfl) :
    RE X g (.Call (.Attribute o name apos) (e :: es) [] cpos) (mMut f (mOn "list" ma) ms) :=
  PE.to (pe_bm pa slot hty rMt_ok ho ha hbase hfew hline hs hplain) (mut_end hk fun F H p d ex c => by
    obtain ⟨ds, xs, rfl, hp, _⟩ := c.lst
    exact .inl ⟨rfl, xs, .inl (.inl hp)⟩)
theorem re_mut0 {o : Expr} {name : Str} {apos cpos : Pos} {f : D → List D → Option (D × D)} (hk : MuD X id f) (pa : PlainAttrs "list") (slot : PySem.Slot "list" name id) (hty : typeOf (.builtin id) = pure (.type "method_descriptor")) (ho : RE X g o ma)
    (hbase : attributeBase o name X.env (eval o X.env) = eval o X.env := by rfl)
    (hline : (apos.endLine == cpos.line) = true := by rfl) :
    RE X g (.Call (.Attribute o name apos) [] [] cpos) (mMut f ma mNil) := by
  refine PE.to (pe_bm0 pa slot hty rMt_ok ho hbase hline) ?_
  rintro σ H Q ⟨F, ρ, S, h⟩
  refine ⟨F, ρ, S, EndE.seq h fun o ρ1 v F1 H1 P1 h1 => ?_⟩
  have h1 : EndE X.K g F1 H1 σ ρ1 (match ρ1.frzA [] with
      | some y => (match y.2.readT o with
        | some c => (match f c.1 y.1 with
          | some z => .ok (.val z.2) (y.2.setT z.1 c.2)
          | none => .stk)
        | none => .stk)
      | none => .stk) Q := h1
  have hv : tyV X.K "list" v H1 := by
    have h2 : EndE X.K g F1 H1 σ ρ1 (match ρ1.readT o with
        | some c => (match f c.1 [] with
          | some z => .ok (.val z.2) (ρ1.setT z.1 c.2)
          | none => .stk)
        | none => .stk) Q := h1
    cases hr : ρ1.readT o with
    | none => rw [hr] at h2; exact h2.elim
    | some c =>
      obtain ⟨p, rfl, cc, _⟩ := readT_at P1.st P1.inf hr
      obtain ⟨ds, xs, _, hp, _⟩ := cc.lst
      exact .inl ⟨rfl, xs, .inl (.inl hp)⟩
  exact ⟨hv, mut_core hk (F := F) (H := H) (F1 := F1) (H1 := H1) (ρ := ρ) (ρ1 := ρ1) (es := []) P1.st P1.inf trivial h1⟩
def gAppend : D → List D → Option (D × D)
  | .list ds, [d] => if ds.length < sizeLine then some (.list (ds ++ [d]), .none) else none
  | _, _ => none
theorem mu_append : MuD X "list.append" gAppend := by
  intro F H p xs d ds z Q ex c r hf q
  unfold gAppend at hf
  split at hf
  case h_2 => cases hf
  split at hf
  case isFalse => cases hf
  rename_i hz
  cases hf
  obtain ⟨es, us, e1, hp, ra⟩ := c.lst
  cases e1
  cases r with
  | cons r1 r2 =>
    cases r2
    exact ⟨_, mt_append, p, us, _, rfl, rfl, hp, by rw [ra.length]; exact hz, q _ _ (.mk c.1 upd_same (ra.append (.cons r1 .nil))) .non⟩
def gPop : D → List D → Option (D × D)
  | .list ds, [] => (ds[ds.length - 1]?).map fun y => (.list ds.dropLast, y)
  | _, _ => none
theorem mu_pop : MuD X "list.pop" gPop := by
  intro F H p xs d ds z Q ex c r hf q
  unfold gPop at hf
  split at hf
  case h_2 => cases hf
  obtain ⟨y, hy, rfl⟩ := Option.map_eq_some_iff.mp hf
  obtain ⟨es, us, e1, hp, ra⟩ := c.lst
  cases e1
  cases r
  obtain ⟨w, hw, rw'⟩ := ra.get hy
  exact ⟨_, mt_pop, p, us, w, rfl, rfl, hp, by rw [ra.length]; exact hw, q _ _ (.mk c.1 upd_same ra.dropLast) rw'⟩
def gPopAt : D → List D → Option (D × D)
  | .list ds, [.int i] => if -(2 ^ 63) ≤ i ∧ i < 2 ^ 63 then (seqIndex? i ds.length).bind fun k => (ds[k]?).map fun y => (.list (ds.eraseIdx k), y) else none
  | _, _ => none
theorem mu_popAt : MuD X "list.pop" gPopAt := by
  intro F H p xs d ds z Q ex c r hf q
  unfold gPopAt at hf
  split at hf
  case h_2 => cases hf
  split at hf
  case isFalse => cases hf
  rename_i hz
  obtain ⟨k, hk, hf⟩ := Option.bind_eq_some_iff.mp hf
  obtain ⟨y, hy, rfl⟩ := Option.map_eq_some_iff.mp hf
  obtain ⟨es, us, e1, hp, ra⟩ := c.lst
  cases e1
  cases r with
  | cons r1 r2 =>
    cases r2
    cases r1
    obtain ⟨w, hw, rw'⟩ := ra.get hy
    exact ⟨_, mt_popAt, p, us, _, k, w, rfl, rfl, hp, hz.1, hz.2, by rw [ra.length]; exact hk, hw, q _ _ (.mk c.1 upd_same (ra.erase k)) rw'⟩
end
/-! ### iterables -/
/-- an iterator that yields the data ds in turn -/
def ItOk (K : Fg) (J : It) (F : Hp) (ds : List D) : Prop := ∀ F1 H, Ex F F1 → Ex F1 H → (∀ i d, ds[i]? = some d → J.go i H ∧ ∀ x H', J.yld i H x H' → ∃ F', Grow F1 H F' H' ∧ Rep K F' x d) ∧ J.stop ds.length H
def EndI (K : Fg) (g : G) (F H : Hp) (σ : L2.St) (ρ : Env) (o : Out (List D)) (R : It → Hp → Prop) : Prop := match o with
  | .ok ds ρ' => ∀ J F' H', Sta K g F' H' σ ρ' → Fr K g F H F' H' σ ρ ρ' → ItOk K J F' ds → R J H'
  | .exc x p ρ' => ∀ dx v F' H', PostX K g F H F' H' σ ρ ρ' dx v x p → g.W (.ref (g.C x)) (some dx) σ H'
  | .stk => False
def tIt (K : Fg) (g : G) (m : M (List D)) : TI := fun σ H R => ∃ F ρ, Sta K g F H σ ρ ∧ EndI K g F H σ ρ (m ρ) R
def RI (X : Cx) (g : G) (tg e : Expr) (m : M (List D)) : Prop := PI X tg e (tIt X.K g m)
theorem PI.to {X : Cx} {tg e : Expr} {t t' : TI} (h : PI X tg e t) (i : ∀ σ H R, t' σ H R → t σ H R) : PI X tg e t' := ⟨fun pins s σ H R I q => h.run pins s σ H R I (i σ H R q)⟩
theorem PI.or {X : Cx} {tg e : Expr} {t t' : TI} (h : PI X tg e t) (h' : PI X tg e t') : PI X tg e (fun σ H R => t σ H R ∨ t' σ H R) := ⟨fun pins s σ H R I q => q.elim (h.run pins s σ H R I) (h'.run pins s σ H R I)⟩
section
variable {K : Fg} {g : G} {F H F1 H1 F' H' F'' H'' : Hp} {σ : L2.St} {ρ ρ1 ρ' ρ'' : Env} {v : V} {e : EV} {d : D}
theorem EndI.rebase {o : Out (List D)} {R : It → Hp → Prop} (h : EndI K g F H σ ρ o R) (f : Fr K g F H F1 H1 σ ρ ρ1) : EndI K g F1 H1 σ ρ1 o R := by
  cases o with
  | ok ds ρ' => exact fun J F' H' S P i => h J F' H' S (f.trans P) i
  | exc x p ρ' => exact fun dx v F' H' P => h dx v F' H' ⟨P.st, f.trans P.fr, P.rep, P.xd⟩
  | stk => exact h
theorem EndI.seqE {m : M EV} {f : EV → Env → Out (List D)} {R : It → Hp → Prop} {Q' : VK} (h : EndI K g F H σ ρ ((m ρ).bind f) R)
    (k : ∀ e ρ1 v F1 H1, PostE K g F H F1 H1 σ ρ ρ1 v e → EndI K g F1 H1 σ ρ1 (f e ρ1) R → Q' v H1) : EndE K g F H σ ρ (m ρ) Q' := by
  cases hm : m ρ with
  | ok e ρ1 =>
    rw [hm] at h
    exact fun v F1 H1 P => k e ρ1 v F1 H1 P (EndI.rebase (show EndI K g F H σ ρ (f e ρ1) R from h) P.fr)
  | exc x p ρ' => rw [hm] at h; exact h
  | stk => rw [hm] at h; exact h
theorem EndI.seqA {ms : M (List EV)} {f : List EV → Env → Out (List D)} {R : It → Hp → Prop} {Q' : List V → Hp → Prop} (h : EndI K g F H σ ρ ((ms ρ).bind f) R)
    (k : ∀ es ρ1 vs F1 H1, Sta K g F1 H1 σ ρ1 → InFA K g F1 H1 σ ρ1 vs es → EndI K g F1 H1 σ ρ1 (f es ρ1) R → Q' vs H1) : EndA K g F H σ ρ (ms ρ) Q' := by
  cases hm : ms ρ with
  | ok es ρ1 =>
    rw [hm] at h
    exact fun vs F1 H1 S P i => k es ρ1 vs F1 H1 S i (EndI.rebase (show EndI K g F H σ ρ (f es ρ1) R from h) P)
  | exc x p ρ' => rw [hm] at h; exact h
  | stk => rw [hm] at h; exact h
theorem it_list {a : Addr} {xs : List V} {ds : List D} (h : SqL K F a xs) (r : RepA K F xs ds) : ItOk K (Itl K a) F ds := by
  intro F1 H e1 e2
  have hs : SqL K H a xs := (e1.trans e2).sl h
  refine ⟨fun i d hd => ?_, ⟨xs, hs, by rw [r.length]; exact Nat.le_refl _⟩⟩
  obtain ⟨w, hw, rw'⟩ := r.get hd
  refine ⟨⟨xs, w, hs, hw⟩, ?_⟩
  rintro x H' ⟨rfl, hx⟩
  have := (hx xs hs).symm.trans hw
  cases this
  exact ⟨F1, Grow.refl e2, rw'.mono e1⟩
theorem it_tup {a : Addr} {xs : List V} {ds : List D} (h : SqT K F a xs) (r : RepA K F xs ds) : ItOk K (Itt K a) F ds := by
  intro F1 H e1 e2
  have hs : SqT K H a xs := (e1.trans e2).st h
  refine ⟨fun i d hd => ?_, ⟨xs, hs, by rw [r.length]; exact Nat.le_refl _⟩⟩
  obtain ⟨w, hw, rw'⟩ := r.get hd
  refine ⟨⟨xs, w, hs, hw⟩, ?_⟩
  rintro x H' ⟨rfl, hx⟩
  have := (hx xs hs).symm.trans hw
  cases this
  exact ⟨F1, Grow.refl e2, rw'.mono e1⟩
def charsD (x : Str) : List D := x.cps.toList.map fun c => .str ⟨#[c]⟩
theorem it_str {x : Str} : ItOk K (Its x) F (charsD x) := by
  intro F1 H e1 e2
  refine ⟨fun i d hd => ?_, show x.cps.size ≤ _ by simp [charsD]⟩
  unfold charsD at hd
  rw [List.getElem?_map] at hd
  obtain ⟨c, hc, rfl⟩ := Option.map_eq_some_iff.mp hd
  have hc' : x.cps[i]? = some c := by rw [← Array.getElem?_toList]; exact hc
  refine ⟨?_, ?_⟩
  · exact (Array.getElem?_eq_some_iff.mp hc').1
  · rintro w H' ⟨rfl, c', h1, rfl⟩
    rw [hc'] at h1
    cases h1
    exact ⟨F1, Grow.refl e2, .str _⟩
def rangeD (lo : Int) (n : Nat) : List D := (List.range n).map fun i => .int (lo + (i : Nat))
theorem it_rng {lo : Int} {n : Nat} : ItOk K (Itr lo n) F (rangeD lo n) := by
  intro F1 H e1 e2
  refine ⟨fun i d hd => ?_, show n ≤ _ by simp [rangeD]⟩
  unfold rangeD at hd
  rw [List.getElem?_map] at hd
  obtain ⟨c, hc, rfl⟩ := Option.map_eq_some_iff.mp hd
  obtain ⟨h1, h2⟩ := List.getElem?_eq_some_iff.mp hc
  rw [List.getElem_range] at h2
  subst h2
  refine ⟨show i < n by simpa using h1, ?_⟩
  rintro w H' ⟨rfl, rfl⟩
  exact ⟨F1, Grow.refl e2, .int _⟩
theorem Rep.list_inv {ds : List D} (r : Rep K F v (.list ds)) : ∃ a xs, v = .ref a ∧ SqL K F a xs ∧ RepA K F xs ds := by cases r; exact ⟨_, _, rfl, by assumption, by assumption⟩
theorem Rep.tup_inv {ds : List D} (r : Rep K F v (.tuple ds)) : ∃ a xs, v = .ref a ∧ SqT K F a xs ∧ RepA K F xs ds := by cases r; exact ⟨_, _, rfl, by assumption, by assumption⟩
end
def mItr (m : M EV) : M (List D) := fun ρ => (m ρ).bind fun e ρ1 => match ρ1.frz e with
  | some (.list ds, ρ2) => .ok ds ρ2
  | some (.tuple ds, ρ2) => .ok ds ρ2
  | some (.str x, ρ2) => .ok (charsD x) ρ2
  | _ => .stk
def mRng1 (ms : M (List EV)) : M (List D) := fun ρ => (ms ρ).bind fun es ρ1 => match ρ1.contA es with
  | some [.int j] => if -(2 ^ 62) ≤ j ∧ j < 2 ^ 62 then .ok (rangeD 0 j.toNat) ρ1 else .stk
  | _ => .stk
def mRng2 (ms : M (List EV)) : M (List D) := fun ρ => (ms ρ).bind fun es ρ1 => match ρ1.contA es with
  | some [.int i, .int j] => if -(2 ^ 62) ≤ i ∧ i < 2 ^ 62 ∧ -(2 ^ 62) ≤ j ∧ j < 2 ^ 62 then .ok (rangeD i (j - i).toNat) ρ1 else .stk
  | _ => .stk
section
variable {X : Cx} {g : G} {tg a b c e : Expr} {es : List Expr} {ma mb mc : M EV} {ms : M (List EV)} {pos p : Pos} {x : Str}
theorem ri_any (ha : RE X g a ma) : RI X g tg a (mItr ma) := by
  refine PI.to (PI.or (PI.or (pi_list ha) (pi_tup ha)) (pi_str ha)) ?_
  rintro σ H R ⟨F, ρ, S, h⟩
  unfold mItr at h
  cases hm : ma ρ with
  | exc x p ρ' => rw [hm] at h; exact .inr ⟨F, ρ, S, by rw [hm]; exact h⟩
  | stk => rw [hm] at h; exact h.elim
  | ok e ρ1 =>
    rw [hm] at h
    have h : EndI X.K g F H σ ρ (match ρ1.frz e with
    | some (.list ds, ρ2) => .ok ds ρ2
    | some (.tuple ds, ρ2) => .ok ds ρ2
    | some (.str x, ρ2) => .ok (charsD x) ρ2
    | _ => .stk) R := h
    split at h
    · rename_i ds ρ2 hy
      refine .inl (.inl ⟨F, ρ, S, ?_⟩)
      rw [hm]
      intro v F1 H1 P
      obtain ⟨F2, S2, f2, r2⟩ := freezeE P.st P.fr P.inf P.new hy
      obtain ⟨q, xs, rfl, hq, rq⟩ := r2.list_inv
      exact ⟨q, rfl, ⟨xs, S2.ex.sl hq⟩, h _ F2 H1 S2 f2 (it_list hq rq)⟩
    · rename_i ds ρ2 hy
      refine .inl (.inr ⟨F, ρ, S, ?_⟩)
      rw [hm]
      intro v F1 H1 P
      obtain ⟨F2, S2, f2, r2⟩ := freezeE P.st P.fr P.inf P.new hy
      obtain ⟨q, xs, rfl, hq, rq⟩ := r2.tup_inv
      exact ⟨q, rfl, ⟨xs, S2.ex.st hq⟩, h _ F2 H1 S2 f2 (it_tup hq rq)⟩
    · rename_i x ρ2 hy
      refine .inr ⟨F, ρ, S, ?_⟩
      rw [hm]
      intro v F1 H1 P
      obtain ⟨F2, S2, f2, r2⟩ := freezeE P.st P.fr P.inf P.new hy
      have : v = .str x := by cases r2; rfl
      exact ⟨x, this, h _ F2 H1 S2 f2 it_str⟩
    · exact h.elim
theorem ri_range1 (hm : X.mg "range" = none) (ha : RA X g [a] ms) (hg : Gl X "range" := by rfl) (hs : starEach [a] X.env = [(false, eval a X.env)] := by rfl) : RI X g tg (.Call (.Name "range" p) [a] [] pos) (mRng1 ms) := by
  refine PI.to (pi_range1 hg hm ha hs) ?_
  rintro σ H R ⟨F, ρ, S, h⟩
  refine ⟨F, ρ, S, EndI.seqA h fun es ρ1 vs F1 H1 S1 i1 h1 => ?_⟩
  split at h1
  case h_2 => exact h1.elim
  rename_i j hj
  split at h1
  case isFalse => exact h1.elim
  rename_i hz
  obtain ⟨v, rfl, vj⟩ := VwA.one (InFA.vw S1 i1 hj)
  exact ⟨j, by rw [vj.int], hz.1, hz.2, h1 _ F1 H1 S1 Fr.refl it_rng⟩
theorem ri_range2 (hm : X.mg "range" = none) (ha : RA X g [a, b] ms) (hg : Gl X "range" := by rfl) (hs : starEach [a, b] X.env = [(false, eval a X.env), (false, eval b X.env)] := by rfl) (hs2 : starEach [b] X.env = [(false, eval b X.env)] := by rfl) : RI X g tg (.Call (.Name "range" p) [a, b] [] pos) (mRng2 ms) := by
  refine PI.to (pi_range2 hg hm ha hs hs2) ?_
  rintro σ H R ⟨F, ρ, S, h⟩
  refine ⟨F, ρ, S, EndI.seqA h fun es ρ1 vs F1 H1 S1 i1 h1 => ?_⟩
  split at h1
  case h_2 => exact h1.elim
  rename_i i j hj
  split at h1
  case isFalse => exact h1.elim
  rename_i hz
  obtain ⟨v, w, rfl, vi, vj⟩ := VwA.two (InFA.vw S1 i1 hj)
  exact ⟨i, j, by rw [vi.int, vj.int], hz, h1 _ F1 H1 S1 Fr.refl it_rng⟩
/-! ### for, while -/
def forL (mt : MT) (mb : MS) : List D → MS
  | [], ρ => .nx ρ
  | d :: ds, ρ => match mt d ρ with
    | none => .stk
    | some ρ1 => match mb ρ1 with
      | .nx ρ2 => forL mt mb ds ρ2
      | .ct ρ2 => forL mt mb ds ρ2
      | .bk ρ2 => .nx ρ2
      | o => o
def mFor (mi : M (List D)) (mt : MT) (mb : MS) : MS := fun ρ => (mi ρ).toS fun ds ρ1 => forL mt mb ds ρ1
def whL (mc : M Bool) (mb : MS) : Nat → MS
  | 0, _ => .stk
  | n + 1, ρ => (mc ρ).toS fun b ρ1 => if b = true then (match mb ρ1 with
      | .nx ρ2 => whL mc mb n ρ2
      | .ct ρ2 => whL mc mb n ρ2
      | .bk ρ2 => .nx ρ2
      | o => o) else .nx ρ1
theorem EndS.seqI {K : Fg} {F H : Hp} {σ : L2.St} {ρ : Env} {mi : M (List D)} {f : List D → Env → SO} {D' : Ends} {R : It → Hp → Prop} (h : EndS K g F ((mi ρ).toS f) D')
    (k : ∀ ds ρ1 J F1 H1, Sta K g F1 H1 σ ρ1 → ItOk K J F1 ds → EndS K g F1 (f ds ρ1) D' → R J H1) : EndI K g F H σ ρ (mi ρ) R := by
  cases hm : mi ρ with
  | ok e ρ1 =>
    rw [hm] at h
    exact fun J F1 H1 S P i => k e ρ1 J F1 H1 S i (EndS.rebase (show EndS K g F (f e ρ1) D' from h) P.ex)
  | exc x p ρ' =>
    rw [hm] at h
    exact fun dx v F' H' P => h dx v σ F' H' P.st P.rep P.xd
  | stk => rw [hm] at h; exact h
theorem forL_ok {K : Fg} {mt : MT} {mb : MS} {J : It} {F0 : Hp} {ds : List D} {D' : Ends} {sl : List Nat} (ok : ItOk K J F0 ds) (σ : L2.St) (F H : Hp) (ρ : Env) (S : Sta K g F H σ ρ) (e0 : Ex F0 F) (h : EndS K g F (forL mt mb ds ρ) D') :
    ∃ W : Nat → Nat → L2.St → Hp → Prop, (∃ m, W 0 m σ H) ∧ ∀ i m σ H, W i m σ H →
      (J.stop i H ∧ D'.nx σ H) ∨ (J.go i H ∧ ∃ N : L2.St → Hp → Prop, (∀ σ' H', N σ' H' → ∃ m', m' < m ∧ W (i + 1) m' σ' H') ∧ ∀ x H', J.yld i H x H' → (tGt K g mt sl) x σ H' fun σ2 H2 => (tSt K g mb) { D' with nx := N, ct := N, bk := D'.nx } σ2 H2) := by
  refine ⟨fun i m σ H => m + i = ds.length ∧ ∃ F ρ, Sta K g F H σ ρ ∧ Ex F0 F ∧ EndS K g F (forL mt mb (ds.drop i) ρ) D', ⟨ds.length, rfl, F, ρ, S, e0, h⟩, ?_⟩
  rintro i m σ H ⟨hm, F, ρ, S, e0, h⟩
  obtain ⟨ok1, ok2⟩ := ok F H e0 S.ex
  cases hi : ds[i]? with
  | none =>
    have hle : ds.length ≤ i := List.getElem?_eq_none_iff.mp hi
    rw [List.drop_eq_nil_of_le hle] at h
    have e : i = ds.length := by omega
    exact .inl ⟨by rw [e]; exact ok2, h σ F H S (Ex.refl _)⟩
  | some d =>
    obtain ⟨hlt, hd⟩ := List.getElem?_eq_some_iff.mp hi
    rw [List.drop_eq_getElem_cons hlt, hd] at h
    obtain ⟨go, yl⟩ := ok1 i d hi
    refine .inr ⟨go, fun σ H => ∃ m', m' < m ∧ (m' + (i + 1) = ds.length ∧ ∃ F ρ, Sta K g F H σ ρ ∧ Ex F0 F ∧ EndS K g F (forL mt mb (ds.drop (i + 1)) ρ) D'), fun σ' H' z => z, fun x H' y => ?_⟩
    obtain ⟨F', w, r⟩ := yl x H' y
    refine ⟨F', ρ, d, S.grow w, r, ?_⟩
    have h : EndS K g F (match mt d ρ with
    | none => .stk
    | some ρ1 => match mb ρ1 with
      | .nx ρ2 => forL mt mb (ds.drop (i + 1)) ρ2
      | .ct ρ2 => forL mt mb (ds.drop (i + 1)) ρ2
      | .bk ρ2 => .nx ρ2
      | o => o) D' := h
    cases ht : mt d ρ with
    | none => rw [ht] at h; exact h.elim
    | some ρ1 =>
      rw [ht] at h
      intro σ2 F2 H2 S2 e2 _ _
      have h : EndS K g F (match mb ρ1 with
        | .nx ρ2 => forL mt mb (ds.drop (i + 1)) ρ2
        | .ct ρ2 => forL mt mb (ds.drop (i + 1)) ρ2
        | .bk ρ2 => .nx ρ2
        | o => o) D' := h
      refine ⟨F2, ρ1, S2, ?_⟩
      have e1 : Ex F F2 := w.ex.trans e2
      cases hb : mb ρ1 with
      | nx ρ2 =>
        rw [hb] at h
        intro σ3 F3 H3 S3 e3
        exact ⟨m - 1, by omega, by omega, F3, ρ2, S3, (e0.trans e1).trans e3, EndS.rebase h (e1.trans e3)⟩
      | ct ρ2 =>
        rw [hb] at h
        intro σ3 F3 H3 S3 e3
        exact ⟨m - 1, by omega, by omega, F3, ρ2, S3, (e0.trans e1).trans e3, EndS.rebase h (e1.trans e3)⟩
      | bk ρ2 =>
        rw [hb] at h
        intro σ3 F3 H3 S3 e3
        exact h σ3 F3 H3 S3 (e1.trans e3)
      | rt r ρ2 => rw [hb] at h; exact h
      | exc x p ρ2 => rw [hb] at h; exact h
      | stk => rw [hb] at h; exact h
theorem rs_for {iter : Expr} {body : List Stmt} {mi : M (List D)} {mt : MT} {mb : MS} {sl : List Nat} (hi : RI X g tg iter mi) (ht : RG X g tg mt sl) (hb : RSs X g body mb) (hp : PassesOwn (model X.prog X.w) X.A X.env X.xe := by assumption) (hc : X.calm = true := by rfl)
    (hs : ∀ x, foldedSetIterable iter X.env x = pure x := by intro _; rfl) : RS X g (.For tg iter body [] pos) (mFor mi mt mb) := by
  refine PS.to (ps_for hp hc hi ht hb hs) ?_
  rintro D' σ H ⟨F, ρ, S, h⟩
  refine ⟨F, ρ, S, EndS.seqI h fun ds ρ1 J F1 H1 S1 ok h1 => ?_⟩
  exact forL_ok ok σ F1 H1 ρ1 S1 (Ex.refl _) h1
theorem rs_while {body : List Stmt} {mt : M Bool} {mb : MS} (n : Nat) (ht : RT X g c mt) (hb : RSs X g body mb) (hp : PassesOwn (model X.prog X.w) X.A X.env X.xe := by assumption) : RS X g (.While c body [] pos) (whL mt mb n) := by
  refine PS.to (ps_while hp ht hb) ?_
  rintro D' σ H ⟨F, ρ, S, h⟩
  refine ⟨fun m σ H => ∃ F ρ, Sta X.K g F H σ ρ ∧ EndS X.K g F (whL mt mb m ρ) D', ⟨n, F, ρ, S, h⟩, ?_⟩
  rintro m σ H ⟨F, ρ, S, h⟩
  cases m with
  | zero => exact h.elim
  | succ m =>
    refine ⟨F, ρ, S, EndS.seqG (show EndS X.K g F ((mt ρ).toS fun b ρ1 => if b = true then (match mb ρ1 with
      | .nx ρ2 => whL mt mb m ρ2
      | .ct ρ2 => whL mt mb m ρ2
      | .bk ρ2 => .nx ρ2
      | o => o) else .nx ρ1) D' from h) fun b ρ1 F1 H1 S1 f1 h1 => ?_⟩
    cases b with
    | false =>
      rw [if_neg Bool.false_ne_true] at h1 ⊢
      exact h1 σ F1 H1 S1 (Ex.refl _)
    | true =>
      rw [if_pos rfl] at h1 ⊢
      refine ⟨fun σ H => ∃ F ρ, Sta X.K g F H σ ρ ∧ EndS X.K g F (whL mt mb m ρ) D', fun σ' H' z => ⟨m, Nat.lt_succ_self m, z⟩, F1, ρ1, S1, ?_⟩
      cases hb : mb ρ1 with
      | nx ρ2 =>
        rw [hb] at h1
        intro σ3 F3 H3 S3 e3
        exact ⟨F3, ρ2, S3, EndS.rebase h1 e3⟩
      | ct ρ2 =>
        rw [hb] at h1
        intro σ3 F3 H3 S3 e3
        exact ⟨F3, ρ2, S3, EndS.rebase h1 e3⟩
      | bk ρ2 =>
        rw [hb] at h1
        intro σ3 F3 H3 S3 e3
        exact h1 σ3 F3 H3 S3 e3
      | rt r ρ2 => rw [hb] at h1; exact h1
      | exc x p ρ2 => rw [hb] at h1; exact h1
      | stk => rw [hb] at h1; exact h1
end
end LW
set_option Elab.async false
set_option linter.all false
set_option maxRecDepth 100000
set_option maxHeartbeats 2000000
/-! LW11: list comprehensions. -/
namespace LW
open PySem PySem.Spec PyProof.Rows L2
def G.mute (g : G) : G := { g with W := fun _ _ _ _ => False }
def wipeS (l : List (Option Slot)) : List Nat → List (Option Slot)
  | [] => l
  | v :: vs => (wipeS l vs).set v none
def Env.wipe (ρ : Env) (vs : List Nat) : Env := { ρ with sl := wipeS ρ.sl vs }
def backS (l l0 : List (Option Slot)) : List Nat → List (Option Slot)
  | [] => l
  | v :: vs => (backS l l0 vs).set v (l0[v]?.join)
def Env.unwipe (ρ ρ0 : Env) (vs : List Nat) : Env := { ρ with sl := backS ρ.sl ρ0.sl vs }
def Env.calm (ρ : Env) (vs : List Nat) : Bool := vs.all fun v => match ρ.sl[v]? with
  | some (some (.own _)) => false
  | _ => true
section
variable {K : Fg} {g : G} {F H F1 H1 F' H' F'' H'' : Hp} {σ σ' : L2.St} {ρ ρ1 ρ' ρ'' : Env} {v : V} {e : EV} {d : D} {vs : List Nat}
theorem Sta.mute (S : Sta K g F H σ ρ) : Sta K g.mute F H σ ρ := ⟨S.ex0, S.ex, S.len, fun i s h => by
  obtain ⟨v, a, b⟩ := S.slot i s h
  exact ⟨v, a, by cases s <;> exact b⟩, S.sep, S.iok, S.ion, S.ioe, S.keep, S.dom, S.nt, S.tabs⟩
theorem Sta.loud (S : Sta K g.mute F H σ ρ) : Sta K g F H σ ρ := ⟨S.ex0, S.ex, S.len, fun i s h => by
  obtain ⟨v, a, b⟩ := S.slot i s h
  exact ⟨v, a, by cases s <;> exact b⟩, S.sep, S.iok, S.ion, S.ioe, S.keep, S.dom, S.nt, S.tabs⟩
theorem Fr.mute (f : Fr K g F H F' H' σ ρ ρ') : Fr K g.mute F H F' H' σ ρ ρ' := ⟨f.ex, f.fr, f.own, f.dom, f.loc⟩
theorem Fr.loud (f : Fr K g.mute F H F' H' σ ρ ρ') : Fr K g F H F' H' σ ρ ρ' := ⟨f.ex, f.fr, f.own, f.dom, f.loc⟩
theorem InF.mute (i : InF K g F H σ ρ v e) : InF K g.mute F H σ ρ v e := by cases e <;> exact i
theorem InF.loud (i : InF K g.mute F H σ ρ v e) : InF K g F H σ ρ v e := by cases e <;> exact i
theorem wipeS_length (l : List (Option Slot)) : ∀ vs : List Nat, (wipeS l vs).length = l.length
  | [] => rfl
  | v :: vs => by unfold wipeS; rw [List.length_set, wipeS_length l vs]
theorem wipeS_out {l : List (Option Slot)} {i : Nat} : ∀ {vs : List Nat}, i ∉ vs → (wipeS l vs)[i]? = l[i]?
  | [], _ => rfl
  | v :: vs, h => by
    have h1 : v ≠ i := fun e => h (by rw [e]; exact List.mem_cons_self)
    have h2 : i ∉ vs := fun m => h (List.mem_cons_of_mem _ m)
    unfold wipeS
    rw [List.getElem?_set_ne h1]
    exact wipeS_out h2
theorem wipeS_some {l : List (Option Slot)} {i : Nat} {x : Slot} : ∀ {vs : List Nat}, (wipeS l vs)[i]? = some (some x) → l[i]? = some (some x) ∧ i ∉ vs
  | [], h => ⟨h, by simp⟩
  | v :: vs, h => by
    unfold wipeS at h
    by_cases hi : v = i
    · subst hi
      by_cases hv : v < (wipeS l vs).length
      · rw [List.getElem?_set_self hv] at h; cases h
      · rw [List.getElem?_eq_none (by simpa using hv)] at h; cases h
    · rw [List.getElem?_set_ne hi] at h
      obtain ⟨a, b⟩ := wipeS_some h
      exact ⟨a, fun m => (List.mem_cons.mp m).elim (fun z => hi z.symm) b⟩
theorem wipe_in {σ : L2.St} {i : Nat} (hi : i < σ.length) : ∀ {vs : List Nat}, i ∈ vs → (wipe σ vs)[i]? = some none
  | v :: vs, h => by
    unfold wipe
    by_cases e : v = i
    · subst e
      rw [List.getElem?_set_self (by rw [wipe_length]; exact hi)]
    · rw [List.getElem?_set_ne e]
      exact wipe_in hi ((List.mem_cons.mp h).resolve_left fun z => e z.symm)
theorem wipe_eq {σ σ' : L2.St} {vs sl : List Nat} (hs : ∀ i ∈ sl, i ∈ vs) (h : ∀ j, j ∉ sl → σ'[j]? = (wipe σ vs)[j]?) (hl : σ'.length = σ.length) : wipe σ' vs = wipe σ vs := by
  apply List.ext_getElem?
  intro j
  by_cases hj : j ∈ vs
  · by_cases hlt : j < σ.length
    · rw [wipe_in (by rw [hl]; exact hlt) hj, wipe_in hlt hj]
    · rw [List.getElem?_eq_none (by rw [wipe_length, hl]; omega), List.getElem?_eq_none (by rw [wipe_length]; omega)]
  · rw [wipe_out hj]
    exact h j fun z => hj (hs j z)
theorem backS_length (l l0 : List (Option Slot)) : ∀ vs : List Nat, (backS l l0 vs).length = l.length
  | [] => rfl
  | v :: vs => by unfold backS; rw [List.length_set, backS_length l l0 vs]
theorem backS_out {l l0 : List (Option Slot)} {i : Nat} : ∀ {vs : List Nat}, i ∉ vs → (backS l l0 vs)[i]? = l[i]?
  | [], _ => rfl
  | v :: vs, h => by
    have h1 : v ≠ i := fun e => h (by rw [e]; exact List.mem_cons_self)
    have h2 : i ∉ vs := fun m => h (List.mem_cons_of_mem _ m)
    unfold backS
    rw [List.getElem?_set_ne h1]
    exact backS_out h2
theorem backS_in {l l0 : List (Option Slot)} {i : Nat} (hl : l.length = l0.length) : ∀ {vs : List Nat}, i ∈ vs → (backS l l0 vs)[i]? = l0[i]?
  | v :: vs, h => by
    unfold backS
    by_cases e : v = i
    · subst e
      by_cases hv : v < l0.length
      · rw [List.getElem?_set_self (by rw [backS_length, hl]; exact hv), List.getElem?_eq_getElem hv]
        rfl
      · rw [List.getElem?_eq_none (by rw [List.length_set, backS_length, hl]; omega), List.getElem?_eq_none (by omega)]
    · rw [List.getElem?_set_ne e]
      exact backS_in hl ((List.mem_cons.mp h).resolve_left fun z => e z.symm)
theorem Sta.wipe (S : Sta K g F H σ ρ) (vs : List Nat) : Sta K g F H (wipe σ vs) (ρ.wipe vs) := by
  refine ⟨S.ex0, S.ex, ?_, fun i s h => ?_, fun i j d d' p h h' q q' => ?_, S.iok, S.ion, S.ioe, S.keep, S.dom, S.nt, S.tabs⟩
  · show (wipeS ρ.sl vs).length = _
    rw [wipeS_length, wipe_length, S.len]
  · obtain ⟨a, b⟩ := wipeS_some (show (wipeS ρ.sl vs)[i]? = _ from h)
    obtain ⟨v, c, k⟩ := S.slot i s a
    exact ⟨v, (wipe_out b).trans c, k⟩
  · obtain ⟨a, b⟩ := wipeS_some (show (wipeS ρ.sl vs)[i]? = _ from h)
    obtain ⟨a', b'⟩ := wipeS_some (show (wipeS ρ.sl vs)[j]? = _ from h')
    exact S.sep i j d d' p a a' ((wipe_out b).symm.trans q) ((wipe_out b').symm.trans q')
theorem Env.calm_own (hc : ρ.calm vs = true) {i : Nat} {d : D} (hi : i ∈ vs) (h : ρ.sl[i]? = some (some (.own d))) : False := by
  have := List.all_eq_true.mp hc i hi
  rw [h] at this
  cases this
theorem Sta.unwipe (S1 : Sta K g F1 H1 σ ρ1) (S : Sta K g F' H' (L2.wipe σ vs) ρ') (e : Ex F1 F') (hc : ρ1.calm vs = true) : Sta K g F' H' σ (ρ'.unwipe ρ1 vs) := by
  have hl : ρ'.sl.length = ρ1.sl.length := by rw [S.len, wipe_length, S1.len]
  have isout : ∀ {i : Nat} {s : Slot}, i ∉ vs → (backS ρ'.sl ρ1.sl vs)[i]? = some (some s) → ρ'.sl[i]? = some (some s) := fun hi h => (backS_out hi).symm.trans h
  refine ⟨S.ex0, S.ex, ?_, fun i s h => ?_, fun i j d d' p h h' q q' => ?_, S.iok, S.ion, S.ioe, S.keep, S.dom, S.nt, S.tabs⟩
  · show (backS ρ'.sl ρ1.sl vs).length = _
    rw [backS_length, hl, S1.len]
  · have h : (backS ρ'.sl ρ1.sl vs)[i]? = some (some s) := h
    by_cases hi : i ∈ vs
    · rw [backS_in hl hi] at h
      obtain ⟨v, a, b⟩ := S1.slot i s h
      refine ⟨v, a, ?_⟩
      cases s with
      | val d => exact Rep.mono e b
      | own d => exact (Env.calm_own hc hi h).elim
      | io k => exact b
      | raw w => exact b
    · obtain ⟨v, a, b⟩ := S.slot i s (isout hi h)
      exact ⟨v, (wipe_out hi).symm.trans a, b⟩
  · have h : (backS ρ'.sl ρ1.sl vs)[i]? = some (some (.own d)) := h
    have h' : (backS ρ'.sl ρ1.sl vs)[j]? = some (some (.own d')) := h'
    have hi : i ∉ vs := fun z => Env.calm_own hc z ((backS_in hl z).symm.trans h)
    have hj : j ∉ vs := fun z => Env.calm_own hc z ((backS_in hl z).symm.trans h')
    exact S.sep i j d d' p (isout hi h) (isout hj h') ((wipe_out hi).trans q) ((wipe_out hj).trans q')
theorem Fr.unwipe (hl : ρ'.sl.length = ρ1.sl.length) (f : Fr K g F1 H1 F' H' (L2.wipe σ vs) (ρ1.wipe vs) ρ') (hc : ρ1.calm vs = true) : Fr K g F1 H1 F' H' σ ρ1 (ρ'.unwipe ρ1 vs) := by
  have own' : ∀ p, OwnAt (L2.wipe σ vs) (ρ1.wipe vs) p → OwnAt σ ρ1 p := fun p ⟨i, d, h, q⟩ => by
    obtain ⟨a, b⟩ := wipeS_some (show (wipeS ρ1.sl vs)[i]? = _ from h)
    exact ⟨i, d, a, (wipe_out b).symm.trans q⟩
  refine ⟨f.ex, fun p o m h n h1 h2 => f.fr p o m h n (fun z => h1 (own' p z)) h2, fun p ⟨i, d, h, q⟩ => ?_, f.dom, fun i s d h h2 => ?_⟩
  · have h : (backS ρ'.sl ρ1.sl vs)[i]? = some (some (.own d)) := h
    have hi : i ∉ vs := fun z => Env.calm_own hc z ((backS_in hl z).symm.trans h)
    exact own' p (f.own p ⟨i, d, (backS_out hi).symm.trans h, (wipe_out hi).trans q⟩)
  · by_cases hi : i ∈ vs
    · exact ⟨s, d, (backS_in hl hi).trans h, h2⟩
    · obtain ⟨s', d', a, b⟩ := f.loc i s d ((wipeS_out hi).trans h) h2
      exact ⟨s', d', (backS_out hi).trans a, b⟩
/-- a cell of no name is rewritten -/
theorem Sta.free {p : Addr} {o : HO} (S : Sta K g F H σ ρ) (c : Cell K F H p d) (no : NT o) (h1 : ¬ OwnAt σ ρ p) (h2 : p ∉ g.A) (h3 : Nw g.H0 p) : Sta K g F (upd H p o) σ ρ := by
  refine ⟨S.ex0, fun a u q => ?_, S.len, fun i s h => ?_, S.sep, fun k q h => ?_, S.ion, S.ioe, fun q o' m h n z => ?_, fun q h => ?_, S.nt, tabs_upd S.tabs c.code⟩
  · rw [upd_ne fun z => by rw [z, c.1] at q; cases q]
    exact S.ex a u q
  · obtain ⟨v, a, b⟩ := S.slot i s h
    refine ⟨v, a, ?_⟩
    cases s with
    | val d => exact b
    | own d =>
      obtain ⟨q, rfl, c, n⟩ := b
      refine ⟨q, rfl, c.mono (Ex.refl _) fun o' _ ho => ⟨?_, c.1⟩, n⟩
      rw [upd_ne fun z => h1 ⟨i, d, h, by rw [← z]; exact a⟩]
      exact ho
    | io k => exact b
    | raw w => exact b
  · obtain ⟨d, a, c⟩ := S.iok k q h
    refine ⟨d, a, c.mono (Ex.refl _) fun o' _ ho => ⟨?_, c.1⟩⟩
    rw [upd_ne fun z => h2 (by rw [← z]; exact List.mem_of_getElem? h)]
    exact ho
  · obtain ⟨a, b⟩ := S.keep q o' m h n z
    refine ⟨?_, b⟩
    rw [upd_ne fun z => by rw [z] at h; exact h3 _ h m]
    exact a
  · refine S.dom q fun u hu => ?_
    by_cases z : q = p
    · subst z
      exact fun _ => h o upd_same no
    · exact h u (by rw [upd_ne z]; exact hu)
end
/-! ### targets of names alone -/
structure Named (σ σ' : L2.St) (ρ ρ' : Env) (sl : List Nat) : Prop where
  st : ∀ j, j ∉ sl → σ'[j]? = σ[j]?
  nm : ∀ j, j ∉ sl → ρ'.sl[j]? = ρ.sl[j]?
  own : ∀ j d, ρ'.sl[j]? = some (some (Slot.own d)) → j ∉ sl
  len : σ'.length = σ.length
def tGn (K : Fg) (g : G) (mt : MT) (sl : List Nat) : TG := fun v σ H Q => ∃ F ρ d, Sta K g F H σ ρ ∧ Rep K F v d ∧ match mt d ρ with
  | some ρ' => ∀ σ', Sta K g F H σ' ρ' → Named σ σ' ρ ρ' sl → Q σ' H
  | none => False
def tGns (K : Fg) (g : G) (mt : List D → Env → Option Env) (sl : List Nat) : TGs := fun vs σ H Q => ∃ F ρ ds, Sta K g F H σ ρ ∧ RepA K F vs ds ∧ match mt ds ρ with
  | some ρ' => ∀ σ', Sta K g F H σ' ρ' → Named σ σ' ρ ρ' sl → Q σ' H
  | none => False
def RN (X : Cx) (g : G) (t : Expr) (mt : MT) (sl : List Nat) : Prop := PG X t (tGn X.K g mt sl)
def RNs (X : Cx) (g : G) (t : List Expr) (mt : List D → Env → Option Env) (sl : List Nat) : Prop := PGs X t (tGns X.K g mt sl)
section
variable {X : Cx} {g : G} {t e : Expr} {ts es : List Expr} {mt : MT} {mts : List D → Env → Option Env} {sl sls : List Nat} {pos : Pos} {x : Str}
theorem rn_name {i : Nat} (hN : X.N.Nodup) (hi : X.N[i]? = some x := by rfl) (hx : Loc X.env.scope x := by first | exact Or.inl rfl | exact Or.inr rfl) (hf : X.fn x = true ∨ X.env.scope.names.lookup x = some .local := by first | exact .inl rfl | exact .inr rfl | assumption) :
    RN X g (.Name x pos) (tgName i) [i] := by
  refine PG.to (pg_name hN hi hx hf) ?_
  rintro v σ H Q ⟨F, ρ, d, S, r, h⟩
  refine h _ (S.put (e := .val d) r trivial i) ⟨fun j hj => List.getElem?_set_ne fun z => hj (by simp [z]), fun j hj => List.getElem?_set_ne fun z => hj (by simp [z]), fun j d' hj z => ?_, List.length_set ..⟩
  have z : j = i := by simpa using z
  subst z
  have hj : (ρ.sl.set j (some (.val d)))[j]? = some (some (.own d')) := hj
  have hlt : j < ρ.sl.length := by
    have := (List.getElem?_eq_some_iff.mp hj).1
    rwa [List.length_set] at this
  rw [List.getElem?_set_self hlt] at hj
  cases hj
theorem rns_nil : RNs X g [] tgNil [] := by
  refine PGs.to pgs_nil ?_
  rintro v σ H Q ⟨F, ρ, d, S, r, h⟩
  cases r with
  | nil => exact ⟨rfl, h σ S ⟨fun _ _ => rfl, fun _ _ => rfl, fun _ _ _ => by simp, rfl⟩⟩
  | cons _ _ => exact False.elim h
theorem rns_cons (h1 : RN X g t mt sl) (h2 : RNs X g ts mts sls) (hs : (assignEach (t :: ts) X.env).map (·.2) = assign t X.env :: (assignEach ts X.env).map (·.2) := by rfl) : RNs X g (t :: ts) (tgCons mt mts) (sl ++ sls) := by
  refine PGs.to (pgs_cons h1 h2 hs) ?_
  rintro v σ H Q ⟨F, ρ, d, S, r, h⟩
  cases r with
  | nil => exact False.elim h
  | cons r1 r2 =>
    rename_i v vs d ds
    refine ⟨v, vs, rfl, F, ρ, d, S, r1, ?_⟩
    have h : (match (mt d ρ).bind fun ρ' => mts ds ρ' with
      | some ρ' => ∀ σ', Sta X.K g F H σ' ρ' → Named σ σ' ρ ρ' (sl ++ sls) → Q σ' H
      | none => False) := h
    cases hm : mt d ρ with
    | none => rw [hm] at h; exact h
    | some ρ1 =>
      rw [hm] at h
      intro σ1 S1 n1
      refine ⟨F, ρ1, ds, S1, r2, ?_⟩
      have h : (match mts ds ρ1 with
        | some ρ' => ∀ σ', Sta X.K g F H σ' ρ' → Named σ σ' ρ ρ' (sl ++ sls) → Q σ' H
        | none => False) := h
      cases hn : mts ds ρ1 with
      | none => rw [hn] at h; exact h
      | some ρ2 =>
        rw [hn] at h
        intro σ2 S2 n2
        refine h σ2 S2 ⟨fun j hj => ?_, fun j hj => ?_, fun j d' hj z => ?_, n2.len.trans n1.len⟩
        · exact (n2.st j fun z => hj (List.mem_append_right _ z)).trans (n1.st j fun z => hj (List.mem_append_left _ z))
        · exact (n2.nm j fun z => hj (List.mem_append_right _ z)).trans (n1.nm j fun z => hj (List.mem_append_left _ z))
        · have a := n2.own j d' hj
          exact (List.mem_append.mp z).elim (n1.own j d' ((n2.nm j a).symm.trans hj)) a
theorem rn_tup {k n : Nat} (h : RNs X g es mts sl) (hc : X.calm = true := by rfl) (hn : (assignEach es X.env).length = n := by rfl) (hst : (assignEach es X.env).findIdx? (·.1) = none := by rfl) : RN X g (.Tuple es k pos) (tgTup n mts) sl := by
  refine PG.to (PG.or (pg_tup hc h hn hst) (pg_lst hc h hn hst)) ?_
  rintro v σ H Q ⟨F, ρ, d, S, r, h⟩
  have key : ∀ {ds : List D}, (match (if ds.length = n then mts ds ρ else none : Option Env) with
    | some ρ' => ∀ σ', Sta X.K g F H σ' ρ' → Named σ σ' ρ ρ' sl → Q σ' H
    | none => False) → ds.length = n ∧ (match mts ds ρ with
    | some ρ' => ∀ σ', Sta X.K g F H σ' ρ' → Named σ σ' ρ ρ' sl → Q σ' H
    | none => False) := fun {ds} h => by
    by_cases hl : ds.length = n
    · rw [if_pos hl] at h; exact ⟨hl, h⟩
    · rw [if_neg hl] at h; exact h.elim
  cases d with
  | tuple ds =>
    obtain ⟨a, us, rfl, hq, ra⟩ := r.tup_inv
    obtain ⟨hl, h⟩ := key (ds := ds) h
    exact .inl ⟨a, us, rfl, S.ex.st hq, ra.length.trans hl, F, ρ, ds, S, ra, h⟩
  | list ds =>
    obtain ⟨a, us, rfl, hq, ra⟩ := r.list_inv
    obtain ⟨hl, h⟩ := key (ds := ds) h
    exact .inr ⟨a, us, rfl, S.ex.sl hq, ra.length.trans hl, F, ρ, ds, S, ra, h⟩
  | _ => exact False.elim h
end
/-! ### [e for t in i if c] -/
def mYes : M Bool := fun ρ => .ok true ρ
def RTs (X : Cx) (g : G) (ifs : List Expr) (m : M Bool) : Prop := PTs X ifs (tG X.K g m)
theorem PTs.to {X : Cx} {ifs : List Expr} {t t' : TT} (h : PTs X ifs t) (i : ∀ σ H Q, t' σ H Q → t σ H Q) : PTs X ifs t' := ⟨fun pins s σ H Q I q => h.run pins s σ H Q I (i σ H Q q)⟩
theorem rts_nil {X : Cx} {g : G} : RTs X g [] mYes := PTs.to pts_nil fun σ H Q ⟨F, ρ, S, h⟩ => h F H S Fr.refl
theorem rts_one {X : Cx} {g : G} {c : Expr} {m : M Bool} (h : RT X g c m) : RTs X g [c] m := pts_one h
def lcL (mt : MT) (mc : M Bool) (me : M EV) (vs : List Nat) : List D → Env → List D → Option (List D × Env)
  | [], ρ, acc => some (acc, ρ)
  | d :: ds, ρ, acc => match mt d ρ with
    | none => none
    | some ρ1 => match mc ρ1 with
      | .ok true ρ2 => (match me ρ2 with
        | .ok e ρ3 => (match ρ3.frz e with
          | some y => lcL mt mc me vs ds (y.2.wipe vs) (acc ++ [y.1])
          | none => none)
        | _ => none)
      | .ok false ρ2 => lcL mt mc me vs ds (ρ2.wipe vs) acc
      | _ => none
def mLc (mi : M (List D)) (mt : MT) (mc : M Bool) (me : M EV) (vs : List Nat) : M EV := fun ρ => (mi ρ).bind fun ds ρ1 =>
  if ρ1.calm vs = true ∧ ds.length ≤ sizeLine then (match lcL mt mc me vs ds (ρ1.wipe vs) [] with
    | some y => .ok (.own (.list y.1)) (y.2.unwipe ρ1 vs)
    | none => .stk) else .stk
section
variable {K : Fg} {g : G} {F H F1 H1 F' H' F'' H'' : Hp} {σ σ' : L2.St} {ρ ρ1 ρ' ρ'' : Env} {v : V} {e : EV} {d : D} {vs : List Nat}
/-- a turn of the block, seen from outside -/
theorem Fr.turn {F2 H2 F4 H4 : Hp} {σ8 : L2.St} {ρ4 : Env} {sl : List Nat} (S : Sta K g F2 H2 (L2.wipe σ vs) ρ) (n : Named (L2.wipe σ vs) σ8 ρ ρ1 sl) (hs : ∀ i ∈ sl, i ∈ vs) (f : Fr K g F2 H2 F4 H4 σ8 ρ1 ρ4) : Fr K g F2 H2 F4 H4 (L2.wipe σ vs) ρ (ρ4.wipe vs) := by
  have own1 : ∀ p, OwnAt σ8 ρ1 p → OwnAt (L2.wipe σ vs) ρ p := fun p ⟨j, d, h, q⟩ => by
    have a := n.own j d h
    exact ⟨j, d, (n.nm j a).symm.trans h, (n.st j a).symm.trans q⟩
  refine ⟨f.ex, fun p o u h m h1 h2 => f.fr p o u h m (fun z => h1 (own1 p z)) h2, fun p ⟨j, d, h, q⟩ => ?_, f.dom, fun i s d h h2 => ?_⟩
  · obtain ⟨a, b⟩ := wipeS_some (show (wipeS ρ4.sl vs)[j]? = _ from h)
    exact own1 p (f.own p ⟨j, d, a, (n.st j fun z => b (hs j z)).trans q⟩)
  · have hi : i ∉ vs := by
      obtain ⟨v, a, _⟩ := S.slot i s h
      exact (wipe_some a).2
    obtain ⟨s', d', a, b⟩ := f.loc i s d ((n.nm i fun z => hi (hs i z)).trans h) h2
    exact ⟨s', d', (wipeS_out hi).trans a, b⟩
end
theorem lc_end {X : Cx} {g : G} {mi : M (List D)} {mt : MT} {sl vs : List Nat} {mc : M Bool} {me : M EV} (hsl : ∀ i ∈ sl, i ∈ vs) : ∀ σ H Q, tD X.K g (mLc mi mt mc me vs) σ H Q → tLc (tIt X.K g mi) (tGn X.K g.mute mt sl) (tG X.K g.mute mc) (tD X.K g.mute me) vs σ H Q := by
  rintro σ H Q ⟨F, ρ, S, h⟩
  refine ⟨F, ρ, S, ?_⟩
  unfold mLc at h
  cases hm : mi ρ with
  | exc x p ρ' => rw [hm] at h; exact h
  | stk => rw [hm] at h; exact h
  | ok ds ρ1 =>
    rw [hm] at h
    intro J F1 H1 S1 f1 iok
    have h : EndE X.K g F H σ ρ (if ρ1.calm vs = true ∧ ds.length ≤ sizeLine then (match lcL mt mc me vs ds (ρ1.wipe vs) [] with
      | some y => .ok (.own (.list y.1)) (y.2.unwipe ρ1 vs)
      | none => .stk) else .stk) Q := h
    by_cases hz : ρ1.calm vs = true ∧ ds.length ≤ sizeLine
    case neg => rw [if_neg hz] at h; exact h.elim
    rw [if_pos hz] at h
    obtain ⟨hcalm, hlen⟩ := hz
    cases hr : lcL mt mc me vs ds (ρ1.wipe vs) [] with
    | none => rw [hr] at h; exact h.elim
    | some y =>
    rw [hr] at h
    intro D0 hD
    -- the block's state behind the new list
    have w0 : Grow F1 H1 F1 (upd H1 D0 (.lst [])) := Grow.opn S1.ex hD
    have S2 := S1.grow w0
    have c0 : Cell X.K F1 (upd H1 D0 (.lst [])) D0 (.list []) := .mk (S1.ex.none hD) upd_same .nil
    have S3 := S2.wipe vs
    have i0 : InF X.K g F1 (upd H1 D0 (.lst [])) (L2.wipe σ vs) (ρ1.wipe vs) (.ref D0) (.own (.list [])) := by
      have := (S1.wipe vs).newOwn (Nw.of hD) c0
      exact this
    refine ⟨fun i m Hh => m + i = ds.length ∧ ∃ F' ρ' acc, Sta X.K g F' Hh (L2.wipe σ vs) ρ' ∧ Fr X.K g F1 H1 F' Hh (L2.wipe σ vs) (ρ1.wipe vs) ρ' ∧ InF X.K g F' Hh (L2.wipe σ vs) ρ' (.ref D0) (.own (.list acc)) ∧ acc.length ≤ i ∧ lcL mt mc me vs (ds.drop i) ρ' acc = some y,
      ⟨ds.length, rfl, F1, ρ1.wipe vs, [], S3, w0.fr, i0, Nat.le_refl _, hr⟩, ?_⟩
    rintro i m Hh ⟨hm, F', ρ', acc, S', f', ci, hacc, hl⟩
    obtain ⟨ok1, ok2⟩ := iok F' Hh f'.ex S'.ex
    cases hi : ds[i]? with
    | none =>
      have hle : ds.length ≤ i := List.getElem?_eq_none_iff.mp hi
      rw [List.drop_eq_nil_of_le hle] at hl
      have hl : some (acc, ρ') = some y := hl
      cases hl
      have e : i = ds.length := by omega
      refine .inl ⟨by rw [e]; exact ok2, ?_⟩
      have Sn := Sta.unwipe S2 S' f'.ex hcalm
      have hll : ρ'.sl.length = ρ1.sl.length := by rw [S'.len, wipe_length, S1.len]
      have fn : Fr X.K g F1 H1 F' Hh σ ρ1 (ρ'.unwipe ρ1 vs) := Fr.unwipe hll f' hcalm
      have fa := f1.trans fn
      refine h (.ref D0) F' Hh ⟨Sn, fa, ?_, fun _ p _ z => by cases z; exact f1.dom _ (Nw.of hD)⟩
      obtain ⟨p, e1, c, _, n2, n3⟩ := ci
      cases e1
      refine ⟨D0, rfl, c, fun z => ?_, n2, n3⟩
      exact OwnAt.there S1 (fn.own D0 z) (Nw.of hD)
    | some d =>
      obtain ⟨hlt, hd⟩ := List.getElem?_eq_some_iff.mp hi
      rw [List.drop_eq_getElem_cons hlt, hd] at hl
      obtain ⟨go, yl⟩ := ok1 i d hi
      refine .inr ⟨go, fun Hh => ∃ m', m' < m ∧ (m' + (i + 1) = ds.length ∧ ∃ F' ρ' acc, Sta X.K g F' Hh (L2.wipe σ vs) ρ' ∧ Fr X.K g F1 H1 F' Hh (L2.wipe σ vs) (ρ1.wipe vs) ρ' ∧ InF X.K g F' Hh (L2.wipe σ vs) ρ' (.ref D0) (.own (.list acc)) ∧ acc.length ≤ i + 1 ∧ lcL mt mc me vs (ds.drop (i + 1)) ρ' acc = some y), fun H' z => z, fun x H2 yy => ?_⟩
      obtain ⟨F2, w2, r2⟩ := yl x H2 yy
      have Sb := S'.grow w2
      have fb := f'.trans w2.fr
      refine ⟨F2, ρ', d, Sb.mute, r2, ?_⟩
      have hl : (match mt d ρ' with
        | none => none
        | some ρ1 => match mc ρ1 with
          | .ok true ρ2 => (match me ρ2 with
            | .ok e ρ3 => (match ρ3.frz e with
              | some y => lcL mt mc me vs (ds.drop (i + 1)) (y.2.wipe vs) (acc ++ [y.1])
              | none => none)
            | _ => none)
          | .ok false ρ2 => lcL mt mc me vs (ds.drop (i + 1)) (ρ2.wipe vs) acc
          | _ => none) = some y := hl
      cases hmt : mt d ρ' with
      | none => rw [hmt] at hl; cases hl
      | some ρa =>
        rw [hmt] at hl
        intro σ8 S8 n8
        have hw : L2.wipe σ8 vs = L2.wipe σ vs := wipe_eq hsl n8.st (n8.len.trans (wipe_length σ vs))
        refine ⟨hw, F2, ρa, S8, ?_⟩
        have hl : (match mc ρa with
          | .ok true ρ2 => (match me ρ2 with
            | .ok e ρ3 => (match ρ3.frz e with
              | some y => lcL mt mc me vs (ds.drop (i + 1)) (y.2.wipe vs) (acc ++ [y.1])
              | none => none)
            | _ => none)
          | .ok false ρ2 => lcL mt mc me vs (ds.drop (i + 1)) (ρ2.wipe vs) acc
          | _ => none) = some y := hl
        cases hmc : mc ρa with
        | exc x p ρ' => rw [hmc] at hl; cases hl
        | stk => rw [hmc] at hl; cases hl
        | ok b ρb =>
          rw [hmc] at hl
          intro F3 H3 S9 f9
          cases b with
          | false =>
            rw [if_neg Bool.false_ne_true]
            have ft := Fr.turn Sb n8 hsl f9.loud
            refine ⟨m - 1, by omega, by omega, F3, ρb.wipe vs, acc, ?_, fb.trans ft, (ci.mono w2.fr).mono ft, Nat.le_succ_of_le hacc, hl⟩
            rw [← hw]
            exact S9.loud.wipe vs
          | true =>
            rw [if_pos rfl]
            refine ⟨F3, ρb, S9, ?_⟩
            have hl : (match me ρb with
            | .ok e ρ3 => (match ρ3.frz e with
              | some y => lcL mt mc me vs (ds.drop (i + 1)) (y.2.wipe vs) (acc ++ [y.1])
              | none => none)
            | _ => none) = some y := hl
            cases hme : me ρb with
            | exc x p ρ' => rw [hme] at hl; cases hl
            | stk => rw [hme] at hl; cases hl
            | ok ev ρc =>
              rw [hme] at hl
              intro vv F4 H4 P4
              have hl : (match ρc.frz ev with
                | some y => lcL mt mc me vs (ds.drop (i + 1)) (y.2.wipe vs) (acc ++ [y.1])
                | none => none) = some y := hl
              cases hfz : ρc.frz ev with
              | none => rw [hfz] at hl; cases hl
              | some z =>
                rw [hfz] at hl
                obtain ⟨F5, S5, f5, r5⟩ := freezeE P4.st P4.fr P4.inf P4.new hfz
                have ft := Fr.turn Sb n8 hsl (f9.trans f5).loud
                have cn := (ci.mono w2.fr).mono ft
                obtain ⟨p, e1, c, n1, n2, n3⟩ := cn
                cases e1
                obtain ⟨es, us, e1, hp, ra⟩ := c.lst
                cases e1
                refine ⟨us, hp, by rw [ra.length]; omega, m - 1, by omega, by omega, F5, z.2.wipe vs, acc ++ [z.1], ?_, ?_, ?_, ?_, hl⟩
                · have S6 := S5.loud.wipe vs
                  rw [hw] at S6
                  exact S6.free c nt_lst n1 n2 n3
                · have fx := fb.trans ft
                  refine ⟨fx.ex, fun q o mq ho nq a b => ?_, fx.own, fun q hq => ?_, fx.loc⟩
                  · obtain ⟨x1, x2⟩ := fx.fr q o mq ho nq a b
                    refine ⟨?_, x2⟩
                    rw [upd_ne fun z => by rw [z, hD] at ho; cases ho]
                    exact x1
                  · refine fx.dom q fun u hu => ?_
                    by_cases zz : q = D0
                    · subst zz
                      exact fun _ => hq _ upd_same nt_lst
                    · exact hq u (by rw [upd_ne zz]; exact hu)
                · exact ⟨D0, rfl, .mk c.1 upd_same (ra.append (.cons r5 .nil)), n1, n2, n3⟩
                · rw [List.length_append, List.length_singleton]; omega
theorem re_lc {X : Cx} {g : G} {elt tg iter : Expr} {ifs : List Expr} {scope : Scope} {own : List (Str × Nat)} {pos : Pos} {mi : M (List D)} {mt : MT} {sl : List Nat} {mc : M Bool} {me : M EV} (hN : X.N.Nodup) (hi : RI X g tg iter mi) (ok : BlkOk X.N X.env.scope scope own)
    (hg : ∀ (s : Shared) (H : Hp) (C : Addr) (cl : List (Str × Addr)) (fp : List Addr), RN (X.blk s H scope (compEnvC scope cl C X.env) fp) g.mute tg mt sl) (ht : ∀ (s : Shared) (H : Hp) (C : Addr) (cl : List (Str × Addr)) (fp : List Addr), RTs (X.blk s H scope (compEnvC scope cl C X.env) fp) g.mute ifs mc)
    (he : ∀ (s : Shared) (H : Hp) (C : Addr) (cl : List (Str × Addr)) (fp : List Addr), RE (X.blk s H scope (compEnvC scope cl C X.env) fp) g.mute elt me) (hsl : ∀ i ∈ sl, i ∈ own.map (·.2) := by decide) (hs : ∀ x, foldedSetIterable iter X.env x = pure x := by intro _; rfl) (hc : X.calm = true := by rfl) :
    RE X g (.ListComp elt [⟨tg, iter, ifs, 0⟩] scope pos) (mLc mi mt mc me (own.map (·.2))) := by
  exact PE.to (pe_lc (wi := tIt X.K g mi) (g := tGn X.K g.mute mt sl) (tt := tG X.K g.mute mc) (te := tD X.K g.mute me) hc hN hi ok hg ht he hs) (lc_end hsl)
/-- name = [..] on one line -/
theorem rs_setLc {X : Cx} {g : G} {i : Nat} {y : Str} {py spos : Pos} {elt tg iter : Expr} {ifs : List Expr} {scope : Scope} {own : List (Str × Nat)} {pos : Pos} {mi : M (List D)} {mt : MT} {sl : List Nat} {mc : M Bool} {me : M EV} (hN : X.N.Nodup) (hy : X.N[i]? = some y) (hyl : X.env.scope.names.lookup y = some .local)
    (hsw : swapsWith (.ListComp elt [⟨tg, iter, ifs, 0⟩] scope pos) (some (.Name y py)) spos.line X.env = pure true) (hi : RI X g tg iter mi) (ok : BlkOk X.N X.env.scope scope own)
    (hg : ∀ (s : Shared) (H : Hp) (C : Addr) (cl : List (Str × Addr)) (fp : List Addr), RN (X.blk s H scope (compEnvC scope cl C X.env) fp) g.mute tg mt sl) (ht : ∀ (s : Shared) (H : Hp) (C : Addr) (cl : List (Str × Addr)) (fp : List Addr), RTs (X.blk s H scope (compEnvC scope cl C X.env) fp) g.mute ifs mc)
    (he : ∀ (s : Shared) (H : Hp) (C : Addr) (cl : List (Str × Addr)) (fp : List Addr), RE (X.blk s H scope (compEnvC scope cl C X.env) fp) g.mute elt me) (hsl : ∀ i ∈ sl, i ∈ own.map (·.2) := by decide) (hs : ∀ x, foldedSetIterable iter X.env x = pure x := by intro _; rfl) (hc : X.calm = true := by rfl) :
    RS X g (.Assign [.Name y py] (.ListComp elt [⟨tg, iter, ifs, 0⟩] scope pos) spos) (mSet i (mLc mi mt mc me (own.map (·.2)))) := by
  refine PS.to (ps_setLc (wi := tIt X.K g mi) (g := tGn X.K g.mute mt sl) (tt := tG X.K g.mute mc) (te := tD X.K g.mute me) hc hN hy hyl hsw hi ok hg ht he hs) ?_
  rintro D' σ H h
  exact lc_end hsl σ H _ (set_end D' σ H h)
end LW
set_option Elab.async false
set_option linter.all false
set_option maxRecDepth 100000
set_option maxHeartbeats 2000000
/-! LW12: enumerate over a list, a tuple, a text. -/
namespace LW
open PySem PySem.Spec PyProof.Rows L2
inductive Kd where
  | l
  | t
  | s
/-- what is walked: a list, a tuple, a text; xs its items -/
def SrcOk (K : Fg) (H : Hp) (x : V) (xs : List V) : Kd → Prop
  | .l => ∃ a, x = .ref a ∧ SqL K H a xs
  | .t => ∃ a, x = .ref a ∧ SqT K H a xs
  | .s => ∃ t, x = .str t ∧ xs = t.cps.toList.map fun c => V.str ⟨#[c]⟩
/-- the iterator at it over the value v stands at i -/
def SrcAt (v : Value) (it : Addr) (i : Nat) (h : Heap) : Kd → Prop
  | .l => ∃ a, v = .ref a ∧ h.IsListIter it a i
  | .t => ∃ a, v = .ref a ∧ h.IsTupleIter it a i
  | .s => ∃ x t, v = .str x t ∧ h.IsStrIter it (strIterType x) x t i
theorem SrcAt.obj {v : Value} {it : Addr} {i : Nat} {h : Heap} {k : Kd} (st : SrcAt v it i h k) : ∃ o, h.get? it = some o ∧ ∀ v, o.data ≠ .cell v := by
  cases k with
  | l => obtain ⟨a, _, o, e, c, d⟩ := st; exact ⟨o, e, fun v z => by rw [d] at z; cases z⟩
  | t => obtain ⟨a, _, o, e, c, d⟩ := st; exact ⟨o, e, fun v z => by rw [d] at z; cases z⟩
  | s => obtain ⟨x, t, _, o, e, c, d⟩ := st; exact ⟨o, e, fun v z => by rw [d] at z; cases z⟩
theorem SrcAt.keep {v : Value} {it : Addr} {i : Nat} {h h' : Heap} {kd : Kd} (st : SrcAt v it i h kd) (k : ∀ o, h.get? it = some o → h'.get? it = some o) : SrcAt v it i h' kd := by
  cases kd with
  | l => obtain ⟨a, z, o, e, r⟩ := st; exact ⟨a, z, o, k o e, r⟩
  | t => obtain ⟨a, z, o, e, r⟩ := st; exact ⟨a, z, o, k o e, r⟩
  | s => obtain ⟨x, t, z, o, e, r⟩ := st; exact ⟨x, t, z, o, k o e, r⟩
theorem valsGet : ∀ {xs : List V} {us : List Value} {i : Nat} {u : Value}, Vals xs us → us[i]? = some u → ∃ x, xs[i]? = some x ∧ RelV x u
  | _, _, 0, _, .cons r _, h => by cases h; exact ⟨_, rfl, r⟩
  | _, _, i + 1, _, .cons _ t, h => valsGet (i := i) t h
  | _, _, _, _, .nil, h => by simp at h
/-- what an iterator over it draws -/
theorem src_draws {X : Cx} {pins : List (Addr × Obj)} {s : Shared} {σ : L2.St} {H : Hp} {x : V} {xs : List V} {v : Value} {it e : Addr} {c : Int} {old : Value} {i : Nat} {kd : Kd} (hc : X.calm = true) (I : Inv X pins σ H s) (h : SrcOk X.K H x xs kd) (r : RelV x v) (st : SrcAt v it i s.heap kd) (he : IsEnum s.heap e it c old) :
    ∃ (fp : List Addr) (P : Nat → Value → Prop) (St : Nat → Heap → Prop), Draws X.prog X.w X.A.in1 it fp xs.length P St ∧ (e ≠ it → e ∉ fp) ∧ St i s.heap ∧ (∀ j h', St j h' → SrcAt v it j h' kd) ∧ ∀ j u, P j u → ∃ y, xs[j]? = some y ∧ RelV y u := by
  have hh : X.A.in1.handled = none := I.ok.hd hc
  cases kd with
  | l =>
    obtain ⟨a, rfl, hq⟩ := h
    cases r
    obtain ⟨its, rv, p, hz⟩ := I.list hq
    have hl := rv.length
    obtain ⟨b, z, hi⟩ := st
    cases z
    have pl := p.isList
    have nei : a ≠ it := fun z => by
      obtain ⟨o, e1, e2, e3⟩ := hi
      obtain ⟨o', f1, f2, n, f3⟩ := pl
      rw [z, e1] at f1
      cases f1
      rw [f3] at e3
      cases e3
    have nee : a ≠ e := fun z => by
      obtain ⟨o', f1, f2, n, f3⟩ := pl
      have he : s.heap.get? e = _ := he
      rw [z, he] at f1
      cases f1
      cases f3
    have D := Draws.list (prog := X.prog) (w := X.w) (A := X.A.in1) hh it a nei its.toArray
    rw [List.size_toArray, ← hl] at D
    refine ⟨_, _, _, D, fun ne z => ?_, ⟨hi, pl⟩, fun j h' st => ⟨a, rfl, st.1⟩, fun j u hu => valsGet rv ?_⟩
    · rcases List.mem_cons.mp z with z | z
      · exact ne z
      · exact nee (List.mem_singleton.mp z).symm
    · simpa using hu
  | t =>
    obtain ⟨a, rfl, hq⟩ := h
    cases r
    obtain ⟨its, rv, p, hz⟩ := I.tuple hq
    have hl := rv.length
    obtain ⟨b, z, hi⟩ := st
    cases z
    have pl : s.heap.IsTuple a its.toArray := p
    have nei : a ≠ it := fun z => by
      obtain ⟨o, e1, e2, e3⟩ := hi
      obtain ⟨o', f1, f2, n, f3⟩ := pl
      rw [z, e1] at f1
      cases f1
      rw [f3] at e3
      cases e3
    have nee : a ≠ e := fun z => by
      obtain ⟨o', f1, f2, n, f3⟩ := pl
      have he : s.heap.get? e = _ := he
      rw [z, he] at f1
      cases f1
      cases f3
    have D := Draws.tuple (prog := X.prog) (w := X.w) (A := X.A.in1) hh it a nei its.toArray
    rw [List.size_toArray, ← hl] at D
    refine ⟨_, _, _, D, fun ne z => ?_, ⟨hi, pl⟩, fun j h' st => ⟨a, rfl, st.1⟩, fun j u hu => valsGet rv ?_⟩
    · rcases List.mem_cons.mp z with z | z
      · exact ne z
      · exact nee (List.mem_singleton.mp z).symm
    · simpa using hu
  | s =>
    obtain ⟨t, rfl, rfl⟩ := h
    obtain ⟨u, rfl⟩ := r
    obtain ⟨x, t', z, hi⟩ := st
    cases z
    have D := Draws.text (prog := X.prog) (w := X.w) (A := X.A.in1) hh it t u
    rw [show t.cps.size = (t.cps.toList.map fun c => V.str ⟨#[c]⟩).length by simp] at D
    refine ⟨_, _, _, D, fun ne z => ne (List.mem_singleton.mp z), hi, fun j h' st => ⟨t, u, rfl, st⟩, fun j w hw => ?_⟩
    obtain ⟨c, u', h1, rfl⟩ := hw
    refine ⟨.str ⟨#[c]⟩, ?_, u', rfl⟩
    rw [List.getElem?_map, Array.getElem?_toList, h1]
    rfl
/-- k0 + i, the i-th item: in a new pair -/
def Iten (K : Fg) (x : V) (xs : List V) (kd : Kd) (k0 : Int) : It :=
  ⟨fun i H => SrcOk K H x xs kd ∧ i < xs.length, fun i H v H' => ∃ T y, v = .ref T ∧ H T = none ∧ H' = upd H T (.tup [.int (k0 + (i : Nat)), y]) ∧ xs[i]? = some y, fun i H => SrcOk K H x xs kd ∧ i = xs.length⟩
theorem turn_en {P : Program} {w : World} {K : Fg} {elts : List Expr} {kk : Nat} {tpos : Pos} {x : V} {xs : List V} {kd : Kd} {k0 : Int} {v : Value} (r : RelV x v) (e it : Addr) :
    Turn P w K (.Tuple elts kk tpos) (Iten K x xs kd k0) [e, it] e (fun i h => (∃ old, IsEnum h e it (k0 + (i : Nat)) old) ∧ SrcAt v it i h kd ∧ e ≠ it) where
  mem := by simp
  obj := fun i h st b hb => by
    obtain ⟨⟨old, he⟩, hs, _⟩ := st
    have e' : b = e ∨ b = it := by simpa using hb
    rcases e' with z | z
    · rw [z]; exact ⟨_, he, fun v q => nomatch q⟩
    · rw [z]; exact hs.obj
  keep := fun i h h' st k => let ⟨⟨old, he⟩, hi, hne⟩ := st; ⟨⟨old, k e (by simp) _ he⟩, hi.keep fun o q => k it (by simp) o q, hne⟩
  item := by
    intro X hP hw hK hc i pins s σ H E I hf st hg
    subst hP hw hK
    obtain ⟨⟨old, he⟩, hs, hne⟩ := st
    obtain ⟨hsrc, hlt⟩ := hg
    obtain ⟨fp, Pd, St, D, hef, hst, back, hP⟩ := src_draws hc I hsrc r hs he
    have hel : e < s.heap.objs.size := Heap.lt_size he
    have hil : it < s.heap.objs.size := by obtain ⟨_, q, _⟩ := hs.obj; exact Heap.lt_size q
    refine wpAny_pyNext_enum_itemC D he hst hlt hne (hef hne) fun u h' tk hu ho hst' hT hsz hk => ?_
    obtain ⟨y, hy, ry⟩ := hP i u hu
    refine ⟨_, rfl, wpAny_letOwnedTupleGo_enum (s := { s with heap := h', toks := tk + 1 }) ho fun h'' he' sb => ?_⟩
    have hT2 : h''.get? s.heap.objs.size = some { cls := .type "tuple", data := .seq #[.int (k0 + (i : Nat)) tk, u] } := (sb.2 _ (Nat.ne_of_gt hel)).trans hT
    have new : ObjOk X.prog X.w (upd H s.heap.objs.size (.tup [.int (k0 + (i : Nat)), y])) h'' s.heap.objs.size (.tup [.int (k0 + (i : Nat)), y]) :=
      ⟨by show 2 ≤ sizeLine; decide, [.int (k0 + (i : Nat)) tk, u], .cons ⟨_, rfl⟩ (.cons ry .nil), ⟨_, hT2, rfl, _, rfl⟩⟩
    have I1 : Inv X pins σ (upd H s.heap.objs.size (.tup [.int (k0 + (i : Nat)), y])) { s with heap := h'', toks := tk + 1 } :=
      I.turnedNew (ch := [e, it]) (fun b ob hb q => (sb.2 b (fun z => hb (by simp [z]))).trans (hk b ob (fun z => hb (by simp [z])) (fun z => hb (by simp [z])) q)) hf (Nat.le_refl _) new
    have hsi := back _ _ hst'
    refine ⟨.ref s.heap.objs.size, _, I1, rfl, ⟨_, y, rfl, I.hok.fresh (Nat.le_refl _), rfl, hy⟩, ⟨⟨u, ?_⟩, hsi.keep fun o q => (sb.2 it (Ne.symm hne)).trans q, hne⟩, fun b hb => ?_⟩
    · have e1 : k0 + ((i + 1 : Nat) : Int) = k0 + (i : Nat) + 1 := by omega
      rw [e1]; exact he'
    · have hb' : b < s.heap.objs.size := by
        have e' : b = e ∨ b = it := by simpa using hb
        rcases e' with z | z
        · rw [z]; exact hel
        · rw [z]; exact hil
      rw [upd_ne (Nat.ne_of_lt hb')]
      exact (hf b hb).1
  done := by
    intro X hP hw hK hc i pins s σ H E I hf st hg
    subst hP hw hK
    obtain ⟨⟨old, he⟩, hs, hne⟩ := st
    obtain ⟨hsrc, rfl⟩ := hg
    obtain ⟨fp, Pd, St, D, hef, hst, back, hP⟩ := src_draws hc I hsrc r hs he
    obtain ⟨f0, f1, f2, f3, f4, f5⟩ := hf it (by simp)
    exact wpAny_pyNext_enum_endD D he hst fun h' eb => ⟨rfl, I.turned (t' := s.toks) (fun b o hb q => eb b o hb q) f0 f1 f3 f4 f5⟩
  self := fun A i s Q E st h => let ⟨⟨_, he⟩, _⟩ := st; wpAny_pyIter_enum he h
theorem en_it {X : Cx} {pins : List (Addr × Obj)} {σ : L2.St} {H : Hp} {s : Shared} {R : It → Hp → Prop} {E : Value → Shared → Prop} {elts : List Expr} {kk : Nat} {tpos : Pos} {x : V} {xs : List V} {kd : Kd} {k0 : Int} {v : Value} {h' : Heap} (I : Inv X pins σ H s) (r : RelV x v)
    (he : IsEnum h' (s.heap.objs.size + 1) s.heap.objs.size k0 .none) (hs : SrcAt v s.heap.objs.size 0 h' kd) (hk : ∀ b o, s.heap.get? b = some o → h'.get? b = some o) (q : R (Iten X.K x xs kd k0) H) :
    wpAny (model X.prog X.w) X.A (pyIter (.ref (s.heap.objs.size + 1))) (PIE X pins σ (.Tuple elts kk tpos) R) E { s with heap := h' } := by
  refine wpAny_pyIter_enum he ?_
  have I2 : Inv X pins σ H { s with heap := h' } := I.kept (t' := s.toks) hk
  refine ⟨s.heap.objs.size + 1, [s.heap.objs.size + 1, s.heap.objs.size], _, _, H, rfl, I2, turn_en r (s.heap.objs.size + 1) s.heap.objs.size, ⟨⟨.none, by simpa using he⟩, hs, Nat.succ_ne_self _⟩, fun b hb => ?_, q⟩
  have e' : b = s.heap.objs.size + 1 ∨ b = s.heap.objs.size := by simpa using hb
  have hle : s.heap.objs.size ≤ b := by
    rcases e' with z | z
    · rw [z]; exact Nat.le_add_right _ _
    · rw [z]; exact Nat.le_refl _
  exact I.fpOk hle (I.hok.fresh hle)
/-- the iterator that iter makes of it -/
theorem src_begins {X : Cx} {pins : List (Addr × Obj)} {s : Shared} {σ : L2.St} {H : Hp} {x : V} {xs : List V} {v : Value} {kd : Kd} (I : Inv X pins σ H s) (h : SrcOk X.K H x xs kd) (r : RelV x v) :
    ∃ (o : Obj) (Hb : Heap → Prop), Begins v o Hb ∧ Hb s.heap ∧ ∀ h' it, h'.get? it = some o → SrcAt v it 0 h' kd := by
  cases kd with
  | l =>
    obtain ⟨a, rfl, hq⟩ := h
    cases r
    obtain ⟨its, rv, p, hz⟩ := I.list hq
    exact ⟨_, _, begins_list a its.toArray, p.isList, fun h' it e => ⟨a, rfl, _, e, rfl, rfl⟩⟩
  | t =>
    obtain ⟨a, rfl, hq⟩ := h
    cases r
    obtain ⟨its, rv, p, hz⟩ := I.tuple hq
    exact ⟨_, _, begins_tuple a its.toArray, (show s.heap.IsTuple a its.toArray from p), fun h' it e => ⟨a, rfl, _, e, rfl, rfl⟩⟩
  | s =>
    obtain ⟨t, rfl, rfl⟩ := h
    obtain ⟨u, rfl⟩ := r
    exact ⟨_, _, begins_text t u, trivial, fun h' it e => ⟨t, u, rfl, _, e, rfl, rfl⟩⟩
set_option maxHeartbeats 1000000 in
theorem meets_enumerate_new1 {v : Value} {o : Obj} {H : Heap → Prop} (B : Begins v o H) :
    Meets (Builtin.«enumerate.__new__» ⟨[.type "enumerate", v], []⟩) (fun _ R s => H s.heap ∧
      R (.ok (.ret (.ref (s.heap.push o).objs.size))) { s with heap := (s.heap.push o).push { cls := .type "enumerate", data := .fields #[.none, .bool false, .ref s.heap.objs.size, rawInt 0, .none, .none] } }) :=
  .of_wp fun prog w A R s h => by
    obtain ⟨hp, g, d, tk, os⟩ := s; obtain ⟨h1, h⟩ := h
    have hsub := sub_enumerate
    have q1 : ∀ {A' : Around} {E : Value → Shared → Prop} {Q : Value → Shared → Prop}, Q (.ref hp.objs.size) ⟨hp.push o, g, d, tk, os⟩ → wpAny (model prog w) A' (pyIter v) Q E ⟨hp, g, d, tk, os⟩ :=
      fun q => B.iter prog w _ _ ⟨hp, g, d, tk, os⟩ _ h1 q
    wp_walk using q1
    refine wpAny_stack_any fun st => wpAny_pure ?_
    split
    · rename_i c _ _ _ _ _
      cases (c == Value.type "enumerate")
      · wp_walk using q1
        exact ⟨_, rfl, h⟩
      · wp_walk using q1
        exact ⟨_, rfl, h⟩
    · wp_walk using q1
      exact ⟨_, rfl, h⟩
theorem enum_begins1 {prog : Program} {w : World} {A : Around} {E : Value → Shared → Prop} {s : Shared} {v : Value} {o : Obj} {H : Heap → Prop} {Q : Value → Shared → Prop} (B : Begins v o H) (h1 : H s.heap)
    (h : ∀ h', IsEnum h' (s.heap.objs.size + 1) s.heap.objs.size 0 .none → h'.get? s.heap.objs.size = some o → h'.objs.size = s.heap.objs.size + 2 →
      (∀ b o, s.heap.get? b = some o → h'.get? b = some o) → Q (.ref (s.heap.objs.size + 1)) { s with heap := h' }) :
    wpAny (model prog w) A (call (.type "enumerate") [v]) Q E s := by
  refine callType_new F.called_enumerate (by decide) (F.typeCall_enumerate_1 _) (F.newCall_enumerate_1 _) (fun obj => F.args_object_init_2 obj _) F.entry_enumerate_new
    (meets_enumerate_new1 B) ⟨h1, ?_⟩
  have hz : (s.heap.push o).objs.size = s.heap.objs.size + 1 := Heap.size_push ..
  show _ ∧ _
  rw [hz]
  have he : IsEnum ((s.heap.push o).push { cls := .type "enumerate", data := .fields #[.none, .bool false, .ref s.heap.objs.size, rawInt 0, .none, .none] }) (s.heap.objs.size + 1) s.heap.objs.size 0 .none := by
    have := Heap.get?_push_size (s.heap.push o) (o := { cls := .type "enumerate", data := .fields #[.none, .bool false, .ref s.heap.objs.size, rawInt 0, .none, .none] }) rfl
    rw [hz] at this; exact this
  refine ⟨⟨_, he, rfl⟩, h _ he (Heap.get?_push_of_some _ (Heap.get?_push_size _ B.free)) (by rw [Heap.size_push, hz]) fun b o x => Heap.get?_push_of_some _ (Heap.get?_push_of_some _ x)⟩
def iEn1 (K : Fg) (ta : TA) : TI := fun σ H R => ta σ H fun vs H1 => ∃ x xs kd, vs = [x] ∧ SrcOk K H1 x xs kd ∧ R (Iten K x xs kd 0) H1
def iEn2 (K : Fg) (ta : TA) : TI := fun σ H R => ta σ H fun vs H1 => ∃ x xs kd k0, vs = [x, .int k0] ∧ -(2 ^ 63) ≤ k0 ∧ k0 < 2 ^ 63 ∧ SrcOk K H1 x xs kd ∧ R (Iten K x xs kd k0) H1
theorem pi_en1 {X : Cx} {e : Expr} {ta : TA} {p pos tpos : Pos} {elts : List Expr} {kk : Nat} (hg : Gl X "enumerate") (hm : X.mg "enumerate" = none) (ha : PA X [e] ta) (hs : starEach [e] X.env = [(false, eval e X.env)] := by rfl) :
    PI X (.Tuple elts kk tpos) (.Call (.Name "enumerate" p) [e] [] pos) (iEn1 X.K ta) := by
  refine ⟨fun pins s σ H R I h => ?_⟩
  refine Call_ (ld_blt I hg hm boot_enumerate (PyProof.Rows.callWith_type1 (thn (ha.run pos pins s σ H _ I h) fun us s1 ⟨vs, H1, I1, r1, q1⟩ => ?_) hs rfl))
  obtain ⟨x, xs, kd, rfl, hq, q⟩ := q1
  obtain ⟨u, rfl, ru⟩ := Vals.one r1
  obtain ⟨o, Hb, B, hb, at_⟩ := src_begins I1 hq ru
  exact enum_begins1 B hb fun h' he hi hsz hk => en_it I1 ru he (at_ _ _ hi) hk q
theorem pi_en2 {X : Cx} {e e2 : Expr} {ta : TA} {p pos tpos : Pos} {elts : List Expr} {kk : Nat} (hg : Gl X "enumerate") (hm : X.mg "enumerate" = none) (ha : PA X [e, e2] ta) (hs : starEach [e, e2] X.env = [(false, eval e X.env), (false, eval e2 X.env)] := by rfl)
    (hs2 : starEach [e2] X.env = [(false, eval e2 X.env)] := by rfl) :
    PI X (.Tuple elts kk tpos) (.Call (.Name "enumerate" p) [e, e2] [] pos) (iEn2 X.K ta) := by
  refine ⟨fun pins s σ H R I h => ?_⟩
  refine Call_ (ld_blt I hg hm boot_enumerate (PyProof.Rows.callWith_type1 (thn (ha.run pos pins s σ H _ I h) fun us s1 ⟨vs, H1, I1, r1, q1⟩ => ?_) (by rw [hs, hs2]) (by rw [hs2]; rfl)))
  obtain ⟨x, xs, kd, k0, rfl, h1, h2, hq, q⟩ := q1
  obtain ⟨u, w, rfl, ru, rw'⟩ := Vals.two r1
  obtain ⟨t, rfl⟩ := rw'
  obtain ⟨o, Hb, B, hb, at_⟩ := src_begins I1 hq ru
  exact enum_begins B hb h1 h2 fun h' he hi hsz hk => en_it I1 ru he (at_ _ _ hi) hk q
/-! by value -/
def itemsD : D → Option (List D)
  | .list ds => some ds
  | .tuple ds => some ds
  | .str x => some (charsD x)
  | _ => none
def enumD (k0 : Int) (ds : List D) : List D := ds.mapIdx fun i d => .tuple [.int (k0 + (i : Nat)), d]
theorem src_of {K : Fg} {F H : Hp} {v : V} {d : D} {ds : List D} (ex : Ex F H) (r : Rep K F v d) (h : itemsD d = some ds) : ∃ xs kd, (∀ F1 H1, Ex F F1 → Ex F1 H1 → SrcOk K H1 v xs kd) ∧ RepA K F xs ds := by
  cases d with
  | list es =>
    cases h
    obtain ⟨a, xs, rfl, hq, ra⟩ := r.list_inv
    exact ⟨xs, .l, fun F1 H1 e1 e2 => ⟨a, rfl, (e1.trans e2).sl hq⟩, ra⟩
  | tuple es =>
    cases h
    obtain ⟨a, xs, rfl, hq, ra⟩ := r.tup_inv
    exact ⟨xs, .t, fun F1 H1 e1 e2 => ⟨a, rfl, (e1.trans e2).st hq⟩, ra⟩
  | str x =>
    cases h
    cases r
    refine ⟨x.cps.toList.map fun c => V.str ⟨#[c]⟩, .s, fun F1 H1 e1 e2 => ⟨x, rfl, rfl⟩, ?_⟩
    unfold charsD
    induction x.cps.toList with
    | nil => exact .nil
    | cons c cs ih => exact .cons (.str _) ih
  | _ => cases h
theorem it_en {K : Fg} {F : Hp} {v : V} {xs : List V} {kd : Kd} {k0 : Int} {ds : List D} (hs : ∀ F1 H1, Ex F F1 → Ex F1 H1 → SrcOk K H1 v xs kd) (ra : RepA K F xs ds) : ItOk K (Iten K v xs kd k0) F (enumD k0 ds) := by
  intro F1 H e1 e2
  have hl := ra.length
  refine ⟨fun i d hd => ?_, hs F1 H e1 e2, by simp [enumD, hl]⟩
  unfold enumD at hd
  rw [List.getElem?_mapIdx] at hd
  obtain ⟨d0, h0, rfl⟩ := Option.map_eq_some_iff.mp hd
  obtain ⟨w, hw, rw'⟩ := ra.get h0
  refine ⟨⟨hs F1 H e1 e2, (List.getElem?_eq_some_iff.mp hw).1⟩, ?_⟩
  rintro x H' ⟨T, y, rfl, hT, rfl, hy⟩
  rw [hw] at hy
  cases hy
  refine ⟨_, Grow.frz e2 hT, .tup (.inl (.inl upd_same)) (.cons (.int _) (.cons (rw'.mono (e1.trans (Ex.new (e2.none hT)))) .nil))⟩
def mEn1 (ms : M (List EV)) : M (List D) := fun ρ => (ms ρ).bind fun es ρ1 => match ρ1.frzA es with
  | some ([d], ρ2) => (match itemsD d with
    | some ds => .ok (enumD 0 ds) ρ2
    | none => .stk)
  | _ => .stk
def mEn2 (ms : M (List EV)) : M (List D) := fun ρ => (ms ρ).bind fun es ρ1 => match ρ1.frzA es with
  | some ([d, .int k], ρ2) => if -(2 ^ 63) ≤ k ∧ k < 2 ^ 63 then (match itemsD d with
    | some ds => .ok (enumD k ds) ρ2
    | none => .stk) else .stk
  | _ => .stk
section
variable {X : Cx} {g : G} {tg a b c e : Expr} {es : List Expr} {ma mb mc : M EV} {ms : M (List EV)} {pos p : Pos} {elts : List Expr} {kk : Nat} {tpos : Pos}
theorem ri_en1 (hm : X.mg "enumerate" = none) (ha : RA X g [a] ms) (hg : Gl X "enumerate" := by rfl) (hs : starEach [a] X.env = [(false, eval a X.env)] := by rfl) : RI X g (.Tuple elts kk tpos) (.Call (.Name "enumerate" p) [a] [] pos) (mEn1 ms) := by
  refine PI.to (pi_en1 hg hm ha hs) ?_
  rintro σ H R ⟨F, ρ, S, h⟩
  refine ⟨F, ρ, S, EndI.seqA h fun es ρ1 vs F1 H1 S1 i1 h1 => ?_⟩
  split at h1
  case h_2 => exact h1.elim
  rename_i d ρ2 hy
  split at h1
  case h_2 => exact h1.elim
  rename_i ds hd
  obtain ⟨F2, S2, f2, ra⟩ := freezeA S1 i1 hy
  cases ra with
  | cons r rr =>
    cases rr
    obtain ⟨xs, kd, hs, rx⟩ := src_of S2.ex r hd
    exact ⟨_, xs, kd, rfl, hs _ _ (Ex.refl _) S2.ex, h1 _ F2 H1 S2 f2 (it_en hs rx)⟩
theorem ri_en2 (hm : X.mg "enumerate" = none) (ha : RA X g [a, b] ms) (hg : Gl X "enumerate" := by rfl) (hs : starEach [a, b] X.env = [(false, eval a X.env), (false, eval b X.env)] := by rfl) (hs2 : starEach [b] X.env = [(false, eval b X.env)] := by rfl) :
    RI X g (.Tuple elts kk tpos) (.Call (.Name "enumerate" p) [a, b] [] pos) (mEn2 ms) := by
  refine PI.to (pi_en2 hg hm ha hs hs2) ?_
  rintro σ H R ⟨F, ρ, S, h⟩
  refine ⟨F, ρ, S, EndI.seqA h fun es ρ1 vs F1 H1 S1 i1 h1 => ?_⟩
  split at h1
  case h_2 => exact h1.elim
  rename_i d k ρ2 hy
  split at h1
  case isFalse => exact h1.elim
  rename_i hk
  split at h1
  case h_2 => exact h1.elim
  rename_i ds hd
  obtain ⟨F2, S2, f2, ra⟩ := freezeA S1 i1 hy
  cases ra with
  | cons r rr =>
    cases rr with
    | cons r2 rr =>
      cases rr
      cases r2
      obtain ⟨xs, kd, hs, rx⟩ := src_of S2.ex r hd
      exact ⟨_, xs, kd, k, rfl, hk.1, hk.2, hs _ _ (Ex.refl _) S2.ex, h1 _ F2 H1 S2 f2 (it_en hs rx)⟩
end
end LW
set_option Elab.async false
set_option linter.all false
set_option maxRecDepth 100000
set_option maxHeartbeats 2000000
/-! LW13: a def by its body; calls of any form. -/
namespace LW
open PySem PySem.Spec PyProof.Rows L2
def inS : List Bool → List D → Nat → List (Option Slot)
  | false :: m, d :: ds, k => some (.val d) :: inS m ds k
  | true :: m, _ :: ds, k => some (.io k) :: inS m ds (k + 1)
  | _, _, _ => []
def inIO : List Bool → List D → List D
  | false :: m, _ :: ds => inIO m ds
  | true :: m, d :: ds => d :: inIO m ds
  | _, _ => []
def cells : List Bool → Nat
  | [] => 0
  | true :: m => cells m + 1
  | false :: m => cells m
/-- at the entry: N names in all -/
def env0 (N : Nat) (md : List Bool) (ds : List D) : Env := ⟨inS md ds 0 ++ List.replicate (N - md.length) none, inIO md ds⟩
def SO.fin (n : Nat) : SO → FRes
  | .nx ρ => .ok (.val .none) (ρ.io.take n)
  | .rt r ρ => .ok r (ρ.io.take n)
  | .exc x p _ => .exc x p
  | _ => .stk
/-- a def of N names: its parameters md, its body m -/
def bodyFS (N : Nat) (md : List Bool) (m : MS) : FS := ⟨md, fun ds => (m (env0 N md ds)).fin (cells md)⟩
section
variable {K : Fg} {F H : Hp}
theorem argsOk_lens : ∀ {m : List Bool} {vs : List V} {ds : List D} {A : List Addr}, ArgsOk K F H m vs ds A → ds.length = m.length ∧ A.length = cells m
  | [], [], [], [], _ => ⟨rfl, rfl⟩
  | false :: m, v :: vs, d :: ds, A, h => ⟨congrArg Nat.succ (argsOk_lens h.2).1, (argsOk_lens h.2).2⟩
  | true :: m, v :: vs, d :: ds, p :: A, h => ⟨congrArg Nat.succ (argsOk_lens h.2.2).1, congrArg Nat.succ (argsOk_lens h.2.2).2⟩
theorem inS_len : ∀ {m : List Bool} {vs : List V} {ds : List D} {A : List Addr} {k : Nat}, ArgsOk K F H m vs ds A → (inS m ds k).length = m.length
  | [], [], [], [], _, _ => rfl
  | false :: m, v :: vs, d :: ds, A, k, h => congrArg Nat.succ (inS_len h.2)
  | true :: m, v :: vs, d :: ds, p :: A, k, h => congrArg Nat.succ (inS_len h.2.2)
/-- the slots at the entry -/
theorem inS_ok {B : List Addr} : ∀ {m : List Bool} {vs : List V} {ds : List D} {A : List Addr} {k : Nat}, ArgsOk K F H m vs ds A → (∀ j p, A[j]? = some p → B[k + j]? = some p) → ∀ (i : Nat) (s : Slot), (inS m ds k)[i]? = some (some s) →
    ∃ v, vs[i]? = some v ∧ ((∃ d, s = .val d ∧ Rep K F v d) ∨ ∃ j p, s = .io j ∧ B[j]? = some p ∧ v = .ref p)
  | [], [], [], [], _, _, _, i, s, hi => by simp [inS] at hi
  | false :: m, v :: vs, d :: ds, A, k, h, hB, 0, s, hi => by cases hi; exact ⟨v, rfl, .inl ⟨d, rfl, h.1⟩⟩
  | false :: m, v :: vs, d :: ds, A, k, h, hB, i + 1, s, hi => inS_ok h.2 hB i s hi
  | true :: m, v :: vs, d :: ds, p :: A, k, h, hB, 0, s, hi => by cases hi; exact ⟨v, rfl, .inr ⟨k, p, rfl, hB 0 p rfl, h.1⟩⟩
  | true :: m, v :: vs, d :: ds, p :: A, k, h, hB, i + 1, s, hi => inS_ok (k := k + 1) h.2.2 (fun j q hj => by have := hB (j + 1) q hj; rwa [show k + 1 + j = k + (j + 1) by omega]) i s hi
theorem inIO_ok : ∀ {m : List Bool} {vs : List V} {ds : List D} {A : List Addr}, ArgsOk K F H m vs ds A → ∀ (k : Nat) (p : Addr), A[k]? = some p → ∃ d, (inIO m ds)[k]? = some d ∧ Cell K F H p d
  | [], [], [], [], _, k, p, h => by simp at h
  | false :: m, v :: vs, d :: ds, A, h, k, p, hk => inIO_ok h.2 k p hk
  | true :: m, v :: vs, d :: ds, q :: A, h, 0, p, hk => by cases hk; exact ⟨d, rfl, h.2.1⟩
  | true :: m, v :: vs, d :: ds, q :: A, h, k + 1, p, hk => inIO_ok h.2.2 k p hk
theorem outsOk_of : ∀ {A : List Addr} {ds : List D}, (∀ (k : Nat) (p : Addr), A[k]? = some p → ∃ d, ds[k]? = some d ∧ Cell K F H p d) → OutsOk K F H A (ds.take A.length)
  | [], ds, _ => by rw [List.length_nil, List.take_zero]; trivial
  | p :: A, [], h => by
    obtain ⟨d, a, _⟩ := h 0 p rfl
    simp at a
  | p :: A, d :: ds, h => by
    obtain ⟨d', a, c⟩ := h 0 p rfl
    cases a
    exact ⟨c, outsOk_of fun k q hk => h (k + 1) q hk⟩
theorem sta_start {T : Tb} {cl : Str → Addr} {fl : Str → Str} {W : WX} {N : List Str} {md : List Bool} {vs : List V} {ds : List D} {A : List Addr} (ex : Ex F H) (nt : NoT F) (tb : LamX.Tabs T H) (a : ArgsOk K F H md vs ds A) (nd : A.Nodup) :
    Sta K ⟨A, F, H, cl, fl, W, T⟩ F H (start N vs) (env0 N.length md ds) := by
  have l1 := argsOk_len a
  obtain ⟨l2, l3⟩ := argsOk_lens a
  have l4 := inS_len (k := 0) a
  refine ⟨Ex.refl _, ex, ?_, fun i s h => ?_, fun i j d d' p h h' _ _ => ?_, fun k p h => inIO_ok a k p h, nd, fun p hp z => ?_, fun p o _ h n _ => ⟨h, n⟩, fun p h => h, nt, tb⟩
  · show (inS md ds 0 ++ List.replicate (N.length - md.length) none).length = (vs.map some ++ List.replicate (N.length - vs.length) none).length
    rw [List.length_append, List.length_append, l4, List.length_map, l1, List.length_replicate, List.length_replicate]
  · have h : (inS md ds 0 ++ List.replicate (N.length - md.length) none)[i]? = some (some s) := h
    by_cases hi : i < (inS md ds 0).length
    · rw [List.getElem?_append_left hi] at h
      obtain ⟨v, hv, hs⟩ := inS_ok (B := A) a (fun j p hj => by rwa [Nat.zero_add]) i s h
      refine ⟨v, ?_, ?_⟩
      · show (vs.map some ++ List.replicate (N.length - vs.length) none)[i]? = _
        rw [List.getElem?_append_left (by rw [List.length_map, l1, ← l4]; exact hi), List.getElem?_map, hv]
        rfl
      · rcases hs with ⟨d, rfl, r⟩ | ⟨j, p, rfl, hj, rfl⟩
        · exact r
        · exact ⟨p, hj, rfl⟩
    · rw [List.getElem?_append_right (by omega), List.getElem?_replicate] at h
      split at h <;> cases h
  · have h : (inS md ds 0 ++ List.replicate (N.length - md.length) none)[i]? = some (some (.own d)) := h
    by_cases hi : i < (inS md ds 0).length
    · rw [List.getElem?_append_left hi] at h
      obtain ⟨v, hv, hs⟩ := inS_ok (B := A) a (fun j p hj => by rwa [Nat.zero_add]) i _ h
      rcases hs with ⟨_, z, _⟩ | ⟨_, _, z, _⟩ <;> cases z
    · rw [List.getElem?_append_right (by omega), List.getElem?_replicate] at h
      split at h <;> cases h
  · obtain ⟨k, hk⟩ := List.mem_iff_getElem?.mp hp
    obtain ⟨d, _, c⟩ := inIO_ok a k p hk
    exact c.notNw z
end
/-- THE RULE for a def -/
theorem fn_body {P : Program} {w : World} {K : Fg} {mg : Str → Option Value} {base : Heap} {x qual : Str} {params : Arguments} {body : List Stmt} {scope : Scope} {dvs : List V} {kws : List (Str × V)} {f : Addr} {fd : FuncData} {N ps : List Str} {k : Nat} {T : Tb} {cl : Str → Addr} {fl : Str → Str} {md : List Bool} {m : MS}
    (F : FunD K x qual params body scope dvs kws f fd) (S : FnScope N ps scope) (hl : md.length = ps.length)
    (hbody : ∀ (cdv : Value) (A : Around) (outer : List PySem.Env) (s : Shared) (H : Hp) (E : XK) (g : G), g.W = (fun c d _ H => E c d H) → g.T = T → g.C = cl → g.fd = fl → fd.code = cdv → Room k (A.deeper (envOfC qual scope s.heap.objs.size f cdv)) →
      RSs (cxOf (L2.CX P w) P w K mg base N qual scope f cdv A outer s H E) g body m) :
    FnOk P w K mg base (L2.CX P w) (k + 1) f fd ps (spf T K cl fl (bodyFS N.length md m)) := by
  obtain ⟨oc, od, dV, kV, doc, pm, an, cdv, ct, osl, rfl, lk, hcd, _, _⟩ := F.ex
  refine fn_of lk hcd S (fun vs H Q E h => ?_) fun A outer s H vs Q E hr h => ?_
  · obtain ⟨Fz, Ad, ds, _, _, _, a, _⟩ := h
    exact (argsOk_len a).trans hl
  · obtain ⟨Fz, Ad, ds, ex, nt, tb, a, nd, h⟩ := h
    have hb := hbody cdv A outer s H E ⟨Ad, Fz, H, cl, fl, fun c d _ H => E c d H, T⟩ rfl rfl rfl rfl rfl hr
    refine ⟨_, hb, Fz, env0 N.length md ds, sta_start ex nt tb a nd, ?_⟩
    have la : Ad.length = cells md := (argsOk_lens a).2
    have h : (match (m (env0 N.length md ds)).fin (cells md) with
      | .ok r outs => ∀ v F' H', Back T K Fz H F' H' Ad → OutsOk K F' H' Ad outs → RetV K H F' H' v r → Q v H'
      | .exc x p => ∀ dx v F' H', Back T K Fz H F' H' Ad → Rep K F' v p → H' dx = some (.xd [(fl x, v)]) → E (.ref (cl x)) (some dx) H'
      | .stk => False) := h
    show EndS K ⟨Ad, Fz, H, cl, fl, fun c d _ H => E c d H, T⟩ Fz (m (env0 N.length md ds)) _
    cases hm : m (env0 N.length md ds) with
    | nx ρ' =>
      rw [hm] at h
      intro σ' F' H' S' e'
      refine h .non F' H' ⟨S'.ex0, S'.ex, fun p o m' h1 h2 h3 => S'.keep p o m' h1 h2 h3, S'.dom, S'.nt, S'.tabs⟩ ?_ .non
      rw [← la]
      exact outsOk_of S'.iok
    | rt r ρ' =>
      rw [hm] at h
      intro v F' H' R
      refine h v F' H' ⟨R.ex0, R.ex, fun p o m' h1 h2 h3 => R.keep p o m' h1 h2 h3, R.dom, R.nt, R.tabs⟩ ?_ R.ret
      rw [← la]
      exact outsOk_of R.iok
    | exc x p ρ' =>
      rw [hm] at h
      intro dx v σ' F' H' S' r hx
      exact h dx v F' H' ⟨S'.ex0, S'.ex, fun p o m' h1 h2 h3 => S'.keep p o m' h1 h2 h3, S'.dom, S'.nt, S'.tabs⟩ r hx
    | bk ρ' => rw [hm] at h; exact h.elim
    | ct ρ' => rw [hm] at h; exact h.elim
    | stk => rw [hm] at h; exact h.elim

/-! ### calls -/
section
variable {X : Cx} {g : G} {a b c e : Expr} {es : List Expr} {kws : List Keyword} {ma mb mc : M EV} {ms mk : M (List EV)} {pos p kpos : Pos} {x : Str} {k n : Nat} {fa : Addr} {fd : FuncData} {ps ks : List Str} {f : FS} {nm : Option Str}
theorem PE.call0 (Fk : FnOk X.prog X.w X.K X.mg X.base (L2.CX X.prog X.w) k fa fd ps (spf g.T X.K g.C g.fd f)) (hr : Room k X.A) (tk : Takes X g.W) (hm : X.mg x = some (.ref fa)) (hk : PySem.W.keepIn X.K (.ref fa) = true) (hb : Binds X.K fd ps [])
    (hg : Gl X x) (hdb : (x == ("__debug__" : Str)) = false) : PE X (.Call (.Name x p) [] [] pos) (fun σ H Q => spf g.T X.K g.C g.fd f [] H Q (WE g.W σ)) := by
  refine ⟨fun pins s σ H Q I h => ?_⟩
  refine wpAny_Call_Name_kw (ld_glob I hg hm ?_ hdb)
  refine PySem.W.callWith_K0 I.kIn hk ?_
  exact run_fnS Fk hr hb (passAt tk σ) I .nil h
/-- f() -/
theorem re_call0 (Fk : FnOk X.prog X.w X.K X.mg X.base (L2.CX X.prog X.w) k fa fd ps (spf g.T X.K g.C g.fd f)) (hr : Room k X.A) (tk : Takes X g.W) (hm : X.mg x = some (.ref fa)) (hk : PySem.W.keepIn X.K (.ref fa) = true) (hb : Binds X.K fd ps [])
    (hmd : f.md = []) (hg : Gl X x := by rfl) (hdb : (x == ("__debug__" : Str)) = false := by decide) : RE X g (.Call (.Name x p) [] [] pos) (mCallP f mNil) := by
  refine PE.to (PE.call0 (g := g) Fk hr tk hm hk hb hg hdb) fun σ H Q h => ?_
  obtain ⟨F, ρ, S, h⟩ := call_endP (by rw [hmd]; rfl) (fun ρ es ρ' h => by cases h; rw [hmd] <;> rfl) σ H Q h
  exact h [] F H S Fr.refl trivial
/-! keywords -/
def RK (X : Cx) (g : G) (kws : List Keyword) (m : M (List EV)) : Prop := PK X kws (tAr X.K g m)
theorem PK.to {t t' : TA} (h : PK X kws t) (i : ∀ σ H Q, t' σ H Q → t σ H Q) : PK X kws t' := ⟨fun pos pins s σ H Q I q => h.run pos pins s σ H Q I (i σ H Q q)⟩
theorem rk_nil : RK X g [] mNil := PK.to pk_nil fun σ H Q ⟨F, ρ, S, h⟩ => h [] F H S Fr.refl trivial
theorem rk_cons (ha : RE X g a ma) (hr : RK X g kws ms) : RK X g (⟨nm, a, kpos⟩ :: kws) (mCons ma ms) := by
  refine PK.to (pk_cons ha hr) ?_
  rintro σ H Q ⟨F, ρ, S, h⟩
  refine ⟨F, ρ, S, EndA.seqArg (f := fun e ρ1 => (ms ρ1).bind fun es ρ2 => .ok (e :: es) ρ2) h fun e ρ1 v F1 H1 S1 f1 i1 n1 h1 => ?_⟩
  refine ⟨F1, ρ1, S1, EndA.seqA h1 fun es ρ2 vs F2 H2 S2 f2 i2 h2 => ?_⟩
  exact h2 (v :: vs) F2 H2 S2 Fr.refl ⟨i1.mono f2, n1, i2⟩
def pickL {α : Type} (pm : List Nat) (l : List α) : List α := pm.filterMap fun i => l[i]?
def mKw (pm : List Nat) (ms mk : M (List EV)) : M (List EV) := fun ρ => (ms ρ).bind fun es ρ1 => (mk ρ1).bind fun fs ρ2 => .ok (pickL pm (es ++ fs)) ρ2
theorem InFA.get {K : Fg} {F H : Hp} {σ : L2.St} {ρ : Env} : ∀ {vs : List V} {es : List EV} {i : Nat}, InFA K g F H σ ρ vs es → (∃ v e, vs[i]? = some v ∧ es[i]? = some e ∧ InF K g F H σ ρ v e ∧ ∀ d, e ≠ .own d) ∨ (vs[i]? = none ∧ es[i]? = none)
  | [], [], i, _ => .inr ⟨rfl, rfl⟩
  | v :: vs, e :: es, 0, h => .inl ⟨v, e, rfl, rfl, h.1, h.2.1⟩
  | v :: vs, e :: es, i + 1, h => InFA.get (vs := vs) (es := es) (i := i) h.2.2
  | [], _ :: _, _, h => h.elim
  | _ :: _, [], _, h => h.elim
theorem InFA.app {K : Fg} {F H : Hp} {σ : L2.St} {ρ : Env} : ∀ {vs ws : List V} {es fs : List EV}, InFA K g F H σ ρ vs es → InFA K g F H σ ρ ws fs → InFA K g F H σ ρ (vs ++ ws) (es ++ fs)
  | [], _, [], _, _, h => h
  | v :: vs, _, e :: es, _, h, h' => ⟨h.1, h.2.1, InFA.app h.2.2 h'⟩
  | [], _, _ :: _, _, h, _ => h.elim
  | _ :: _, _, [], _, h, _ => h.elim
theorem InFA.pick {K : Fg} {F H : Hp} {σ : L2.St} {ρ : Env} {vs : List V} {es : List EV} (h : InFA K g F H σ ρ vs es) : ∀ pm : List Nat, InFA K g F H σ ρ (pickL pm vs) (pickL pm es)
  | [] => trivial
  | i :: pm => by
    unfold pickL
    rw [List.filterMap_cons, List.filterMap_cons]
    rcases InFA.get (i := i) h with ⟨v, e, h1, h2, h3, h4⟩ | ⟨h1, h2⟩
    · rw [h1, h2]
      exact ⟨h3, h4, InFA.pick h pm⟩
    · rw [h1, h2]
      exact InFA.pick h pm
theorem valsPick {vs : List V} {us : List Value} (h : Vals vs us) : ∀ pm : List Nat, Vals (pickL pm vs) (pickL pm us)
  | [] => .nil
  | i :: pm => by
    unfold pickL
    rw [List.filterMap_cons, List.filterMap_cons]
    cases hu : us[i]? with
    | none =>
      have : vs[i]? = none := by
        rw [List.getElem?_eq_none_iff] at hu ⊢
        rw [h.length]; exact hu
      rw [this]
      exact valsPick h pm
    | some u =>
      obtain ⟨v, hv, r⟩ := valsGet h hu
      rw [hv]
      exact .cons r (valsPick h pm)
theorem kb_of {K : Fg} {y qual : Str} {params : Arguments} {body : List Stmt} {scope : Scope} {f : Addr} {kw0 : List (Str × V)} (F : FunD K y qual params body scope [] kw0 f fd) (pm : List Nat)
    (h : ∀ (kV doc pmv : Value) (an : Option Addr) (cdv ct : Value) (us ws : List Value), us.length = n → ws.length = ks.length → bindArgs (PySem.W.fnOf y qual params body scope .none kV doc pmv an cdv ct) ⟨us, ks.zip ws⟩ = pure (ps.zip (pickL pm (us ++ ws)))) :
    KBn K fd ps n ks (fun us ws => pickL pm (us ++ ws)) (fun vs zs => pickL pm (vs ++ zs)) := by
  obtain ⟨oc, od, dV, kV, doc, pmv, an, cdv, ct, osl, rfl, lk, hcd, hD, hK⟩ := F.ex
  rcases hD with ⟨_, rfl⟩ | ⟨e, _⟩
  · exact ⟨fun s us ws _ l1 l2 => .of_eq (h kV doc pmv an cdv ct us ws l1 l2), fun r r' => valsPick (r.append r') pm⟩
  · exact absurd rfl e
theorem run_fnK {pins : List (Addr × Obj)} {σ : L2.St} {H : Hp} {s : Shared} {Q : VK} {us ws : List Value} {vs zs : List V} {E : XK} {sp : Sp} {gg : List Value → List Value → List Value} {gV : List V → List V → List V} (F : FnOk X.prog X.w X.K X.mg X.base (L2.CX X.prog X.w) k fa fd ps sp) (hr : Room k X.A) (hb : KBn X.K fd ps n ks gg gV) (hx : PassesAt (L2.CX X.prog X.w) X σ E)
    (I : Inv X pins σ H s) (r : Vals vs us) (rz : Vals zs ws) (l1 : vs.length = n) (l2 : zs.length = ks.length) (h : sp (gV vs zs) H Q E) : wpAny (model X.prog X.w) X.A (call (.ref fa) us (ks.zip ws)) (EP X pins σ Q) X.xe s := by
  have r2 := hb.rel r rz
  refine wpAny_call (codeAny_mono (F.run X.A X.stack s H ⟨us, ks.zip ws⟩ (gg us ws) (gV vs zs) Q E hr I.env0 (hb.to s us ws I.kIn (r.length.symm.trans l1) (rz.length.symm.trans l2)) r2 h) fun r s' hq => ?_)
  cases r with
  | error e => exact hx pins H s e s' I hq
  | ok fl =>
    cases fl with
    | ret u => exact I.after hq
    | next => exact False.elim hq
    | brk => exact False.elim hq
    | cont => exact False.elim hq
theorem PE.callK0 (Fk : FnOk X.prog X.w X.K X.mg X.base (L2.CX X.prog X.w) k fa fd ps (spf g.T X.K g.C g.fd f)) (hr : Room k X.A) (tk : Takes X g.W) (hm : X.mg x = some (.ref fa)) (hk : PySem.W.keepIn X.K (.ref fa) = true) {gg : List Value → List Value → List Value} {gV : List V → List V → List V} (hb : KBn X.K fd ps 0 ks gg gV) {tz : TA} (hkw : PK X kws tz)
    (hall : (backToKw pos (keywordEach kws X.env)).all (·.1.isSome) = true) (hks : (backToKw pos (keywordEach kws X.env)).filterMap (·.1) = ks)
    (hg : Gl X x) (hdb : (x == ("__debug__" : Str)) = false) (hpl : ((backTo pos (starEach [] X.env)).any (·.1) || (backToKw pos (keywordEach kws X.env)).any (·.1.isNone)) = false) :
    PE X (.Call (.Name x p) [] kws pos) (fun σ H Q => tz σ H fun zs H1 => zs.length = ks.length ∧ spf g.T X.K g.C g.fd f (gV [] zs) H1 Q (WE g.W σ)) := by
  refine ⟨fun pins s σ H Q I h => ?_⟩
  refine wpAny_Call_Name_kw (ld_glob I hg hm ?_ hdb)
  refine PySem.W.callWith_KW0 (h₀ := X.base) I.ok.mod.kin hk hall (thn (hkw.run pos pins s σ H _ I h) fun ws s2 ⟨zs, H2, I2, rz, l2, q2⟩ => ⟨I2.kIn, ?_⟩) hpl
  rw [hks]
  exact run_fnK Fk hr hb (passAt tk σ) I2 .nil rz rfl l2 q2
/-- f(k = e, ..) -/
theorem re_callK0 (pm : List Nat) (Fk : FnOk X.prog X.w X.K X.mg X.base (L2.CX X.prog X.w) k fa fd ps (spf g.T X.K g.C g.fd f)) (hr : Room k X.A) (tk : Takes X g.W) (hm : X.mg x = some (.ref fa)) (hk : PySem.W.keepIn X.K (.ref fa) = true) (hb : KBn X.K fd ps 0 ks (fun us ws => pickL pm (us ++ ws)) (fun vs zs => pickL pm (vs ++ zs))) (hkw : RK X g kws mk)
    (hp : pureMd f.md = true) (hl : Many ks.length mk) (hpm : Many f.md.length (mKw pm mNil mk))
    (hall : (backToKw pos (keywordEach kws X.env)).all (·.1.isSome) = true := by rfl) (hks : (backToKw pos (keywordEach kws X.env)).filterMap (·.1) = ks := by rfl)
    (hg : Gl X x := by rfl) (hdb : (x == ("__debug__" : Str)) = false := by decide) (hpl : ((backTo pos (starEach [] X.env)).any (·.1) || (backToKw pos (keywordEach kws X.env)).any (·.1.isNone)) = false := by rfl) :
    RE X g (.Call (.Name x p) [] kws pos) (mCallP f (mKw pm mNil mk)) := by
  refine PE.to (PE.callK0 (g := g) Fk hr tk hm hk hb hkw hall hks hg hdb hpl) fun σ H Q h => ?_
  obtain ⟨F, ρ, S, h⟩ := call_endP hp hpm σ H Q h
  refine ⟨F, ρ, S, ?_⟩
  have e : mKw pm mNil mk ρ = (mk ρ).bind fun fs ρ2 => .ok (pickL pm ([] ++ fs)) ρ2 := rfl
  rw [e] at h
  cases hm : mk ρ with
  | exc x p ρ' => rw [hm] at h; exact h
  | stk => rw [hm] at h; exact h
  | ok fs ρ1 =>
    rw [hm] at h
    intro zs F1 H1 S1 f1 i1
    exact ⟨i1.length.trans (hl _ _ _ hm), h (pickL pm ([] ++ zs)) F1 H1 S1 f1 (InFA.pick (InFA.app (vs := []) (es := []) trivial i1) pm)⟩
theorem PE.callK (Fk : FnOk X.prog X.w X.K X.mg X.base (L2.CX X.prog X.w) k fa fd ps (spf g.T X.K g.C g.fd f)) (hr : Room k X.A) (tk : Takes X g.W) (hm : X.mg x = some (.ref fa)) (hk : PySem.W.keepIn X.K (.ref fa) = true) {gg : List Value → List Value → List Value} {gV : List V → List V → List V} (hb : KBn X.K fd ps n ks gg gV) {ta tz : TA} (ha : PA X (e :: es) ta) (hkw : PK X kws tz)
    (hall : (backToKw pos (keywordEach kws X.env)).all (·.1.isSome) = true) (hks : (backToKw pos (keywordEach kws X.env)).filterMap (·.1) = ks)
    (hg : Gl X x) (hdb : (x == ("__debug__" : Str)) = false) (he : starEach (e :: es) X.env = (false, eval e X.env) :: starEach es X.env)
    (hpl : ((backTo pos (starEach (e :: es) X.env)).any (·.1) || (backToKw pos (keywordEach kws X.env)).any (·.1.isNone)) = false) :
    PE X (.Call (.Name x p) (e :: es) kws pos) (fun σ H Q => ta σ H fun vs H1 => tz σ H1 fun zs H2 => vs.length = n ∧ zs.length = ks.length ∧ spf g.T X.K g.C g.fd f (gV vs zs) H2 Q (WE g.W σ)) := by
  refine ⟨fun pins s σ H Q I h => ?_⟩
  refine wpAny_Call_Name_kw (ld_glob I hg hm ?_ hdb)
  refine PySem.W.callWith_KW (h₀ := X.base) I.ok.mod.kin hk hall (thn (ha.run pos pins s σ H _ I h) fun us s1 ⟨vs, H1, I1, r, q⟩ => ?_) hpl he
  refine thn (hkw.run pos pins s1 σ H1 _ I1 q) fun ws s2 ⟨zs, H2, I2, rz, l1, l2, q2⟩ => ⟨I2.kIn, ?_⟩
  rw [hks]
  exact run_fnK Fk hr hb (passAt tk σ) I2 r rz l1 l2 q2
/-- f(e, .., k = e, ..) -/
theorem re_callK (pm : List Nat) (Fk : FnOk X.prog X.w X.K X.mg X.base (L2.CX X.prog X.w) k fa fd ps (spf g.T X.K g.C g.fd f)) (hr : Room k X.A) (tk : Takes X g.W) (hm : X.mg x = some (.ref fa)) (hk : PySem.W.keepIn X.K (.ref fa) = true) (hb : KBn X.K fd ps n ks (fun us ws => pickL pm (us ++ ws)) (fun vs zs => pickL pm (vs ++ zs))) (ha : RA X g (e :: es) ms) (hkw : RK X g kws mk)
    (hp : pureMd f.md = true) (hn : Many n ms) (hl : Many ks.length mk) (hpm : Many f.md.length (mKw pm ms mk))
    (hall : (backToKw pos (keywordEach kws X.env)).all (·.1.isSome) = true := by rfl) (hks : (backToKw pos (keywordEach kws X.env)).filterMap (·.1) = ks := by rfl)
    (hg : Gl X x := by rfl) (hdb : (x == ("__debug__" : Str)) = false := by decide) (he : starEach (e :: es) X.env = (false, eval e X.env) :: starEach es X.env := by rfl)
    (hpl : ((backTo pos (starEach (e :: es) X.env)).any (·.1) || (backToKw pos (keywordEach kws X.env)).any (·.1.isNone)) = false := by rfl) :
    RE X g (.Call (.Name x p) (e :: es) kws pos) (mCallP f (mKw pm ms mk)) := by
  refine PE.to (PE.callK (g := g) Fk hr tk hm hk hb ha hkw hall hks hg hdb he hpl) fun σ H Q h => ?_
  obtain ⟨F, ρ, S, h⟩ := call_endP hp hpm σ H Q h
  refine ⟨F, ρ, S, ?_⟩
  have ee : mKw pm ms mk ρ = (ms ρ).bind fun es ρ1 => (mk ρ1).bind fun fs ρ2 => .ok (pickL pm (es ++ fs)) ρ2 := rfl
  rw [ee] at h
  cases hms : ms ρ with
  | exc x p ρ' => rw [hms] at h; exact h
  | stk => rw [hms] at h; exact h
  | ok es1 ρ1 =>
    rw [hms] at h
    intro vs F1 H1 S1 f1 i1
    refine ⟨F1, ρ1, S1, ?_⟩
    have h : EndA X.K g F H σ ρ ((mk ρ1).bind fun fs ρ2 => .ok (pickL pm (es1 ++ fs)) ρ2) _ := h
    cases hmk : mk ρ1 with
    | exc x p ρ' =>
      rw [hmk] at h
      exact fun dx v F' H' P => h dx v F' H' ⟨P.st, f1.trans P.fr, P.rep, P.xd⟩
    | stk => rw [hmk] at h; exact h
    | ok fs ρ2 =>
      rw [hmk] at h
      intro zs F2 H2 S2 f2 i2
      exact ⟨i1.length.trans (hn _ _ _ hms), i2.length.trans (hl _ _ _ hmk), h (pickL pm (vs ++ zs)) F2 H2 S2 (f1.trans f2) (InFA.pick (InFA.app (InFA.mono f2 i1) i2) pm)⟩
end
end LW
set_option Elab.async false
set_option linter.all false
set_option maxRecDepth 100000
set_option maxHeartbeats 2000000
/-! LW14: own errors with one field; what a lambda is handed to. -/
namespace LW
open PySem PySem.Spec PyProof.Rows L2
/-- an error class of one field, at C, its __init__ at fI -/
structure ErrK (K : Fg) (mg : Str → Option Value) (cn fld : Str) (C fI : Addr) : Prop where
  gC : mg cn = some (.ref C)
  ox : OexC K C
  iC : PySem.W.findIn K (.ref C) "__init__" = some (some (.ref fI))
  tI : PySem.W.typeIn K (.ref fI) = some (.type "function")
  no : PySem.W.findIn K (.ref C) fld = some none
  xf : XfC K C
/-- self.fld = the argument, of a fresh error -/
def spI (C : Addr) (fld : Str) : Sp := fun vs H Q _ => ∃ a y, vs = [.ref a, y] ∧ H a = some (exo a C none) ∧ ∀ dx, H dx = none → dx ≠ a → Q .non (upd (upd H dx (exd dx [(fld, y)])) a (exo a C (some dx)))
section
variable {P : Program} {w : World} {K : Fg} {mg : Str → Option Value} {base : Heap}
theorem ok_init {cn fld qual par : Str} {C fI f : Addr} {k : Nat} {params : Arguments} {scope : Scope} {kws : List (Str × V)} {fd : FuncData} {q1 q2 q3 q4 : Pos} (E : ErrK K mg cn fld C fI)
    (F : FunD K "__init__" qual params [.Assign [.Attribute (.Name "self" q1) fld q2] (.Name par q3) q4] scope [] kws f fd) (S : FnScope ["self", par] ["self", par] scope)
    (hs : ∀ env, swapsWith (.Name par q3) (some (.Attribute (.Name "self" q1) fld q2)) q4.line env = pure false := by intro _; rfl)
    (d1 : (par == ("__debug__" : Str)) = false := by decide) (d2 : (par == ("__classdict__" : Str)) = false := by decide) : FnOk P w K mg base (L2.CX P w) (k + 1) f fd ["self", par] (spI C fld) := by
  refine F.ok S (fun vs H Q E' h => ?_) fun cdv A outer s H vs Q E' hr h => ?_
  · obtain ⟨a, y, rfl, _⟩ := h
    rfl
  · obtain ⟨a, y, rfl, ha, h⟩ := h
    have vis : ∀ x, x ∈ (["self", par] : List Str) → Vis scope x := fun x hx => (S.par x hx).elim .inl fun z => .inr (.inl z)
    refine ⟨_, pss_one (ps_ost (pe_var (i := 0) rfl (vis _ (by simp))) (pe_var (i := 1) rfl (vis _ (by simp)) d1 d2) (hs _)), ?_⟩
    refine ⟨y, rfl, .ref a, rfl, a, C, rfl, E.ox, E.no, .inl ⟨ha, fun dx hd hne => h dx hd hne⟩⟩
end
def mRaise (cn : Str) (ms : M (List EV)) : MS := fun ρ => (ms ρ).toS fun es ρ1 => match ρ1.frzA es with
  | some ([d], ρ2) => .exc cn d ρ2
  | _ => .stk
section
variable {X : Cx} {g : G} {a b c e : Expr} {es : List Expr} {ma mb mc : M EV} {ms : M (List EV)} {pos pos2 p : Pos} {cn fld par : Str} {k : Nat} {C fI : Addr} {fd : FuncData}
theorem EndS.seqA {K : Fg} {F H : Hp} {σ : L2.St} {ρ : Env} {f : List EV → Env → SO} {D' : Ends} {Q' : List V → Hp → Prop} (h : EndS K g F ((ms ρ).toS f) D')
    (k : ∀ es ρ1 vs F1 H1, Sta K g F1 H1 σ ρ1 → InFA K g F1 H1 σ ρ1 vs es → EndS K g F1 (f es ρ1) D' → Q' vs H1) : EndA K g F H σ ρ (ms ρ) Q' := by
  cases hm : ms ρ with
  | ok es ρ1 =>
    rw [hm] at h
    exact fun vs F1 H1 S P i => k es ρ1 vs F1 H1 S i (EndS.rebase (show EndS K g F (f es ρ1) D' from h) P.ex)
  | exc x p ρ' =>
    rw [hm] at h
    exact fun dx v F' H' P => h dx v σ F' H' P.st P.rep P.xd
  | stk => rw [hm] at h; exact h
theorem rs_raise (E : ErrK X.K X.mg cn fld C fI) (Fi : FnOk X.prog X.w X.K X.mg X.base (L2.CX X.prog X.w) k fI fd ["self", par] (spI C fld)) (hb : Binds X.K fd ["self", par] []) (hr : Room (k + 1) X.A) (tk : Takes X g.W) (hC : g.C cn = C) (hf : g.fd cn = fld) (ha : RA X g [a] ms)
    (hc : X.calm = true := by rfl) (hg : Gl X cn := by rfl) (hdb : (cn == ("__debug__" : Str)) = false := by decide) (he : starEach (a :: []) X.env = (false, eval a X.env) :: starEach [] X.env := by rfl) (hpl : (backTo pos (starEach [] X.env)).any (·.1) = false := by rfl) :
    RS X g (.Raise (some (.Call (.Name cn p) [a] [] pos)) none pos2) (mRaise cn ms) := by
  refine PS.to (ps_raise hc tk (pmk_oex E.ox E.iC E.tI Fi hr hb .nil passL hg E.gC ha hdb he hpl)) ?_
  rintro D' σ H ⟨F, ρ, S, h⟩
  refine ⟨F, ρ, S, EndS.seqA h fun es ρ1 vs F1 H1 S1 i1 h1 => ?_⟩
  split at h1
  case h_2 => exact h1.elim
  rename_i d ρ2 hy
  obtain ⟨F2, S2, f2, ra⟩ := freezeA S1 i1 hy
  cases ra with
  | cons r rr =>
    cases rr
    rename_i y
    refine ⟨by simp, fun x hx => ⟨x, y, rfl, upd_same, fun dx hd hne => ⟨rfl, dx, [(fld, y)], upd_same, ?_, ?_, ?_⟩⟩⟩
    · rw [upd_ne hne, upd_same]
    · rw [upd_ne hne] at hd
      exact hd
    · have hd' : H1 dx = none := by rwa [upd_ne hne] at hd
      have eq : upd (del (upd (upd (upd H1 x (exo x C none)) dx (exd dx [(fld, y)])) x (exo x C (some dx))) x) dx (.xd [(fld, y)]) = upd H1 dx (.xd [(fld, y)]) := by
        funext q
        by_cases z : q = dx
        · rw [z, upd_same, upd_same]
        · rw [upd_ne z, upd_ne z]
          by_cases z2 : q = x
          · rw [z2, del_same, hx]
          · rw [del_ne z2, upd_ne z2, upd_ne z, upd_ne z2]
      rw [eq, ← hC]
      have gr : Grow F2 H1 F2 (upd H1 dx (.xd [(fld, y)])) := Grow.opn S2.ex hd'
      exact EndS.rebase h1 f2.ex dx y σ F2 _ (S2.grow gr) r (by rw [upd_same, hf])
end
/-! ### what a lambda is handed to: try: act() / except C as e: return [e.fld] / return None -/
open LamX in
def TTref (K : Fg) (C : Addr) (fld : Str) : (XK → Hp → VK → Prop) → Hp → VK → Prop := fun tl H Q =>
  ∀ E' : XK, (∀ cls d H', (cls = .ref C ∧ PySem.W.exmOne K (.ref C) (.ref C) = some true ∧ ∃ dd v, d = some dd ∧ H' dd = some (.xd [(fld, v)]) ∧ ∀ p, H' p = none → Q (.ref p) (upd H' p (.lst [v]))) → E' cls d H') → tl E' H fun _ H1 => Q .non H1
open LamX in
theorem ref_gives {X : Cx} {Ng : List Str} {x a e cn fld q : Str} {sg : Scope} {g C fI : Addr} {cdg : Value} {p1 p2 p3 p4 p5 p6 p7 p8 p9 p10 p11 p12 : Pos} (E : ErrK X.K X.mg cn fld C fI) (hN : Ng = [a, e]) (nd : Ng.Nodup)
    (hge : sg.names.lookup cn = some .globalImplicit) (hle : sg.names.lookup e = some .local) (hkd : sg.kind = .function) (hde : (cn == ("__debug__" : Str)) = false)
    (hd1 : (e == ("__debug__" : Str)) = false) (hd2 : (e == ("__classdict__" : Str)) = false) :
    GivesTo X Ng x sg g cdg [.Try [.Expr (.Call (.Name a p1) [] [] p2) p3] [.ExceptHandler (some (.Name cn p4)) (some e) [.Return (some (.List [.Attribute (.Name e p5) fld p6] p7)) p8] p9] [] [] p10, .Return (some (.Constant .none 0 p11)) p12] a q (TTref X.K C fld) := by
  subst hN
  intro f c' s H Q tl act hc h
  have hgl : Gl (cxOf C8.CX0 X.prog X.w X.K X.mg X.base [a, e] x sg g cdg X.A X.stack s H C8.E0).nox cn := hge
  let Good : XK := fun cls d H' => cls = .ref C ∧ PySem.W.exmOne X.K (.ref C) (.ref C) = some true ∧ ∃ dd v, d = some dd ∧ H' dd = some (.xd [(fld, v)]) ∧ ∀ p, H' p = none → Q (.ref p) (upd H' p (.lst [v]))
  refine ⟨_, pss_cons (ps_try_as (X := (cxOf C8.CX0 X.prog X.w X.K X.mg X.base [a, e] x sg g cdg X.A X.stack s H C8.E0).nox) (c := .ref C) (i := 1)
      (tb := fun W D σ H => ∃ Ech : XK, (∀ cls d σ' H', Ech cls d H' → W cls d σ' H') ∧ σ[0]? = some (some (.ref f)) ∧ H c' = some (CodeO c' q) ∧ tl Ech H (fun _ H1 => D.nx σ H1))
      (ts := fun ad cls d D σ H => σ.length = 2 → tRet (tLst (tCons (tXf ad cls d C fld (tVar 1)) tNil)) D σ H)
      rfl rfl nd rfl hle ⟨hgl, hde, .inl E.gC⟩ L2.takes0 (fun W pn xe tk _ => ⟨fun pins s' σ H' D I ⟨Ech, hW, h1, h2, h3⟩ => (pss_one (ps_expr (pos := p3) (act W pn xe Ech p1 p2 tk hW))).run pins s' σ H' D I ⟨h1, h2, h3⟩⟩)
      (fun ad oe cls d pn hz hf => ⟨fun pins s' σ H' D I h' =>
        (pss_one (ps_ret (pe_lst (pa_cons (pe_xf (X := (cxOf C8.CX0 X.prog X.w X.K X.mg X.base [a, e] x sg g cdg X.A X.stack s H C8.E0).nox) E.xf E.no hz hf (pe_var (i := 1) rfl (.inl hle) hd1 hd2)) pa_nil)))).run pins s' σ H' D I (h' I.len)⟩)) (pss_one (ps_ret pe_non)), ?_⟩
  refine ⟨Good, fun cls d σ' H' ⟨e1, e2, dd, v, e3, e4, e5⟩ => ⟨true, by rw [e1]; exact e2, fun _ ad ha hl => ?_, fun z => nomatch z⟩, rfl, hc, h Good fun cls d H' z => z⟩
  subst e1
  refine ⟨.ref ad, ?_, rfl, rfl, dd, [(fld, v)], v, e3, e4, by simp [List.lookup], by show 1 ≤ sizeLine; decide, fun p hp => e5 p hp⟩
  rw [List.length_set] at hl
  exact List.getElem?_set_self (by omega)
/-- handed a lambda: what it is refused with -/
def mRef (cn : Str) (me : M EV) : M EV := fun ρ => match me ρ with
  | .ok _ ρ1 => .ok (.val .none) ρ1
  | .exc x p ρ1 => if x = cn then .ok (.own (.list [p])) ρ1 else .stk
  | .stk => .stk
section
open LamX
variable {X : Cx} {g : G} {me : M EV}
theorem ref_end {K : Fg} {cn fld : Str} {C : Addr} (hC : g.C cn = C) (hf : g.fd cn = fld) (te : PySem.W.exmOne K (.ref C) (.ref C) = some true) :
    ∀ σ H Q, tD K g (mRef cn me) σ H Q → tLam g.T (TTref K C fld) (fun E => tD K { g with W := fun c d _ H => E c d H } me) σ H Q := by
  rintro σ H Q ⟨F, ρ, S, h⟩
  refine ⟨S.tabs, fun H1 eN T1 E' hE => ?_⟩
  have w : GrowT g.T F H F H1 := ⟨Ex.refl _, fun p o q => eN p o (S.ex p o q) (S.nt p o q), fun p o m q n => ⟨eN p o q m, n⟩, id, fun _ => T1⟩
  have S1 := S.growT w
  have S1' : Sta K { g with W := fun c d _ H => E' c d H } F H1 σ ρ := ⟨S1.ex0, S1.ex, S1.len, fun i s h => by
    obtain ⟨v, a, b⟩ := S1.slot i s h
    exact ⟨v, a, by cases s <;> exact b⟩, S1.sep, S1.iok, S1.ion, S1.ioe, S1.keep, S1.dom, S1.nt, S1.tabs⟩
  have bS : ∀ {F' H' : Hp} {ρ' : Env}, Sta K { g with W := fun c d _ H => E' c d H } F' H' σ ρ' → Sta K g F' H' σ ρ' := fun S => ⟨S.ex0, S.ex, S.len, fun i s h => by
    obtain ⟨v, a, b⟩ := S.slot i s h
    exact ⟨v, a, by cases s <;> exact b⟩, S.sep, S.iok, S.ion, S.ioe, S.keep, S.dom, S.nt, S.tabs⟩
  have bF : ∀ {F' H' : Hp} {ρ' : Env}, Fr K { g with W := fun c d _ H => E' c d H } F H1 F' H' σ ρ ρ' → Fr K g F H F' H' σ ρ ρ' := fun f => (w.fr S.ex).trans ⟨f.ex, f.fr, f.own, f.dom, f.loc⟩
  refine ⟨F, ρ, S1', ?_⟩
  unfold mRef at h
  cases hm : me ρ with
  | ok e ρ1 =>
    rw [hm] at h
    intro v F' H' P
    exact h .non F' H' ⟨bS P.st, bF P.fr, .non, fun _ _ z => nomatch z⟩
  | stk => rw [hm] at h; exact h.elim
  | exc x p ρ1 =>
    rw [hm] at h
    have h : EndE K g F H σ ρ (if x = cn then .ok (.own (.list [p])) ρ1 else .stk) Q := h
    by_cases hx : x = cn
    · rw [if_pos hx] at h
      intro dx v F' H' P
      refine hE _ _ _ ⟨by rw [← hC, hx], te, dx, v, rfl, by rw [P.xd, ← hf, hx], fun q hq => ?_⟩
      have S2 := bS P.st
      have gr : Grow F' H' F' (upd H' q (.lst [v])) := Grow.opn S2.ex hq
      have fr := bF P.fr
      refine h (.ref q) F' _ ⟨S2.grow gr, fr.trans gr.fr, S2.newOwn (Nw.of hq) (.mk (S2.ex.none hq) upd_same (.cons P.rep .nil)), fun _ _ _ z => by cases z; exact fr.dom _ (Nw.of hq)⟩
    · rw [if_neg hx] at h
      exact h.elim
/-- f(lambda: body), f a def of TTref -/
theorem re_ref {cn fld x a : Str} {C fI gA c P : Addr} {k : Nat} {pg : Arguments} {bg : List Stmt} {sg : Scope} {fd : FuncData} {Ng : List Str} {params : Arguments} {body : Expr} {scope : Scope} {p lpos pos : Pos} {kw0 : List (Str × V)}
    (E : ErrK X.K X.mg cn fld C fI) (hC : g.C cn = C) (hf : g.fd cn = fld) (te : PySem.W.exmOne X.K (.ref C) (.ref C) = some true) (hm : X.mg x = some (.ref gA))
    (Fg : FunD X.K x x pg bg sg [] kw0 gA fd) (hb : L2.Binds X.K fd [a] []) (Sg : FnScope Ng [a] sg) (hNg : Ng[0]? = some a) (hva : Vis sg a) (hG : ∀ cdv, GivesTo X Ng x sg gA cdv bg a (X.env.qual ++ "<lambda>") (TTref X.K C fld))
    (TB : TabB X.base X.mg c P) (hcode : X.env.code = .ref c) (hmT : (P, X.env.qual ++ "<lambda>") ∈ g.T) (hu : ∀ p ∈ g.T, p.1 = P → p.2 = X.env.qual ++ "<lambda>") (hr : Room (k + 2) X.A) (L : LamS X.env.scope scope)
    (hbody : ∀ (A : Around) (outer : List PySem.Env) (s : Shared) (H : Hp) (E : XK) (f c' : Addr), Room k (A.deeper (lamEnv X scope s.heap.objs.size f c')) → RE (lamCx X A outer s H E scope f c') { g with W := fun c d _ H => E c d H } body me)
    (hdef : defaultsOf params X.env = ([], []) := by rfl) (hbind : ∀ (q : Str) (cl : List (Str × Addr)) (pm cv ctv : Value), bindArgs (PySem.W.kla_fn "<lambda>" q params body scope cl pm cv ctv) ⟨[], []⟩ = pure [] := by intros; rfl)
    (hg : Gl X x := by rfl) (hdb : (x == ("__debug__" : Str)) = false := by decide) (hd : (a == ("__debug__" : Str)) = false := by decide) (hcd : (a == ("__classdict__" : Str)) = false := by decide) :
    RE X g (.Call (.Name x p) [.Lambda params body scope lpos] [] pos) (mRef cn me) := by
  obtain ⟨oc, od, dV, kV, doc, pm, an, cdv, ct, osl, rfl, lk, hcg, hD, hK⟩ := Fg.ex
  exact PE.to (pe_lamcall (t := fun E => tD X.K { g with W := fun c d _ H => E c d H } me) hg hm Fg.kp lk hcg hb Sg hNg hva (hG cdv) TB hcode hmT hu hr L hdef hbind (fun A outer s H E f c' hr => hbody A outer s H E f c' hr) hdb hd hcd) (ref_end hC hf te)
end
end LW
set_option Elab.async false
set_option linter.all false
set_option maxRecDepth 100000
set_option maxHeartbeats 2000000
/-! LW15: more: x[::-1] of a text, max(xs, default=d). -/
namespace LW
open PySem PySem.Spec PyProof.Rows L2
section
variable {X : Cx} {g : G} {a b c e : Expr} {es : List Expr} {ma mb mc : M EV} {ms : M (List EV)} {pos p p1 p2 p3 : Pos} {kk : Nat}
/-! ### text[::-1] -/
def revS (z : Str) : Str := ⟨z.cps.reverse⟩
theorem rev_by (z : Str) (u : Tok) : Txt.sliceBy z none none (-1, u) = revS z := by
  have h := step_rev_list z u
  have h2 : (Txt.sliceBy z none none (-1, u)).cps.toList = z.cps.toList.reverse := by
    rw [h]
    apply List.ext_getElem?
    intro i
    rw [List.getElem?_map]
    by_cases hi : i < z.length
    · rw [List.getElem?_range hi, List.getElem?_reverse (show i < z.cps.toList.length by simpa [Str.length] using hi)]
      have hz : z.cps.size - 1 - i < z.cps.size := by
        have : i < z.cps.size := hi
        omega
      simp [Str.length, Array.getD, hz]
    · rw [List.getElem?_eq_none (by simpa using hi), List.getElem?_eq_none (show z.cps.toList.reverse.length ≤ i by simpa [Str.length] using hi)]
      rfl
  have : (Txt.sliceBy z none none (-1, u)).cps = z.cps.reverse := by
    apply Array.ext'
    rw [h2, Array.toList_reverse]
  show _ = (⟨z.cps.reverse⟩ : Str)
  rw [← this]
def tRevS (te : TE) : TE := fun σ H Q => te σ H fun x H1 => ∃ z, x = .str z ∧ z.length ≤ sizeLine ∧ Q (.str (revS z)) H1
theorem pe_revS {te : TE} (he : PE X e te) : PE X (.Subscript e (.Slice none none (some (.UnaryOp .USub (.Constant (.int 1) kk p1) p2)) p3) pos) (tRevS te) := by
  refine ⟨fun pins s σ H Q I h => ?_⟩
  refine Subscript_ (thn (he.run pins s σ H _ I h) fun v s1 ⟨x, H1, I1, r1, q1⟩ => ?_)
  obtain ⟨z, ex, hz, q⟩ := q1
  subst ex
  obtain ⟨t, rfl⟩ := r1
  have hst : PO X (some (.UnaryOp .USub (.Constant (.int 1) kk p1) p2)) (tPart (tUn (L2.rU fun i => .int (-i)) (tC (.int 1)))) := po_some (pe_un un_neg pe_int)
  refine wpAny_Slice (thn (po_none.run pins s1 σ H1 (fun o H2 => o = none ∧ H2 = H1) I1 ⟨rfl, rfl⟩) fun vl s2 ⟨l, H2, I2, pl, el, e2⟩ => ?_)
  subst el e2
  refine thn (po_none.run pins s2 σ H2 (fun o H3 => o = none ∧ H3 = H2) I2 ⟨rfl, rfl⟩) fun vu s3 ⟨u, H3, I3, pu, eu, e3⟩ => ?_
  subst eu e3
  refine thn (hst.run pins s3 σ H3 (fun o H4 => o = some (-1) ∧ H4 = H3) I3 ⟨1, rfl, -1, rfl, rfl, rfl⟩) fun vs s4 ⟨o, H4, I4, ps, eo, e4⟩ => ?_
  subst eo e4
  have I5 : Inv X pins σ H4 { s4 with heap := s4.heap.push { cls := .type "slice", data := .fields #[vl, vu, vs] } } := I4.kept (t' := s4.toks) fun b ob q => Heap.get?_push_of_some _ q
  obtain ⟨l, rfl, h1⟩ := IsPart.raw pl
  obtain ⟨u, rfl, h2⟩ := IsPart.raw pu
  obtain ⟨st, rfl, h3⟩ := IsPart.raw ps
  have hl : l = none := by cases l with | none => rfl | some _ => cases h1
  have hu : u = none := by cases u with | none => rfl | some _ => cases h2
  subst hl hu
  obtain ⟨⟨k, uk⟩, rfl⟩ : ∃ y, st = some y := by cases st with | none => cases h3 | some y => exact ⟨y, rfl⟩
  have hk : k = -1 := by injection h3
  subst hk
  have sb : Txt.sliceBy z none none (-1, uk) = revS z := rev_by z uk
  refine tail_any (ops := [.ref s4.heap.objs.size, .str z t]) (typeIs_str _ _ _) F.slot_str_getitem.lookup ?_ (by with_unfolding_all rfl)
  refine wpAny_getItem_str_slice (l := none) (u := none) (st := some (-1, uk)) ⟨_, Heap.get?_push_size _ rfl, rfl, rfl⟩ rfl ?_
  have hl : (revS z).length ≤ sizeLine := by
    have : (revS z).length = z.length := by show z.cps.reverse.size = z.cps.size; simp
    rw [this]; exact hz
  have e0 : (if ((((some ((-1 : Int), uk)).map (·.1)).getD 1 == 1 && (slicePicked z none none (some (-1, uk))).length == z.length) = true) then z else ⟨((slicePicked z none none (some (-1, uk))).filterMap (z.cps[·]?)).toArray⟩) = revS z := sb
  refine post_val_or_str ⟨by rw [e0]; exact hl, fun t' k => ?_⟩
  rw [e0]
  exact ⟨.str _, H4, I5.tok _, ⟨_, rfl⟩, q⟩
def mRevS (m : M EV) : M EV := fun ρ => (m ρ).bind fun e ρ1 => match ρ1.cont e with
  | some (.str z) => if z.length ≤ sizeLine then .ok (.val (.str (revS z))) ρ1 else .stk
  | _ => .stk
theorem re_revS (ha : RE X g e ma) : RE X g (.Subscript e (.Slice none none (some (.UnaryOp .USub (.Constant (.int 1) kk p1) p2)) p3) pos) (mRevS ma) := by
  refine PE.to (pe_revS ha) ?_
  rintro σ H Q ⟨F, ρ, S, h⟩
  refine ⟨F, ρ, S, EndE.seq h fun e ρ1 v F1 H1 P h1 => ?_⟩
  split at h1
  case h_2 => exact h1.elim
  rename_i z hz
  split at h1
  case isFalse => exact h1.elim
  rename_i hl
  exact ⟨z, (P.inf.vw P.st hz).str, hl, EndE.here P.st (e := .val (.str (revS z))) (.str _) (fun _ z => nomatch z) h1⟩
/-! ### max(xs, default=d) -/
theorem maxOf_fold : ∀ (x : Int) (xs : List Int), PySem.W.maxOf x xs = xs.foldl max x
  | x, [] => rfl
  | x, y :: ys => by
    show PySem.W.maxOf (if PySem.W.DatumOrd.lt x y = true then y else x) ys = ys.foldl max (max x y)
    have e : (if PySem.W.DatumOrd.lt x y = true then y else x) = max x y := by
      show (if decide (x < y) = true then y else x) = max x y
      by_cases h : x < y
      · rw [if_pos (decide_eq_true h)]; omega
      · rw [if_neg (by simpa using h)]; omega
    rw [e]
    exact maxOf_fold (max x y) ys
theorem fold_max : ∀ (x : Int) (xs : List Int), xs.foldl max x = maxI (x :: xs)
  | x, [] => rfl
  | x, y :: ys => by
    show ys.foldl max (max x y) = max x (maxI (y :: ys))
    rw [fold_max (max x y) ys]
    cases ys with
    | nil => rfl
    | cons z zs =>
      show max (max x y) (maxI (z :: zs)) = max x (max y (maxI (z :: zs)))
      omega
def rMaxD (K : Fg) : List V → List V → Hp → VK → Prop := fun xs zs H Q => ∃ (a : Addr) (ns : List Int) (d : V), xs = [.ref a] ∧ zs = [d] ∧ SqL K H a (ns.map V.int) ∧ (ns = [] → Q d H) ∧ (ns ≠ [] → Q (.int (maxI ns)) H)
theorem cr_maxD (hc : X.calm = true) (hu : X.A.units + 64 < cLine) : CallRK X (.builtin "max") [Str.ofString "default"] (rMaxD X.K) := by
  intro pins s σ H vs zs us ws Q I r rz h
  obtain ⟨a, ns, d, rfl, rfl, hs, q0, q1⟩ := h
  obtain rfl := Vals.ref1 r
  obtain ⟨w1, rfl, e1⟩ := Vals.one rz
  obtain ⟨its, rv, hl, _⟩ := I.list hs
  refine PySem.W.max_list_datum_default (α := Int) (vs := its.toArray) (xs := ns) (I.ok.hd hc) hl.isList (PySem.W.HoldAll.of_ints rv.ints) (by show X.A.units + 1 + 0 < cLine; omega) (fun e h' tk k => ?_) fun y ys i v h' tk e hi hv k => ?_
  · exact ⟨d, H, I.kept k, e1, q0 e⟩
  · obtain ⟨as, hr⟩ := hv
    have e2 : PySem.W.Datum.toD (PySem.W.maxOf y ys) = PyData.int (maxI ns) := by
      rw [maxOf_fold, fold_max, ← e]; rfl
    rw [e2] at hr
    cases hr with
    | int _ t => exact ⟨.int _, H, I.kept k, ⟨t, rfl⟩, q1 (by rw [e]; exact List.cons_ne_nil _ _)⟩
def mMaxD (ms mk : M (List EV)) : M EV := fun ρ => (ms ρ).bind fun es ρ1 => (mk ρ1).bind fun fs ρ2 => match ρ2.contA es, fs with
  | some [.list ds], [f] => (match intsD ds with
    | some ns => (match ρ2.cont f with
      | some (.int d) => .ok (.val (.int (if ns = [] then d else maxI ns))) ρ2
      | _ => .stk)
    | none => .stk)
  | _, _ => .stk
theorem EndE.seqA2 {K : Fg} {F H : Hp} {σ : L2.St} {ρ : Env} {f : List EV → Env → Out EV} {Q : VK} {Q' : List V → Hp → Prop} (h : EndE K g F H σ ρ ((ms ρ).bind f) Q)
    (k : ∀ es ρ1 vs F1 H1, Sta K g F1 H1 σ ρ1 → InFA K g F1 H1 σ ρ1 vs es → EndE K g F1 H1 σ ρ1 (f es ρ1) Q → Q' vs H1) : EndA K g F H σ ρ (ms ρ) Q' := by
  cases hm : ms ρ with
  | ok es ρ1 =>
    rw [hm] at h
    exact fun vs F1 H1 S P i => k es ρ1 vs F1 H1 S i (EndE.rebase (show EndE K g F H σ ρ (f es ρ1) Q from h) P)
  | exc x p ρ' => rw [hm] at h; exact h
  | stk => rw [hm] at h; exact h
theorem re_maxD {kws : List Keyword} {mk : M (List EV)} (hu : X.A.units + 64 < cLine) (hm : X.mg "max" = none) (ha : RA X g (e :: es) ms) (hk : RK X g kws mk) (hc : X.calm = true := by rfl) (hg : Gl X "max" := by rfl)
    (he : backTo pos (starEach (e :: es) X.env) = (false, eval e X.env) :: backTo pos (starEach es X.env) := by rfl) (hpl : (backTo pos (starEach (e :: es) X.env)).any (·.1) = false := by rfl)
    (hall : (backToKw pos (keywordEach kws X.env)).all (·.1.isSome) = true := by rfl) (hnone : (backToKw pos (keywordEach kws X.env)).any (·.1.isNone) = false := by rfl) (hks : (backToKw pos (keywordEach kws X.env)).filterMap (·.1) = [Str.ofString "default"] := by rfl) :
    RE X g (.Call (.Name "max" p) (e :: es) kws pos) (mMaxD ms mk) := by
  refine PE.to (pe_callBK (cr_maxD hc hu) hg hm PyProof.Rows.Boot.max ha hk (by decide) (by decide) he hpl hall hnone hks) ?_
  rintro σ H Q ⟨F, ρ, S, h⟩
  refine ⟨F, ρ, S, EndE.seqA2 h fun es ρ1 vs F1 H1 S1 i1 h1 => ⟨F1, ρ1, S1, ?_⟩⟩
  cases hmk : mk ρ1 with
  | exc x p ρ' => rw [hmk] at h1; exact h1
  | stk => rw [hmk] at h1; exact h1
  | ok fs ρ2 =>
    rw [hmk] at h1
    intro zs F2 H2 S2 f2 i2
    have h2 := EndE.rebase (show EndE X.K g F1 H1 σ ρ1 (match (generalizing := false) ρ2.contA es, fs with
      | some [.list ds], [f] => (match intsD ds with
        | some ns => (match ρ2.cont f with
          | some (.int d) => .ok (.val (.int (if ns = [] then d else maxI ns))) ρ2
          | _ => .stk)
        | none => .stk)
      | _, _ => .stk) Q from h1) f2
    split at h2
    case h_2 => exact h2.elim
    rename_i ds f hds
    split at h2
    case h_2 => exact h2.elim
    rename_i ns hns
    split at h2
    case h_2 => exact h2.elim
    rename_i d hd
    obtain ⟨v, rfl, vx⟩ := VwA.one (InFA.vw S2 (InFA.mono f2 i1) hds)
    obtain ⟨a, us, rfl, hq, ra⟩ := vx.lst S2.ex
    rw [intsD_of hns] at ra
    rw [ra.ints] at hq
    match zs, i2 with
    | [z], i2 =>
      have hz : z = .int d := (i2.1.vw S2 hd).int
      subst hz
      have fin := EndE.here S2 (e := .val (.int (if ns = [] then d else maxI ns))) (.int _) (fun _ z => nomatch z) h2
      refine ⟨a, ns, .int d, rfl, rfl, hq, fun e => ?_, fun e => ?_⟩
      · rw [if_pos e] at fin; exact fin
      · rw [if_neg e] at fin; exact fin
end
end LW
set_option Elab.async false
set_option linter.all false
set_option maxRecDepth 100000
set_option maxHeartbeats 2000000
/-! LW16: the end of a law. -/
namespace LW
open PySem PySem.Spec PyProof.Rows L2
/-- the tables apart -/
def noTab (H : Hp) : Hp := fun p => match H p with
  | some (.tbl _) => none
  | o => o
theorem noTab_ex (H : Hp) : Ex (noTab H) H := fun p o h => by
  unfold noTab at h
  split at h
  · cases h
  · exact h
theorem noTab_nt (H : Hp) : NoT (noTab H) := fun p o h ps z => by
  subst z
  unfold noTab at h
  split at h
  · cases h
  · rename_i hn
    exact hn ps h
theorem noTab_of {H : Hp} {p : Addr} {o : HO} (h : H p = some o) (n : NT o) : noTab H p = some o := by
  unfold noTab
  split
  · rename_i ps e
    rw [h] at e
    cases e
    exact (n ps rfl).elim
  · exact h
theorem noTab_lst {K : Fg} {H : Hp} {a : Addr} {xs : List V} (h : SqL K H a xs) : SqL K (noTab H) a xs := by
  rcases h with (h | ⟨o, h⟩) | h
  · exact .inl (.inl (noTab_of h nt_lst))
  · exact .inl (.inr ⟨o, noTab_of h (fun _ z => nomatch z)⟩)
  · exact .inr h
theorem law_end {T : Tb} {K : Fg} {cl : Str → Addr} {fl : Str → Str} {f : FS} {cs : List (Addr × Addr)} (hmd : f.md = [false]) (hT : ∀ p ∈ T, ∃ q ∈ cs, q.2 = p.1) {n : Nat}
    (hrun : ∀ ns : List Int, ns.length ≤ n → (∀ z ∈ ns, Builtin.Int.intBits z ≤ 1048576) → f.run [.list (ns.map PyData.int)] = .ok (.val (.bool true)) []) :
    ∀ (H : Hp) (a : Addr) (ns : List Int), ns.length ≤ n → (∀ z ∈ ns, Builtin.Int.intBits z ≤ 1048576) → (∀ p ∈ cs, H p.2 = some (.tbl #[])) → SqL K H a (ns.map V.int) → spf T K cl fl f [.ref a] H (fun v _ => v = .bl true) fun _ _ _ => False := by
  intro H a ns hl hb hc hs
  refine ⟨noTab H, [], [.list (ns.map PyData.int)], noTab_ex H, noTab_nt H, fun p hp => ?_, ?_, List.nodup_nil, ?_⟩
  · obtain ⟨q, hq, e⟩ := hT p hp
    exact LamX.TabS.nil (by rw [← e]; exact hc q hq)
  · rw [hmd]
    exact ⟨.lst (noTab_lst hs) (repA_ints ns), trivial⟩
  · rw [hrun ns hl hb]
    intro v F' H' _ _ r
    have r : Rep K F' v (.bool true) := r
    cases r
    rfl
theorem cx_none {P : Program} {w : World} {H : Hp} {s : Shared} {e : Value} {s' : Shared} (h : L2.CX P w [] H s (fun _ _ _ => False) e s') : False := by
  obtain ⟨_, _, _, _, _, _, _, _, _, _, _, _, z⟩ := h
  exact z.elim
end LW
set_option Elab.async false
set_option linter.all false
set_option maxRecDepth 100000
set_option maxHeartbeats 2000000
/-! LW17: for the printed derivations. -/
namespace LW
open PySem PySem.Spec PyProof.Rows L2
theorem u64 {k : Nat} {A : Around} (r : Room k A) : A.units + 64 < cLine := by have := r.un; omega
section
variable {X : Cx} {g : G} {x : Str} {pos : Pos}
theorem re_gint {i : Int} (h : ∃ u, X.mg x = some (.int i u)) (hg : Gl X x := by rfl) (hd : (x == ("__debug__" : Str)) = false := by decide) : RE X g (.Name x pos) (mVal (.int i)) := by
  obtain ⟨u, h⟩ := h
  exact re_glob (v := .int i) h ⟨u, rfl⟩ (fun _ => .int _) hg hd
theorem re_gstr {y : Str} (h : ∃ u, X.mg x = some (.str y u)) (hg : Gl X x := by rfl) (hd : (x == ("__debug__" : Str)) = false := by decide) : RE X g (.Name x pos) (mVal (.str y)) := by
  obtain ⟨u, h⟩ := h
  exact re_glob (v := .str y) h ⟨u, rfl⟩ (fun _ => .str _) hg hd
def mWhile (mc : M Bool) (mb : MS) (fu : Env → Nat) : MS := fun ρ => whL mc mb (fu ρ) ρ
theorem rs_whileF {c : Expr} {body : List Stmt} {mt : M Bool} {mb : MS} (fu : Env → Nat) (ht : RT X g c mt) (hb : RSs X g body mb) (hp : PassesOwn (model X.prog X.w) X.A X.env X.xe) : RS X g (.While c body [] pos) (mWhile mt mb fu) := by
  refine ⟨fun pins s σ H D I h => ?_⟩
  obtain ⟨F, ρ, S, h⟩ := h
  exact (rs_while (fu ρ) ht hb hp).run pins s σ H D I ⟨F, ρ, S, h⟩
end
theorem fn_stk {P : Program} {w : World} {K : Fg} {mg : Str → Option Value} {base : Heap} {f : Addr} {fd : FuncData} {ps : List Str} {k : Nat} {T : Tb} {cl : Str → Addr} {fl : Str → Str} {md : List Bool} {CX : CXT} :
    FnOk P w K mg base CX k f fd ps (spf T K cl fl ⟨md, fun _ => .stk⟩) :=
  ⟨fun vs H Q E h => by
    obtain ⟨_, _, _, _, _, _, _, _, z⟩ := h
    exact z.elim, fun A outer s H args us vs Q E _ _ _ _ h => by
    obtain ⟨_, _, _, _, _, _, _, _, z⟩ := h
    exact z.elim⟩
/-- a def that calls itself: n deep -/
def recR (md : List Bool) (b : FS → FS) : Nat → List D → FRes
  | 0 => fun _ => .stk
  | n + 1 => (b ⟨md, recR md b n⟩).run
def recFS (md : List Bool) (b : FS → FS) (n : Nat) : FS := ⟨md, recR md b n⟩
/-- THE RULE for a def, its run laid open -/
theorem fn_law {P : Program} {w : World} {K : Fg} {mg : Str → Option Value} {base : Heap} {x qual : Str} {params : Arguments} {body : List Stmt} {scope : Scope} {dvs : List V} {kws : List (Str × V)} {f : Addr} {fd : FuncData} {N ps : List Str} {k : Nat} {T : Tb} {cl : Str → Addr} {fl : Str → Str} {md : List Bool} {m : MS} {n : Nat}
    (F : FunD K x qual params body scope dvs kws f fd) (S : FnScope N ps scope) (hn : N.length = n) (hl : md.length = ps.length)
    (hbody : ∀ (cdv : Value) (A : Around) (outer : List PySem.Env) (s : Shared) (H : Hp) (E : XK) (Ad : List Addr) (F0 : Hp), fd.code = cdv → Room k (A.deeper (envOfC qual scope s.heap.objs.size f cdv)) →
      RSs (cxOf (L2.CX P w) P w K mg base N qual scope f cdv A outer s H E) ⟨Ad, F0, H, cl, fl, fun c d _ H => E c d H, T⟩ body m) :
    FnOk P w K mg base (L2.CX P w) (k + 1) f fd ps (spf T K cl fl (bodyFS n md m)) := by
  subst hn
  obtain ⟨oc, od, dV, kV, doc, pm, an, cdv, ct, osl, rfl, lk, hcd, _, _⟩ := F.ex
  refine fn_of lk hcd S (fun vs H Q E h => ?_) fun A outer s H vs Q E hr h => ?_
  · obtain ⟨Fz, Ad, ds, _, _, _, a, _⟩ := h
    exact (argsOk_len a).trans hl
  · obtain ⟨Fz, Ad, ds, ex, nt, tb, a, nd, h⟩ := h
    have hb := hbody cdv A outer s H E Ad Fz rfl hr
    refine ⟨_, hb, Fz, env0 N.length md ds, sta_start ex nt tb a nd, ?_⟩
    have la : Ad.length = cells md := (argsOk_lens a).2
    have h : (match (m (env0 N.length md ds)).fin (cells md) with
      | .ok r outs => ∀ v F' H', Back T K Fz H F' H' Ad → OutsOk K F' H' Ad outs → RetV K H F' H' v r → Q v H'
      | .exc x p => ∀ dx v F' H', Back T K Fz H F' H' Ad → Rep K F' v p → H' dx = some (.xd [(fl x, v)]) → E (.ref (cl x)) (some dx) H'
      | .stk => False) := h
    show EndS K ⟨Ad, Fz, H, cl, fl, fun c d _ H => E c d H, T⟩ Fz (m (env0 N.length md ds)) _
    cases hm : m (env0 N.length md ds) with
    | nx ρ' =>
      rw [hm] at h
      intro σ' F' H' S' e'
      refine h .non F' H' ⟨S'.ex0, S'.ex, fun p o m' h1 h2 h3 => S'.keep p o m' h1 h2 h3, S'.dom, S'.nt, S'.tabs⟩ ?_ .non
      rw [← la]
      exact outsOk_of S'.iok
    | rt r ρ' =>
      rw [hm] at h
      intro v F' H' R
      refine h v F' H' ⟨R.ex0, R.ex, fun p o m' h1 h2 h3 => R.keep p o m' h1 h2 h3, R.dom, R.nt, R.tabs⟩ ?_ R.ret
      rw [← la]
      exact outsOk_of R.iok
    | exc x p ρ' =>
      rw [hm] at h
      intro dx v σ' F' H' S' r hx
      exact h dx v F' H' ⟨S'.ex0, S'.ex, fun p o m' h1 h2 h3 => S'.keep p o m' h1 h2 h3, S'.dom, S'.nt, S'.tabs⟩ r hx
    | bk ρ' => rw [hm] at h; exact h.elim
    | ct ρ' => rw [hm] at h; exact h.elim
    | stk => rw [hm] at h; exact h.elim
/-! ### facts of error classes by a look -/
def oexB (K : Fg) (C : Addr) : Bool := match K.lookup C with
  | some ⟨.type "type", _, .cls cd, sl⟩ => (match cd.mro, sl.toList with
    | .ref C' :: bm, [_, _, _, _, some (.builtin n), _] => C' == C && n == "ValueError.__new__" && !cd.hasDel && cd.hasDict && PySem.HandSPX.refsVE bm
    | _, _ => false)
  | _ => false
theorem oexB_ok {K : Fg} {C : Addr} (q : oexB K C = true) : ∃ nm q N bs bm sn sub ab col dd k0 k1 k2 k3 k5, K.lookup C = some (excClassObj nm q C N bs bm true sn sub ab col dd k0 k1 k2 k3 k5 "ValueError.__new__") ∧ PySem.HandSPX.refsVE bm = true := by
  unfold oexB at q
  split at q
  · rename_i dd cd sl ho
    split at q
    · rename_i C' bm k0 k1 k2 k3 n k5 hm hs
      simp only [Bool.and_eq_true, beq_iff_eq, Bool.not_eq_true'] at q
      obtain ⟨⟨⟨⟨rfl, rfl⟩, hdel⟩, hdi⟩, ht⟩ := q
      obtain ⟨nm, bs, mro, ns, qn, hd, sn, sub, ab, col, del⟩ := cd
      dsimp only at hm hdel hdi
      subst hm hdel hdi
      have hsl : sl = #[k0, k1, k2, k3, some (.builtin "ValueError.__new__"), k5] := by
        obtain ⟨l⟩ := sl
        simp only at hs
        rw [hs]
      subst hsl
      exact ⟨nm, qn, ns, bs, bm, sn, sub, ab, col, dd, k0, k1, k2, k3, k5, ho, ht⟩
    · cases q
  · cases q
def errB (K : Fg) (cn fld : Str) : Bool :=
  oexB K (He.ga K cn) && (decide (PySem.W.findIn K (.ref (He.ga K cn)) "__setattr__" = some (some (.builtin "object.__setattr__"))) && (decide (PySem.W.subIn K (.ref (He.ga K cn)) (.type "BaseException") = some true) && (decide (PySem.W.typeIn K (.ref (He.ga K cn)) = some (.type "type")) &&
    (PySem.W.keepIn K (.ref (He.ga K cn)) && (decide (PySem.W.findIn K (.ref (He.ga K cn)) "__init__" = some (some (.ref (He.ma K (He.ga K cn) "__init__")))) && (decide (PySem.W.typeIn K (.ref (He.ma K (He.ga K cn) "__init__")) = some (.type "function")) && (decide (PySem.W.findIn K (.ref (He.ga K cn)) fld = some none) && xfB K (He.ga K cn))))))))
theorem errB_ok {K : Fg} {mg : Str → Option Value} {cn fld : Str} (gC : mg cn = some (.ref (He.ga K cn))) (h : errB K cn fld = true) : ErrK K mg cn fld (He.ga K cn) (He.ma K (He.ga K cn) "__init__") := by
  obtain ⟨h1, h⟩ := He.ba h
  obtain ⟨h2, h⟩ := He.ba h
  obtain ⟨h3, h⟩ := He.ba h
  obtain ⟨h4, h⟩ := He.ba h
  obtain ⟨h5, h⟩ := He.ba h
  obtain ⟨h6, h⟩ := He.ba h
  obtain ⟨h7, h⟩ := He.ba h
  obtain ⟨h8, h9⟩ := He.ba h
  exact ⟨gC, ⟨oexB_ok h1, of_decide_eq_true h2, of_decide_eq_true h3, of_decide_eq_true h4, h5⟩, of_decide_eq_true h6, of_decide_eq_true h7, of_decide_eq_true h8, xfB_ok h9⟩
def exmB (K : Fg) (x y : Str) (b : Bool) : Bool := decide (PySem.W.exmOne K (.ref (He.ga K x)) (.ref (He.ga K y)) = some b)
/-! ### a def's function object -/
def fdOf (K : Fg) (a : Addr) : FuncData := match K.lookup a with
  | some ⟨_, _, .func fd, _⟩ => fd
  | _ => PySem.W.fnOf "" "" { posonlyargs := [], args := [], vararg := none, kwonlyargs := [], kw_defaults := [], kwarg := none, defaults := [] } [] { kind := .function, names := [], isGenerator := false, isCoroutine := false } .none .none .none .none none .none .none
theorem fdOf_eq {K : Fg} {x qual : Str} {params : Arguments} {body : List Stmt} {scope : Scope} {dvs : List V} {kws : List (Str × V)} {f : Addr} {fd : FuncData} (F : FunD K x qual params body scope dvs kws f fd) : fdOf K f = fd := by
  obtain ⟨oc, od, dV, kV, doc, pm, an, cdv, ct, osl, _, lk, _⟩ := F.ex
  unfold fdOf
  rw [lk]
theorem pick_len {α : Type} {l : List α} : ∀ {pm : List Nat}, (∀ i ∈ pm, i < l.length) → (pickL pm l).length = pm.length
  | [], _ => rfl
  | i :: pm, h => by
    unfold pickL
    rw [List.filterMap_cons, List.getElem?_eq_getElem (h i (by simp))]
    exact congrArg Nat.succ (pick_len fun j hj => h j (by simp [hj]))
theorem many_kw (pm : List Nat) {ms mk : M (List EV)} {a b : Nat} (h1 : Many a ms) (h2 : Many b mk) (hp : ∀ i ∈ pm, i < a + b) : Many pm.length (mKw pm ms mk) := fun ρ es ρ' h => by
  unfold mKw at h
  cases hm : ms ρ with
  | exc x p ρ1 => rw [hm] at h; cases h
  | stk => rw [hm] at h; cases h
  | ok es1 ρ1 =>
    rw [hm] at h
    have h : (mk ρ1).bind (fun fs ρ2 => Out.ok (pickL pm (es1 ++ fs)) ρ2) = .ok es ρ' := h
    cases hk : mk ρ1 with
    | exc x p ρ2 => rw [hk] at h; cases h
    | stk => rw [hk] at h; cases h
    | ok fs ρ2 =>
      rw [hk] at h
      cases h
      refine pick_len fun i hi => ?_
      rw [List.length_append, h1 _ _ _ hm, h2 _ _ _ hk]
      exact hp i hi
end LW
set_option Elab.async false
set_option linter.all false
set_option maxRecDepth 100000
set_option maxHeartbeats 2000000
/-! LW18: from the head's facts. -/
namespace LW
open PySem PySem.Spec PyProof.Rows L2
theorem code_of {K : Fg} {x qual : Str} {params : Arguments} {body : List Stmt} {scope : Scope} {dvs : List V} {kws : List (Str × V)} {p : Str × Option Str} {fd : FuncData} (F : FunD K x qual params body scope dvs kws (He.fAd K p) fd) : fd.code = .ref (He.codeOf K p) := by
  obtain ⟨oc, od, dV, kV, doc, pm, an, cdv, ct, osl, rfl, lk, hcd, _⟩ := F.ex
  obtain ⟨c, rfl⟩ := He.codeIn_ref hcd
  rw [He.codeOf_eq lk rfl]
theorem funD_of {K : Fg} {d : He.DefD} (h : ∃ fd, FunD K d.name d.qual d.params d.body d.scope (d.dvs K) (d.kws K) (He.fAd K d.at_) fd) : FunD K d.name d.qual d.params d.body d.scope (d.dvs K) (d.kws K) (He.fAd K d.at_) (fdOf K (He.fAd K d.at_)) := by
  obtain ⟨fd, F⟩ := h
  rw [fdOf_eq F]
  exact F
/-- a law's end -/
theorem walk_law {l : PySem.W.OpenLaw} {n k : Nat} {q : Program} {loose : List Str} {XP : (Str → Option Value) → Heap → Prop} {d : DefRec} {x y : Str} {hn : Nat} {fa : List He.Fa} {fn : List He.DefD} {tf : List He.Defn} {ex : PySem.W.Frag → Bool} {T : PySem.W.Frag → Tb} {fl : Str → Str} {f : FS}
    (hm : l.most = some n) (hn2 : n ≤ sizeLine) (hdf : d.params.defaults = []) (hr : Room k callerA) (hd : d.name = y) (hmd : f.md = [false]) (hT : ∀ K, ∀ p ∈ T K, ∃ q ∈ tf.map (He.cT K), q.2 = p.1)
    (hrun : ∀ ns : List Int, ns.length ≤ n → (∀ z ∈ ns, Builtin.Int.intBits z ≤ 1048576) → f.run [.list (ns.map PyData.int)] = .ok (.val (.bool true)) [])
    (F : ∀ (w : World) (K : PySem.W.Frag) (h : Heap) (mg : Str → Option Value), K.In h → h.Ns mainGlobals mg → He.SaysX fa fn [] tf ex w h K → (∀ (s : Shared) (u : Value), BindsTo s (fdOf K (He.ga K y)) ⟨[u], []⟩ [(x, u)]) ∧ mg y = some (.ref (He.ga K y)) ∧
      ∀ base : Heap, K.In base → base.Ns mainGlobals mg → (∀ p ∈ tf.map (He.cT K), LamX.TabB base mg p.1 p.2) → FnOk l.prog w K mg base (L2.CX l.prog w) k (He.ga K y) (fdOf K (He.ga K y)) [x] (spf (T K) K (He.ga K) fl f)) :
    PySem.W.WalkO q loose XP (He.hookX hn fa fn [] tf ex).says l.row.toRowW d [] (fun f vs => PySem.call f vs) := by
  refine LamX.walk_ofTsE (k := k) (CX := fun w => L2.CX l.prog w) (x := x) hm hn2 hdf hr (fun w mg a h Y G hmg => ?_) fun w H s e s' => cx_none
  obtain ⟨K, KX, c⟩ := Y
  obtain ⟨hb, hg, hF⟩ := F w K h mg KX G c
  rw [hd, hg] at hmg
  cases hmg
  refine ⟨K, KX, fdOf K (He.ga K y), tf.map (He.cT K), spf (T K) K (He.ga K) fl f, fun p hp => ?_, fun p hp => ?_, fun p hp => ?_, hb, law_end hmd (hT K) hrun, hF⟩
  · obtain ⟨t, ht, rfl⟩ := List.mem_map.mp hp
    exact c.empty t ht
  · obtain ⟨t, ht, rfl⟩ := List.mem_map.mp hp
    exact c.out t ht
  · obtain ⟨t, ht, rfl⟩ := List.mem_map.mp hp
    exact PySem.W.codeHd_of_K KX (c.hd t ht)
end LW
set_option Elab.async false
set_option linter.all false
set_option maxRecDepth 100000
set_option maxHeartbeats 2000000
/-! LW19: a call that hands a fresh list in, to be written and forgotten. -/
namespace LW
open PySem PySem.Spec PyProof.Rows L2
def mCallT (f : FS) (m : M EV) : M EV := fun ρ => (m ρ).bind fun e ρ1 => match e, f.md with
  | .own d, [true] => (match f.run [d] with
    | .ok r [_] => .ok r.ev ρ1
    | _ => .stk)
  | _, _ => .stk
section
variable {K : Fg} {g : G} {F H F1 H1 F' H' F'' H'' : Hp} {σ : L2.St} {ρ ρ1 ρ' ρ'' : Env} {v : V} {e : EV} {d : D}
theorem EndE.seq0 {m : M EV} {f : EV → Env → Out EV} {Q Q' : VK} (h : EndE K g F H σ ρ ((m ρ).bind f) Q)
    (k : ∀ e ρ1 v F1 H1, PostE K g F H F1 H1 σ ρ ρ1 v e → EndE K g F H σ ρ (f e ρ1) Q → Q' v H1) : EndE K g F H σ ρ (m ρ) Q' := by
  cases hm : m ρ with
  | ok e ρ1 =>
    rw [hm] at h
    exact fun v F1 H1 P => k e ρ1 v F1 H1 P (show EndE K g F H σ ρ (f e ρ1) Q from h)
  | exc x p ρ' => rw [hm] at h; exact h
  | stk => rw [hm] at h; exact h
theorem Sta.back0 {p : Addr} (S0 : Sta K g F H σ ρ) (P : Fr K g F H F1 H1 σ ρ ρ1) (S : Sta K g F1 H1 σ ρ1) (no : ¬ OwnAt σ ρ1 p) (nA : p ∉ g.A) (n0 : Nw g.H0 p) (nH : Nw H p) (bk : Back g.T K F1 H1 F' H' [p]) :
    Sta K g F' H' σ ρ1 ∧ Fr K g F H F' H' σ ρ ρ1 := by
  have kp : ∀ q o, NT o → H1 q = some o → F1 q = none → q ≠ p → H' q = some o ∧ F' q = none := fun q o m h n z => bk.keep q o m h n (by simpa using z)
  refine ⟨⟨S.ex0.trans bk.ex, bk.sub, S.len, fun i s h => ?_, S.sep, fun k q h => ?_, S.ion, S.ioe, fun q o m h n a => ?_, fun q h => S.dom q (bk.dom q h), bk.nt, bk.tb⟩, ⟨P.ex.trans bk.ex, fun q o m h n h1 h2 => ?_, P.own, fun q h => P.dom q (bk.dom q h), P.loc⟩⟩
  · obtain ⟨v, h1, h2⟩ := S.slot i s h
    refine ⟨v, h1, ?_⟩
    cases s with
    | val d => exact Rep.mono bk.ex h2
    | own d =>
      obtain ⟨q, rfl, c2, n⟩ := h2
      have ne : q ≠ p := fun z => no ⟨i, d, h, by rw [h1, z]⟩
      exact ⟨q, rfl, c2.mono bk.ex fun o no ho => kp q o no ho c2.1 ne, n⟩
    | io k => exact h2
    | raw v' => exact h2
  · obtain ⟨d', h1, c2⟩ := S.iok k q h
    exact ⟨d', h1, c2.mono bk.ex fun o no ho => kp q o no ho c2.1 fun z => nA (z ▸ List.mem_of_getElem? h)⟩
  · obtain ⟨x, y⟩ := S.keep q o m h n a
    exact kp q o m x y fun z => by subst z; exact n0 _ h m
  · obtain ⟨x, y⟩ := P.fr q o m h n h1 h2
    exact kp q o m x y fun z => by subst z; exact nH _ h m
end
section
variable {X : Cx} {g : G} {a b c e : Expr} {es : List Expr} {ma mb mc m : M EV} {ms : M (List EV)} {pos p : Pos} {x : Str} {k : Nat} {fa : Addr} {fd : FuncData} {ps : List Str} {f : FS}
theorem call_endT : ∀ σ H Q, tD X.K g (mCallT f m) σ H Q → tD X.K g m σ H fun v H1 => spf g.T X.K g.C g.fd f [v] H1 Q (WE g.W σ) := by
  rintro σ H Q ⟨F, ρ, S, h⟩
  refine ⟨F, ρ, S, EndE.seq0 h fun e ρ1 v F1 H1 P h => ?_⟩
  split at h
  case h_2 => exact False.elim h
  rename_i d hmd
  split at h
  case h_2 => exact False.elim h
  rename_i r out hr
  obtain ⟨p, rfl, c, no, nA, n0⟩ := P.inf
  refine ⟨F1, [p], [d], P.st.ex, P.st.nt, P.st.tabs, ?_, List.nodup_cons.mpr ⟨by simp, List.nodup_nil⟩, ?_⟩
  · rw [hmd]
    exact ⟨rfl, c, trivial⟩
  rw [hr]
  intro v F' H' bk oo rv
  obtain ⟨S3, f3⟩ := S.back0 P.fr P.st no nA n0 (P.new d p rfl rfl) bk
  refine h v F' H' ⟨S3, f3, ?_, fun d q z z2 => ?_⟩
  · cases r with
    | val d => exact rv
    | own d =>
      obtain ⟨q, rfl, c, n⟩ := rv
      exact ⟨q, rfl, c, fun z => OwnAt.there P.st z n, P.st.newA n, P.st.dom q n⟩
  · cases r with
    | val d => cases z
    | own d =>
      obtain ⟨q', e, c, n⟩ := rv
      rw [z2] at e
      cases e
      exact P.fr.dom q n
theorem re_callT (Fk : FnOk X.prog X.w X.K X.mg X.base (L2.CX X.prog X.w) k fa fd ps (spf g.T X.K g.C g.fd f)) (hr : Room k X.A) (tk : Takes X g.W) (hm : X.mg x = some (.ref fa)) (hk : PySem.W.keepIn X.K (.ref fa) = true) (hb : Binds X.K fd ps [])
    (ha : RE X g e m)
    (hg : Gl X x := by rfl) (hdb : (x == ("__debug__" : Str)) = false := by decide) (he : starEach [e] X.env = (false, eval e X.env) :: starEach [] X.env := by rfl) (hpl : (backTo pos (starEach [] X.env)).any (·.1) = false := by rfl) :
    RE X g (.Call (.Name x p) [e] [] pos) (mCallT f m) := by
  refine PE.to (pe_callS Fk hr hg hm hk hb (fun σ => passAt tk σ) (PA.to (t' := fun σ H Q => tD X.K g m σ H fun v H1 => Q [v] H1) (pa_cons ha pa_nil he) fun σ H Q h => h) hdb he hpl) call_endT
end
end LW
set_option Elab.async false
set_option linter.all false
set_option maxRecDepth 100000
set_option maxHeartbeats 2000000
/-! LWE: terms at a store. -/
namespace LW
open PySem PySem.Spec PyProof.Rows L2
/-- range(n) -/
def gRng : List D → Option (List D)
  | [.int j] => if -(2 ^ 62) ≤ j ∧ j < 2 ^ 62 then some (rangeD 0 j.toNat) else none
  | _ => none
theorem gRng_n {j : Int} {n : Nat} (h : j = n) (hn : n ≤ 1000000) : gRng [.int j] = some ((List.range n).map fun i => .int (i : Nat)) := by
  subst h
  unfold gRng
  dsimp only
  rw [if_pos ⟨by omega, by omega⟩, Int.toNat_natCast]
  unfold rangeD
  simp only [Int.zero_add]
section
variable {ρ : Env} {m ma mb mc : M EV} {ms mk : M (List EV)} {mt : MT} {a b : MS} {mi : M (List D)} {t t2 : M Bool} {i n : Nat} {d : D} {f : D → D → Option RV} {l : List (Option Slot)} {io : List D}
@[simp] theorem ev_var : mVar i ⟨l, io⟩ = match l[i]? with
  | some (some (.val d)) => .ok (.val d) ⟨l, io⟩
  | some (some (.own _)) => .ok (.loc i) ⟨l, io⟩
  | some (some (.io k)) => .ok (.io k) ⟨l, io⟩
  | some (some (.raw v)) => .ok (.raw v) ⟨l, io⟩
  | _ => .stk := rfl
@[simp] theorem ev_val : mVal d ρ = .ok (.val d) ρ := rfl
@[simp] theorem ev_bin : mBin f ma mb ρ = (ma ρ).bind fun a ρ1 => (mb ρ1).bind fun b ρ2 => match ρ2.cont a, ρ2.cont b with
  | some x, some y => opt ρ2 (f x y)
  | _, _ => .stk := rfl
@[simp] theorem ev_un {f : D → Option RV} : mUn f ma ρ = (ma ρ).bind fun a ρ1 => match ρ1.cont a with
  | some x => opt ρ1 (f x)
  | none => .stk := rfl
@[simp] theorem ev_bool : mBool m ρ = (m ρ).bind fun e ρ1 => match ρ1.bool e with
  | some b => .ok b ρ1
  | none => .stk := rfl
@[simp] theorem ev_andV : mAndV ma mb ρ = (mBool ma ρ).bind fun b ρ1 => if b = true then mb ρ1 else .ok (.val (.bool false)) ρ1 := rfl
@[simp] theorem ev_orV : mOrV ma mb ρ = (mBool ma ρ).bind fun b ρ1 => if b = true then .ok (.val (.bool true)) ρ1 else mb ρ1 := rfl
@[simp] theorem ev_notV : mNotV ma ρ = (mBool ma ρ).bind fun b ρ1 => .ok (.val (.bool (!b))) ρ1 := rfl
@[simp] theorem ev_and : mAnd t t2 ρ = (t ρ).bind fun b ρ1 => if b = true then t2 ρ1 else .ok false ρ1 := rfl
@[simp] theorem ev_or : mOr t t2 ρ = (t ρ).bind fun b ρ1 => if b = true then .ok true ρ1 else t2 ρ1 := rfl
@[simp] theorem ev_not : mNot t ρ = (t ρ).bind fun b ρ1 => .ok (!b) ρ1 := rfl
@[simp] theorem ev_if : mIf t ma mb ρ = (t ρ).bind fun b ρ1 => if b = true then ma ρ1 else mb ρ1 := rfl
@[simp] theorem ev_nil : mNil ρ = .ok [] ρ := rfl
@[simp] theorem ev_cons : mCons m ms ρ = (m ρ).bind fun e ρ1 => (ms ρ1).bind fun es ρ2 => .ok (e.arg :: es) ρ2 := rfl
@[simp] theorem ev_argV : (EV.val d).arg = .val d := rfl
@[simp] theorem ev_argO : (EV.own d).arg = .val d := rfl
@[simp] theorem ev_argL : (EV.loc i).arg = .loc i := rfl
@[simp] theorem ev_argI : (EV.io i).arg = .io i := rfl
@[simp] theorem ev_tup : mTup ms ρ = (ms ρ).bind fun es ρ1 => match ρ1.frzA es with
  | some (ds, ρ2) => if ds.length ≤ sizeLine then .ok (.val (.tuple ds)) ρ2 else .stk
  | none => .stk := rfl
@[simp] theorem ev_lst : mLst ms ρ = (ms ρ).bind fun es ρ1 => match ρ1.frzA es with
  | some (ds, ρ2) => if ds.length ≤ sizeLine then .ok (.own (.list ds)) ρ2 else .stk
  | none => .stk := rfl
@[simp] theorem ev_part0 : mPart none ρ = .ok none ρ := rfl
@[simp] theorem ev_part1 : mPart (some m) ρ = (m ρ).bind fun e ρ1 => match ρ1.cont e with
    | some (.int i) => .ok (some i) ρ1
    | _ => .stk := rfl
@[simp] theorem ev_cut {ml mh : M (Option Int)} : mCut ma ml mh ρ = (ma ρ).bind fun a ρ1 => (ml ρ1).bind fun lo ρ2 => (mh ρ2).bind fun hi ρ3 => match ρ3.cont a with
  | some x => opt ρ3 (gCut lo hi x)
  | none => .stk := rfl
@[simp] theorem ev_callB {f : List D → Option RV} : mCallB f ms ρ = (ms ρ).bind fun es ρ1 => match ρ1.contA es with
  | some ds => opt ρ1 (f ds)
  | none => .stk := rfl
@[simp] theorem ev_isi {T : String} : mIsi T m ρ = (m ρ).bind fun e ρ1 => match ρ1.cont e.arg with
  | some d => opt ρ1 ((isiD T d).map fun b => .val (.bool b))
  | none => .stk := by
  unfold mIsi mCons mRaw mNil
  cases m ρ <;> rfl
@[simp] theorem ev_meth {f : D → List D → Option RV} : mMeth f m ms ρ = (m ρ).bind fun o ρ1 => (ms ρ1).bind fun es ρ2 => match ρ2.cont o, ρ2.contA es with
  | some d, some ds => opt ρ2 (f d ds)
  | _, _ => .stk := rfl
@[simp] theorem ev_on {T : String} : mOn T m ρ = (m ρ).bind fun o ρ1 => match ρ1.cont o with
  | some d => if tyD T d = true then .ok o ρ1 else .stk
  | none => .stk := rfl
@[simp] theorem ev_revS : mRevS m ρ = (m ρ).bind fun e ρ1 => match ρ1.cont e with
  | some (.str z) => if z.length ≤ sizeLine then .ok (.val (.str (revS z))) ρ1 else .stk
  | _ => .stk := rfl
@[simp] theorem ev_kw {pm : List Nat} : mKw pm ms mk ρ = (ms ρ).bind fun es ρ1 => (mk ρ1).bind fun fs ρ2 => .ok (pickL pm (es ++ fs)) ρ2 := rfl
@[simp] theorem ev_callP {f : FS} : mCallP f ms ρ = (ms ρ).bind fun es ρ1 => match ρ1.contA es with
  | some ds => (match f.run ds with
    | .ok r [] => if scalD r.dat = true then .ok (.val r.dat) ρ1 else (match ρ1.frzA es with
      | some y => .ok r.ev y.2
      | none => .stk)
    | .exc x p => (match ρ1.frzA es with
      | some y => .exc x p y.2
      | none => .stk)
    | _ => .stk)
  | none => .stk := rfl
@[simp] theorem ev_callIO {f : FS} : mCallIO f ms ρ = (ms ρ).bind fun es ρ1 => match ρ1.frzM f.md es with
  | some ρ2 => (match ρ2.readM f.md es with
    | some (ds, [t]) => (match f.run ds with
      | .ok r [out] => .ok r.ev (ρ2.setT out t)
      | _ => .stk)
    | _ => .stk)
  | none => .stk := rfl
@[simp] theorem ev_callT {f : FS} : mCallT f m ρ = (m ρ).bind fun e ρ1 => match e, f.md with
  | .own d, [true] => (match f.run [d] with
    | .ok r [_] => .ok r.ev ρ1
    | _ => .stk)
  | _, _ => .stk := rfl
@[simp] theorem ev_mut {f : D → List D → Option (D × D)} : mMut f m ms ρ = (m ρ).bind fun o ρ1 => (ms ρ1).bind fun es ρ2 => match ρ2.frzA es with
  | some y => (match y.2.readT o with
    | some c => (match f c.1 y.1 with
      | some z => .ok (.val z.2) (y.2.setT z.1 c.2)
      | none => .stk)
    | none => .stk)
  | none => .stk := rfl
@[simp] theorem ev_ref {cn : Str} : mRef cn m ρ = match m ρ with
  | .ok _ ρ1 => .ok (.val .none) ρ1
  | .exc x p ρ1 => if x = cn then .ok (.own (.list [p])) ρ1 else .stk
  | .stk => .stk := rfl
@[simp] theorem ev_consL : mConsL m ms ρ = (m ρ).bind fun e ρ1 => match ρ1.still e with
  | some x => (ms x.2).bind fun es ρ2 => .ok (x.1 :: es) ρ2
  | none => .stk := rfl
@[simp] theorem ev_itr : mItr m ρ = (m ρ).bind fun e ρ1 => match ρ1.frz e with
  | some (.list ds, ρ2) => .ok ds ρ2
  | some (.tuple ds, ρ2) => .ok ds ρ2
  | some (.str x, ρ2) => .ok (charsD x) ρ2
  | _ => .stk := rfl
@[simp] theorem ev_rng1 : mRng1 ms ρ = (ms ρ).bind fun es ρ1 => match ρ1.contA es with
  | some ds => (match gRng ds with
    | some l => .ok l ρ1
    | none => .stk)
  | none => .stk := by
  unfold mRng1 gRng
  congr 1
  funext es ρ1
  cases ρ1.contA es with
  | none => rfl
  | some ds =>
    cases ds with
    | nil => rfl
    | cons d l =>
      cases l with
      | cons e l => cases d <;> rfl
      | nil =>
        cases d with
        | int j =>
          have q : ∀ (c : Prop) [Decidable c] (l : List D), (if c then Out.ok l ρ1 else Out.stk) = match (if c then some l else none) with
              | some l => Out.ok l ρ1
              | none => Out.stk := by
            intro c _ l
            by_cases h : c <;> simp [h]
          exact q _ _
        | _ => rfl
@[simp] theorem ev_en1 : mEn1 ms ρ = (ms ρ).bind fun es ρ1 => match ρ1.frzA es with
  | some ([d], ρ2) => (match itemsD d with
    | some ds => .ok (enumD 0 ds) ρ2
    | none => .stk)
  | _ => .stk := rfl
@[simp] theorem ev_en2 : mEn2 ms ρ = (ms ρ).bind fun es ρ1 => match ρ1.frzA es with
  | some ([d, .int k], ρ2) => if -(2 ^ 63) ≤ k ∧ k < 2 ^ 63 then (match itemsD d with
    | some ds => .ok (enumD k ds) ρ2
    | none => .stk) else .stk
  | _ => .stk := rfl
@[simp] theorem ev_yes : mYes ρ = .ok true ρ := rfl
@[simp] theorem ev_chain {f' : D → D → Option RV} : mChain f f' ma mb mc ρ = (ma ρ).bind fun x ρ1 => (mb ρ1).bind fun y ρ2 => match ρ2.cont x, ρ2.cont y with
  | some dx, some dy => (match f dx dy with
    | some (.val (.bool true)) => mBin f' (fun ρ => .ok y ρ) mc ρ2
    | some (.val (.bool false)) => .ok (.val (.bool false)) ρ2
    | _ => .stk)
  | _, _ => .stk := rfl
/-! statements -/
@[simp] theorem ev_skip : mSkip ρ = .nx ρ := rfl
@[simp] theorem ev_seq : mSeq a b ρ = (a ρ).then b := rfl
@[simp] theorem ev_set : mSet i m ρ = (m ρ).toS fun e ρ1 => match ρ1.still e with
  | some x => .nx (x.2.put i x.1)
  | none => .stk := rfl
@[simp] theorem ev_drop : mDrop m ρ = (m ρ).toS fun _ ρ1 => .nx ρ1 := rfl
@[simp] theorem ev_ite : mIte t a b ρ = (t ρ).toS fun t ρ1 => if t = true then a ρ1 else b ρ1 := rfl
@[simp] theorem ev_raise {cn : Str} : mRaise cn ms ρ = (ms ρ).toS fun es ρ1 => match ρ1.frzA es with
  | some ([d], ρ2) => .exc cn d ρ2
  | _ => .stk := rfl
@[simp] theorem ev_par {is : List Nat} : mPar is ms ρ = (ms ρ).toS fun es ρ1 => if is.length = es.length then .nx (ρ1.putL is es) else .stk := rfl
@[simp] theorem ev_asg : mAsg m mt ρ = (m ρ).toS fun e ρ1 => match ρ1.frz e with
  | some x => (match mt x.1 x.2 with
    | some ρ2 => .nx ρ2
    | none => .stk)
  | none => .stk := rfl
@[simp] theorem ev_for : mFor mi mt a ρ = (mi ρ).toS fun ds ρ1 => forL mt a ds ρ1 := rfl
@[simp] theorem ev_tname : tgName i d ρ = some (ρ.put i (.val d)) := rfl
@[simp] theorem ev_tnil : tgNil [] ρ = some ρ := rfl
@[simp] theorem ev_tcons {mts : List D → Env → Option Env} {ds : List D} : tgCons mt mts (d :: ds) ρ = (mt d ρ).bind fun ρ' => mts ds ρ' := rfl
@[simp] theorem ev_ttup {mts : List D → Env → Option Env} {ds : List D} : tgTup n mts (.tuple ds) ρ = if ds.length = n then mts ds ρ else none := rfl
@[simp] theorem ev_ttupL {mts : List D → Env → Option Env} {ds : List D} : tgTup n mts (.list ds) ρ = if ds.length = n then mts ds ρ else none := rfl
@[simp] theorem ev_tsub {mo mi : M EV} : tgSub mo mi d ρ = match mo ρ with
  | .ok o ρ1 => (match mi ρ1 with
    | .ok i ρ2 => (match ρ2.cont i with
      | some (.int k) => ρ2.wr o k d
      | _ => none)
    | _ => none)
  | _ => none := rfl
/-! the store -/
@[simp] theorem st_contV : ρ.cont (.val d) = some d := rfl
@[simp] theorem st_contO : ρ.cont (.own d) = some d := rfl
@[simp] theorem st_contL : Env.cont ⟨l, io⟩ (.loc i) = match l[i]? with
  | some (some s) => s.dat
  | _ => none := rfl
@[simp] theorem st_contI : Env.cont ⟨l, io⟩ (.io i) = io[i]? := rfl
@[simp] theorem st_datV : (Slot.val d).dat = some d := rfl
@[simp] theorem st_datO : (Slot.own d).dat = some d := rfl
@[simp] theorem st_contA0 : ρ.contA [] = some [] := rfl
@[simp] theorem st_contA {e : EV} {es : List EV} : ρ.contA (e :: es) = (ρ.cont e).bind fun d => (ρ.contA es).map fun ds => d :: ds := rfl
@[simp] theorem st_frzV : ρ.frz (.val d) = some (d, ρ) := rfl
@[simp] theorem st_frzO : ρ.frz (.own d) = some (d, ρ) := rfl
@[simp] theorem st_frzL : Env.frz ⟨l, io⟩ (.loc i) = match l[i]? with
  | some (some (.val d)) => some (d, ⟨l, io⟩)
  | some (some (.own d)) => some (d, ⟨l.set i (some (.val d)), io⟩)
  | _ => none := rfl
@[simp] theorem st_frzA0 : ρ.frzA [] = some ([], ρ) := rfl
@[simp] theorem st_frzA {e : EV} {es : List EV} : ρ.frzA (e :: es) = (ρ.frz e).bind fun x => (Env.frzA x.2 es).map fun y => (x.1 :: y.1, y.2) := rfl
@[simp] theorem st_frzM0 : ρ.frzM [] [] = some ρ := rfl
@[simp] theorem st_frzMf {e : EV} {es : List EV} {m : List Bool} : ρ.frzM (false :: m) (e :: es) = (ρ.frz e).bind fun x => Env.frzM m es x.2 := rfl
@[simp] theorem st_frzMt {e : EV} {es : List EV} {m : List Bool} : ρ.frzM (true :: m) (e :: es) = ρ.frzM m es := rfl
@[simp] theorem st_readM0 : ρ.readM [] [] = some ([], []) := rfl
@[simp] theorem st_readMf {e : EV} {es : List EV} {m : List Bool} : ρ.readM (false :: m) (e :: es) = (ρ.readV e).bind fun d => (Env.readM ρ m es).map fun y => (d :: y.1, y.2) := rfl
@[simp] theorem st_readMt {e : EV} {es : List EV} {m : List Bool} : ρ.readM (true :: m) (e :: es) = (ρ.readT e).bind fun d => (Env.readM ρ m es).map fun y => (d.1 :: y.1, d.2 :: y.2) := rfl
@[simp] theorem st_readVv : ρ.readV (.val d) = some d := rfl
@[simp] theorem st_readVl : Env.readV ⟨l, io⟩ (.loc i) = match l[i]? with
    | some (some (.val d)) => some d
    | _ => none := rfl
@[simp] theorem st_readTi : Env.readT ⟨l, io⟩ (.io i) = (io[i]?).map fun d => (d, .io i) := rfl
@[simp] theorem st_readTl : Env.readT ⟨l, io⟩ (.loc i) = match l[i]? with
    | some (some (.own d)) => some (d, .loc i)
    | _ => none := rfl
@[simp] theorem st_setTl : Env.setT ⟨l, io⟩ d (.loc i) = ⟨l.set i (some (.own d)), io⟩ := rfl
@[simp] theorem st_setTi : Env.setT ⟨l, io⟩ d (.io i) = ⟨l, io.set i d⟩ := rfl
@[simp] theorem st_stillV : ρ.still (.val d) = some (.val d, ρ) := rfl
@[simp] theorem st_stillO : ρ.still (.own d) = some (.own d, ρ) := rfl
@[simp] theorem st_stillI : ρ.still (.io i) = some (.io i, ρ) := rfl
@[simp] theorem st_stillL : ρ.still (.loc i) = (ρ.frz (.loc i)).map fun x => (.val x.1, x.2) := rfl
@[simp] theorem st_putV {j : Nat} : Env.put ⟨l, io⟩ j (.val d) = ⟨l.set j (some (.val d)), io⟩ := rfl
@[simp] theorem st_putO {j : Nat} : Env.put ⟨l, io⟩ j (.own d) = ⟨l.set j (some (.own d)), io⟩ := rfl
@[simp] theorem st_putL0 : ρ.putL [] [] = ρ := rfl
@[simp] theorem st_putL {e : EV} {es : List EV} {is : List Nat} : ρ.putL (i :: is) (e :: es) = Env.putL (ρ.put i e) is es := rfl
@[simp] theorem st_leaveV : ρ.leave (.val d) = some (.val d) := rfl
@[simp] theorem st_leaveO : ρ.leave (.own d) = some (.own d) := rfl
@[simp] theorem st_leaveL : Env.leave ⟨l, io⟩ (.loc i) = match l[i]? with
    | some (some (.val d)) => some (.val d)
    | some (some (.own d)) => some (.own d)
    | _ => none := rfl
@[simp] theorem st_bool {e : EV} : ρ.bool e = match ρ.cont e with
  | some (.bool b) => some b
  | _ => none := rfl
@[simp] theorem st_evV : (RV.val d).ev = .val d := rfl
@[simp] theorem st_evO : (RV.own d).ev = .own d := rfl
@[simp] theorem st_dV : (RV.val d).dat = d := rfl
@[simp] theorem st_dO : (RV.own d).dat = d := rfl
@[simp] theorem sc_int {k : Int} : scalD (.int k) = true := rfl
@[simp] theorem sc_str {k : Str} : scalD (.str k) = true := rfl
@[simp] theorem sc_bool {k : Bool} : scalD (.bool k) = true := rfl
@[simp] theorem sc_none : scalD .none = true := rfl
@[simp] theorem sc_lst {k : List D} : scalD (.list k) = false := rfl
@[simp] theorem sc_tup {k : List D} : scalD (.tuple k) = false := rfl
@[simp] theorem fin_nx : (SO.nx ρ).fin n = .ok (.val .none) (ρ.io.take n) := rfl
@[simp] theorem fin_rt {r : RV} : (SO.rt r ρ).fin n = .ok r (ρ.io.take n) := rfl
@[simp] theorem fin_exc {x : Str} {p : D} : (SO.exc x p ρ).fin n = .exc x p := rfl
@[simp] theorem st_wr {e : EV} {k : Int} : ρ.wr e k d = match ρ.readT e with
  | some (.list ds, t) => (ixN ds.length k).map fun j => ρ.setT (.list (ds.set j d)) t
  | _ => none := rfl
end
@[simp] theorem ev_ret {ρ : Env} {m : M EV} : mRet m ρ = (m ρ).toS fun e ρ1 => match ρ1.leave e with
  | some r => .rt r ρ1
  | none => .stk := rfl
theorem run_of {N : Nat} {md : List Bool} {m : MS} {ds : List D} : (bodyFS N md m).run ds = (m (env0 N md ds)).fin (cells md) := rfl
@[simp] theorem env_f1 {N : Nat} {d : D} : env0 N [false] [d] = ⟨some (.val d) :: List.replicate (N - 1) none, []⟩ := rfl
@[simp] theorem env_f2 {N : Nat} {d e : D} : env0 N [false, false] [d, e] = ⟨some (.val d) :: some (.val e) :: List.replicate (N - 2) none, []⟩ := rfl
@[simp] theorem env_f3 {N : Nat} {d e f : D} : env0 N [false, false, false] [d, e, f] = ⟨some (.val d) :: some (.val e) :: some (.val f) :: List.replicate (N - 3) none, []⟩ := rfl
@[simp] theorem env_t1 {N : Nat} {d : D} : env0 N [true] [d] = ⟨some (.io 0) :: List.replicate (N - 1) none, [d]⟩ := rfl
@[simp] theorem env_t2 {N : Nat} {d e : D} : env0 N [true, false] [d, e] = ⟨some (.io 0) :: some (.val e) :: List.replicate (N - 2) none, [d]⟩ := rfl
@[simp] theorem env_t3 {N : Nat} {d e f : D} : env0 N [true, false, false] [d, e, f] = ⟨some (.io 0) :: some (.val e) :: some (.val f) :: List.replicate (N - 3) none, [d]⟩ := rfl
@[simp] theorem cells_0 : cells [] = 0 := rfl
@[simp] theorem cells_t {m : List Bool} : cells (true :: m) = cells m + 1 := rfl
@[simp] theorem cells_f {m : List Bool} : cells (false :: m) = cells m := rfl
/-! ### comprehensions -/
/-- one turn -/
def lcT (mt : MT) (mc : M Bool) (me : M EV) (vs : List Nat) (d : D) (ρ : Env) : Option (Option D × Env) := match mt d ρ with
  | none => none
  | some ρ1 => match mc ρ1 with
    | .ok true ρ2 => (match me ρ2 with
      | .ok e ρ3 => (match ρ3.frz e with
        | some y => some (some y.1, y.2.wipe vs)
        | none => none)
      | _ => none)
    | .ok false ρ2 => some (none, ρ2.wipe vs)
    | _ => none
theorem lcL_cons {mt : MT} {mc : M Bool} {me : M EV} {vs : List Nat} {d : D} {ds : List D} {ρ : Env} {acc : List D} : lcL mt mc me vs (d :: ds) ρ acc = match lcT mt mc me vs d ρ with
  | some (some y, ρ') => lcL mt mc me vs ds ρ' (acc ++ [y])
  | some (none, ρ') => lcL mt mc me vs ds ρ' acc
  | none => none := by
  show (match mt d ρ with
    | none => none
    | some ρ1 => match mc ρ1 with
      | .ok true ρ2 => (match me ρ2 with
        | .ok e ρ3 => (match ρ3.frz e with
          | some y => lcL mt mc me vs ds (y.2.wipe vs) (acc ++ [y.1])
          | none => none)
        | _ => none)
      | .ok false ρ2 => lcL mt mc me vs ds (ρ2.wipe vs) acc
      | _ => none) = _
  unfold lcT
  cases mt d ρ with
  | none => rfl
  | some ρ1 =>
    dsimp only
    cases mc ρ1 with
    | exc _ _ _ => rfl
    | stk => rfl
    | ok b ρ2 =>
      cases b with
      | false => rfl
      | true =>
        dsimp only
        cases me ρ2 with
        | exc _ _ _ => rfl
        | stk => rfl
        | ok e ρ3 =>
          dsimp only
          cases ρ3.frz e <;> rfl
/-- each turn by itself -/
theorem lcL_map {mt : MT} {mc : M Bool} {me : M EV} {vs : List Nat} {ρ : Env} {α : Type} (h : α → D) (f : α → D) : ∀ {xs : List α} {acc : List D}, (∀ x ∈ xs, lcT mt mc me vs (h x) ρ = some (some (f x), ρ)) → lcL mt mc me vs (xs.map h) ρ acc = some (acc ++ xs.map f, ρ)
  | [], acc, _ => by simp [lcL]
  | x :: xs, acc, hx => by
    rw [List.map_cons, lcL_cons, hx x (by simp)]
    show lcL mt mc me vs (xs.map h) ρ (acc ++ [f x]) = _
    rw [lcL_map h f fun y hy => hx y (by simp [hy])]
    simp
theorem ev_lc {mi : M (List D)} {mt : MT} {mc : M Bool} {me : M EV} {vs : List Nat} {ρ : Env} : mLc mi mt mc me vs ρ = (mi ρ).bind fun ds ρ1 =>
  if ρ1.calm vs = true ∧ ds.length ≤ sizeLine then (match lcL mt mc me vs ds (ρ1.wipe vs) [] with
    | some y => .ok (.own (.list y.1)) (y.2.unwipe ρ1 vs)
    | none => .stk) else .stk := rfl
end LW
set_option Elab.async false
set_option linter.all false
set_option maxRecDepth 100000
set_option maxHeartbeats 2000000
/-! LWS: texts by their signs. -/
namespace LW
open PySem PySem.Spec PyProof.Rows L2
/-- the text of these code points -/
def tS (l : List Nat) : Str := ⟨l.toArray⟩
theorem tS_inj {a b : List Nat} (h : tS a = tS b) : a = b := congrArg (fun x : Str => x.cps.toList) h
theorem tS_of (x : Str) : ∃ l, x = tS l := ⟨x.cps.toList, by cases x; rfl⟩
@[simp] theorem tS_len (a : List Nat) : (tS a).length = a.length := SX.S_len a
@[simp] theorem tS_cat (a b : List Nat) : tS a ++ tS b = tS (a ++ b) := SX.S_cat a b
@[simp] theorem tS_beq (a b : List Nat) : (tS a == tS b) = decide (a = b) := SX.S_beq_eq
@[simp] theorem tS_cps (a : List Nat) : (tS a).cps.toList = a := rfl
@[simp] theorem tS_chars (a : List Nat) : charsD (tS a) = a.map fun c => .str (tS [c]) := rfl
theorem tS_num (n : Nat) : Str.ofString (toString ((n : Nat) : Int)) = tS (TL.numL n) := SX.num_S n
theorem tS_int {a : List Nat} (h : a.all (fun c => decide (48 ≤ c) && decide (c ≤ 57)) = true) (hne : a ≠ []) (hl : a.length ≤ 4300) : intText? (tS a) = some ((NumText.digitsVal a : Nat) : Int) := SX.int_S h hne hl
@[simp] theorem tS_rev (a : List Nat) : revS (tS a) = tS a.reverse := by
  show (⟨a.toArray.reverse⟩ : Str) = ⟨a.reverse.toArray⟩
  rw [List.reverse_toArray]
theorem sxn (n d k : Nat) : HT.sIx n d (some (k : Int)) = min k n := HT.sIx_nat n d k
theorem tS_cut (a : List Nat) (lo hi : Option Int) : cutS (tS a) lo hi = tS ((a.drop (HT.sIx a.length 0 lo)).take (HT.sIx a.length a.length hi - HT.sIx a.length 0 lo)) := by
  unfold cutS
  rw [tS_len, tS_cps]
  rfl
theorem tS_from {a : List Nat} {i : Int} {k : Nat} (h : i = k) : cutS (tS a) (some i) none = tS (a.drop k) := by
  subst h
  rw [tS_cut, sxn, HT.sIx_none]
  congr 1
  by_cases hk : k ≤ a.length
  · rw [Nat.min_eq_left hk, List.take_of_length_le (by rw [List.length_drop]; omega)]
  · rw [Nat.min_eq_right (by omega), List.drop_eq_nil_of_le (Nat.le_refl _), List.drop_eq_nil_of_le (by omega)]
    simp
theorem tS_to {a : List Nat} {i : Int} {k : Nat} (h : i = k) : cutS (tS a) none (some i) = tS (a.take k) := by
  subst h
  rw [tS_cut, sxn, HT.sIx_none, List.drop_zero, Nat.sub_zero]
  congr 1
  by_cases hk : k ≤ a.length
  · rw [Nat.min_eq_left hk]
  · rw [Nat.min_eq_right (by omega), List.take_of_length_le (Nat.le_refl _), List.take_of_length_le (by omega)]
theorem tS_mid {a : List Nat} {i j : Int} {k n : Nat} (h : i = k) (h2 : j = n) : cutS (tS a) (some i) (some j) = tS ((a.drop k).take (n - k)) := by
  subst h h2
  rw [tS_cut, sxn, sxn]
  congr 1
  by_cases hk : k ≤ a.length
  · rw [Nat.min_eq_left hk]
    by_cases hn : n ≤ a.length
    · rw [Nat.min_eq_left hn]
    · rw [Nat.min_eq_right (by omega), List.take_of_length_le (by rw [List.length_drop]; omega), List.take_of_length_le (by rw [List.length_drop]; omega)]
  · rw [Nat.min_eq_right (by omega : a.length ≤ k), List.drop_eq_nil_of_le (Nat.le_refl _), List.drop_eq_nil_of_le (by omega)]
    simp
theorem cutD_to {a : List D} {i : Int} {k : Nat} (h : i = k) : cutD a none (some i) = a.take k := by
  subst h
  unfold cutD
  rw [sxn, HT.sIx_none, List.drop_zero, Nat.sub_zero]
  by_cases hk : k ≤ a.length
  · rw [Nat.min_eq_left hk]
  · rw [Nat.min_eq_right (by omega), List.take_of_length_le (Nat.le_refl _), List.take_of_length_le (by omega)]
theorem cutD_from {a : List D} {i : Int} {k : Nat} (h : i = k) : cutD a (some i) none = a.drop k := by
  subst h
  unfold cutD
  rw [sxn, HT.sIx_none]
  by_cases hk : k ≤ a.length
  · rw [Nat.min_eq_left hk, List.take_of_length_le (by rw [List.length_drop]; omega)]
  · rw [Nat.min_eq_right (by omega), List.drop_eq_nil_of_le (Nat.le_refl _), List.drop_eq_nil_of_le (by omega)]
    simp
/-! ### whole numbers in writing -/
theorem num1 {n : Nat} (h : n < 10) : TL.numL n = [48 + n] := by
  match n, h with
  | 0, _ => rfl
  | 1, _ => rfl
  | 2, _ => rfl
  | 3, _ => rfl
  | 4, _ => rfl
  | 5, _ => rfl
  | 6, _ => rfl
  | 7, _ => rfl
  | 8, _ => rfl
  | 9, _ => rfl
theorem num2 {n : Nat} (h : 10 ≤ n) (h2 : n < 100) : TL.numL n = [48 + n / 10, 48 + n % 10] := by
  rw [TL.numL_step h, num1 (by omega)]; rfl
theorem num3 {n : Nat} (h : 100 ≤ n) (h2 : n < 1000) : TL.numL n = [48 + n / 100, 48 + n / 10 % 10, 48 + n % 10] := by
  rw [TL.numL_step (by omega), num2 (by omega) (by omega), show n / 10 / 10 = n / 100 by omega]; rfl
theorem num4 {n : Nat} (h : 1000 ≤ n) (h2 : n < 10000) : TL.numL n = [48 + n / 1000, 48 + n / 100 % 10, 48 + n / 10 % 10, 48 + n % 10] := by
  rw [TL.numL_step (by omega), num3 (by omega) (by omega), show n / 10 / 100 = n / 1000 by omega, show n / 10 / 10 = n / 100 by omega]; rfl
theorem num5 {n : Nat} (h : 10000 ≤ n) (h2 : n < 100000) : TL.numL n = [48 + n / 10000, 48 + n / 1000 % 10, 48 + n / 100 % 10, 48 + n / 10 % 10, 48 + n % 10] := by
  rw [TL.numL_step (by omega), num4 (by omega) (by omega), show n / 10 / 1000 = n / 10000 by omega, show n / 10 / 100 = n / 1000 by omega, show n / 10 / 10 = n / 100 by omega]; rfl
def dig4 (n : Nat) : List Nat := [48 + n / 1000 % 10, 48 + n / 100 % 10, 48 + n / 10 % 10, 48 + n % 10]
def dig3 (n : Nat) : List Nat := [48 + n / 100 % 10, 48 + n / 10 % 10, 48 + n % 10]
theorem zf_of {c : Nat} {l : List Nat} {k : Nat} (hc : 48 ≤ c) (hk : (c :: l).length ≤ k) : Txt.zfill (tS (c :: l)) (k : Int) = tS (List.replicate (k - (c :: l).length) 48 ++ c :: l) := by
  unfold Txt.zfill
  rw [tS_len, Int.toNat_natCast]
  by_cases h : (k : Int) ≤ ((c :: l).length : Nat)
  · have e : k = (c :: l).length := by omega
    rw [if_pos h, e, Nat.sub_self]
    rfl
  · rw [if_neg h]
    unfold zfilled
    have e : (tS (c :: l)).cps[0]? = some c := rfl
    rw [e]
    split
    · rename_i z
      cases z
      omega
    · rename_i z
      cases z
      omega
    · show (⟨Array.replicate (k - (c :: l).length) 48 ++ (c :: l).toArray ++ Array.replicate 0 48⟩ : Str) = ⟨(List.replicate (k - (c :: l).length) 48 ++ c :: l).toArray⟩
      congr 1
      apply Array.ext'
      simp
theorem zf4 {n : Nat} (h : n < 10000) : Txt.zfill (tS (TL.numL n)) 4 = tS (dig4 n) := by
  by_cases h1 : n < 10
  · rw [num1 h1, show (4 : Int) = ((4 : Nat) : Int) from rfl, zf_of (by omega) (by simp)]
    congr 1
    unfold dig4
    simp [List.replicate]
    omega
  by_cases h2 : n < 100
  · rw [num2 (by omega) h2, show (4 : Int) = ((4 : Nat) : Int) from rfl, zf_of (by omega) (by simp)]
    congr 1
    unfold dig4
    simp [List.replicate]
    omega
  by_cases h3 : n < 1000
  · rw [num3 (by omega) h3, show (4 : Int) = ((4 : Nat) : Int) from rfl, zf_of (by omega) (by simp)]
    congr 1
    unfold dig4
    simp [List.replicate]
    omega
  · rw [num4 (by omega) h, show (4 : Int) = ((4 : Nat) : Int) from rfl, zf_of (by omega) (by simp)]
    congr 1
    unfold dig4
    simp [List.replicate]
    omega
theorem zf3 {n : Nat} (h : n < 1000) : Txt.zfill (tS (TL.numL n)) 3 = tS (dig3 n) := by
  by_cases h1 : n < 10
  · rw [num1 h1, show (3 : Int) = ((3 : Nat) : Int) from rfl, zf_of (by omega) (by simp)]
    congr 1
    unfold dig3
    simp [List.replicate]
    omega
  by_cases h2 : n < 100
  · rw [num2 (by omega) h2, show (3 : Int) = ((3 : Nat) : Int) from rfl, zf_of (by omega) (by simp)]
    congr 1
    unfold dig3
    simp [List.replicate]
    omega
  · rw [num3 (by omega) h, show (3 : Int) = ((3 : Nat) : Int) from rfl, zf_of (by omega) (by simp)]
    congr 1
    unfold dig3
    simp [List.replicate]
    omega
/-- str(10000 + n)[1:] -/
theorem num_1e4 {n : Nat} (h : n < 10000) : (TL.numL (10000 + n)).drop 1 = dig4 n := by
  rw [num5 (by omega) (by omega)]
  unfold dig4
  simp
  omega
theorem num_1e3 {n : Nat} (h : n < 1000) : (TL.numL (1000 + n)).drop 1 = dig3 n := by
  rw [num4 (by omega) (by omega)]
  unfold dig3
  simp
  omega
theorem val4 {n : Nat} (h : n < 10000) : NumText.digitsVal (dig4 n) = n := by
  show ((((0 * 10 + (48 + n / 1000 % 10 - 48)) * 10 + (48 + n / 100 % 10 - 48)) * 10 + (48 + n / 10 % 10 - 48)) * 10 + (48 + n % 10 - 48)) = n
  omega
theorem val3 {n : Nat} (h : n < 1000) : NumText.digitsVal (dig3 n) = n := by
  show (((0 * 10 + (48 + n / 100 % 10 - 48)) * 10 + (48 + n / 10 % 10 - 48)) * 10 + (48 + n % 10 - 48)) = n
  omega
theorem all4 (n : Nat) : (dig4 n).all (fun c => decide (48 ≤ c) && decide (c ≤ 57)) = true := by
  unfold dig4
  simp
  omega
theorem all3 (n : Nat) : (dig3 n).all (fun c => decide (48 ≤ c) && decide (c ≤ 57)) = true := by
  unfold dig3
  simp
  omega
@[simp] theorem tS_mem (c : Nat) (s : List Nat) : c ∈ (tS s).cps ↔ c ∈ s := by rw [← Array.mem_toList_iff, tS_cps]
theorem blsD_fn {α : Type} (l : List α) (f : α → Bool) : blsD (l.map fun x => PyData.bool (f x)) = some (l.map f) := by
  have := blsD_map (l.map f)
  rwa [List.map_map] at this
theorem intsD_fn {α : Type} (l : List α) (f : α → Int) : intsD (l.map fun x => PyData.int (f x)) = some (l.map f) := by
  have := intsD_map (l.map f)
  rwa [List.map_map] at this
theorem strsD_fn {α : Type} (l : List α) (f : α → Str) : strsD (l.map fun x => PyData.str (f x)) = some (l.map f) := by
  induction l with
  | nil => rfl
  | cons b l ih => show (strsD (l.map fun x => PyData.str (f x))).map (f b :: ·) = _; rw [ih]; rfl
theorem enum_zip (k : Int) (ds : List D) : enumD k ds = ds.zipIdx.map fun p => .tuple [.int (k + (p.2 : Nat)), p.1] := by
  unfold enumD
  rw [List.mapIdx_eq_zipIdx_map]
theorem enum_chars (k : Int) (a : List Nat) : enumD k (a.map fun c => .str (tS [c])) = a.zipIdx.map fun p => .tuple [.int (k + (p.2 : Nat)), .str (tS [p.1])] := by
  rw [enum_zip, List.zipIdx_map, List.map_map]
  rfl
/-! ### operations -/
theorem fit {n : Nat} (h : n ≤ 1000000) : n ≤ sizeLine := by rw [sizeLine_eq]; omega
@[simp] theorem gAdd_i (i j : Int) : gAdd (.int i) (.int j) = some (.val (.int (i + j))) := rfl
theorem gAdd_s {a b : List Nat} (h : a.length + b.length ≤ 1000000) : gAdd (.str (tS a)) (.str (tS b)) = some (.val (.str (tS (a ++ b)))) := by
  show (if (tS a).length + (tS b).length ≤ sizeLine then _ else _) = _
  rw [tS_len, tS_len, if_pos (fit h), tS_cat]
theorem gAdd_l {a b : List D} (h : a.length + b.length ≤ 1000000) : gAdd (.list a) (.list b) = some (.own (.list (a ++ b))) := if_pos (fit h)
theorem gAdd_t {a b : List D} (h : a.length + b.length ≤ 1000000) : gAdd (.tuple a) (.tuple b) = some (.val (.tuple (a ++ b))) := if_pos (fit h)
@[simp] theorem gSub_i (i j : Int) : gSub (.int i) (.int j) = some (.val (.int (i - j))) := rfl
theorem gMul_i {i j : Int} (h : (-(2 ^ 64) < i ∧ i < 2 ^ 64) ∨ (-(2 ^ 64) < j ∧ j < 2 ^ 64)) : gMul (.int i) (.int j) = some (.val (.int (i * j))) := if_pos h
theorem gMod_i {i j : Int} (h : 0 < j) : gMod (.int i) (.int j) = some (.val (.int (i % j))) := if_pos h
theorem gDiv_i {i j : Int} (h : 0 < j ∧ j < 1073741824) : gDiv (.int i) (.int j) = some (.val (.int (i / j))) := if_pos h
@[simp] theorem gNeg_i (i : Int) : gNeg (.int i) = some (.val (.int (-i))) := rfl
@[simp] theorem gLt_i (i j : Int) : gLt (.int i) (.int j) = some (.val (.bool (decide (i < j)))) := rfl
@[simp] theorem gLe_i (i j : Int) : gLe (.int i) (.int j) = some (.val (.bool (decide (i ≤ j)))) := rfl
@[simp] theorem gGt_i (i j : Int) : gGt (.int i) (.int j) = some (.val (.bool (decide (j < i)))) := rfl
@[simp] theorem gGe_i (i j : Int) : gGe (.int i) (.int j) = some (.val (.bool (decide (j ≤ i)))) := rfl
@[simp] theorem gEq_i (i j : Int) : gEq (.int i) (.int j) = some (.val (.bool (i == j))) := rfl
@[simp] theorem gEq_s (a b : List Nat) : gEq (.str (tS a)) (.str (tS b)) = some (.val (.bool (decide (a = b)))) := by
  show some (RV.val (.bool (tS a == tS b))) = _
  rw [tS_beq]
@[simp] theorem gEq_b (a b : Bool) : gEq (.bool a) (.bool b) = some (.val (.bool (a == b))) := rfl
@[simp] theorem gNe_i (i j : Int) : gNe (.int i) (.int j) = some (.val (.bool (!(i == j)))) := rfl
@[simp] theorem gIs_n (d : D) : gIs d .none = some (.val (.bool (isNone d))) := by cases d <;> rfl
@[simp] theorem gIsNot_n (d : D) : gIsNot d .none = some (.val (.bool (!isNone d))) := by cases d <;> rfl
@[simp] theorem isNone_n : isNone .none = true := rfl
@[simp] theorem isNone_i (i : Int) : isNone (.int i) = false := rfl
@[simp] theorem isNone_b (i : Bool) : isNone (.bool i) = false := rfl
@[simp] theorem isNone_s (i : Str) : isNone (.str i) = false := rfl
@[simp] theorem isNone_l (i : List D) : isNone (.list i) = false := rfl
@[simp] theorem isNone_t (i : List D) : isNone (.tuple i) = false := rfl
@[simp] theorem gAbs_i (i : Int) : gAbs [.int i] = some (.val (.int (if i < 0 then -i else i))) := rfl
@[simp] theorem gInt_i (i : Int) : gInt [.int i] = some (.val (.int i)) := rfl
@[simp] theorem gLen_l (ds : List D) : gLen [.list ds] = some (.val (.int (ds.length : Nat))) := rfl
@[simp] theorem gLen_t (ds : List D) : gLen [.tuple ds] = some (.val (.int (ds.length : Nat))) := rfl
theorem gLen_s {a : List Nat} (h : a.length ≤ 1000000) : gLen [.str (tS a)] = some (.val (.int (a.length : Nat))) := by
  show (if (tS a).length ≤ sizeLine then _ else _) = _
  rw [tS_len, if_pos (fit h)]
@[simp] theorem gMax_2 (i j : Int) : gMax [.int i, .int j] = some (.val (.int (if j > i then j else i))) := rfl
@[simp] theorem gTuple_l (ds : List D) : gTuple [.list ds] = some (.val (.tuple ds)) := rfl
@[simp] theorem gTuple_t (ds : List D) : gTuple [.tuple ds] = some (.val (.tuple ds)) := rfl
theorem gDivmod_i {i j : Int} (h : 0 < j ∧ j < 1073741824) : gDivmod [.int i, .int j] = some (.val (.tuple [.int (i / j), .int (i % j)])) := if_pos h
theorem gCut_s {a : List Nat} {lo hi : Option Int} (h : a.length ≤ 1000000) : gCut lo hi (.str (tS a)) = some (.val (.str (cutS (tS a) lo hi))) := by
  show (if (tS a).length ≤ sizeLine then _ else _) = _
  rw [tS_len, if_pos (fit h)]
@[simp] theorem gCut_l (ds : List D) (lo hi : Option Int) : gCut lo hi (.list ds) = some (.own (.list (cutD ds lo hi))) := rfl
@[simp] theorem gCut_t (ds : List D) (lo hi : Option Int) : gCut lo hi (.tuple ds) = some (.val (.tuple (cutD ds lo hi))) := rfl
theorem atI_nat {α : Type} {xs : List α} {i : Int} {k : Nat} (h : i = k) (hk : k < xs.length) : atI xs i = xs[k]? := by
  subst h
  unfold atI ixN
  rw [if_pos (by omega), if_pos (by omega)]
  rfl
theorem gIx_l {ds : List D} {i : Int} {k : Nat} (h : i = k) (hk : k < ds.length) : gIx (.list ds) (.int i) = (ds[k]?).map .val := by
  unfold gIx
  dsimp only
  rw [atI_nat h hk]
theorem gIx_t {ds : List D} {i : Int} {k : Nat} (h : i = k) (hk : k < ds.length) : gIx (.tuple ds) (.int i) = (ds[k]?).map .val := by
  unfold gIx
  dsimp only
  rw [atI_nat h hk]
theorem gIx_s {a : List Nat} {i : Int} {k : Nat} (h : i = k) (hk : k < a.length) (hl : a.length ≤ 1000000) : gIx (.str (tS a)) (.int i) = some (.val (.str (tS [a[k]]))) := by
  unfold gIx
  dsimp only
  rw [if_pos (by rw [tS_len]; exact fit hl), tS_cps, atI_nat h hk, List.getElem?_eq_getElem hk]
  rfl
theorem gStr_n {n : Nat} (h : n < 2 ^ 64) : gStr [.int (n : Nat)] = some (.val (.str (tS (TL.numL n)))) := by
  unfold gStr
  dsimp only
  rw [if_pos, tS_num]
  have : ((n : Int).natAbs).log2 ≤ 64 := by
    rw [Int.natAbs_natCast]
    by_cases h0 : n = 0
    · subst h0; decide
    · exact Nat.le_of_lt ((Nat.log2_lt h0).mpr h)
  omega
theorem gInt_s {a : List Nat} (h : a.all (fun c => decide (48 ≤ c) && decide (c ≤ 57)) = true) (hne : a ≠ []) (hl : a.length ≤ 640) : gInt [.str (tS a)] = some (.val (.int (NumText.digitsVal a : Nat))) := by
  unfold gInt
  dsimp only
  rw [tS_int h hne (by omega)]
  dsimp only
  rw [if_pos (by rw [tS_len]; exact hl)]
@[simp] theorem tyD_s (a : Str) : tyD "str" (.str a) = true := rfl
@[simp] theorem tyD_l (a : List D) : tyD "list" (.list a) = true := rfl
theorem gAppend_l {ds : List D} {d : D} (h : ds.length < 1000000) : gAppend (.list ds) [d] = some (.list (ds ++ [d]), .none) := if_pos (by rw [sizeLine_eq]; omega)
end LW
set_option Elab.async false
set_option linter.all false
set_option maxRecDepth 100000
set_option maxHeartbeats 4000000
namespace K27
open PySem PySem.Spec PyProof.Rows L2 LW LamX
def fuelF (ρ : LW.Env) : Nat := match ρ.sl[0]? with
  | some (some (LW.Slot.val (.str x))) => x.length + 1
  | _ => 0
abbrev top (i : Nat) : Stmt := PySem.Challenge.pw_landwatches_k27_whole_frames_by_lengths.main.body.getD i (.Pass ⟨0, 0, 0, 0⟩)
def fl (x : Str) : Str := "given"
abbrev st_is_text_of : Stmt := top 4
abbrev st_is_signed : Stmt := top 8
abbrev st_check_text : Stmt := top 10
abbrev st_check_signs : Stmt := top 11
abbrev st_check_of : Stmt := top 17
abbrev st_frame_of : Stmt := top 18
abbrev st_text_at : Stmt := top 19
abbrev st_frames_by : Stmt := top 20
abbrev st_check_number : Stmt := top 23
abbrev st_frame : Stmt := top 24
abbrev st_frames_in : Stmt := top 25
abbrev st_is_end : Stmt := top 30
abbrev st_whole_notes : Stmt := top 31
abbrev st_end_of : Stmt := top 32
abbrev st_trim_writes : Stmt := top 33
abbrev st_opened_by : Stmt := top 34
abbrev st_opened : Stmt := top 36
abbrev st__law_bag : Stmt := top 38
abbrev st__law_draw : Stmt := top 39
abbrev st__law_one : Stmt := top 40
abbrev st__law_same : Stmt := top 41
abbrev st__law_frame : Stmt := top 42
abbrev st__law_signs : Stmt := top 43
abbrev st__law_text_drawn : Stmt := top 44
abbrev st__law_put_sign : Stmt := top 45
abbrev st__law_kept_check : Stmt := top 46
abbrev st__law_stream_right : Stmt := top 47
abbrev st__law_bent_right : Stmt := top 48
abbrev st__law_refused : Stmt := top 49
abbrev st__law_right : Stmt := top 50
abbrev st_law : Stmt := top 51
abbrev in_InvalidText : Stmt := inClass (top 2) 0
theorem sc_is_text_of : FnScope ["value", "signs", "sign"] ["value", "signs"] (defScope st_is_text_of) := C8.fnScope_by (by decide +kernel)
theorem sc_is_signed : FnScope ["value"] ["value"] (defScope st_is_signed) := C8.fnScope_by (by decide +kernel)
theorem sc_check_text : FnScope ["text"] ["text"] (defScope st_check_text) := C8.fnScope_by (by decide +kernel)
theorem sc_check_signs : FnScope ["text"] ["text"] (defScope st_check_signs) := C8.fnScope_by (by decide +kernel)
theorem sc_check_of : FnScope ["text", "place", "sign"] ["text"] (defScope st_check_of) := C8.fnScope_by (by decide +kernel)
theorem sc_frame_of : FnScope ["text"] ["text"] (defScope st_frame_of) := C8.fnScope_by (by decide +kernel)
theorem sc_text_at : FnScope ["stream", "start", "head", "length", "check", "text"] ["stream", "start"] (defScope st_text_at) := C8.fnScope_by (by decide +kernel)
theorem sc_frames_by : FnScope ["stream", "found", "end", "text"] ["stream"] (defScope st_frames_by) := C8.fnScope_by (by decide +kernel)
theorem sc_check_number : FnScope ["text"] ["text"] (defScope st_check_number) := C8.fnScope_by (by decide +kernel)
theorem sc_frame : FnScope ["text"] ["text"] (defScope st_frame) := C8.fnScope_by (by decide +kernel)
theorem sc_frames_in : FnScope ["text", "texts", "end"] ["text"] (defScope st_frames_in) := C8.fnScope_by (by decide +kernel)
theorem sc_is_end : FnScope ["note"] ["note"] (defScope st_is_end) := C8.fnScope_by (by decide +kernel)
theorem sc_whole_notes : FnScope ["log", "notes", "_", "index", "note"] ["log"] (defScope st_whole_notes) := C8.fnScope_by (by decide +kernel)
theorem sc_end_of : FnScope ["notes", "note"] ["notes"] (defScope st_end_of) := C8.fnScope_by (by decide +kernel)
theorem sc_trim_writes : FnScope ["log", "end"] ["log", "end"] (defScope st_trim_writes) := C8.fnScope_by (by decide +kernel)
theorem sc_opened_by : FnScope ["log", "notes"] ["log"] (defScope st_opened_by) := C8.fnScope_by (by decide +kernel)
theorem sc_opened : FnScope ["log", "notes", "end", "writes"] ["log"] (defScope st_opened) := C8.fnScope_by (by decide +kernel)
theorem sc__law_bag : FnScope ["script", "at", "stirred", "place", "cell", "own", "digits"] ["script", "at"] (defScope st__law_bag) := C8.fnScope_by (by decide +kernel)
theorem sc__law_draw : FnScope ["bag", "many", "digit", "old"] ["bag", "many"] (defScope st__law_draw) := C8.fnScope_by (by decide +kernel)
theorem sc__law_one : FnScope ["bag", "some"] ["bag", "some"] (defScope st__law_one) := C8.fnScope_by (by decide +kernel)
theorem sc__law_same : FnScope ["given", "due", "alike", "k"] ["given", "due"] (defScope st__law_same) := C8.fnScope_by (by decide +kernel)
theorem sc__law_frame : FnScope ["text", "signs", "check", "k", "sign"] ["text"] (defScope st__law_frame) := C8.fnScope_by (by decide +kernel)
theorem sc__law_signs : FnScope [] [] (defScope st__law_signs) := C8.fnScope_by (by decide +kernel)
theorem sc__law_text_drawn : FnScope ["bag", "many", "few", "turn"] ["bag"] (defScope st__law_text_drawn) := C8.fnScope_by (by decide +kernel)
theorem sc__law_put_sign : FnScope ["text", "at", "by", "sign"] ["text", "at", "by"] (defScope st__law_put_sign) := C8.fnScope_by (by decide +kernel)
theorem sc__law_kept_check : FnScope ["bag", "text", "turn", "at", "one", "two", "spot"] ["bag", "text"] (defScope st__law_kept_check) := C8.fnScope_by (by decide +kernel)
theorem sc__law_stream_right : FnScope ["texts", "rest", "is_read", "log", "ends", "text", "told"] ["texts", "rest", "is_read"] (defScope st__law_stream_right) := C8.fnScope_by (by decide +kernel)
theorem sc__law_bent_right : FnScope ["bag", "texts", "text", "whole", "at", "bent", "spot", "turned", "like", "log", "told", "rests", "own", "rest"] ["bag", "texts", "text"] (defScope st__law_bent_right) := C8.fnScope_by (by decide +kernel)
theorem sc__law_refused : FnScope ["act", "e"] ["act"] (defScope st__law_refused) := C8.fnScope_by (by decide +kernel)
theorem sc__law_right : FnScope ["bag", "texts", "is_great", "turn", "text", "due", "log", "at", "found", "end", "k", "odd", "none", "told"] ["bag"] (defScope st__law_right) := C8.fnScope_by (by decide +kernel)
theorem sc_law : FnScope ["script", "at"] ["script"] (defScope st_law) := C8.fnScope_by (by decide +kernel)
def z0 : Str := " ,-.0123456789abcdefghijklmnopqrstuvwxyz"
def z1 : Str := "0123456789"
def z2 : Str := "d"
def z3 : Str := " "
def z4 : Str := "trim"
def z5 : Str := ""
def z6 : Str := "0000000"
def z7 : Str := "0000"
def z8 : Str := "a"
def z9 : Str := "A"
def z10 : Str := "a;b"
def z11 : Str := "a\n"
def m_is_text_of : MS :=
    (mRet (mAndV (mIsi "str" (mVar 0)) (mCallB gAll (mCons (mLc (mItr (mVar 0)) (tgName 2) mYes (mBin gIn (mVar 2) (mVar 1)) [2]) mNil))))
def s_is_text_of : FS := bodyFS 3 [false, false] m_is_text_of
def m_is_signed : MS :=
    (mRet (mCallP s_is_text_of (mCons (mVar 0) (mCons (mVal (.str z0)) mNil))))
def s_is_signed : FS := bodyFS 1 [false] m_is_signed
def m_check_text : MS :=
    (mIte (mNot (mBool (mIsi "str" (mVar 0)))) (mRaise "InvalidText" (mCons (mVar 0) mNil)) mSkip)
def s_check_text : FS := bodyFS 1 [false] m_check_text
def m_check_signs : MS :=
    (mIte (mNot (mBool (mCallP s_is_signed (mCons (mVar 0) mNil)))) (mRaise "InvalidText" (mCons (mVar 0) mNil)) mSkip)
def s_check_signs : FS := bodyFS 1 [false] m_check_signs
def m_check_of : MS :=
    (mRet (mBin gMod (mCallB gSum (mCons (mLc (mEn2 (mCons (mVar 0) (mCons (mVal (.int 1)) mNil))) (tgTup 2 (tgCons (tgName 1) (tgCons (tgName 2) tgNil))) mYes (mBin gMul (mVar 1) (mBin gAdd (mMeth gIndex (mOn "str" (mVal (.str z0))) (mCons (mVar 2) mNil)) (mVal (.int 1)))) [1, 2]) mNil)) (mVal (.int 997))))
def s_check_of : FS := bodyFS 3 [false] m_check_of
def m_frame_of : MS :=
    (mRet (mBin gAdd (mBin gAdd (mMeth gZfill (mOn "str" (mCallB gStr (mCons (mCallB gLen (mCons (mVar 0) mNil)) mNil))) (mCons (mVal (.int 4)) mNil)) (mMeth gZfill (mOn "str" (mCallB gStr (mCons (mCallP s_check_of (mCons (mVar 0) mNil)) mNil))) (mCons (mVal (.int 3)) mNil))) (mVar 0)))
def s_frame_of : FS := bodyFS 1 [false] m_frame_of
def m_text_at : MS :=
    (mSeq (mSet 2 (mCut (mVar 0) (mPart (some (mVar 1))) (mPart (some (mBin gAdd (mVar 1) (mVal (.int 7)))))))
    (mSeq (mIte (mOr (mBool (mBin gLt (mCallB gLen (mCons (mVar 2) mNil)) (mVal (.int 7)))) (mNot (mBool (mCallP s_is_text_of (mCons (mVar 2) (mCons (mVal (.str z1)) mNil)))))) (mRet (mVal .none)) mSkip)
    (mSeq (mPar [3, 4] (mConsL (mCallB gInt (mCons (mCut (mVar 2) (mPart none) (mPart (some (mVal (.int 4))))) mNil)) (mConsL (mCallB gInt (mCons (mCut (mVar 2) (mPart (some (mVal (.int 4)))) (mPart none)) mNil)) mNil)))
    (mSeq (mSet 5 (mCut (mVar 0) (mPart (some (mBin gAdd (mVar 1) (mVal (.int 7))))) (mPart (some (mBin gAdd (mBin gAdd (mVar 1) (mVal (.int 7))) (mVar 3))))))
    (mSeq (mIte (mOr (mBool (mBin gEq (mVar 3) (mVal (.int 0)))) (mOr (mBool (mBin gLt (mCallB gLen (mCons (mVar 5) mNil)) (mVar 3))) (mNot (mBool (mCallP s_is_text_of (mCons (mVar 5) (mCons (mVal (.str z0)) mNil))))))) (mRet (mVal .none)) mSkip)
    (mRet (mIf (mBool (mBin gEq (mCallP s_check_of (mCons (mVar 5) mNil)) (mVar 4))) (mVar 5) (mVal .none))))))))
def s_text_at : FS := bodyFS 6 [false, false] m_text_at
def m_frames_by : MS :=
    (mSeq (mPar [1, 2, 3] (mConsL (mLst mNil) (mConsL (mVal (.int 0)) (mConsL (mCallP s_text_at (mCons (mVar 0) (mCons (mVal (.int 0)) mNil))) mNil))))
    (mSeq (mWhile (mBool (mBin gIsNot (mVar 3) (mVal .none))) (mSeq (mDrop (mMut gAppend (mOn "list" (mVar 1)) (mCons (mVar 3) mNil)))
    (mSeq (mSet 2 (mBin gAdd (mBin gAdd (mVar 2) (mVal (.int 7))) (mCallB gLen (mCons (mVar 3) mNil))))
    (mSet 3 (mCallP s_text_at (mCons (mVar 0) (mCons (mVar 2) mNil)))))) fuelF)
    (mRet (mTup (mCons (mVar 1) (mCons (mVar 2) mNil))))))
def s_frames_by : FS := bodyFS 4 [false] m_frames_by
def m_check_number : MS :=
    (mSeq (mDrop (mCallP s_check_signs (mCons (mVar 0) mNil)))
    (mRet (mCallP s_check_of (mCons (mVar 0) mNil))))
def s_check_number : FS := bodyFS 1 [false] m_check_number
def m_frame : MS :=
    (mSeq (mDrop (mCallP s_check_signs (mCons (mVar 0) mNil)))
    (mSeq (mIte (mNot (mBool (mChain gLe gLe (mVal (.int 1)) (mCallB gLen (mCons (mVar 0) mNil)) (mVal (.int 999))))) (mRaise "InvalidText" (mCons (mVar 0) mNil)) mSkip)
    (mRet (mCallP s_frame_of (mCons (mVar 0) mNil)))))
def s_frame : FS := bodyFS 1 [false] m_frame
def m_frames_in : MS :=
    (mSeq (mDrop (mCallP s_check_text (mCons (mVar 0) mNil)))
    (mSeq (mAsg (mCallP s_frames_by (mCons (mVar 0) mNil)) (tgTup 2 (tgCons (tgName 1) (tgCons (tgName 2) tgNil))))
    (mRet (mTup (mCons (mCallB gTuple (mCons (mVar 1) mNil)) (mCons (mVar 2) mNil))))))
def s_frames_in : FS := bodyFS 3 [false] m_frames_in
def m_is_end : MS :=
    (mRet (mMeth gStarts (mOn "str" (mVar 0)) (mCons (mBin gAdd (mVal (.str z2)) (mVal (.str z3))) mNil)))
def s_is_end : FS := bodyFS 1 [false] m_is_end
def m_whole_notes : MS :=
    (mSeq (mAsg (mCallP s_frames_by (mCons (mVar 0) mNil)) (tgTup 2 (tgCons (tgName 1) (tgCons (tgName 2) tgNil))))
    (mRet (mCut (mVar 1) (mPart none) (mPart (some (mMaxD (mCons (mLc (mEn2 (mCons (mVar 1) (mCons (mVal (.int 1)) mNil))) (tgTup 2 (tgCons (tgName 3) (tgCons (tgName 4) tgNil))) (mBool (mCallP s_is_end (mCons (mVar 4) mNil))) (mVar 3) [3, 4]) mNil) (mCons (mVal (.int 0)) mNil)))))))
def s_whole_notes : FS := bodyFS 5 [false] m_whole_notes
def m_end_of : MS :=
    (mRet (mCallB gSum (mCons (mLc (mItr (mVar 0)) (tgName 1) mYes (mBin gAdd (mVal (.int 7)) (mCallB gLen (mCons (mVar 1) mNil))) [1]) mNil)))
def s_end_of : FS := bodyFS 2 [false] m_end_of
def m_trim_writes : MS :=
    (mRet (mIf (mBool (mBin gLt (mVar 1) (mCallB gLen (mCons (mVar 0) mNil)))) (mLst (mCons (mTup (mCons (mVal (.str z4)) (mCons (mVar 1) mNil))) mNil)) (mLst mNil)))
def s_trim_writes : FS := bodyFS 2 [false, false] m_trim_writes
def m_opened_by : MS :=
    (mSeq (mSet 1 (mCallP s_whole_notes (mCons (mVar 0) mNil)))
    (mRet (mTup (mCons (mVar 1) (mCons (mCallP s_end_of (mCons (mVar 1) mNil)) (mCons (mCallP s_trim_writes (mCons (mVar 0) (mCons (mCallP s_end_of (mCons (mVar 1) mNil)) mNil))) mNil))))))
def s_opened_by : FS := bodyFS 2 [false] m_opened_by
def m_opened : MS :=
    (mSeq (mDrop (mCallP s_check_signs (mCons (mVar 0) mNil)))
    (mSeq (mAsg (mCallP s_opened_by (mCons (mVar 0) mNil)) (tgTup 3 (tgCons (tgName 1) (tgCons (tgName 2) (tgCons (tgName 3) tgNil)))))
    (mRet (mTup (mCons (mCallB gTuple (mCons (mVar 1) mNil)) (mCons (mVar 2) (mCons (mCallB gTuple (mCons (mVar 3) mNil)) mNil)))))))
def s_opened : FS := bodyFS 4 [false] m_opened
def m__law_bag : MS :=
    (mSeq (mSet 2 (mBin gAdd (mVal (.int 90019)) (mBin gMul (mVal (.int 5003)) (mVar 1))))
    (mSeq (mFor (mEn1 (mCons (mCut (mVar 0) (mPart none) (mPart (some (mVal (.int 9))))) mNil)) (tgTup 2 (tgCons (tgName 3) (tgCons (tgName 4) tgNil))) (mSet 2 (mBin gMod (mCallB gInt (mCons (mBin gAdd (mBin gAdd (mBin gAdd (mBin gMul (mVar 2) (mVal (.int 48611))) (mBin gMod (mCallB gInt (mCons (mVar 4) mNil)) (mVal (.int 1999999913)))) (mBin gMul (mVal (.int 41)) (mVar 3))) (mVal (.int 7))) mNil)) (mVal (.int 2147483399)))))
    (mSeq (mSet 5 (mIf (mBool (mBin gLt (mVar 1) (mCallB gLen (mCons (mVar 0) mNil)))) (mCallB gInt (mCons (mBin gIx (mVar 0) (mVar 1)) mNil)) (mVal (.int 0))))
    (mSeq (mSet 6 (mIf (mBool (mBin gGe (mCallB gAbs (mCons (mVar 5) mNil)) (mBin gPow (mVal (.int 10)) (mVal (.int 18))))) (mBin gMod (mCallB gAbs (mCons (mVar 5) mNil)) (mVal (.int 1000000000000000000000000000099))) (mVal (.int 0))))
    (mRet (mLst (mCons (mVar 6) (mCons (mBin gMod (mCallB gInt (mCons (mBin gAdd (mVar 2) (mBin gMul (mVal (.int 7)) (mBin gMod (mCallB gInt (mCons (mVar 5) mNil)) (mVal (.int 1999999913))))) mNil)) (mVal (.int 2147483399))) (mCons (mVal (.int 0)) mNil)))))))))
def s__law_bag : FS := bodyFS 7 [false, false] m__law_bag
def m__law_draw : MS :=
    (mSeq (mIte (mBool (mBin gGt (mBin gIx (mVar 0) (mVal (.int 0))) (mVal (.int 0)))) (mSeq (mAsg (mCallB gDivmod (mCons (mBin gIx (mVar 0) (mVal (.int 0))) (mCons (mVar 1) mNil))) (tgTup 2 (tgCons (tgSub (mVar 0) (mVal (.int 0))) (tgCons (tgName 2) tgNil))))
    (mRet (mVar 2))) mSkip)
    (mSeq (mAsg (mBin gAdd (mBin gIx (mVar 0) (mVal (.int 2))) (mVal (.int 1))) (tgSub (mVar 0) (mVal (.int 2))))
    (mSeq (mSet 3 (mCallB gInt (mCons (mBin gIx (mVar 0) (mVal (.int 1))) mNil)))
    (mSeq (mAsg (mBin gMod (mCallB gInt (mCons (mBin gAdd (mBin gAdd (mBin gMul (mVar 3) (mBin gAdd (mBin gMod (mCallB gInt (mCons (mVar 3) mNil)) (mVal (.int 39979))) (mVal (.int 30047)))) (mBin gMul (mVal (.int 65027)) (mBin gIx (mVar 0) (mVal (.int 2))))) (mVal (.int 19))) mNil)) (mVal (.int 2147483399))) (tgSub (mVar 0) (mVal (.int 1))))
    (mRet (mBin gMod (mCallB gInt (mCons (mBin gDiv (mBin gIx (mVar 0) (mVal (.int 1))) (mVal (.int 259))) mNil)) (mVar 1)))))))
def s__law_draw : FS := bodyFS 4 [true, false] m__law_draw
def m__law_one : MS :=
    (mRet (mBin gIx (mVar 1) (mCallIO s__law_draw (mCons (mVar 0) (mCons (mCallB gLen (mCons (mVar 1) mNil)) mNil)))))
def s__law_one : FS := bodyFS 2 [true, false] m__law_one
def m__law_same (self : FS) : MS :=
    (mSeq (mIte (mBool (mBin gIs (mVar 1) (mVal .none))) (mRet (mBin gIs (mVar 0) (mVal .none))) mSkip)
    (mSeq (mIte (mOr (mBool (mIsi "tuple" (mVar 1))) (mBool (mIsi "list" (mVar 1)))) (mSeq (mSet 2 (mIf (mBool (mIsi "tuple" (mVar 1))) (mIsi "tuple" (mVar 0)) (mIsi "list" (mVar 0))))
    (mRet (mAndV (mVar 2) (mAndV (mBin gEq (mCallB gLen (mCons (mVar 0) mNil)) (mCallB gLen (mCons (mVar 1) mNil))) (mCallB gAll (mCons (mLc (mRng1 (mCons (mCallB gLen (mCons (mVar 1) mNil)) mNil)) (tgName 3) mYes (mCallP self (mCons (mBin gIx (mVar 0) (mVar 3)) (mCons (mBin gIx (mVar 1) (mVar 3)) mNil))) [3]) mNil)))))) mSkip)
    (mSeq (mIte (mBool (mIsi "int" (mVar 1))) (mRet (mAndV (mIsi "int" (mVar 0)) (mAndV (mBin gEq (mIsi "bool" (mVar 0)) (mIsi "bool" (mVar 1))) (mBin gEq (mVar 0) (mVar 1))))) mSkip)
    (mRet (mAndV (mIsi "str" (mVar 1)) (mAndV (mIsi "str" (mVar 0)) (mBin gEq (mVar 0) (mVar 1))))))))
def s__law_same : Nat → FS := recFS [false, false] fun self => bodyFS 4 [false, false] (m__law_same self)
def m__law_frame : MS :=
    (mSeq (mSet 1 (mVal (.str z0)))
    (mSeq (mSet 2 (mCallB gSum (mCons (mLc (mEn1 (mCons (mVar 0) mNil)) (tgTup 2 (tgCons (tgName 3) (tgCons (tgName 4) tgNil))) mYes (mBin gMul (mBin gAdd (mVar 3) (mVal (.int 1))) (mBin gAdd (mMeth gIndex (mOn "str" (mVar 1)) (mCons (mVar 4) mNil)) (mVal (.int 1)))) [3, 4]) mNil)))
    (mRet (mBin gAdd (mBin gAdd (mCut (mCallB gStr (mCons (mBin gAdd (mVal (.int 10000)) (mCallB gLen (mCons (mVar 0) mNil))) mNil)) (mPart (some (mVal (.int 1)))) (mPart none)) (mCut (mCallB gStr (mCons (mBin gAdd (mVal (.int 1000)) (mBin gMod (mCallB gInt (mCons (mVar 2) mNil)) (mVal (.int 997)))) mNil)) (mPart (some (mVal (.int 1)))) (mPart none))) (mVar 0)))))
def s__law_frame : FS := bodyFS 5 [false] m__law_frame
def m__law_signs : MS :=
    (mRet (mVal (.str z0)))
def s__law_signs : FS := bodyFS 0 [] m__law_signs
def m__law_text_drawn : MS :=
    (mSeq (mSet 1 (mCallIO s__law_one (mCons (mVar 0) (mCons (mLst (mCons (mVal (.int 1)) (mCons (mVal (.int 2)) (mCons (mVal (.int 3)) (mCons (mBin gAdd (mVal (.int 1)) (mCallIO s__law_draw (mCons (mVar 0) (mCons (mVal (.int 40)) mNil)))) (mCons (mBin gAdd (mVal (.int 5)) (mCallIO s__law_draw (mCons (mVar 0) (mCons (mVal (.int 20)) mNil)))) (mCons (mBin gAdd (mVal (.int 990)) (mCallIO s__law_draw (mCons (mVar 0) (mCons (mVal (.int 10)) mNil)))) (mCons (mVal (.int 999)) mNil)))))))) mNil))))
    (mSeq (mIte (mBool (mBin gLt (mVar 1) (mVal (.int 60)))) (mRet (mMeth gJoin (mOn "str" (mVal (.str z5))) (mCons (mLc (mRng1 (mCons (mVar 1) mNil)) (tgName 3) mYes (mCallIO s__law_one (mCons (mVar 0) (mCons (mCallP s__law_signs mNil) mNil))) [3]) mNil))) mSkip)
    (mSeq (mSet 2 (mMeth gJoin (mOn "str" (mVal (.str z5))) (mCons (mLc (mRng1 (mCons (mVal (.int 7)) mNil)) (tgName 3) mYes (mCallIO s__law_one (mCons (mVar 0) (mCons (mCallP s__law_signs mNil) mNil))) [3]) mNil)))
    (mRet (mCut (mBin gMul (mVar 2) (mVal (.int 200))) (mPart none) (mPart (some (mVar 1))))))))
def s__law_text_drawn : FS := bodyFS 4 [true] m__law_text_drawn
def m__law_put_sign : MS :=
    (mSeq (mSet 3 (mBin gIx (mCallP s__law_signs mNil) (mBin gMod (mCallB gInt (mCons (mBin gAdd (mMeth gIndex (mOn "str" (mCallP s__law_signs mNil)) (mCons (mBin gIx (mVar 0) (mVar 1)) mNil)) (mVar 2)) mNil)) (mVal (.int 40)))))
    (mRet (mBin gAdd (mBin gAdd (mCut (mVar 0) (mPart none) (mPart (some (mVar 1)))) (mVar 3)) (mCut (mVar 0) (mPart (some (mBin gAdd (mVar 1) (mVal (.int 1))))) (mPart none)))))
def s__law_put_sign : FS := bodyFS 4 [false, false, false] m__law_put_sign
def m__law_kept_check : MS :=
    (mSeq (mFor (mRng1 (mCons (mBin gDiv (mCallB gLen (mCons (mVar 1) mNil)) (mVal (.int 2))) mNil)) (tgName 2) (mSeq (mSet 3 (mBin gMod (mCallB gInt (mCons (mBin gAdd (mVar 2) (mCallIO s__law_draw (mCons (mVar 0) (mCons (mVal (.int 7)) mNil)))) mNil)) (mCallB gMax (mCons (mVal (.int 1)) (mCons (mBin gDiv (mCallB gLen (mCons (mVar 1) mNil)) (mVal (.int 2))) mNil)))))
    (mSeq (mAsg (mLc (mItr (mTup (mCons (mVar 3) (mCons (mBin gAdd (mBin gMul (mVal (.int 2)) (mVar 3)) (mVal (.int 1))) mNil)))) (tgName 6) mYes (mMeth gIndex (mOn "str" (mCallP s__law_signs mNil)) (mCons (mBin gIx (mVar 1) (mVar 6)) mNil)) [6]) (tgTup 2 (tgCons (tgName 4) (tgCons (tgName 5) tgNil))))
    (mIte (mAnd (mBool (mBin gLt (mBin gAdd (mVar 4) (mVal (.int 2))) (mVal (.int 40)))) (mBool (mBin gGt (mVar 5) (mVal (.int 0))))) (mRet (mCallP s__law_put_sign (mCons (mCallP s__law_put_sign (mCons (mVar 1) (mCons (mVar 3) (mCons (mVal (.int 2)) mNil)))) (mCons (mBin gAdd (mBin gMul (mVal (.int 2)) (mVar 3)) (mVal (.int 1))) (mCons (mUn gNeg (mVal (.int 1))) mNil))))) mSkip))))
    (mRet (mVar 1)))
def s__law_kept_check : FS := bodyFS 7 [true, false] m__law_kept_check
def m__law_stream_right : MS :=
    (mSeq (mPar [3, 4] (mConsL (mVal (.str z5)) (mConsL (mLst mNil) mNil)))
    (mSeq (mFor (mItr (mVar 0)) (tgName 5) (mSeq (mSet 3 (mBin gAdd (mVar 3) (mCallP s__law_frame (mCons (mVar 5) mNil))))
    (mDrop (mMut gAppend (mOn "list" (mVar 4)) (mCons (mCallB gLen (mCons (mVar 3) mNil)) mNil)))))
    (mSeq (mSet 6 (mCallP s_frames_in (mCons (mBin gAdd (mVar 3) (mVar 1)) mNil)))
    (mSeq (mIte (mNot (mBool (mVar 2))) (mRet (mCallP (s__law_same 8) (mCons (mVar 6) (mCons (mTup (mCons (mCallB gTuple (mCons (mVar 0) mNil)) (mCons (mCallB gLen (mCons (mVar 3) mNil)) mNil))) mNil)))) mSkip)
    (mRet (mAndV (mBin gEq (mCut (mBin gIx (mVar 6) (mVal (.int 0))) (mPart none) (mPart (some (mCallB gLen (mCons (mVar 0) mNil))))) (mCallB gTuple (mCons (mVar 0) mNil))) (mAndV (mBin gGt (mCallB gLen (mCons (mBin gIx (mVar 6) (mVal (.int 0))) mNil)) (mCallB gLen (mCons (mVar 0) mNil))) (mBin gGt (mBin gIx (mVar 6) (mVal (.int 1))) (mCallB gLen (mCons (mVar 3) mNil))))))))))
def s__law_stream_right : FS := bodyFS 7 [false, false, false] m__law_stream_right
def m__law_bent_right : MS :=
    (mSeq (mPar [3, 4] (mConsL (mCallP s__law_frame (mCons (mVar 2) mNil)) (mConsL (mCallIO s__law_draw (mCons (mVar 0) (mCons (mCallB gLen (mCons (mVar 2) mNil)) mNil))) mNil)))
    (mSeq (mSet 5 (mCallP s__law_put_sign (mCons (mVar 2) (mCons (mVar 4) (mCons (mBin gAdd (mVal (.int 1)) (mCallIO s__law_draw (mCons (mVar 0) (mCons (mVal (.int 39)) mNil)))) mNil)))))
    (mSeq (mIte (mNot (mBool (mCallP s__law_stream_right (mCons (mVar 1) (mCons (mBin gAdd (mBin gAdd (mCut (mVar 3) (mPart none) (mPart (some (mVal (.int 7))))) (mVar 5)) (mVar 3)) (mCons (mBin gEq (mBin gMod (mCallB gInt (mCons (mBin gAdd (mVar 4) (mVal (.int 1))) mNil)) (mVal (.int 997))) (mVal (.int 0))) mNil)))))) (mRet (mVal (.bool false))) mSkip)
    (mSeq (mSet 6 (mCallIO s__law_draw (mCons (mVar 0) (mCons (mCallB gMax (mCons (mVal (.int 1)) (mCons (mBin gSub (mCallB gLen (mCons (mVar 2) mNil)) (mVal (.int 1))) mNil))) mNil))))
    (mSeq (mSet 7 (mBin gAdd (mBin gAdd (mCut (mVar 2) (mPart none) (mPart (some (mVar 6)))) (mRevS (mCut (mVar 2) (mPart (some (mVar 6))) (mPart (some (mBin gAdd (mVar 6) (mVal (.int 2)))))))) (mCut (mVar 2) (mPart (some (mBin gAdd (mVar 6) (mVal (.int 2))))) (mPart none))))
    (mSeq (mIte (mNot (mBool (mCallP s__law_stream_right (mCons (mVar 1) (mCons (mBin gAdd (mBin gAdd (mCut (mVar 3) (mPart none) (mPart (some (mVal (.int 7))))) (mVar 7)) (mVar 3)) (mCons (mBin gEq (mVar 7) (mVar 2)) mNil)))))) (mRet (mVal (.bool false))) mSkip)
    (mSeq (mSet 8 (mCallIO s__law_kept_check (mCons (mVar 0) (mCons (mVar 2) mNil))))
    (mSeq (mSet 9 (mMeth gJoin (mOn "str" (mVal (.str z5))) (mCons (mLc (mItr (mVar 1)) (tgName 12) mYes (mCallP s__law_frame (mCons (mVar 12) mNil)) [12]) mNil)))
    (mSeq (mSet 10 (mCallP s_frames_in (mKw [0] mNil (mCons (mBin gAdd (mBin gAdd (mVar 9) (mCut (mVar 3) (mPart none) (mPart (some (mVal (.int 7)))))) (mVar 8)) mNil))))
    (mSeq (mIte (mOr (mNot (mBool (mCallP (s__law_same 8) (mCons (mVar 10) (mCons (mTup (mCons (mBin gAdd (mCallB gTuple (mCons (mVar 1) mNil)) (mTup (mCons (mVar 8) mNil))) (mCons (mCallB gLen (mCons (mBin gAdd (mVar 9) (mVar 3)) mNil)) mNil))) mNil))))) (mBool (mBin gNe (mCallP s_check_number (mCons (mVar 8) mNil)) (mCallP s_check_number (mCons (mVar 2) mNil))))) (mRet (mVal (.bool false))) mSkip)
    (mSeq (mSet 11 (mLst (mCons (mCut (mVar 3) (mPart none) (mPart (some (mCallIO s__law_draw (mCons (mVar 0) (mCons (mCallB gLen (mCons (mVar 3) mNil)) mNil)))))) (mCons (mVal (.str z6)) (mCons (mBin gAdd (mVal (.str z7)) (mCut (mVar 3) (mPart (some (mVal (.int 4)))) (mPart none))) (mCons (mBin gAdd (mCut (mCallB gStr (mCons (mBin gAdd (mVal (.int 10001)) (mCallB gLen (mCons (mVar 2) mNil))) mNil)) (mPart (some (mVal (.int 1)))) (mPart none)) (mCut (mVar 3) (mPart (some (mVal (.int 4)))) (mPart none))) mNil))))))
    (mSeq (mSet 11 (mBin gAdd (mVar 11) (mLst (mCons (mBin gAdd (mBin gAdd (mCut (mVar 3) (mPart none) (mPart (some (mVal (.int 4))))) (mCut (mCallB gStr (mCons (mBin gAdd (mVal (.int 1000)) (mBin gMod (mCallB gInt (mCons (mBin gAdd (mCallB gInt (mCons (mCut (mVar 3) (mPart (some (mVal (.int 4)))) (mPart (some (mVal (.int 7))))) mNil)) (mVal (.int 1))) mNil)) (mVal (.int 997)))) mNil)) (mPart (some (mVal (.int 1)))) (mPart none))) (mVar 2)) (mCons (mBin gAdd (mVal (.str z8)) (mVar 3)) (mCons (mBin gAdd (mVal (.str z3)) (mVar 3)) mNil))))))
    (mRet (mCallB gAll (mCons (mLc (mItr (mBin gAdd (mCut (mVar 11) (mPart none) (mPart (some (mVal (.int 2))))) (mLst (mCons (mCallIO s__law_one (mCons (mVar 0) (mCons (mCut (mVar 11) (mPart (some (mVal (.int 2)))) (mPart none)) mNil))) mNil)))) (tgName 13) mYes (mCallP s__law_stream_right (mCons (mVar 1) (mCons (mVar 13) (mCons (mVal (.bool false)) mNil)))) [13]) mNil)))))))))))))))
def s__law_bent_right : FS := bodyFS 14 [true, false, false] m__law_bent_right
def m__law_right : MS :=
    (mSeq (mPar [1, 2] (mConsL (mLst mNil) (mConsL (mVal (.bool false)) mNil)))
    (mSeq (mFor (mRng1 (mCons (mBin gAdd (mVal (.int 1)) (mCallIO s__law_draw (mCons (mVar 0) (mCons (mVal (.int 4)) mNil)))) mNil)) (tgName 3) (mSeq (mSet 4 (mCallIO s__law_text_drawn (mCons (mVar 0) mNil)))
    (mSeq (mDrop (mMut gAppend (mOn "list" (mVar 1)) (mCons (mIf (mBool (mVar 2)) (mCut (mVar 4) (mPart none) (mPart (some (mVal (.int 40))))) (mVar 4)) mNil)))
    (mSet 2 (mOrV (mVar 2) (mBin gGt (mCallB gLen (mCons (mVar 4) mNil)) (mVal (.int 60))))))))
    (mSeq (mFor (mItr (mVar 1)) (tgName 4) (mSeq (mSet 5 (mCallP s__law_frame (mCons (mVar 4) mNil)))
    (mSeq (mIte (mNot (mBool (mCallP (s__law_same 8) (mCons (mLst (mCons (mCallP s_frame (mCons (mVar 4) mNil)) (mCons (mCallP s_frame (mKw [0] mNil (mCons (mVar 4) mNil))) (mCons (mCallP s_check_number (mKw [0] mNil (mCons (mVar 4) mNil))) mNil)))) (mCons (mLst (mCons (mVar 5) (mCons (mVar 5) (mCons (mCallB gInt (mCons (mCut (mVar 5) (mPart (some (mVal (.int 4)))) (mPart (some (mVal (.int 7))))) mNil)) mNil)))) mNil))))) (mRet (mVal (.bool false))) mSkip)
    (mIte (mNot (mBool (mCallIO s__law_bent_right (mCons (mVar 0) (mCons (mVar 1) (mCons (mVar 4) mNil)))))) (mRet (mVal (.bool false))) mSkip))))
    (mSeq (mSet 6 (mMeth gJoin (mOn "str" (mVal (.str z5))) (mCons (mLc (mItr (mVar 1)) (tgName 4) mYes (mCallP s__law_frame (mCons (mVar 4) mNil)) [4]) mNil)))
    (mSeq (mFor (mRng1 (mCons (mVal (.int 6)) mNil)) (tgName 3) (mSeq (mSet 7 (mCallIO s__law_draw (mCons (mVar 0) (mCons (mBin gAdd (mCallB gLen (mCons (mVar 6) mNil)) (mVal (.int 1))) mNil))))
    (mSeq (mPar [8, 9] (mConsL (mLst mNil) (mConsL (mVal (.int 0)) mNil)))
    (mSeq (mFor (mEn1 (mCons (mVar 1) mNil)) (tgTup 2 (tgCons (tgName 10) (tgCons (tgName 4) tgNil))) (mIte (mAnd (mBool (mBin gEq (mCallB gLen (mCons (mVar 8) mNil)) (mVar 10))) (mBool (mBin gLe (mBin gAdd (mBin gAdd (mVar 9) (mCallB gLen (mCons (mVar 4) mNil))) (mVal (.int 7))) (mVar 7)))) (mPar [8, 9] (mConsL (mBin gAdd (mVar 8) (mLst (mCons (mVar 4) mNil))) (mConsL (mBin gAdd (mBin gAdd (mVar 9) (mCallB gLen (mCons (mVar 4) mNil))) (mVal (.int 7))) mNil))) mSkip))
    (mIte (mNot (mBool (mCallP (s__law_same 8) (mCons (mCallP s_frames_in (mCons (mCut (mVar 6) (mPart none) (mPart (some (mVar 7)))) mNil)) (mCons (mTup (mCons (mCallB gTuple (mCons (mVar 8) mNil)) (mCons (mVar 9) mNil))) mNil))))) (mRet (mVal (.bool false))) mSkip)))))
    (mSeq (mPar [11, 12] (mConsL (mCallIO s__law_one (mCons (mVar 0) (mCons (mLst (mCons (mVal .none) (mCons (mVal (.int 5)) (mCons (mVal (.str z9)) (mCons (mVal (.str z10)) (mCons (mVal (.str z11)) (mCons (mTup (mCons (mVal (.str z8)) mNil)) mNil))))))) mNil))) (mConsL (mCallIO s__law_one (mCons (mVar 0) (mCons (mLst (mCons (mVal .none) (mCons (mVal (.int 5)) (mCons (mTup (mCons (mVal (.str z8)) mNil)) (mCons (mVal (.bool true)) mNil))))) mNil))) mNil)))
    (mSeq (mSet 13 (mLst (mCons (mRef "InvalidText" (mCallP s_frame (mCons (mVar 11) mNil))) mNil)))
    (mSeq (mDrop (mMut gAppend (mOn "list" (mVar 13)) (mCons (mRef "InvalidText" (mCallP s_frames_in (mCons (mVar 12) mNil))) mNil)))
    (mSeq (mDrop (mMut gAppend (mOn "list" (mVar 13)) (mCons (mRef "InvalidText" (mCallP s_opened (mCons (mVar 11) mNil))) mNil)))
    (mSeq (mDrop (mMut gAppend (mOn "list" (mVar 13)) (mCons (mRef "InvalidText" (mCallP s_frame (mCons (mVal (.str z5)) mNil))) mNil)))
    (mSeq (mDrop (mMut gAppend (mOn "list" (mVar 13)) (mCons (mRef "InvalidText" (mCallP s_frame (mCons (mBin gMul (mVal (.str z8)) (mVal (.int 1000))) mNil))) mNil)))
    (mRet (mAndV (mCallP (s__law_same 8) (mCons (mVar 13) (mCons (mLst (mCons (mLst (mCons (mVar 11) mNil)) (mCons (mLst (mCons (mVar 12) mNil)) (mCons (mLst (mCons (mVar 11) mNil)) (mCons (mLst (mCons (mVal (.str z5)) mNil)) (mCons (mLst (mCons (mBin gMul (mVal (.str z8)) (mVal (.int 1000))) mNil)) mNil)))))) mNil))) (mBin gEq (mCallB gLen (mCons (mCallP s_frame (mCons (mBin gMul (mVal (.str z8)) (mVal (.int 999))) mNil)) mNil)) (mVal (.int 1006))))))))))))))))
def s__law_right : FS := bodyFS 14 [true] m__law_right
def m_law : MS :=
    (mRet (mCallB gAll (mCons (mLc (mRng1 (mCons (mVal (.int 2)) mNil)) (tgName 1) mYes (mCallT s__law_right (mCallP s__law_bag (mCons (mVar 0) (mCons (mVar 1) mNil)))) [1]) mNil)))
def s_law : FS := bodyFS 2 [false] m_law
structure Tx (P : Program) (w : World) (K : Fg) (mg : Str → Option Value) (base : Heap) (T : Tb) : Prop where
  i_BLANK : ∃ u, mg "BLANK" = some (.str " " u)
  i_CHECK_DIGITS : ∃ u, mg "CHECK_DIGITS" = some (.int 3 u)
  i_DIGITS : ∃ u, mg "DIGITS" = some (.str "0123456789" u)
  i_HEAD : ∃ u, mg "HEAD" = some (.int 7 u)
  i_LENGTH_DIGITS : ∃ u, mg "LENGTH_DIGITS" = some (.int 4 u)
  i_LONGEST_FRAMED : ∃ u, mg "LONGEST_FRAMED" = some (.int 999 u)
  i_MODULUS : ∃ u, mg "MODULUS" = some (.int 997 u)
  i_OF_END : ∃ u, mg "OF_END" = some (.str "d" u)
  i_SIGNS : ∃ u, mg "SIGNS" = some (.str " ,-.0123456789abcdefghijklmnopqrstuvwxyz" u)
  i_TRIM : ∃ u, mg "TRIM" = some (.str "trim" u)
  f_abs : mg "abs" = none
  f_all : mg "all" = none
  f_bool : mg "bool" = none
  f_divmod : mg "divmod" = none
  f_enumerate : mg "enumerate" = none
  f_int : mg "int" = none
  f_isinstance : mg "isinstance" = none
  f_len : mg "len" = none
  f_list : mg "list" = none
  f_max : mg "max" = none
  f_range : mg "range" = none
  f_str : mg "str" = none
  f_sum : mg "sum" = none
  f_tuple : mg "tuple" = none
  g_is_text_of : mg "is_text_of" = some (.ref (He.ga K "is_text_of"))
  d_is_text_of : FunD K "is_text_of" "is_text_of" (defArgs st_is_text_of) (defBody st_is_text_of) (defScope st_is_text_of) [] [] (He.ga K "is_text_of") (fdOf K (He.ga K "is_text_of"))
  g_is_signed : mg "is_signed" = some (.ref (He.ga K "is_signed"))
  d_is_signed : FunD K "is_signed" "is_signed" (defArgs st_is_signed) (defBody st_is_signed) (defScope st_is_signed) [] [] (He.ga K "is_signed") (fdOf K (He.ga K "is_signed"))
  g_check_text : mg "check_text" = some (.ref (He.ga K "check_text"))
  d_check_text : FunD K "check_text" "check_text" (defArgs st_check_text) (defBody st_check_text) (defScope st_check_text) [] [] (He.ga K "check_text") (fdOf K (He.ga K "check_text"))
  g_check_signs : mg "check_signs" = some (.ref (He.ga K "check_signs"))
  d_check_signs : FunD K "check_signs" "check_signs" (defArgs st_check_signs) (defBody st_check_signs) (defScope st_check_signs) [] [] (He.ga K "check_signs") (fdOf K (He.ga K "check_signs"))
  g_check_of : mg "check_of" = some (.ref (He.ga K "check_of"))
  d_check_of : FunD K "check_of" "check_of" (defArgs st_check_of) (defBody st_check_of) (defScope st_check_of) [] [] (He.ga K "check_of") (fdOf K (He.ga K "check_of"))
  g_frame_of : mg "frame_of" = some (.ref (He.ga K "frame_of"))
  d_frame_of : FunD K "frame_of" "frame_of" (defArgs st_frame_of) (defBody st_frame_of) (defScope st_frame_of) [] [] (He.ga K "frame_of") (fdOf K (He.ga K "frame_of"))
  g_text_at : mg "text_at" = some (.ref (He.ga K "text_at"))
  d_text_at : FunD K "text_at" "text_at" (defArgs st_text_at) (defBody st_text_at) (defScope st_text_at) [] [] (He.ga K "text_at") (fdOf K (He.ga K "text_at"))
  g_frames_by : mg "frames_by" = some (.ref (He.ga K "frames_by"))
  d_frames_by : FunD K "frames_by" "frames_by" (defArgs st_frames_by) (defBody st_frames_by) (defScope st_frames_by) [] [] (He.ga K "frames_by") (fdOf K (He.ga K "frames_by"))
  g_check_number : mg "check_number" = some (.ref (He.ga K "check_number"))
  d_check_number : FunD K "check_number" "check_number" (defArgs st_check_number) (defBody st_check_number) (defScope st_check_number) [] [] (He.ga K "check_number") (fdOf K (He.ga K "check_number"))
  g_frame : mg "frame" = some (.ref (He.ga K "frame"))
  d_frame : FunD K "frame" "frame" (defArgs st_frame) (defBody st_frame) (defScope st_frame) [] [] (He.ga K "frame") (fdOf K (He.ga K "frame"))
  g_frames_in : mg "frames_in" = some (.ref (He.ga K "frames_in"))
  d_frames_in : FunD K "frames_in" "frames_in" (defArgs st_frames_in) (defBody st_frames_in) (defScope st_frames_in) [] [] (He.ga K "frames_in") (fdOf K (He.ga K "frames_in"))
  g_is_end : mg "is_end" = some (.ref (He.ga K "is_end"))
  d_is_end : FunD K "is_end" "is_end" (defArgs st_is_end) (defBody st_is_end) (defScope st_is_end) [] [] (He.ga K "is_end") (fdOf K (He.ga K "is_end"))
  g_whole_notes : mg "whole_notes" = some (.ref (He.ga K "whole_notes"))
  d_whole_notes : FunD K "whole_notes" "whole_notes" (defArgs st_whole_notes) (defBody st_whole_notes) (defScope st_whole_notes) [] [] (He.ga K "whole_notes") (fdOf K (He.ga K "whole_notes"))
  g_end_of : mg "end_of" = some (.ref (He.ga K "end_of"))
  d_end_of : FunD K "end_of" "end_of" (defArgs st_end_of) (defBody st_end_of) (defScope st_end_of) [] [] (He.ga K "end_of") (fdOf K (He.ga K "end_of"))
  g_trim_writes : mg "trim_writes" = some (.ref (He.ga K "trim_writes"))
  d_trim_writes : FunD K "trim_writes" "trim_writes" (defArgs st_trim_writes) (defBody st_trim_writes) (defScope st_trim_writes) [] [] (He.ga K "trim_writes") (fdOf K (He.ga K "trim_writes"))
  g_opened_by : mg "opened_by" = some (.ref (He.ga K "opened_by"))
  d_opened_by : FunD K "opened_by" "opened_by" (defArgs st_opened_by) (defBody st_opened_by) (defScope st_opened_by) [] [] (He.ga K "opened_by") (fdOf K (He.ga K "opened_by"))
  g_opened : mg "opened" = some (.ref (He.ga K "opened"))
  d_opened : FunD K "opened" "opened" (defArgs st_opened) (defBody st_opened) (defScope st_opened) [] [] (He.ga K "opened") (fdOf K (He.ga K "opened"))
  g__law_bag : mg "_law_bag" = some (.ref (He.ga K "_law_bag"))
  d__law_bag : FunD K "_law_bag" "_law_bag" (defArgs st__law_bag) (defBody st__law_bag) (defScope st__law_bag) [] [] (He.ga K "_law_bag") (fdOf K (He.ga K "_law_bag"))
  g__law_draw : mg "_law_draw" = some (.ref (He.ga K "_law_draw"))
  d__law_draw : FunD K "_law_draw" "_law_draw" (defArgs st__law_draw) (defBody st__law_draw) (defScope st__law_draw) [] [] (He.ga K "_law_draw") (fdOf K (He.ga K "_law_draw"))
  g__law_one : mg "_law_one" = some (.ref (He.ga K "_law_one"))
  d__law_one : FunD K "_law_one" "_law_one" (defArgs st__law_one) (defBody st__law_one) (defScope st__law_one) [] [] (He.ga K "_law_one") (fdOf K (He.ga K "_law_one"))
  g__law_same : mg "_law_same" = some (.ref (He.ga K "_law_same"))
  d__law_same : FunD K "_law_same" "_law_same" (defArgs st__law_same) (defBody st__law_same) (defScope st__law_same) [] [] (He.ga K "_law_same") (fdOf K (He.ga K "_law_same"))
  g__law_frame : mg "_law_frame" = some (.ref (He.ga K "_law_frame"))
  d__law_frame : FunD K "_law_frame" "_law_frame" (defArgs st__law_frame) (defBody st__law_frame) (defScope st__law_frame) [] [] (He.ga K "_law_frame") (fdOf K (He.ga K "_law_frame"))
  g__law_signs : mg "_law_signs" = some (.ref (He.ga K "_law_signs"))
  d__law_signs : FunD K "_law_signs" "_law_signs" (defArgs st__law_signs) (defBody st__law_signs) (defScope st__law_signs) [] [] (He.ga K "_law_signs") (fdOf K (He.ga K "_law_signs"))
  g__law_text_drawn : mg "_law_text_drawn" = some (.ref (He.ga K "_law_text_drawn"))
  d__law_text_drawn : FunD K "_law_text_drawn" "_law_text_drawn" (defArgs st__law_text_drawn) (defBody st__law_text_drawn) (defScope st__law_text_drawn) [] [] (He.ga K "_law_text_drawn") (fdOf K (He.ga K "_law_text_drawn"))
  g__law_put_sign : mg "_law_put_sign" = some (.ref (He.ga K "_law_put_sign"))
  d__law_put_sign : FunD K "_law_put_sign" "_law_put_sign" (defArgs st__law_put_sign) (defBody st__law_put_sign) (defScope st__law_put_sign) [] [] (He.ga K "_law_put_sign") (fdOf K (He.ga K "_law_put_sign"))
  g__law_kept_check : mg "_law_kept_check" = some (.ref (He.ga K "_law_kept_check"))
  d__law_kept_check : FunD K "_law_kept_check" "_law_kept_check" (defArgs st__law_kept_check) (defBody st__law_kept_check) (defScope st__law_kept_check) [] [] (He.ga K "_law_kept_check") (fdOf K (He.ga K "_law_kept_check"))
  g__law_stream_right : mg "_law_stream_right" = some (.ref (He.ga K "_law_stream_right"))
  d__law_stream_right : FunD K "_law_stream_right" "_law_stream_right" (defArgs st__law_stream_right) (defBody st__law_stream_right) (defScope st__law_stream_right) [] [] (He.ga K "_law_stream_right") (fdOf K (He.ga K "_law_stream_right"))
  g__law_bent_right : mg "_law_bent_right" = some (.ref (He.ga K "_law_bent_right"))
  d__law_bent_right : FunD K "_law_bent_right" "_law_bent_right" (defArgs st__law_bent_right) (defBody st__law_bent_right) (defScope st__law_bent_right) [] [] (He.ga K "_law_bent_right") (fdOf K (He.ga K "_law_bent_right"))
  g__law_refused : mg "_law_refused" = some (.ref (He.ga K "_law_refused"))
  d__law_refused : FunD K "_law_refused" "_law_refused" (defArgs st__law_refused) (defBody st__law_refused) (defScope st__law_refused) [] [] (He.ga K "_law_refused") (fdOf K (He.ga K "_law_refused"))
  g__law_right : mg "_law_right" = some (.ref (He.ga K "_law_right"))
  d__law_right : FunD K "_law_right" "_law_right" (defArgs st__law_right) (defBody st__law_right) (defScope st__law_right) [] [] (He.ga K "_law_right") (fdOf K (He.ga K "_law_right"))
  g_law : mg "law" = some (.ref (He.ga K "law"))
  d_law : FunD K "law" "law" (defArgs st_law) (defBody st_law) (defScope st_law) [] [] (He.ga K "law") (fdOf K (He.ga K "law"))
  e_InvalidText : ErrK K mg "InvalidText" "given" (He.ga K "InvalidText") (He.ma K (He.ga K "InvalidText") "__init__")
  n_InvalidText : FunD K "__init__" "InvalidText.__init__" (defArgs in_InvalidText) (defBody in_InvalidText) (defScope in_InvalidText) [] [] (He.ma K (He.ga K "InvalidText") "__init__") (fdOf K (He.ma K (He.ga K "InvalidText") "__init__"))
  x_InvalidText : PySem.W.exmOne K (.ref (He.ga K "InvalidText")) (.ref (He.ga K "InvalidText")) = some true
  tab__law_right : TabB base mg (He.cT K ("_law_right", none)).1 (He.cT K ("_law_right", none)).2
  code__law_right : (fdOf K (He.ga K "_law_right")).code = .ref (He.cT K ("_law_right", none)).1
  mem__law_right : (((He.cT K ("_law_right", none)).2, "_law_right.<locals>.<lambda>") : Addr × Str) ∈ T
  uni__law_right : ∀ p ∈ T, p.1 = (He.cT K ("_law_right", none)).2 → p.2 = "_law_right.<locals>.<lambda>"
section
variable {P : Program} {w : World} {K : Fg} {mg : Str → Option Value} {base : Heap} {T : Tb}
theorem okI_InvalidText (t : Tx P w K mg base T) : FnOk P w K mg base (L2.CX P w) 1 (He.ma K (He.ga K "InvalidText") "__init__") (fdOf K (He.ma K (He.ga K "InvalidText") "__init__")) ["self", "given"] (spI (He.ga K "InvalidText") "given") := ok_init (k := 0) t.e_InvalidText t.n_InvalidText (C8.fnScope_by (by decide +kernel))
theorem bdI_InvalidText (t : Tx P w K mg base T) : L2.Binds K (fdOf K (He.ma K (He.ga K "InvalidText") "__init__")) ["self", "given"] [] := t.n_InvalidText.bindsN fun _ _ _ _ _ _ us hl => match us, hl with | [_, _], _ => rfl
theorem bd_is_text_of (t : Tx P w K mg base T) : L2.Binds K (fdOf K (He.ga K "is_text_of")) ["value", "signs"] [] := t.d_is_text_of.bindsN fun _ _ _ _ _ _ us hl => match us, hl with | [_, _], _ => rfl
theorem bd_is_signed (t : Tx P w K mg base T) : L2.Binds K (fdOf K (He.ga K "is_signed")) ["value"] [] := t.d_is_signed.bindsN fun _ _ _ _ _ _ us hl => match us, hl with | [_], _ => rfl
theorem bd_check_text (t : Tx P w K mg base T) : L2.Binds K (fdOf K (He.ga K "check_text")) ["text"] [] := t.d_check_text.bindsN fun _ _ _ _ _ _ us hl => match us, hl with | [_], _ => rfl
theorem bd_check_signs (t : Tx P w K mg base T) : L2.Binds K (fdOf K (He.ga K "check_signs")) ["text"] [] := t.d_check_signs.bindsN fun _ _ _ _ _ _ us hl => match us, hl with | [_], _ => rfl
theorem bd_check_of (t : Tx P w K mg base T) : L2.Binds K (fdOf K (He.ga K "check_of")) ["text"] [] := t.d_check_of.bindsN fun _ _ _ _ _ _ us hl => match us, hl with | [_], _ => rfl
theorem bd_frame_of (t : Tx P w K mg base T) : L2.Binds K (fdOf K (He.ga K "frame_of")) ["text"] [] := t.d_frame_of.bindsN fun _ _ _ _ _ _ us hl => match us, hl with | [_], _ => rfl
theorem bd_text_at (t : Tx P w K mg base T) : L2.Binds K (fdOf K (He.ga K "text_at")) ["stream", "start"] [] := t.d_text_at.bindsN fun _ _ _ _ _ _ us hl => match us, hl with | [_, _], _ => rfl
theorem bd_frames_by (t : Tx P w K mg base T) : L2.Binds K (fdOf K (He.ga K "frames_by")) ["stream"] [] := t.d_frames_by.bindsN fun _ _ _ _ _ _ us hl => match us, hl with | [_], _ => rfl
theorem bd_check_number (t : Tx P w K mg base T) : L2.Binds K (fdOf K (He.ga K "check_number")) ["text"] [] := t.d_check_number.bindsN fun _ _ _ _ _ _ us hl => match us, hl with | [_], _ => rfl
theorem bd_frame (t : Tx P w K mg base T) : L2.Binds K (fdOf K (He.ga K "frame")) ["text"] [] := t.d_frame.bindsN fun _ _ _ _ _ _ us hl => match us, hl with | [_], _ => rfl
theorem bd_frames_in (t : Tx P w K mg base T) : L2.Binds K (fdOf K (He.ga K "frames_in")) ["text"] [] := t.d_frames_in.bindsN fun _ _ _ _ _ _ us hl => match us, hl with | [_], _ => rfl
theorem bd_is_end (t : Tx P w K mg base T) : L2.Binds K (fdOf K (He.ga K "is_end")) ["note"] [] := t.d_is_end.bindsN fun _ _ _ _ _ _ us hl => match us, hl with | [_], _ => rfl
theorem bd_whole_notes (t : Tx P w K mg base T) : L2.Binds K (fdOf K (He.ga K "whole_notes")) ["log"] [] := t.d_whole_notes.bindsN fun _ _ _ _ _ _ us hl => match us, hl with | [_], _ => rfl
theorem bd_end_of (t : Tx P w K mg base T) : L2.Binds K (fdOf K (He.ga K "end_of")) ["notes"] [] := t.d_end_of.bindsN fun _ _ _ _ _ _ us hl => match us, hl with | [_], _ => rfl
theorem bd_trim_writes (t : Tx P w K mg base T) : L2.Binds K (fdOf K (He.ga K "trim_writes")) ["log", "end"] [] := t.d_trim_writes.bindsN fun _ _ _ _ _ _ us hl => match us, hl with | [_, _], _ => rfl
theorem bd_opened_by (t : Tx P w K mg base T) : L2.Binds K (fdOf K (He.ga K "opened_by")) ["log"] [] := t.d_opened_by.bindsN fun _ _ _ _ _ _ us hl => match us, hl with | [_], _ => rfl
theorem bd_opened (t : Tx P w K mg base T) : L2.Binds K (fdOf K (He.ga K "opened")) ["log"] [] := t.d_opened.bindsN fun _ _ _ _ _ _ us hl => match us, hl with | [_], _ => rfl
theorem bd__law_bag (t : Tx P w K mg base T) : L2.Binds K (fdOf K (He.ga K "_law_bag")) ["script", "at"] [] := t.d__law_bag.bindsN fun _ _ _ _ _ _ us hl => match us, hl with | [_, _], _ => rfl
theorem bd__law_draw (t : Tx P w K mg base T) : L2.Binds K (fdOf K (He.ga K "_law_draw")) ["bag", "many"] [] := t.d__law_draw.bindsN fun _ _ _ _ _ _ us hl => match us, hl with | [_, _], _ => rfl
theorem bd__law_one (t : Tx P w K mg base T) : L2.Binds K (fdOf K (He.ga K "_law_one")) ["bag", "some"] [] := t.d__law_one.bindsN fun _ _ _ _ _ _ us hl => match us, hl with | [_, _], _ => rfl
theorem bd__law_same (t : Tx P w K mg base T) : L2.Binds K (fdOf K (He.ga K "_law_same")) ["given", "due"] [] := t.d__law_same.bindsN fun _ _ _ _ _ _ us hl => match us, hl with | [_, _], _ => rfl
theorem bd__law_frame (t : Tx P w K mg base T) : L2.Binds K (fdOf K (He.ga K "_law_frame")) ["text"] [] := t.d__law_frame.bindsN fun _ _ _ _ _ _ us hl => match us, hl with | [_], _ => rfl
theorem bd__law_signs (t : Tx P w K mg base T) : L2.Binds K (fdOf K (He.ga K "_law_signs")) ([] : List Str) [] := t.d__law_signs.bindsN fun _ _ _ _ _ _ us hl => match us, hl with | [], _ => rfl
theorem bd__law_text_drawn (t : Tx P w K mg base T) : L2.Binds K (fdOf K (He.ga K "_law_text_drawn")) ["bag"] [] := t.d__law_text_drawn.bindsN fun _ _ _ _ _ _ us hl => match us, hl with | [_], _ => rfl
theorem bd__law_put_sign (t : Tx P w K mg base T) : L2.Binds K (fdOf K (He.ga K "_law_put_sign")) ["text", "at", "by"] [] := t.d__law_put_sign.bindsN fun _ _ _ _ _ _ us hl => match us, hl with | [_, _, _], _ => rfl
theorem bd__law_kept_check (t : Tx P w K mg base T) : L2.Binds K (fdOf K (He.ga K "_law_kept_check")) ["bag", "text"] [] := t.d__law_kept_check.bindsN fun _ _ _ _ _ _ us hl => match us, hl with | [_, _], _ => rfl
theorem bd__law_stream_right (t : Tx P w K mg base T) : L2.Binds K (fdOf K (He.ga K "_law_stream_right")) ["texts", "rest", "is_read"] [] := t.d__law_stream_right.bindsN fun _ _ _ _ _ _ us hl => match us, hl with | [_, _, _], _ => rfl
theorem bd__law_bent_right (t : Tx P w K mg base T) : L2.Binds K (fdOf K (He.ga K "_law_bent_right")) ["bag", "texts", "text"] [] := t.d__law_bent_right.bindsN fun _ _ _ _ _ _ us hl => match us, hl with | [_, _, _], _ => rfl
theorem bd__law_refused (t : Tx P w K mg base T) : L2.Binds K (fdOf K (He.ga K "_law_refused")) ["act"] [] := t.d__law_refused.bindsN fun _ _ _ _ _ _ us hl => match us, hl with | [_], _ => rfl
theorem bd__law_right (t : Tx P w K mg base T) : L2.Binds K (fdOf K (He.ga K "_law_right")) ["bag"] [] := t.d__law_right.bindsN fun _ _ _ _ _ _ us hl => match us, hl with | [_], _ => rfl
theorem bd_law (t : Tx P w K mg base T) : L2.Binds K (fdOf K (He.ga K "law")) ["script"] [] := t.d_law.bindsN fun _ _ _ _ _ _ us hl => match us, hl with | [_], _ => rfl
theorem kb_check_number_0_text (t : Tx P w K mg base T) : KBn K (fdOf K (He.ga K "check_number")) ["text"] 0 ["text"] (fun us ws => pickL [0] (us ++ ws)) (fun vs zs => pickL [0] (vs ++ zs)) := kb_of t.d_check_number [0] fun _ _ _ _ _ _ us ws l1 l2 => match us, ws, l1, l2 with | [], [_], _, _ => rfl
theorem kb_frame_0_text (t : Tx P w K mg base T) : KBn K (fdOf K (He.ga K "frame")) ["text"] 0 ["text"] (fun us ws => pickL [0] (us ++ ws)) (fun vs zs => pickL [0] (vs ++ zs)) := kb_of t.d_frame [0] fun _ _ _ _ _ _ us ws l1 l2 => match us, ws, l1, l2 with | [], [_], _, _ => rfl
theorem kb_frames_in_0_text (t : Tx P w K mg base T) : KBn K (fdOf K (He.ga K "frames_in")) ["text"] 0 ["text"] (fun us ws => pickL [0] (us ++ ws)) (fun vs zs => pickL [0] (vs ++ zs)) := kb_of t.d_frames_in [0] fun _ _ _ _ _ _ us ws l1 l2 => match us, ws, l1, l2 with | [], [_], _, _ => rfl
theorem ok_is_text_of (t : Tx P w K mg base T) : FnOk P w K mg base (L2.CX P w) 1 (He.ga K "is_text_of") (fdOf K (He.ga K "is_text_of")) ["value", "signs"] (spf T K (He.ga K) fl s_is_text_of) :=
  fn_law (m := m_is_text_of) t.d_is_text_of sc_is_text_of rfl rfl fun cdv A outer s H E Ad F0 hco hr =>
    (rss_one (rs_ret (re_and (re_isi (re_var 0) (re_ty t.f_str PyProof.Rows.Boot.«str») t.f_isinstance) (re_one (re_callB (cd_all rfl) (ra_cons (re_lc (own := [("sign", 2)]) sc_is_text_of.nd (ri_any (re_var 0)) (blkOk_by (by kernel_rfl)) (fun _ _ _ _ _ => (rn_name (i := 2) sc_is_text_of.nd)) (fun _ _ _ _ _ => rts_nil) (fun _ _ _ _ _ => (re_cmp od_in (re_var 2) (re_var 1)))) ra_nil) t.f_all PyProof.Rows.Boot.«all»)))))
theorem ok_is_signed (t : Tx P w K mg base T) : FnOk P w K mg base (L2.CX P w) 2 (He.ga K "is_signed") (fdOf K (He.ga K "is_signed")) ["value"] (spf T K (He.ga K) fl s_is_signed) :=
  fn_law (m := m_is_signed) t.d_is_signed sc_is_signed rfl rfl fun cdv A outer s H E Ad F0 hco hr =>
    (rss_one (rs_ret (re_callP (ok_is_text_of t) (hr.mono (by decide)) (L2.takes_of rfl rfl rfl rfl) t.g_is_text_of t.d_is_text_of.kp (bd_is_text_of t) (ra_cons (re_var 0) (ra_cons (re_gstr t.i_SIGNS) ra_nil)) rfl (many_cons (many_cons many_nil)))))
theorem ok_check_text (t : Tx P w K mg base T) : FnOk P w K mg base (L2.CX P w) 3 (He.ga K "check_text") (fdOf K (He.ga K "check_text")) ["text"] (spf T K (He.ga K) fl s_check_text) :=
  fn_law (m := m_check_text) t.d_check_text sc_check_text rfl rfl fun cdv A outer s H E Ad F0 hco hr =>
    (rss_one (rs_if (rt_not (rt_val (re_isi (re_var 0) (re_ty t.f_str PyProof.Rows.Boot.«str») t.f_isinstance))) (rss_one (rs_raise t.e_InvalidText (okI_InvalidText t) (bdI_InvalidText t) (hr.mono (by decide)) (L2.takes_of rfl rfl rfl rfl) rfl rfl (ra_cons (re_var 0) ra_nil))) rss_nil))
theorem ok_check_signs (t : Tx P w K mg base T) : FnOk P w K mg base (L2.CX P w) 3 (He.ga K "check_signs") (fdOf K (He.ga K "check_signs")) ["text"] (spf T K (He.ga K) fl s_check_signs) :=
  fn_law (m := m_check_signs) t.d_check_signs sc_check_signs rfl rfl fun cdv A outer s H E Ad F0 hco hr =>
    (rss_one (rs_if (rt_not (rt_val (re_callP (ok_is_signed t) (hr.mono (by decide)) (L2.takes_of rfl rfl rfl rfl) t.g_is_signed t.d_is_signed.kp (bd_is_signed t) (ra_cons (re_var 0) ra_nil) rfl (many_cons many_nil)))) (rss_one (rs_raise t.e_InvalidText (okI_InvalidText t) (bdI_InvalidText t) (hr.mono (by decide)) (L2.takes_of rfl rfl rfl rfl) rfl rfl (ra_cons (re_var 0) ra_nil))) rss_nil))
theorem ok_check_of (t : Tx P w K mg base T) : FnOk P w K mg base (L2.CX P w) 1 (He.ga K "check_of") (fdOf K (He.ga K "check_of")) ["text"] (spf T K (He.ga K) fl s_check_of) :=
  fn_law (m := m_check_of) t.d_check_of sc_check_of rfl rfl fun cdv A outer s H E Ad F0 hco hr =>
    (rss_one (rs_ret (re_op od_mod (re_callB (cd_sum rfl) (ra_cons (re_lc (own := [("place", 1), ("sign", 2)]) sc_check_of.nd (ri_en2 t.f_enumerate (ra_cons (re_var 0) (ra_cons re_int ra_nil))) (blkOk_by (by kernel_rfl)) (fun _ _ _ _ _ => (rn_tup (rns_cons (rn_name (i := 1) sc_check_of.nd) (rns_cons (rn_name (i := 2) sc_check_of.nd) rns_nil)))) (fun _ _ _ _ _ => rts_nil) (fun _ _ _ _ _ => (re_op od_mul (re_var 1) (re_op od_add (re_meth md_index PySem.F.plainAttrs_str PySem.F.slot_str_index PySem.F.type_str_index (re_gstr t.i_SIGNS) (ra_cons (re_var 2) ra_nil)) re_int)))) ra_nil) t.f_sum PyProof.Rows.Boot.«sum») (re_gint t.i_MODULUS))))
theorem ok_frame_of (t : Tx P w K mg base T) : FnOk P w K mg base (L2.CX P w) 2 (He.ga K "frame_of") (fdOf K (He.ga K "frame_of")) ["text"] (spf T K (He.ga K) fl s_frame_of) :=
  fn_law (m := m_frame_of) t.d_frame_of sc_frame_of rfl rfl fun cdv A outer s H E Ad F0 hco hr =>
    (rss_one (rs_ret (re_op od_add (re_op od_add (re_meth md_zfill PySem.F.plainAttrs_str PySem.F.slot_str_zfill PySem.F.type_str_zfill (re_callTy cd_str (ra_cons (re_callB cd_len (ra_cons (re_var 0) ra_nil) t.f_len PyProof.Rows.Boot.«len») ra_nil) t.f_str PyProof.Rows.Boot.«str») (ra_cons (re_gint t.i_LENGTH_DIGITS) ra_nil)) (re_meth md_zfill PySem.F.plainAttrs_str PySem.F.slot_str_zfill PySem.F.type_str_zfill (re_callTy cd_str (ra_cons (re_callP (ok_check_of t) (hr.mono (by decide)) (L2.takes_of rfl rfl rfl rfl) t.g_check_of t.d_check_of.kp (bd_check_of t) (ra_cons (re_var 0) ra_nil) rfl (many_cons many_nil)) ra_nil) t.f_str PyProof.Rows.Boot.«str») (ra_cons (re_gint t.i_CHECK_DIGITS) ra_nil))) (re_var 0))))
theorem ok_text_at (t : Tx P w K mg base T) : FnOk P w K mg base (L2.CX P w) 2 (He.ga K "text_at") (fdOf K (He.ga K "text_at")) ["stream", "start"] (spf T K (He.ga K) fl s_text_at) :=
  fn_law (m := m_text_at) t.d_text_at sc_text_at rfl rfl fun cdv A outer s H E Ad F0 hco hr =>
    (rss_cons (rs_set (i := 2) (re_cut (re_var 0) (ro_some (re_var 1)) (ro_some (re_op od_add (re_var 1) (re_gint t.i_HEAD)))) sc_text_at.nd)
    (rss_cons (rs_if (RW.rt (rw_or (rt_cmp od_lt (re_callB cd_len (ra_cons (re_var 2) ra_nil) t.f_len PyProof.Rows.Boot.«len») (re_gint t.i_HEAD)) (rw_or1 (rt_not (rt_val (re_callP (ok_is_text_of t) (hr.mono (by decide)) (L2.takes_of rfl rfl rfl rfl) t.g_is_text_of t.d_is_text_of.kp (bd_is_text_of t) (ra_cons (re_var 2) (ra_cons (re_gstr t.i_DIGITS) ra_nil)) rfl (many_cons (many_cons many_nil)))))))) (rss_one (rs_ret re_non)) rss_nil)
    (rss_cons (rs_par2 (i := 3) (j := 4) (rl_cons (re_callTy cd_int (ra_cons (re_cut (re_var 2) ro_none (ro_some (re_gint t.i_LENGTH_DIGITS))) ra_nil) t.f_int PyProof.Rows.Boot.«int») (rl_cons (re_callTy cd_int (ra_cons (re_cut (re_var 2) (ro_some (re_gint t.i_LENGTH_DIGITS)) ro_none) ra_nil) t.f_int PyProof.Rows.Boot.«int») rl_nil)) sc_text_at.nd)
    (rss_cons (rs_set (i := 5) (re_cut (re_var 0) (ro_some (re_op od_add (re_var 1) (re_gint t.i_HEAD))) (ro_some (re_op od_add (re_op od_add (re_var 1) (re_gint t.i_HEAD)) (re_var 3)))) sc_text_at.nd)
    (rss_cons (rs_if (RW.rt (rw_or (rt_cmp (od_eq (u64 hr)) (re_var 3) re_int) (rw_or (rt_cmp od_lt (re_callB cd_len (ra_cons (re_var 5) ra_nil) t.f_len PyProof.Rows.Boot.«len») (re_var 3)) (rw_or1 (rt_not (rt_val (re_callP (ok_is_text_of t) (hr.mono (by decide)) (L2.takes_of rfl rfl rfl rfl) t.g_is_text_of t.d_is_text_of.kp (bd_is_text_of t) (ra_cons (re_var 5) (ra_cons (re_gstr t.i_SIGNS) ra_nil)) rfl (many_cons (many_cons many_nil))))))))) (rss_one (rs_ret re_non)) rss_nil)
    (rss_one (rs_ret (re_if (rt_cmp (od_eq (u64 hr)) (re_callP (ok_check_of t) (hr.mono (by decide)) (L2.takes_of rfl rfl rfl rfl) t.g_check_of t.d_check_of.kp (bd_check_of t) (ra_cons (re_var 5) ra_nil) rfl (many_cons many_nil)) (re_var 4)) (re_var 5) re_non))))))))
theorem ok_frames_by (t : Tx P w K mg base T) : FnOk P w K mg base (L2.CX P w) 3 (He.ga K "frames_by") (fdOf K (He.ga K "frames_by")) ["stream"] (spf T K (He.ga K) fl s_frames_by) :=
  fn_law (m := m_frames_by) t.d_frames_by sc_frames_by rfl rfl fun cdv A outer s H E Ad F0 hco hr =>
    (rss_cons (rs_par3 (i := 1) (j := 2) (l := 3) (rl_cons (re_lst ra_nil) (rl_cons re_int (rl_cons (re_callP (ok_text_at t) (hr.mono (by decide)) (L2.takes_of rfl rfl rfl rfl) t.g_text_at t.d_text_at.kp (bd_text_at t) (ra_cons (re_var 0) (ra_cons re_int ra_nil)) rfl (many_cons (many_cons many_nil))) rl_nil))) sc_frames_by.nd)
    (rss_cons (rs_whileF fuelF (rt_cmp od_isnot (re_var 3) re_non) (rss_cons (rs_drop (re_mut mu_append PySem.F.plainAttrs_list PySem.F.slot_list_append PySem.F.type_list_append (re_var 1) (ra_cons (re_var 3) ra_nil)))
    (rss_cons (rs_set (i := 2) (re_op od_add (re_op od_add (re_var 2) (re_gint t.i_HEAD)) (re_callB cd_len (ra_cons (re_var 3) ra_nil) t.f_len PyProof.Rows.Boot.«len»)) sc_frames_by.nd)
    (rss_one (rs_set (i := 3) (re_callP (ok_text_at t) (hr.mono (by decide)) (L2.takes_of rfl rfl rfl rfl) t.g_text_at t.d_text_at.kp (bd_text_at t) (ra_cons (re_var 0) (ra_cons (re_var 2) ra_nil)) rfl (many_cons (many_cons many_nil))) sc_frames_by.nd)))) (L2.passes_of rfl))
    (rss_one (rs_ret (re_tup (ra_cons (re_var 1) (ra_cons (re_var 2) ra_nil)))))))
theorem ok_check_number (t : Tx P w K mg base T) : FnOk P w K mg base (L2.CX P w) 4 (He.ga K "check_number") (fdOf K (He.ga K "check_number")) ["text"] (spf T K (He.ga K) fl s_check_number) :=
  fn_law (m := m_check_number) t.d_check_number sc_check_number rfl rfl fun cdv A outer s H E Ad F0 hco hr =>
    (rss_cons (rs_drop (re_callP (ok_check_signs t) (hr.mono (by decide)) (L2.takes_of rfl rfl rfl rfl) t.g_check_signs t.d_check_signs.kp (bd_check_signs t) (ra_cons (re_var 0) ra_nil) rfl (many_cons many_nil)))
    (rss_one (rs_ret (re_callP (ok_check_of t) (hr.mono (by decide)) (L2.takes_of rfl rfl rfl rfl) t.g_check_of t.d_check_of.kp (bd_check_of t) (ra_cons (re_var 0) ra_nil) rfl (many_cons many_nil)))))
theorem ok_frame (t : Tx P w K mg base T) : FnOk P w K mg base (L2.CX P w) 4 (He.ga K "frame") (fdOf K (He.ga K "frame")) ["text"] (spf T K (He.ga K) fl s_frame) :=
  fn_law (m := m_frame) t.d_frame sc_frame rfl rfl fun cdv A outer s H E Ad F0 hco hr =>
    (rss_cons (rs_drop (re_callP (ok_check_signs t) (hr.mono (by decide)) (L2.takes_of rfl rfl rfl rfl) t.g_check_signs t.d_check_signs.kp (bd_check_signs t) (ra_cons (re_var 0) ra_nil) rfl (many_cons many_nil)))
    (rss_cons (rs_if (rt_not (rt_chain od_le od_le re_int (re_callB cd_len (ra_cons (re_var 0) ra_nil) t.f_len PyProof.Rows.Boot.«len») (re_gint t.i_LONGEST_FRAMED))) (rss_one (rs_raise t.e_InvalidText (okI_InvalidText t) (bdI_InvalidText t) (hr.mono (by decide)) (L2.takes_of rfl rfl rfl rfl) rfl rfl (ra_cons (re_var 0) ra_nil))) rss_nil)
    (rss_one (rs_ret (re_callP (ok_frame_of t) (hr.mono (by decide)) (L2.takes_of rfl rfl rfl rfl) t.g_frame_of t.d_frame_of.kp (bd_frame_of t) (ra_cons (re_var 0) ra_nil) rfl (many_cons many_nil))))))
theorem ok_frames_in (t : Tx P w K mg base T) : FnOk P w K mg base (L2.CX P w) 4 (He.ga K "frames_in") (fdOf K (He.ga K "frames_in")) ["text"] (spf T K (He.ga K) fl s_frames_in) :=
  fn_law (m := m_frames_in) t.d_frames_in sc_frames_in rfl rfl fun cdv A outer s H E Ad F0 hco hr =>
    (rss_cons (rs_drop (re_callP (ok_check_text t) (hr.mono (by decide)) (L2.takes_of rfl rfl rfl rfl) t.g_check_text t.d_check_text.kp (bd_check_text t) (ra_cons (re_var 0) ra_nil) rfl (many_cons many_nil)))
    (rss_cons (rs_asg (re_callP (ok_frames_by t) (hr.mono (by decide)) (L2.takes_of rfl rfl rfl rfl) t.g_frames_by t.d_frames_by.kp (bd_frames_by t) (ra_cons (re_var 0) ra_nil) rfl (many_cons many_nil)) (rg_tup (rgs_cons (rg_name (i := 1) sc_frames_in.nd) (rgs_cons (rg_name (i := 2) sc_frames_in.nd) rgs_nil))))
    (rss_one (rs_ret (re_tup (ra_cons (re_callTy cd_tuple (ra_cons (re_var 1) ra_nil) t.f_tuple PyProof.Rows.Boot.«tuple») (ra_cons (re_var 2) ra_nil)))))))
theorem ok_is_end (t : Tx P w K mg base T) : FnOk P w K mg base (L2.CX P w) 1 (He.ga K "is_end") (fdOf K (He.ga K "is_end")) ["note"] (spf T K (He.ga K) fl s_is_end) :=
  fn_law (m := m_is_end) t.d_is_end sc_is_end rfl rfl fun cdv A outer s H E Ad F0 hco hr =>
    (rss_one (rs_ret (re_meth md_starts PySem.F.plainAttrs_str PySem.F.slot_str_startswith PySem.F.type_str_startswith (re_var 0) (ra_cons (re_op od_add (re_gstr t.i_OF_END) (re_gstr t.i_BLANK)) ra_nil))))
theorem ok_whole_notes (t : Tx P w K mg base T) : FnOk P w K mg base (L2.CX P w) 4 (He.ga K "whole_notes") (fdOf K (He.ga K "whole_notes")) ["log"] (spf T K (He.ga K) fl s_whole_notes) :=
  fn_law (m := m_whole_notes) t.d_whole_notes sc_whole_notes rfl rfl fun cdv A outer s H E Ad F0 hco hr =>
    (rss_cons (rs_asg (re_callP (ok_frames_by t) (hr.mono (by decide)) (L2.takes_of rfl rfl rfl rfl) t.g_frames_by t.d_frames_by.kp (bd_frames_by t) (ra_cons (re_var 0) ra_nil) rfl (many_cons many_nil)) (rg_tup (rgs_cons (rg_name (i := 1) sc_whole_notes.nd) (rgs_cons (rg_name (i := 2) sc_whole_notes.nd) rgs_nil))))
    (rss_one (rs_ret (re_cut (re_var 1) ro_none (ro_some (re_maxD (u64 hr) t.f_max (ra_cons (re_lc (own := [("index", 3), ("note", 4)]) sc_whole_notes.nd (ri_en2 t.f_enumerate (ra_cons (re_var 1) (ra_cons re_int ra_nil))) (blkOk_by (by kernel_rfl)) (fun _ _ _ _ _ => (rn_tup (rns_cons (rn_name (i := 3) sc_whole_notes.nd) (rns_cons (rn_name (i := 4) sc_whole_notes.nd) rns_nil)))) (fun _ _ _ _ _ => (rts_one (rt_val (re_callP (ok_is_end t) (hr.mono (by decide)) L2.takes0 t.g_is_end t.d_is_end.kp (bd_is_end t) (ra_cons (re_var 4) ra_nil) rfl (many_cons many_nil))))) (fun _ _ _ _ _ => (re_var 3))) ra_nil) (rk_cons re_int rk_nil)))))))
theorem ok_end_of (t : Tx P w K mg base T) : FnOk P w K mg base (L2.CX P w) 1 (He.ga K "end_of") (fdOf K (He.ga K "end_of")) ["notes"] (spf T K (He.ga K) fl s_end_of) :=
  fn_law (m := m_end_of) t.d_end_of sc_end_of rfl rfl fun cdv A outer s H E Ad F0 hco hr =>
    (rss_one (rs_ret (re_callB (cd_sum rfl) (ra_cons (re_lc (own := [("note", 1)]) sc_end_of.nd (ri_any (re_var 0)) (blkOk_by (by kernel_rfl)) (fun _ _ _ _ _ => (rn_name (i := 1) sc_end_of.nd)) (fun _ _ _ _ _ => rts_nil) (fun _ _ _ _ _ => (re_op od_add (re_gint t.i_HEAD) (re_callB cd_len (ra_cons (re_var 1) ra_nil) t.f_len PyProof.Rows.Boot.«len»)))) ra_nil) t.f_sum PyProof.Rows.Boot.«sum»)))
theorem ok_trim_writes (t : Tx P w K mg base T) : FnOk P w K mg base (L2.CX P w) 1 (He.ga K "trim_writes") (fdOf K (He.ga K "trim_writes")) ["log", "end"] (spf T K (He.ga K) fl s_trim_writes) :=
  fn_law (m := m_trim_writes) t.d_trim_writes sc_trim_writes rfl rfl fun cdv A outer s H E Ad F0 hco hr =>
    (rss_one (rs_ret (re_if (rt_cmp od_lt (re_var 1) (re_callB cd_len (ra_cons (re_var 0) ra_nil) t.f_len PyProof.Rows.Boot.«len»)) (re_lst (ra_cons (re_tup (ra_cons (re_gstr t.i_TRIM) (ra_cons (re_var 1) ra_nil))) ra_nil)) (re_lst ra_nil))))
theorem ok_opened_by (t : Tx P w K mg base T) : FnOk P w K mg base (L2.CX P w) 5 (He.ga K "opened_by") (fdOf K (He.ga K "opened_by")) ["log"] (spf T K (He.ga K) fl s_opened_by) :=
  fn_law (m := m_opened_by) t.d_opened_by sc_opened_by rfl rfl fun cdv A outer s H E Ad F0 hco hr =>
    (rss_cons (rs_set (i := 1) (re_callP (ok_whole_notes t) (hr.mono (by decide)) (L2.takes_of rfl rfl rfl rfl) t.g_whole_notes t.d_whole_notes.kp (bd_whole_notes t) (ra_cons (re_var 0) ra_nil) rfl (many_cons many_nil)) sc_opened_by.nd)
    (rss_one (rs_ret (re_tup (ra_cons (re_var 1) (ra_cons (re_callP (ok_end_of t) (hr.mono (by decide)) (L2.takes_of rfl rfl rfl rfl) t.g_end_of t.d_end_of.kp (bd_end_of t) (ra_cons (re_var 1) ra_nil) rfl (many_cons many_nil)) (ra_cons (re_callP (ok_trim_writes t) (hr.mono (by decide)) (L2.takes_of rfl rfl rfl rfl) t.g_trim_writes t.d_trim_writes.kp (bd_trim_writes t) (ra_cons (re_var 0) (ra_cons (re_callP (ok_end_of t) (hr.mono (by decide)) (L2.takes_of rfl rfl rfl rfl) t.g_end_of t.d_end_of.kp (bd_end_of t) (ra_cons (re_var 1) ra_nil) rfl (many_cons many_nil)) ra_nil)) rfl (many_cons (many_cons many_nil))) ra_nil)))))))
theorem ok_opened (t : Tx P w K mg base T) : FnOk P w K mg base (L2.CX P w) 6 (He.ga K "opened") (fdOf K (He.ga K "opened")) ["log"] (spf T K (He.ga K) fl s_opened) :=
  fn_law (m := m_opened) t.d_opened sc_opened rfl rfl fun cdv A outer s H E Ad F0 hco hr =>
    (rss_cons (rs_drop (re_callP (ok_check_signs t) (hr.mono (by decide)) (L2.takes_of rfl rfl rfl rfl) t.g_check_signs t.d_check_signs.kp (bd_check_signs t) (ra_cons (re_var 0) ra_nil) rfl (many_cons many_nil)))
    (rss_cons (rs_asg (re_callP (ok_opened_by t) (hr.mono (by decide)) (L2.takes_of rfl rfl rfl rfl) t.g_opened_by t.d_opened_by.kp (bd_opened_by t) (ra_cons (re_var 0) ra_nil) rfl (many_cons many_nil)) (rg_tup (rgs_cons (rg_name (i := 1) sc_opened.nd) (rgs_cons (rg_name (i := 2) sc_opened.nd) (rgs_cons (rg_name (i := 3) sc_opened.nd) rgs_nil)))))
    (rss_one (rs_ret (re_tup (ra_cons (re_callTy cd_tuple (ra_cons (re_var 1) ra_nil) t.f_tuple PyProof.Rows.Boot.«tuple») (ra_cons (re_var 2) (ra_cons (re_callTy cd_tuple (ra_cons (re_var 3) ra_nil) t.f_tuple PyProof.Rows.Boot.«tuple») ra_nil))))))))
theorem ok__law_bag (t : Tx P w K mg base T) : FnOk P w K mg base (L2.CX P w) 1 (He.ga K "_law_bag") (fdOf K (He.ga K "_law_bag")) ["script", "at"] (spf T K (He.ga K) fl s__law_bag) :=
  fn_law (m := m__law_bag) t.d__law_bag sc__law_bag rfl rfl fun cdv A outer s H E Ad F0 hco hr =>
    (rss_cons (rs_set (i := 2) (re_op od_add re_int (re_op od_mul re_int (re_var 1))) sc__law_bag.nd)
    (rss_cons (rs_for (ri_en1 t.f_enumerate (ra_cons (re_cut (re_var 0) ro_none (ro_some re_int)) ra_nil)) (rg_tup (rgs_cons (rg_name (i := 3) sc__law_bag.nd) (rgs_cons (rg_name (i := 4) sc__law_bag.nd) rgs_nil))) (rss_one (rs_set (i := 2) (re_op od_mod (re_callTy cd_int (ra_cons (re_op od_add (re_op od_add (re_op od_add (re_op od_mul (re_var 2) re_int) (re_op od_mod (re_callTy cd_int (ra_cons (re_var 4) ra_nil) t.f_int PyProof.Rows.Boot.«int») re_int)) (re_op od_mul re_int (re_var 3))) re_int) ra_nil) t.f_int PyProof.Rows.Boot.«int») re_int) sc__law_bag.nd)) (L2.passes_of rfl))
    (rss_cons (rs_set (i := 5) (re_if (rt_cmp od_lt (re_var 1) (re_callB cd_len (ra_cons (re_var 0) ra_nil) t.f_len PyProof.Rows.Boot.«len»)) (re_callTy cd_int (ra_cons (re_ix (re_var 0) (re_var 1)) ra_nil) t.f_int PyProof.Rows.Boot.«int») re_int) sc__law_bag.nd)
    (rss_cons (rs_set (i := 6) (re_if (rt_cmp od_ge (re_callB cd_abs (ra_cons (re_var 5) ra_nil) t.f_abs PyProof.Rows.Boot.«abs») (re_op od_pow re_int re_int)) (re_op od_mod (re_callB cd_abs (ra_cons (re_var 5) ra_nil) t.f_abs PyProof.Rows.Boot.«abs») re_int) re_int) sc__law_bag.nd)
    (rss_one (rs_ret (re_lst (ra_cons (re_var 6) (ra_cons (re_op od_mod (re_callTy cd_int (ra_cons (re_op od_add (re_var 2) (re_op od_mul re_int (re_op od_mod (re_callTy cd_int (ra_cons (re_var 5) ra_nil) t.f_int PyProof.Rows.Boot.«int») re_int))) ra_nil) t.f_int PyProof.Rows.Boot.«int») re_int) (ra_cons re_int ra_nil))))))))))
theorem ok__law_draw (t : Tx P w K mg base T) : FnOk P w K mg base (L2.CX P w) 1 (He.ga K "_law_draw") (fdOf K (He.ga K "_law_draw")) ["bag", "many"] (spf T K (He.ga K) fl s__law_draw) :=
  fn_law (m := m__law_draw) t.d__law_draw sc__law_draw rfl rfl fun cdv A outer s H E Ad F0 hco hr =>
    (rss_cons (rs_if (rt_cmp od_gt (re_ix (re_var 0) re_int) re_int) (rss_cons (rs_asg (re_callB cd_divmod (ra_cons (re_ix (re_var 0) re_int) (ra_cons (re_var 1) ra_nil)) t.f_divmod PyProof.Rows.Boot.«divmod») (rg_tup (rgs_cons (rg_sub (re_var 0) re_int) (rgs_cons (rg_name (i := 2) sc__law_draw.nd) rgs_nil))))
    (rss_one (rs_ret (re_var 2)))) rss_nil)
    (rss_cons (rs_asg (re_op od_add (re_ix (re_var 0) re_int) re_int) (rg_sub (re_var 0) re_int))
    (rss_cons (rs_set (i := 3) (re_callTy cd_int (ra_cons (re_ix (re_var 0) re_int) ra_nil) t.f_int PyProof.Rows.Boot.«int») sc__law_draw.nd)
    (rss_cons (rs_asg (re_op od_mod (re_callTy cd_int (ra_cons (re_op od_add (re_op od_add (re_op od_mul (re_var 3) (re_op od_add (re_op od_mod (re_callTy cd_int (ra_cons (re_var 3) ra_nil) t.f_int PyProof.Rows.Boot.«int») re_int) re_int)) (re_op od_mul re_int (re_ix (re_var 0) re_int))) re_int) ra_nil) t.f_int PyProof.Rows.Boot.«int») re_int) (rg_sub (re_var 0) re_int))
    (rss_one (rs_ret (re_op od_mod (re_callTy cd_int (ra_cons (re_op od_div (re_ix (re_var 0) re_int) re_int) ra_nil) t.f_int PyProof.Rows.Boot.«int») (re_var 1))))))))
theorem ok__law_one (t : Tx P w K mg base T) : FnOk P w K mg base (L2.CX P w) 2 (He.ga K "_law_one") (fdOf K (He.ga K "_law_one")) ["bag", "some"] (spf T K (He.ga K) fl s__law_one) :=
  fn_law (m := m__law_one) t.d__law_one sc__law_one rfl rfl fun cdv A outer s H E Ad F0 hco hr =>
    (rss_one (rs_ret (re_ix (re_var 1) (re_callIO (ok__law_draw t) (hr.mono (by decide)) (L2.takes_of rfl rfl rfl rfl) t.g__law_draw t.d__law_draw.kp (bd__law_draw t) (ra_cons (re_var 0) (ra_cons (re_callB cd_len (ra_cons (re_var 1) ra_nil) t.f_len PyProof.Rows.Boot.«len») ra_nil))))))
theorem ok__law_same (t : Tx P w K mg base T) : ∀ n : Nat, FnOk P w K mg base (L2.CX P w) (1 + n) (He.ga K "_law_same") (fdOf K (He.ga K "_law_same")) ["given", "due"] (spf T K (He.ga K) fl (s__law_same n))
  | 0 => fn_stk
  | n + 1 => by
    have ih := ok__law_same t n
    exact fn_law (m := m__law_same (s__law_same n)) t.d__law_same sc__law_same rfl rfl fun cdv A outer s H E Ad F0 hco hr =>
    (rss_cons (rs_if (rt_cmp od_is (re_var 1) re_non) (rss_one (rs_ret (re_cmp od_is (re_var 0) re_non))) rss_nil)
    (rss_cons (rs_if (RW.rt (rw_or (rt_val (re_isi (re_var 1) (re_ty t.f_tuple PyProof.Rows.Boot.«tuple») t.f_isinstance)) (rw_or1 (rt_val (re_isi (re_var 1) (re_ty t.f_list PyProof.Rows.Boot.«list») t.f_isinstance))))) (rss_cons (rs_set (i := 2) (re_if (rt_val (re_isi (re_var 1) (re_ty t.f_tuple PyProof.Rows.Boot.«tuple») t.f_isinstance)) (re_isi (re_var 0) (re_ty t.f_tuple PyProof.Rows.Boot.«tuple») t.f_isinstance) (re_isi (re_var 0) (re_ty t.f_list PyProof.Rows.Boot.«list») t.f_isinstance)) sc__law_same.nd)
    (rss_one (rs_ret (re_and (re_var 2) (re_and (re_cmp (od_eq (u64 hr)) (re_callB cd_len (ra_cons (re_var 0) ra_nil) t.f_len PyProof.Rows.Boot.«len») (re_callB cd_len (ra_cons (re_var 1) ra_nil) t.f_len PyProof.Rows.Boot.«len»)) (re_one (re_callB (cd_all rfl) (ra_cons (re_lc (own := [("k", 3)]) sc__law_same.nd (ri_range1 t.f_range (ra_cons (re_callB cd_len (ra_cons (re_var 1) ra_nil) t.f_len PyProof.Rows.Boot.«len») ra_nil)) (blkOk_by (by kernel_rfl)) (fun _ _ _ _ _ => (rn_name (i := 3) sc__law_same.nd)) (fun _ _ _ _ _ => rts_nil) (fun _ _ _ _ _ => (re_callP ih hr L2.takes0 t.g__law_same t.d__law_same.kp (bd__law_same t) (ra_cons (re_ix (re_var 0) (re_var 3)) (ra_cons (re_ix (re_var 1) (re_var 3)) ra_nil)) rfl (many_cons (many_cons many_nil))))) ra_nil) t.f_all PyProof.Rows.Boot.«all»))))))) rss_nil)
    (rss_cons (rs_if (rt_val (re_isi (re_var 1) (re_ty t.f_int PyProof.Rows.Boot.«int») t.f_isinstance)) (rss_one (rs_ret (re_and (re_isi (re_var 0) (re_ty t.f_int PyProof.Rows.Boot.«int») t.f_isinstance) (re_and (re_cmp (od_eq (u64 hr)) (re_isi (re_var 0) (re_ty t.f_bool PyProof.Rows.Boot.«bool») t.f_isinstance) (re_isi (re_var 1) (re_ty t.f_bool PyProof.Rows.Boot.«bool») t.f_isinstance)) (re_one (re_cmp (od_eq (u64 hr)) (re_var 0) (re_var 1))))))) rss_nil)
    (rss_one (rs_ret (re_and (re_isi (re_var 1) (re_ty t.f_str PyProof.Rows.Boot.«str») t.f_isinstance) (re_and (re_isi (re_var 0) (re_ty t.f_str PyProof.Rows.Boot.«str») t.f_isinstance) (re_one (re_cmp (od_eq (u64 hr)) (re_var 0) (re_var 1))))))))))
theorem ok__law_frame (t : Tx P w K mg base T) : FnOk P w K mg base (L2.CX P w) 1 (He.ga K "_law_frame") (fdOf K (He.ga K "_law_frame")) ["text"] (spf T K (He.ga K) fl s__law_frame) :=
  fn_law (m := m__law_frame) t.d__law_frame sc__law_frame rfl rfl fun cdv A outer s H E Ad F0 hco hr =>
    (rss_cons (rs_set (i := 1) re_str sc__law_frame.nd)
    (rss_cons (rs_set (i := 2) (re_callB (cd_sum rfl) (ra_cons (re_lc (own := [("k", 3), ("sign", 4)]) sc__law_frame.nd (ri_en1 t.f_enumerate (ra_cons (re_var 0) ra_nil)) (blkOk_by (by kernel_rfl)) (fun _ _ _ _ _ => (rn_tup (rns_cons (rn_name (i := 3) sc__law_frame.nd) (rns_cons (rn_name (i := 4) sc__law_frame.nd) rns_nil)))) (fun _ _ _ _ _ => rts_nil) (fun _ _ _ _ _ => (re_op od_mul (re_op od_add (re_var 3) re_int) (re_op od_add (re_meth md_index PySem.F.plainAttrs_str PySem.F.slot_str_index PySem.F.type_str_index (re_var 1) (ra_cons (re_var 4) ra_nil)) re_int)))) ra_nil) t.f_sum PyProof.Rows.Boot.«sum») sc__law_frame.nd)
    (rss_one (rs_ret (re_op od_add (re_op od_add (re_cut (re_callTy cd_str (ra_cons (re_op od_add re_int (re_callB cd_len (ra_cons (re_var 0) ra_nil) t.f_len PyProof.Rows.Boot.«len»)) ra_nil) t.f_str PyProof.Rows.Boot.«str») (ro_some re_int) ro_none) (re_cut (re_callTy cd_str (ra_cons (re_op od_add re_int (re_op od_mod (re_callTy cd_int (ra_cons (re_var 2) ra_nil) t.f_int PyProof.Rows.Boot.«int») re_int)) ra_nil) t.f_str PyProof.Rows.Boot.«str») (ro_some re_int) ro_none)) (re_var 0))))))
theorem ok__law_signs (t : Tx P w K mg base T) : FnOk P w K mg base (L2.CX P w) 1 (He.ga K "_law_signs") (fdOf K (He.ga K "_law_signs")) ([] : List Str) (spf T K (He.ga K) fl s__law_signs) :=
  fn_law (m := m__law_signs) t.d__law_signs sc__law_signs rfl rfl fun cdv A outer s H E Ad F0 hco hr =>
    (rss_one (rs_ret re_str))
theorem ok__law_text_drawn (t : Tx P w K mg base T) : FnOk P w K mg base (L2.CX P w) 3 (He.ga K "_law_text_drawn") (fdOf K (He.ga K "_law_text_drawn")) ["bag"] (spf T K (He.ga K) fl s__law_text_drawn) :=
  fn_law (m := m__law_text_drawn) t.d__law_text_drawn sc__law_text_drawn rfl rfl fun cdv A outer s H E Ad F0 hco hr =>
    (rss_cons (rs_set (i := 1) (re_callIO (ok__law_one t) (hr.mono (by decide)) (L2.takes_of rfl rfl rfl rfl) t.g__law_one t.d__law_one.kp (bd__law_one t) (ra_cons (re_var 0) (ra_cons (re_lst (ra_cons re_int (ra_cons re_int (ra_cons re_int (ra_cons (re_op od_add re_int (re_callIO (ok__law_draw t) (hr.mono (by decide)) (L2.takes_of rfl rfl rfl rfl) t.g__law_draw t.d__law_draw.kp (bd__law_draw t) (ra_cons (re_var 0) (ra_cons re_int ra_nil)))) (ra_cons (re_op od_add re_int (re_callIO (ok__law_draw t) (hr.mono (by decide)) (L2.takes_of rfl rfl rfl rfl) t.g__law_draw t.d__law_draw.kp (bd__law_draw t) (ra_cons (re_var 0) (ra_cons re_int ra_nil)))) (ra_cons (re_op od_add re_int (re_callIO (ok__law_draw t) (hr.mono (by decide)) (L2.takes_of rfl rfl rfl rfl) t.g__law_draw t.d__law_draw.kp (bd__law_draw t) (ra_cons (re_var 0) (ra_cons re_int ra_nil)))) (ra_cons re_int ra_nil)))))))) ra_nil))) sc__law_text_drawn.nd)
    (rss_cons (rs_if (rt_cmp od_lt (re_var 1) re_int) (rss_one (rs_ret (re_meth md_join PySem.F.plainAttrs_str PySem.F.slot_str_join PySem.F.type_str_join re_str (ra_cons (re_lc (own := [("turn", 3)]) sc__law_text_drawn.nd (ri_range1 t.f_range (ra_cons (re_var 1) ra_nil)) (blkOk_by (by kernel_rfl)) (fun _ _ _ _ _ => (rn_name (i := 3) sc__law_text_drawn.nd)) (fun _ _ _ _ _ => rts_nil) (fun _ _ _ _ _ => (re_callIO (ok__law_one t) (hr.mono (by decide)) L2.takes0 t.g__law_one t.d__law_one.kp (bd__law_one t) (ra_cons (re_var 0) (ra_cons (re_call0 (ok__law_signs t) (hr.mono (by decide)) L2.takes0 t.g__law_signs t.d__law_signs.kp (bd__law_signs t) rfl) ra_nil))))) ra_nil)))) rss_nil)
    (rss_cons (rs_set (i := 2) (re_meth md_join PySem.F.plainAttrs_str PySem.F.slot_str_join PySem.F.type_str_join re_str (ra_cons (re_lc (own := [("turn", 3)]) sc__law_text_drawn.nd (ri_range1 t.f_range (ra_cons re_int ra_nil)) (blkOk_by (by kernel_rfl)) (fun _ _ _ _ _ => (rn_name (i := 3) sc__law_text_drawn.nd)) (fun _ _ _ _ _ => rts_nil) (fun _ _ _ _ _ => (re_callIO (ok__law_one t) (hr.mono (by decide)) L2.takes0 t.g__law_one t.d__law_one.kp (bd__law_one t) (ra_cons (re_var 0) (ra_cons (re_call0 (ok__law_signs t) (hr.mono (by decide)) L2.takes0 t.g__law_signs t.d__law_signs.kp (bd__law_signs t) rfl) ra_nil))))) ra_nil)) sc__law_text_drawn.nd)
    (rss_one (rs_ret (re_cut (re_op od_mul (re_var 2) re_int) ro_none (ro_some (re_var 1))))))))
theorem ok__law_put_sign (t : Tx P w K mg base T) : FnOk P w K mg base (L2.CX P w) 2 (He.ga K "_law_put_sign") (fdOf K (He.ga K "_law_put_sign")) ["text", "at", "by"] (spf T K (He.ga K) fl s__law_put_sign) :=
  fn_law (m := m__law_put_sign) t.d__law_put_sign sc__law_put_sign rfl rfl fun cdv A outer s H E Ad F0 hco hr =>
    (rss_cons (rs_set (i := 3) (re_ix (re_call0 (ok__law_signs t) (hr.mono (by decide)) (L2.takes_of rfl rfl rfl rfl) t.g__law_signs t.d__law_signs.kp (bd__law_signs t) rfl) (re_op od_mod (re_callTy cd_int (ra_cons (re_op od_add (re_meth md_index PySem.F.plainAttrs_str PySem.F.slot_str_index PySem.F.type_str_index (re_call0 (ok__law_signs t) (hr.mono (by decide)) (L2.takes_of rfl rfl rfl rfl) t.g__law_signs t.d__law_signs.kp (bd__law_signs t) rfl) (ra_cons (re_ix (re_var 0) (re_var 1)) ra_nil)) (re_var 2)) ra_nil) t.f_int PyProof.Rows.Boot.«int») re_int)) sc__law_put_sign.nd)
    (rss_one (rs_ret (re_op od_add (re_op od_add (re_cut (re_var 0) ro_none (ro_some (re_var 1))) (re_var 3)) (re_cut (re_var 0) (ro_some (re_op od_add (re_var 1) re_int)) ro_none)))))
theorem ok__law_kept_check (t : Tx P w K mg base T) : FnOk P w K mg base (L2.CX P w) 3 (He.ga K "_law_kept_check") (fdOf K (He.ga K "_law_kept_check")) ["bag", "text"] (spf T K (He.ga K) fl s__law_kept_check) :=
  fn_law (m := m__law_kept_check) t.d__law_kept_check sc__law_kept_check rfl rfl fun cdv A outer s H E Ad F0 hco hr =>
    (rss_cons (rs_for (ri_range1 t.f_range (ra_cons (re_op od_div (re_callB cd_len (ra_cons (re_var 1) ra_nil) t.f_len PyProof.Rows.Boot.«len») re_int) ra_nil)) (rg_name (i := 2) sc__law_kept_check.nd) (rss_cons (rs_set (i := 3) (re_op od_mod (re_callTy cd_int (ra_cons (re_op od_add (re_var 2) (re_callIO (ok__law_draw t) (hr.mono (by decide)) (L2.takes_of rfl rfl rfl rfl) t.g__law_draw t.d__law_draw.kp (bd__law_draw t) (ra_cons (re_var 0) (ra_cons re_int ra_nil)))) ra_nil) t.f_int PyProof.Rows.Boot.«int») (re_callB (cd_max rfl) (ra_cons re_int (ra_cons (re_op od_div (re_callB cd_len (ra_cons (re_var 1) ra_nil) t.f_len PyProof.Rows.Boot.«len») re_int) ra_nil)) t.f_max PyProof.Rows.Boot.«max»)) sc__law_kept_check.nd)
    (rss_cons (rs_asg (re_lc (own := [("spot", 6)]) sc__law_kept_check.nd (ri_any (re_tup (ra_cons (re_var 3) (ra_cons (re_op od_add (re_op od_mul re_int (re_var 3)) re_int) ra_nil)))) (blkOk_by (by kernel_rfl)) (fun _ _ _ _ _ => (rn_name (i := 6) sc__law_kept_check.nd)) (fun _ _ _ _ _ => rts_nil) (fun _ _ _ _ _ => (re_meth md_index PySem.F.plainAttrs_str PySem.F.slot_str_index PySem.F.type_str_index (re_call0 (ok__law_signs t) (hr.mono (by decide)) L2.takes0 t.g__law_signs t.d__law_signs.kp (bd__law_signs t) rfl) (ra_cons (re_ix (re_var 1) (re_var 6)) ra_nil)))) (rg_tup (rgs_cons (rg_name (i := 4) sc__law_kept_check.nd) (rgs_cons (rg_name (i := 5) sc__law_kept_check.nd) rgs_nil))))
    (rss_one (rs_if (RW.rt (rw_and (rt_cmp od_lt (re_op od_add (re_var 4) re_int) re_int) (rw_and1 (rt_cmp od_gt (re_var 5) re_int)))) (rss_one (rs_ret (re_callP (ok__law_put_sign t) (hr.mono (by decide)) (L2.takes_of rfl rfl rfl rfl) t.g__law_put_sign t.d__law_put_sign.kp (bd__law_put_sign t) (ra_cons (re_callP (ok__law_put_sign t) (hr.mono (by decide)) (L2.takes_of rfl rfl rfl rfl) t.g__law_put_sign t.d__law_put_sign.kp (bd__law_put_sign t) (ra_cons (re_var 1) (ra_cons (re_var 3) (ra_cons re_int ra_nil))) rfl (many_cons (many_cons (many_cons many_nil)))) (ra_cons (re_op od_add (re_op od_mul re_int (re_var 3)) re_int) (ra_cons (re_neg re_int) ra_nil))) rfl (many_cons (many_cons (many_cons many_nil)))))) rss_nil)))) (L2.passes_of rfl))
    (rss_one (rs_ret (re_var 1))))
theorem ok__law_stream_right (t : Tx P w K mg base T) : FnOk P w K mg base (L2.CX P w) 10 (He.ga K "_law_stream_right") (fdOf K (He.ga K "_law_stream_right")) ["texts", "rest", "is_read"] (spf T K (He.ga K) fl s__law_stream_right) :=
  fn_law (m := m__law_stream_right) t.d__law_stream_right sc__law_stream_right rfl rfl fun cdv A outer s H E Ad F0 hco hr =>
    (rss_cons (rs_par2 (i := 3) (j := 4) (rl_cons re_str (rl_cons (re_lst ra_nil) rl_nil)) sc__law_stream_right.nd)
    (rss_cons (rs_for (ri_any (re_var 0)) (rg_name (i := 5) sc__law_stream_right.nd) (rss_cons (rs_set (i := 3) (re_op od_add (re_var 3) (re_callP (ok__law_frame t) (hr.mono (by decide)) (L2.takes_of rfl rfl rfl rfl) t.g__law_frame t.d__law_frame.kp (bd__law_frame t) (ra_cons (re_var 5) ra_nil) rfl (many_cons many_nil))) sc__law_stream_right.nd)
    (rss_one (rs_drop (re_mut mu_append PySem.F.plainAttrs_list PySem.F.slot_list_append PySem.F.type_list_append (re_var 4) (ra_cons (re_callB cd_len (ra_cons (re_var 3) ra_nil) t.f_len PyProof.Rows.Boot.«len») ra_nil))))) (L2.passes_of rfl))
    (rss_cons (rs_set (i := 6) (re_callP (ok_frames_in t) (hr.mono (by decide)) (L2.takes_of rfl rfl rfl rfl) t.g_frames_in t.d_frames_in.kp (bd_frames_in t) (ra_cons (re_op od_add (re_var 3) (re_var 1)) ra_nil) rfl (many_cons many_nil)) sc__law_stream_right.nd)
    (rss_cons (rs_if (rt_not (rt_val (re_var 2))) (rss_one (rs_ret (re_callP (ok__law_same t 8) (hr.mono (by decide)) (L2.takes_of rfl rfl rfl rfl) t.g__law_same t.d__law_same.kp (bd__law_same t) (ra_cons (re_var 6) (ra_cons (re_tup (ra_cons (re_callTy cd_tuple (ra_cons (re_var 0) ra_nil) t.f_tuple PyProof.Rows.Boot.«tuple») (ra_cons (re_callB cd_len (ra_cons (re_var 3) ra_nil) t.f_len PyProof.Rows.Boot.«len») ra_nil))) ra_nil)) rfl (many_cons (many_cons many_nil))))) rss_nil)
    (rss_one (rs_ret (re_and (re_cmp (od_eq (u64 hr)) (re_cut (re_ix (re_var 6) re_int) ro_none (ro_some (re_callB cd_len (ra_cons (re_var 0) ra_nil) t.f_len PyProof.Rows.Boot.«len»))) (re_callTy cd_tuple (ra_cons (re_var 0) ra_nil) t.f_tuple PyProof.Rows.Boot.«tuple»)) (re_and (re_cmp od_gt (re_callB cd_len (ra_cons (re_ix (re_var 6) re_int) ra_nil) t.f_len PyProof.Rows.Boot.«len») (re_callB cd_len (ra_cons (re_var 0) ra_nil) t.f_len PyProof.Rows.Boot.«len»)) (re_one (re_cmp od_gt (re_ix (re_var 6) re_int) (re_callB cd_len (ra_cons (re_var 3) ra_nil) t.f_len PyProof.Rows.Boot.«len»)))))))))))
theorem ok__law_bent_right (t : Tx P w K mg base T) : FnOk P w K mg base (L2.CX P w) 11 (He.ga K "_law_bent_right") (fdOf K (He.ga K "_law_bent_right")) ["bag", "texts", "text"] (spf T K (He.ga K) fl s__law_bent_right) :=
  fn_law (m := m__law_bent_right) t.d__law_bent_right sc__law_bent_right rfl rfl fun cdv A outer s H E Ad F0 hco hr =>
    (rss_cons (rs_par2 (i := 3) (j := 4) (rl_cons (re_callP (ok__law_frame t) (hr.mono (by decide)) (L2.takes_of rfl rfl rfl rfl) t.g__law_frame t.d__law_frame.kp (bd__law_frame t) (ra_cons (re_var 2) ra_nil) rfl (many_cons many_nil)) (rl_cons (re_callIO (ok__law_draw t) (hr.mono (by decide)) (L2.takes_of rfl rfl rfl rfl) t.g__law_draw t.d__law_draw.kp (bd__law_draw t) (ra_cons (re_var 0) (ra_cons (re_callB cd_len (ra_cons (re_var 2) ra_nil) t.f_len PyProof.Rows.Boot.«len») ra_nil))) rl_nil)) sc__law_bent_right.nd)
    (rss_cons (rs_set (i := 5) (re_callP (ok__law_put_sign t) (hr.mono (by decide)) (L2.takes_of rfl rfl rfl rfl) t.g__law_put_sign t.d__law_put_sign.kp (bd__law_put_sign t) (ra_cons (re_var 2) (ra_cons (re_var 4) (ra_cons (re_op od_add re_int (re_callIO (ok__law_draw t) (hr.mono (by decide)) (L2.takes_of rfl rfl rfl rfl) t.g__law_draw t.d__law_draw.kp (bd__law_draw t) (ra_cons (re_var 0) (ra_cons re_int ra_nil)))) ra_nil))) rfl (many_cons (many_cons (many_cons many_nil)))) sc__law_bent_right.nd)
    (rss_cons (rs_if (rt_not (rt_val (re_callP (ok__law_stream_right t) (hr.mono (by decide)) (L2.takes_of rfl rfl rfl rfl) t.g__law_stream_right t.d__law_stream_right.kp (bd__law_stream_right t) (ra_cons (re_var 1) (ra_cons (re_op od_add (re_op od_add (re_cut (re_var 3) ro_none (ro_some re_int)) (re_var 5)) (re_var 3)) (ra_cons (re_cmp (od_eq (u64 hr)) (re_op od_mod (re_callTy cd_int (ra_cons (re_op od_add (re_var 4) re_int) ra_nil) t.f_int PyProof.Rows.Boot.«int») re_int) re_int) ra_nil))) rfl (many_cons (many_cons (many_cons many_nil)))))) (rss_one (rs_ret re_bl)) rss_nil)
    (rss_cons (rs_set (i := 6) (re_callIO (ok__law_draw t) (hr.mono (by decide)) (L2.takes_of rfl rfl rfl rfl) t.g__law_draw t.d__law_draw.kp (bd__law_draw t) (ra_cons (re_var 0) (ra_cons (re_callB (cd_max rfl) (ra_cons re_int (ra_cons (re_op od_sub (re_callB cd_len (ra_cons (re_var 2) ra_nil) t.f_len PyProof.Rows.Boot.«len») re_int) ra_nil)) t.f_max PyProof.Rows.Boot.«max») ra_nil))) sc__law_bent_right.nd)
    (rss_cons (rs_set (i := 7) (re_op od_add (re_op od_add (re_cut (re_var 2) ro_none (ro_some (re_var 6))) (re_revS (re_cut (re_var 2) (ro_some (re_var 6)) (ro_some (re_op od_add (re_var 6) re_int))))) (re_cut (re_var 2) (ro_some (re_op od_add (re_var 6) re_int)) ro_none)) sc__law_bent_right.nd)
    (rss_cons (rs_if (rt_not (rt_val (re_callP (ok__law_stream_right t) (hr.mono (by decide)) (L2.takes_of rfl rfl rfl rfl) t.g__law_stream_right t.d__law_stream_right.kp (bd__law_stream_right t) (ra_cons (re_var 1) (ra_cons (re_op od_add (re_op od_add (re_cut (re_var 3) ro_none (ro_some re_int)) (re_var 7)) (re_var 3)) (ra_cons (re_cmp (od_eq (u64 hr)) (re_var 7) (re_var 2)) ra_nil))) rfl (many_cons (many_cons (many_cons many_nil)))))) (rss_one (rs_ret re_bl)) rss_nil)
    (rss_cons (rs_set (i := 8) (re_callIO (ok__law_kept_check t) (hr.mono (by decide)) (L2.takes_of rfl rfl rfl rfl) t.g__law_kept_check t.d__law_kept_check.kp (bd__law_kept_check t) (ra_cons (re_var 0) (ra_cons (re_var 2) ra_nil))) sc__law_bent_right.nd)
    (rss_cons (rs_set (i := 9) (re_meth md_join PySem.F.plainAttrs_str PySem.F.slot_str_join PySem.F.type_str_join re_str (ra_cons (re_lc (own := [("own", 12)]) sc__law_bent_right.nd (ri_any (re_var 1)) (blkOk_by (by kernel_rfl)) (fun _ _ _ _ _ => (rn_name (i := 12) sc__law_bent_right.nd)) (fun _ _ _ _ _ => rts_nil) (fun _ _ _ _ _ => (re_callP (ok__law_frame t) (hr.mono (by decide)) L2.takes0 t.g__law_frame t.d__law_frame.kp (bd__law_frame t) (ra_cons (re_var 12) ra_nil) rfl (many_cons many_nil)))) ra_nil)) sc__law_bent_right.nd)
    (rss_cons (rs_set (i := 10) (re_callK0 [0] (ok_frames_in t) (hr.mono (by decide)) (L2.takes_of rfl rfl rfl rfl) t.g_frames_in t.d_frames_in.kp (kb_frames_in_0_text t) (rk_cons (re_op od_add (re_op od_add (re_var 9) (re_cut (re_var 3) ro_none (ro_some re_int))) (re_var 8)) rk_nil) rfl (many_cons many_nil) (many_kw [0] many_nil (many_cons many_nil) (by decide))) sc__law_bent_right.nd)
    (rss_cons (rs_if (RW.rt (rw_or (rt_not (rt_val (re_callP (ok__law_same t 8) (hr.mono (by decide)) (L2.takes_of rfl rfl rfl rfl) t.g__law_same t.d__law_same.kp (bd__law_same t) (ra_cons (re_var 10) (ra_cons (re_tup (ra_cons (re_op od_add (re_callTy cd_tuple (ra_cons (re_var 1) ra_nil) t.f_tuple PyProof.Rows.Boot.«tuple») (re_tup (ra_cons (re_var 8) ra_nil))) (ra_cons (re_callB cd_len (ra_cons (re_op od_add (re_var 9) (re_var 3)) ra_nil) t.f_len PyProof.Rows.Boot.«len») ra_nil))) ra_nil)) rfl (many_cons (many_cons many_nil))))) (rw_or1 (rt_cmp (od_ne (u64 hr)) (re_callP (ok_check_number t) (hr.mono (by decide)) (L2.takes_of rfl rfl rfl rfl) t.g_check_number t.d_check_number.kp (bd_check_number t) (ra_cons (re_var 8) ra_nil) rfl (many_cons many_nil)) (re_callP (ok_check_number t) (hr.mono (by decide)) (L2.takes_of rfl rfl rfl rfl) t.g_check_number t.d_check_number.kp (bd_check_number t) (ra_cons (re_var 2) ra_nil) rfl (many_cons many_nil)))))) (rss_one (rs_ret re_bl)) rss_nil)
    (rss_cons (rs_set (i := 11) (re_lst (ra_cons (re_cut (re_var 3) ro_none (ro_some (re_callIO (ok__law_draw t) (hr.mono (by decide)) (L2.takes_of rfl rfl rfl rfl) t.g__law_draw t.d__law_draw.kp (bd__law_draw t) (ra_cons (re_var 0) (ra_cons (re_callB cd_len (ra_cons (re_var 3) ra_nil) t.f_len PyProof.Rows.Boot.«len») ra_nil))))) (ra_cons re_str (ra_cons (re_op od_add re_str (re_cut (re_var 3) (ro_some re_int) ro_none)) (ra_cons (re_op od_add (re_cut (re_callTy cd_str (ra_cons (re_op od_add re_int (re_callB cd_len (ra_cons (re_var 2) ra_nil) t.f_len PyProof.Rows.Boot.«len»)) ra_nil) t.f_str PyProof.Rows.Boot.«str») (ro_some re_int) ro_none) (re_cut (re_var 3) (ro_some re_int) ro_none)) ra_nil))))) sc__law_bent_right.nd)
    (rss_cons (rs_set (i := 11) (re_op od_add (re_var 11) (re_lst (ra_cons (re_op od_add (re_op od_add (re_cut (re_var 3) ro_none (ro_some re_int)) (re_cut (re_callTy cd_str (ra_cons (re_op od_add re_int (re_op od_mod (re_callTy cd_int (ra_cons (re_op od_add (re_callTy cd_int (ra_cons (re_cut (re_var 3) (ro_some re_int) (ro_some re_int)) ra_nil) t.f_int PyProof.Rows.Boot.«int») re_int) ra_nil) t.f_int PyProof.Rows.Boot.«int») re_int)) ra_nil) t.f_str PyProof.Rows.Boot.«str») (ro_some re_int) ro_none)) (re_var 2)) (ra_cons (re_op od_add re_str (re_var 3)) (ra_cons (re_op od_add re_str (re_var 3)) ra_nil))))) sc__law_bent_right.nd)
    (rss_one (rs_ret (re_callB (cd_all rfl) (ra_cons (re_lc (own := [("rest", 13)]) sc__law_bent_right.nd (ri_any (re_op od_add (re_cut (re_var 11) ro_none (ro_some re_int)) (re_lst (ra_cons (re_callIO (ok__law_one t) (hr.mono (by decide)) (L2.takes_of rfl rfl rfl rfl) t.g__law_one t.d__law_one.kp (bd__law_one t) (ra_cons (re_var 0) (ra_cons (re_cut (re_var 11) (ro_some re_int) ro_none) ra_nil))) ra_nil)))) (blkOk_by (by kernel_rfl)) (fun _ _ _ _ _ => (rn_name (i := 13) sc__law_bent_right.nd)) (fun _ _ _ _ _ => rts_nil) (fun _ _ _ _ _ => (re_callP (ok__law_stream_right t) (hr.mono (by decide)) L2.takes0 t.g__law_stream_right t.d__law_stream_right.kp (bd__law_stream_right t) (ra_cons (re_var 1) (ra_cons (re_var 13) (ra_cons re_bl ra_nil))) rfl (many_cons (many_cons (many_cons many_nil)))))) ra_nil) t.f_all PyProof.Rows.Boot.«all»)))))))))))))))
theorem ok__law_right (t : Tx P w K mg base T) : FnOk P w K mg base (L2.CX P w) 15 (He.ga K "_law_right") (fdOf K (He.ga K "_law_right")) ["bag"] (spf T K (He.ga K) fl s__law_right) :=
  fn_law (m := m__law_right) t.d__law_right sc__law_right rfl rfl fun cdv A outer s H E Ad F0 hco hr =>
    (rss_cons (rs_par2 (i := 1) (j := 2) (rl_cons (re_lst ra_nil) (rl_cons re_bl rl_nil)) sc__law_right.nd)
    (rss_cons (rs_for (ri_range1 t.f_range (ra_cons (re_op od_add re_int (re_callIO (ok__law_draw t) (hr.mono (by decide)) (L2.takes_of rfl rfl rfl rfl) t.g__law_draw t.d__law_draw.kp (bd__law_draw t) (ra_cons (re_var 0) (ra_cons re_int ra_nil)))) ra_nil)) (rg_name (i := 3) sc__law_right.nd) (rss_cons (rs_set (i := 4) (re_callIO (ok__law_text_drawn t) (hr.mono (by decide)) (L2.takes_of rfl rfl rfl rfl) t.g__law_text_drawn t.d__law_text_drawn.kp (bd__law_text_drawn t) (ra_cons (re_var 0) ra_nil)) sc__law_right.nd)
    (rss_cons (rs_drop (re_mut mu_append PySem.F.plainAttrs_list PySem.F.slot_list_append PySem.F.type_list_append (re_var 1) (ra_cons (re_if (rt_val (re_var 2)) (re_cut (re_var 4) ro_none (ro_some re_int)) (re_var 4)) ra_nil)))
    (rss_one (rs_set (i := 2) (re_or (re_var 2) (re_one (re_cmp od_gt (re_callB cd_len (ra_cons (re_var 4) ra_nil) t.f_len PyProof.Rows.Boot.«len») re_int))) sc__law_right.nd)))) (L2.passes_of rfl))
    (rss_cons (rs_for (ri_any (re_var 1)) (rg_name (i := 4) sc__law_right.nd) (rss_cons (rs_set (i := 5) (re_callP (ok__law_frame t) (hr.mono (by decide)) (L2.takes_of rfl rfl rfl rfl) t.g__law_frame t.d__law_frame.kp (bd__law_frame t) (ra_cons (re_var 4) ra_nil) rfl (many_cons many_nil)) sc__law_right.nd)
    (rss_cons (rs_if (rt_not (rt_val (re_callP (ok__law_same t 8) (hr.mono (by decide)) (L2.takes_of rfl rfl rfl rfl) t.g__law_same t.d__law_same.kp (bd__law_same t) (ra_cons (re_lst (ra_cons (re_callP (ok_frame t) (hr.mono (by decide)) (L2.takes_of rfl rfl rfl rfl) t.g_frame t.d_frame.kp (bd_frame t) (ra_cons (re_var 4) ra_nil) rfl (many_cons many_nil)) (ra_cons (re_callK0 [0] (ok_frame t) (hr.mono (by decide)) (L2.takes_of rfl rfl rfl rfl) t.g_frame t.d_frame.kp (kb_frame_0_text t) (rk_cons (re_var 4) rk_nil) rfl (many_cons many_nil) (many_kw [0] many_nil (many_cons many_nil) (by decide))) (ra_cons (re_callK0 [0] (ok_check_number t) (hr.mono (by decide)) (L2.takes_of rfl rfl rfl rfl) t.g_check_number t.d_check_number.kp (kb_check_number_0_text t) (rk_cons (re_var 4) rk_nil) rfl (many_cons many_nil) (many_kw [0] many_nil (many_cons many_nil) (by decide))) ra_nil)))) (ra_cons (re_lst (ra_cons (re_var 5) (ra_cons (re_var 5) (ra_cons (re_callTy cd_int (ra_cons (re_cut (re_var 5) (ro_some re_int) (ro_some re_int)) ra_nil) t.f_int PyProof.Rows.Boot.«int») ra_nil)))) ra_nil)) rfl (many_cons (many_cons many_nil))))) (rss_one (rs_ret re_bl)) rss_nil)
    (rss_one (rs_if (rt_not (rt_val (re_callIO (ok__law_bent_right t) (hr.mono (by decide)) (L2.takes_of rfl rfl rfl rfl) t.g__law_bent_right t.d__law_bent_right.kp (bd__law_bent_right t) (ra_cons (re_var 0) (ra_cons (re_var 1) (ra_cons (re_var 4) ra_nil)))))) (rss_one (rs_ret re_bl)) rss_nil)))) (L2.passes_of rfl))
    (rss_cons (rs_set (i := 6) (re_meth md_join PySem.F.plainAttrs_str PySem.F.slot_str_join PySem.F.type_str_join re_str (ra_cons (re_lc (own := [("text", 4)]) sc__law_right.nd (ri_any (re_var 1)) (blkOk_by (by kernel_rfl)) (fun _ _ _ _ _ => (rn_name (i := 4) sc__law_right.nd)) (fun _ _ _ _ _ => rts_nil) (fun _ _ _ _ _ => (re_callP (ok__law_frame t) (hr.mono (by decide)) L2.takes0 t.g__law_frame t.d__law_frame.kp (bd__law_frame t) (ra_cons (re_var 4) ra_nil) rfl (many_cons many_nil)))) ra_nil)) sc__law_right.nd)
    (rss_cons (rs_for (ri_range1 t.f_range (ra_cons re_int ra_nil)) (rg_name (i := 3) sc__law_right.nd) (rss_cons (rs_set (i := 7) (re_callIO (ok__law_draw t) (hr.mono (by decide)) (L2.takes_of rfl rfl rfl rfl) t.g__law_draw t.d__law_draw.kp (bd__law_draw t) (ra_cons (re_var 0) (ra_cons (re_op od_add (re_callB cd_len (ra_cons (re_var 6) ra_nil) t.f_len PyProof.Rows.Boot.«len») re_int) ra_nil))) sc__law_right.nd)
    (rss_cons (rs_par2 (i := 8) (j := 9) (rl_cons (re_lst ra_nil) (rl_cons re_int rl_nil)) sc__law_right.nd)
    (rss_cons (rs_for (ri_en1 t.f_enumerate (ra_cons (re_var 1) ra_nil)) (rg_tup (rgs_cons (rg_name (i := 10) sc__law_right.nd) (rgs_cons (rg_name (i := 4) sc__law_right.nd) rgs_nil))) (rss_one (rs_if (RW.rt (rw_and (rt_cmp (od_eq (u64 hr)) (re_callB cd_len (ra_cons (re_var 8) ra_nil) t.f_len PyProof.Rows.Boot.«len») (re_var 10)) (rw_and1 (rt_cmp od_le (re_op od_add (re_op od_add (re_var 9) (re_callB cd_len (ra_cons (re_var 4) ra_nil) t.f_len PyProof.Rows.Boot.«len»)) re_int) (re_var 7))))) (rss_one (rs_par2 (i := 8) (j := 9) (rl_cons (re_op od_add (re_var 8) (re_lst (ra_cons (re_var 4) ra_nil))) (rl_cons (re_op od_add (re_op od_add (re_var 9) (re_callB cd_len (ra_cons (re_var 4) ra_nil) t.f_len PyProof.Rows.Boot.«len»)) re_int) rl_nil)) sc__law_right.nd)) rss_nil)) (L2.passes_of rfl))
    (rss_one (rs_if (rt_not (rt_val (re_callP (ok__law_same t 8) (hr.mono (by decide)) (L2.takes_of rfl rfl rfl rfl) t.g__law_same t.d__law_same.kp (bd__law_same t) (ra_cons (re_callP (ok_frames_in t) (hr.mono (by decide)) (L2.takes_of rfl rfl rfl rfl) t.g_frames_in t.d_frames_in.kp (bd_frames_in t) (ra_cons (re_cut (re_var 6) ro_none (ro_some (re_var 7))) ra_nil) rfl (many_cons many_nil)) (ra_cons (re_tup (ra_cons (re_callTy cd_tuple (ra_cons (re_var 8) ra_nil) t.f_tuple PyProof.Rows.Boot.«tuple») (ra_cons (re_var 9) ra_nil))) ra_nil)) rfl (many_cons (many_cons many_nil))))) (rss_one (rs_ret re_bl)) rss_nil))))) (L2.passes_of rfl))
    (rss_cons (rs_parG (is := [11, 12]) (rl_cons (re_callIO (ok__law_one t) (hr.mono (by decide)) (L2.takes_of rfl rfl rfl rfl) t.g__law_one t.d__law_one.kp (bd__law_one t) (ra_cons (re_var 0) (ra_cons (re_lst (ra_cons re_non (ra_cons re_int (ra_cons re_str (ra_cons re_str (ra_cons re_str (ra_cons (re_tup (ra_cons re_str ra_nil)) ra_nil))))))) ra_nil))) (rl_cons (re_callIO (ok__law_one t) (hr.mono (by decide)) (L2.takes_of rfl rfl rfl rfl) t.g__law_one t.d__law_one.kp (bd__law_one t) (ra_cons (re_var 0) (ra_cons (re_lst (ra_cons re_non (ra_cons re_int (ra_cons (re_tup (ra_cons re_str ra_nil)) (ra_cons re_bl ra_nil))))) ra_nil))) rl_nil)) (L2.pg_tup rfl (L2.pgs_cons (L2.pg_name (i := 11) sc__law_right.nd rfl (by first | exact Or.inl rfl | exact Or.inr rfl) (.inl rfl)) (L2.pgs_cons (L2.pg_name (i := 12) sc__law_right.nd rfl (by first | exact Or.inl rfl | exact Or.inr rfl) (.inl rfl)) L2.pgs_nil))))
    (rss_cons (rs_set (i := 13) (re_lst (ra_cons (re_ref (k := 12) t.e_InvalidText rfl rfl t.x_InvalidText t.g__law_refused t.d__law_refused (bd__law_refused t) sc__law_refused rfl (.inl rfl) (fun cdv => ref_gives t.e_InvalidText rfl (by decide) rfl rfl rfl (by decide) (by decide) (by decide)) t.tab__law_right (hco.symm.trans t.code__law_right) (t.mem__law_right) (t.uni__law_right) (hr.mono (by decide)) (lamS_by (by kernel_rfl)) (fun A outer s H E f c hr2 => (re_callP (ok_frame t) (hr2.mono (by decide)) (L2.takes_of rfl rfl rfl rfl) t.g_frame t.d_frame.kp (bd_frame t) (ra_cons (re_var 11) ra_nil) rfl (many_cons many_nil)))) ra_nil)) sc__law_right.nd)
    (rss_cons (rs_drop (re_mut mu_append PySem.F.plainAttrs_list PySem.F.slot_list_append PySem.F.type_list_append (re_var 13) (ra_cons (re_ref (k := 12) t.e_InvalidText rfl rfl t.x_InvalidText t.g__law_refused t.d__law_refused (bd__law_refused t) sc__law_refused rfl (.inl rfl) (fun cdv => ref_gives t.e_InvalidText rfl (by decide) rfl rfl rfl (by decide) (by decide) (by decide)) t.tab__law_right (hco.symm.trans t.code__law_right) (t.mem__law_right) (t.uni__law_right) (hr.mono (by decide)) (lamS_by (by kernel_rfl)) (fun A outer s H E f c hr2 => (re_callP (ok_frames_in t) (hr2.mono (by decide)) (L2.takes_of rfl rfl rfl rfl) t.g_frames_in t.d_frames_in.kp (bd_frames_in t) (ra_cons (re_var 12) ra_nil) rfl (many_cons many_nil)))) ra_nil)))
    (rss_cons (rs_drop (re_mut mu_append PySem.F.plainAttrs_list PySem.F.slot_list_append PySem.F.type_list_append (re_var 13) (ra_cons (re_ref (k := 12) t.e_InvalidText rfl rfl t.x_InvalidText t.g__law_refused t.d__law_refused (bd__law_refused t) sc__law_refused rfl (.inl rfl) (fun cdv => ref_gives t.e_InvalidText rfl (by decide) rfl rfl rfl (by decide) (by decide) (by decide)) t.tab__law_right (hco.symm.trans t.code__law_right) (t.mem__law_right) (t.uni__law_right) (hr.mono (by decide)) (lamS_by (by kernel_rfl)) (fun A outer s H E f c hr2 => (re_callP (ok_opened t) (hr2.mono (by decide)) (L2.takes_of rfl rfl rfl rfl) t.g_opened t.d_opened.kp (bd_opened t) (ra_cons (re_var 11) ra_nil) rfl (many_cons many_nil)))) ra_nil)))
    (rss_cons (rs_drop (re_mut mu_append PySem.F.plainAttrs_list PySem.F.slot_list_append PySem.F.type_list_append (re_var 13) (ra_cons (re_ref (k := 12) t.e_InvalidText rfl rfl t.x_InvalidText t.g__law_refused t.d__law_refused (bd__law_refused t) sc__law_refused rfl (.inl rfl) (fun cdv => ref_gives t.e_InvalidText rfl (by decide) rfl rfl rfl (by decide) (by decide) (by decide)) t.tab__law_right (hco.symm.trans t.code__law_right) (t.mem__law_right) (t.uni__law_right) (hr.mono (by decide)) (lamS_by (by kernel_rfl)) (fun A outer s H E f c hr2 => (re_callP (ok_frame t) (hr2.mono (by decide)) (L2.takes_of rfl rfl rfl rfl) t.g_frame t.d_frame.kp (bd_frame t) (ra_cons re_str ra_nil) rfl (many_cons many_nil)))) ra_nil)))
    (rss_cons (rs_drop (re_mut mu_append PySem.F.plainAttrs_list PySem.F.slot_list_append PySem.F.type_list_append (re_var 13) (ra_cons (re_ref (k := 12) t.e_InvalidText rfl rfl t.x_InvalidText t.g__law_refused t.d__law_refused (bd__law_refused t) sc__law_refused rfl (.inl rfl) (fun cdv => ref_gives t.e_InvalidText rfl (by decide) rfl rfl rfl (by decide) (by decide) (by decide)) t.tab__law_right (hco.symm.trans t.code__law_right) (t.mem__law_right) (t.uni__law_right) (hr.mono (by decide)) (lamS_by (by kernel_rfl)) (fun A outer s H E f c hr2 => (re_callP (ok_frame t) (hr2.mono (by decide)) (L2.takes_of rfl rfl rfl rfl) t.g_frame t.d_frame.kp (bd_frame t) (ra_cons (re_op od_mul re_str re_int) ra_nil) rfl (many_cons many_nil)))) ra_nil)))
    (rss_one (rs_ret (re_and (re_callP (ok__law_same t 8) (hr.mono (by decide)) (L2.takes_of rfl rfl rfl rfl) t.g__law_same t.d__law_same.kp (bd__law_same t) (ra_cons (re_var 13) (ra_cons (re_lst (ra_cons (re_lst (ra_cons (re_var 11) ra_nil)) (ra_cons (re_lst (ra_cons (re_var 12) ra_nil)) (ra_cons (re_lst (ra_cons (re_var 11) ra_nil)) (ra_cons (re_lst (ra_cons re_str ra_nil)) (ra_cons (re_lst (ra_cons (re_op od_mul re_str re_int) ra_nil)) ra_nil)))))) ra_nil)) rfl (many_cons (many_cons many_nil))) (re_one (re_cmp (od_eq (u64 hr)) (re_callB cd_len (ra_cons (re_callP (ok_frame t) (hr.mono (by decide)) (L2.takes_of rfl rfl rfl rfl) t.g_frame t.d_frame.kp (bd_frame t) (ra_cons (re_op od_mul re_str re_int) ra_nil) rfl (many_cons many_nil)) ra_nil) t.f_len PyProof.Rows.Boot.«len») re_int))))))))))))))))
theorem ok_law (t : Tx P w K mg base T) : FnOk P w K mg base (L2.CX P w) 16 (He.ga K "law") (fdOf K (He.ga K "law")) ["script"] (spf T K (He.ga K) fl s_law) :=
  fn_law (m := m_law) t.d_law sc_law rfl rfl fun cdv A outer s H E Ad F0 hco hr =>
    (rss_one (rs_ret (re_callB (cd_all rfl) (ra_cons (re_lc (own := [("at", 1)]) sc_law.nd (ri_range1 t.f_range (ra_cons re_int ra_nil)) (blkOk_by (by kernel_rfl)) (fun _ _ _ _ _ => (rn_name (i := 1) sc_law.nd)) (fun _ _ _ _ _ => rts_nil) (fun _ _ _ _ _ => (re_callT (ok__law_right t) (hr.mono (by decide)) L2.takes0 t.g__law_right t.d__law_right.kp (bd__law_right t) (re_callP (ok__law_bag t) (hr.mono (by decide)) L2.takes0 t.g__law_bag t.d__law_bag.kp (bd__law_bag t) (ra_cons (re_var 0) (ra_cons (re_var 1) ra_nil)) rfl (many_cons (many_cons many_nil)))))) ra_nil) t.f_all PyProof.Rows.Boot.«all»)))
end
end K27
set_option Elab.async false
set_option linter.all false
set_option maxRecDepth 100000
set_option maxHeartbeats 0
namespace K27
open PySem PySem.Spec PyProof.Rows L2 LW LamX
def dd_is_text_of : He.DefD := ⟨("is_text_of", none), "is_text_of", "is_text_of", defArgs st_is_text_of, defBody st_is_text_of, defScope st_is_text_of, [], []⟩
def dd_is_signed : He.DefD := ⟨("is_signed", none), "is_signed", "is_signed", defArgs st_is_signed, defBody st_is_signed, defScope st_is_signed, [], []⟩
def dd_check_text : He.DefD := ⟨("check_text", none), "check_text", "check_text", defArgs st_check_text, defBody st_check_text, defScope st_check_text, [], []⟩
def dd_check_signs : He.DefD := ⟨("check_signs", none), "check_signs", "check_signs", defArgs st_check_signs, defBody st_check_signs, defScope st_check_signs, [], []⟩
def dd_check_of : He.DefD := ⟨("check_of", none), "check_of", "check_of", defArgs st_check_of, defBody st_check_of, defScope st_check_of, [], []⟩
def dd_frame_of : He.DefD := ⟨("frame_of", none), "frame_of", "frame_of", defArgs st_frame_of, defBody st_frame_of, defScope st_frame_of, [], []⟩
def dd_text_at : He.DefD := ⟨("text_at", none), "text_at", "text_at", defArgs st_text_at, defBody st_text_at, defScope st_text_at, [], []⟩
def dd_frames_by : He.DefD := ⟨("frames_by", none), "frames_by", "frames_by", defArgs st_frames_by, defBody st_frames_by, defScope st_frames_by, [], []⟩
def dd_check_number : He.DefD := ⟨("check_number", none), "check_number", "check_number", defArgs st_check_number, defBody st_check_number, defScope st_check_number, [], []⟩
def dd_frame : He.DefD := ⟨("frame", none), "frame", "frame", defArgs st_frame, defBody st_frame, defScope st_frame, [], []⟩
def dd_frames_in : He.DefD := ⟨("frames_in", none), "frames_in", "frames_in", defArgs st_frames_in, defBody st_frames_in, defScope st_frames_in, [], []⟩
def dd_is_end : He.DefD := ⟨("is_end", none), "is_end", "is_end", defArgs st_is_end, defBody st_is_end, defScope st_is_end, [], []⟩
def dd_whole_notes : He.DefD := ⟨("whole_notes", none), "whole_notes", "whole_notes", defArgs st_whole_notes, defBody st_whole_notes, defScope st_whole_notes, [], []⟩
def dd_end_of : He.DefD := ⟨("end_of", none), "end_of", "end_of", defArgs st_end_of, defBody st_end_of, defScope st_end_of, [], []⟩
def dd_trim_writes : He.DefD := ⟨("trim_writes", none), "trim_writes", "trim_writes", defArgs st_trim_writes, defBody st_trim_writes, defScope st_trim_writes, [], []⟩
def dd_opened_by : He.DefD := ⟨("opened_by", none), "opened_by", "opened_by", defArgs st_opened_by, defBody st_opened_by, defScope st_opened_by, [], []⟩
def dd_opened : He.DefD := ⟨("opened", none), "opened", "opened", defArgs st_opened, defBody st_opened, defScope st_opened, [], []⟩
def dd__law_bag : He.DefD := ⟨("_law_bag", none), "_law_bag", "_law_bag", defArgs st__law_bag, defBody st__law_bag, defScope st__law_bag, [], []⟩
def dd__law_draw : He.DefD := ⟨("_law_draw", none), "_law_draw", "_law_draw", defArgs st__law_draw, defBody st__law_draw, defScope st__law_draw, [], []⟩
def dd__law_one : He.DefD := ⟨("_law_one", none), "_law_one", "_law_one", defArgs st__law_one, defBody st__law_one, defScope st__law_one, [], []⟩
def dd__law_same : He.DefD := ⟨("_law_same", none), "_law_same", "_law_same", defArgs st__law_same, defBody st__law_same, defScope st__law_same, [], []⟩
def dd__law_frame : He.DefD := ⟨("_law_frame", none), "_law_frame", "_law_frame", defArgs st__law_frame, defBody st__law_frame, defScope st__law_frame, [], []⟩
def dd__law_signs : He.DefD := ⟨("_law_signs", none), "_law_signs", "_law_signs", defArgs st__law_signs, defBody st__law_signs, defScope st__law_signs, [], []⟩
def dd__law_text_drawn : He.DefD := ⟨("_law_text_drawn", none), "_law_text_drawn", "_law_text_drawn", defArgs st__law_text_drawn, defBody st__law_text_drawn, defScope st__law_text_drawn, [], []⟩
def dd__law_put_sign : He.DefD := ⟨("_law_put_sign", none), "_law_put_sign", "_law_put_sign", defArgs st__law_put_sign, defBody st__law_put_sign, defScope st__law_put_sign, [], []⟩
def dd__law_kept_check : He.DefD := ⟨("_law_kept_check", none), "_law_kept_check", "_law_kept_check", defArgs st__law_kept_check, defBody st__law_kept_check, defScope st__law_kept_check, [], []⟩
def dd__law_stream_right : He.DefD := ⟨("_law_stream_right", none), "_law_stream_right", "_law_stream_right", defArgs st__law_stream_right, defBody st__law_stream_right, defScope st__law_stream_right, [], []⟩
def dd__law_bent_right : He.DefD := ⟨("_law_bent_right", none), "_law_bent_right", "_law_bent_right", defArgs st__law_bent_right, defBody st__law_bent_right, defScope st__law_bent_right, [], []⟩
def dd__law_refused : He.DefD := ⟨("_law_refused", none), "_law_refused", "_law_refused", defArgs st__law_refused, defBody st__law_refused, defScope st__law_refused, [], []⟩
def dd__law_right : He.DefD := ⟨("_law_right", none), "_law_right", "_law_right", defArgs st__law_right, defBody st__law_right, defScope st__law_right, [], []⟩
def dd_law : He.DefD := ⟨("law", none), "law", "law", defArgs st_law, defBody st_law, defScope st_law, [], []⟩
def di_InvalidText : He.DefD := ⟨("InvalidText", some "__init__"), "__init__", "InvalidText.__init__", defArgs in_InvalidText, defBody in_InvalidText, defScope in_InvalidText, [], []⟩
def fnL0 : List He.DefD := [dd_is_text_of, dd_is_signed, dd_check_text, dd_check_signs, dd_check_of, dd_frame_of, dd_text_at, dd_frames_by, dd_check_number, dd_frame, dd_frames_in, dd_is_end, dd_whole_notes, dd_end_of, dd_trim_writes, dd_opened_by, dd_opened, dd__law_bag, dd__law_draw, dd__law_one, dd__law_same, dd__law_frame, dd__law_signs, dd__law_text_drawn, dd__law_put_sign, dd__law_kept_check, dd__law_stream_right, dd__law_bent_right, dd__law_refused, dd__law_right]
def fnL1 : List He.DefD := [dd_law, di_InvalidText]
def fnL : List He.DefD := fnL0 ++ fnL1
def faL0 : List He.Fa := [.str "BLANK" " ", .int "CHECK_DIGITS" 3, .str "DIGITS" "0123456789", .int "HEAD" 7, .int "LENGTH_DIGITS" 4, .int "LONGEST_FRAMED" 999, .int "MODULUS" 997, .str "OF_END" "d", .str "SIGNS" " ,-.0123456789abcdefghijklmnopqrstuvwxyz", .str "TRIM" "trim", .free "abs", .free "all", .free "bool", .free "divmod", .free "enumerate", .free "int", .free "isinstance", .free "len", .free "list", .free "max", .free "range", .free "str", .free "sum", .free "tuple", .glo "is_text_of", .glo "is_signed", .glo "check_text", .glo "check_signs", .glo "check_of", .glo "frame_of"]
def faL1 : List He.Fa := [.glo "text_at", .glo "frames_by", .glo "check_number", .glo "frame", .glo "frames_in", .glo "is_end", .glo "whole_notes", .glo "end_of", .glo "trim_writes", .glo "opened_by", .glo "opened", .glo "_law_bag", .glo "_law_draw", .glo "_law_one", .glo "_law_same", .glo "_law_frame", .glo "_law_signs", .glo "_law_text_drawn", .glo "_law_put_sign", .glo "_law_kept_check", .glo "_law_stream_right", .glo "_law_bent_right", .glo "_law_refused", .glo "_law_right", .glo "law", .glo "InvalidText"]
def faL : List He.Fa := faL0 ++ faL1
def tfL : List He.Defn := [("_law_right", none)]
def exL (K : PySem.W.Frag) : Bool := (errB K "InvalidText" "given" && exmB K "InvalidText" "InvalidText" true)
def TL (K : PySem.W.Frag) : Tb := [((He.cT K ("_law_right", none)).2, "_law_right.<locals>.<lambda>")]
abbrev R : PySem.W.OpenRow := PySem.W.OpenLaw.row PySem.Challenge.rw_landwatches_k27_whole_frames_by_lengths
abbrev hk : PySem.W.Hook := He.hookX 4 faL fnL [] tfL exL
def ob (s : PySem.W.SharedT) : He.AlX := He.obsX 4 faL fnL [] tfL exL (HandSHeadRun.getT s)
theorem ob_eq (s : PySem.W.SharedT) : ob s = hk.obs s.abs := He.obsX_eq (HandSHeadRun.getT_eq s)
def looseL0 : List Str := ["LandError", "InvalidText", "is_text_of", "DIGITS", "SIGNS", "is_signed", "check_text", "check_signs", "MODULUS", "LENGTH_DIGITS", "CHECK_DIGITS", "HEAD", "check_of", "frame_of", "text_at", "frames_by", "LONGEST_FRAMED", "check_number", "frame", "frames_in", "TRIM", "OF_END", "BLANK", "is_end", "whole_notes", "end_of", "trim_writes", "opened_by", "opened", "_law_bag"]
def looseL1 : List Str := ["_law_draw", "_law_one", "_law_same", "_law_frame", "_law_signs", "_law_text_drawn", "_law_put_sign", "_law_kept_check", "_law_stream_right", "_law_bent_right", "_law_refused", "_law_right"]
def looseL : List Str := looseL0 ++ looseL1
abbrev qv : Program := PySem.W.view R.prog [51]
theorem run (w : World) : HandSHeadRun.RunEq R qv hk ob 4000 looseL w := by
  intro os
  kernel_rfl
theorem tx_of {P : Program} {w : World} {K : Fg} {mg : Str → Option Value} {base h : Heap} (KX : K.In h) (G : h.Ns mainGlobals mg) (c : He.SaysX faL fnL [] tfL exL w h K) (TB : ∀ p ∈ tfL.map (He.cT K), TabB base mg p.1 p.2) : Tx P w K mg base (TL K) := by
  have cd : He.SaysD faL fnL K := congrArg (fun z : He.AlT => z.1) c.t
  have hx := c.more
  unfold exL at hx
  have x0 := hx
  exact {
    i_BLANK := He.str_ok KX G (cd.fact 0 rfl),
    i_CHECK_DIGITS := He.int_ok KX G (cd.fact 1 rfl),
    i_DIGITS := He.str_ok KX G (cd.fact 2 rfl),
    i_HEAD := He.int_ok KX G (cd.fact 3 rfl),
    i_LENGTH_DIGITS := He.int_ok KX G (cd.fact 4 rfl),
    i_LONGEST_FRAMED := He.int_ok KX G (cd.fact 5 rfl),
    i_MODULUS := He.int_ok KX G (cd.fact 6 rfl),
    i_OF_END := He.str_ok KX G (cd.fact 7 rfl),
    i_SIGNS := He.str_ok KX G (cd.fact 8 rfl),
    i_TRIM := He.str_ok KX G (cd.fact 9 rfl),
    f_abs := He.free_ok KX G (cd.fact 10 rfl),
    f_all := He.free_ok KX G (cd.fact 11 rfl),
    f_bool := He.free_ok KX G (cd.fact 12 rfl),
    f_divmod := He.free_ok KX G (cd.fact 13 rfl),
    f_enumerate := He.free_ok KX G (cd.fact 14 rfl),
    f_int := He.free_ok KX G (cd.fact 15 rfl),
    f_isinstance := He.free_ok KX G (cd.fact 16 rfl),
    f_len := He.free_ok KX G (cd.fact 17 rfl),
    f_list := He.free_ok KX G (cd.fact 18 rfl),
    f_max := He.free_ok KX G (cd.fact 19 rfl),
    f_range := He.free_ok KX G (cd.fact 20 rfl),
    f_str := He.free_ok KX G (cd.fact 21 rfl),
    f_sum := He.free_ok KX G (cd.fact 22 rfl),
    f_tuple := He.free_ok KX G (cd.fact 23 rfl),
    g_is_text_of := He.glo_ok KX G (cd.fact 24 rfl),
    d_is_text_of := funD_of (d := dd_is_text_of) (cd.def_ 0 rfl),
    g_is_signed := He.glo_ok KX G (cd.fact 25 rfl),
    d_is_signed := funD_of (d := dd_is_signed) (cd.def_ 1 rfl),
    g_check_text := He.glo_ok KX G (cd.fact 26 rfl),
    d_check_text := funD_of (d := dd_check_text) (cd.def_ 2 rfl),
    g_check_signs := He.glo_ok KX G (cd.fact 27 rfl),
    d_check_signs := funD_of (d := dd_check_signs) (cd.def_ 3 rfl),
    g_check_of := He.glo_ok KX G (cd.fact 28 rfl),
    d_check_of := funD_of (d := dd_check_of) (cd.def_ 4 rfl),
    g_frame_of := He.glo_ok KX G (cd.fact 29 rfl),
    d_frame_of := funD_of (d := dd_frame_of) (cd.def_ 5 rfl),
    g_text_at := He.glo_ok KX G (cd.fact 30 rfl),
    d_text_at := funD_of (d := dd_text_at) (cd.def_ 6 rfl),
    g_frames_by := He.glo_ok KX G (cd.fact 31 rfl),
    d_frames_by := funD_of (d := dd_frames_by) (cd.def_ 7 rfl),
    g_check_number := He.glo_ok KX G (cd.fact 32 rfl),
    d_check_number := funD_of (d := dd_check_number) (cd.def_ 8 rfl),
    g_frame := He.glo_ok KX G (cd.fact 33 rfl),
    d_frame := funD_of (d := dd_frame) (cd.def_ 9 rfl),
    g_frames_in := He.glo_ok KX G (cd.fact 34 rfl),
    d_frames_in := funD_of (d := dd_frames_in) (cd.def_ 10 rfl),
    g_is_end := He.glo_ok KX G (cd.fact 35 rfl),
    d_is_end := funD_of (d := dd_is_end) (cd.def_ 11 rfl),
    g_whole_notes := He.glo_ok KX G (cd.fact 36 rfl),
    d_whole_notes := funD_of (d := dd_whole_notes) (cd.def_ 12 rfl),
    g_end_of := He.glo_ok KX G (cd.fact 37 rfl),
    d_end_of := funD_of (d := dd_end_of) (cd.def_ 13 rfl),
    g_trim_writes := He.glo_ok KX G (cd.fact 38 rfl),
    d_trim_writes := funD_of (d := dd_trim_writes) (cd.def_ 14 rfl),
    g_opened_by := He.glo_ok KX G (cd.fact 39 rfl),
    d_opened_by := funD_of (d := dd_opened_by) (cd.def_ 15 rfl),
    g_opened := He.glo_ok KX G (cd.fact 40 rfl),
    d_opened := funD_of (d := dd_opened) (cd.def_ 16 rfl),
    g__law_bag := He.glo_ok KX G (cd.fact 41 rfl),
    d__law_bag := funD_of (d := dd__law_bag) (cd.def_ 17 rfl),
    g__law_draw := He.glo_ok KX G (cd.fact 42 rfl),
    d__law_draw := funD_of (d := dd__law_draw) (cd.def_ 18 rfl),
    g__law_one := He.glo_ok KX G (cd.fact 43 rfl),
    d__law_one := funD_of (d := dd__law_one) (cd.def_ 19 rfl),
    g__law_same := He.glo_ok KX G (cd.fact 44 rfl),
    d__law_same := funD_of (d := dd__law_same) (cd.def_ 20 rfl),
    g__law_frame := He.glo_ok KX G (cd.fact 45 rfl),
    d__law_frame := funD_of (d := dd__law_frame) (cd.def_ 21 rfl),
    g__law_signs := He.glo_ok KX G (cd.fact 46 rfl),
    d__law_signs := funD_of (d := dd__law_signs) (cd.def_ 22 rfl),
    g__law_text_drawn := He.glo_ok KX G (cd.fact 47 rfl),
    d__law_text_drawn := funD_of (d := dd__law_text_drawn) (cd.def_ 23 rfl),
    g__law_put_sign := He.glo_ok KX G (cd.fact 48 rfl),
    d__law_put_sign := funD_of (d := dd__law_put_sign) (cd.def_ 24 rfl),
    g__law_kept_check := He.glo_ok KX G (cd.fact 49 rfl),
    d__law_kept_check := funD_of (d := dd__law_kept_check) (cd.def_ 25 rfl),
    g__law_stream_right := He.glo_ok KX G (cd.fact 50 rfl),
    d__law_stream_right := funD_of (d := dd__law_stream_right) (cd.def_ 26 rfl),
    g__law_bent_right := He.glo_ok KX G (cd.fact 51 rfl),
    d__law_bent_right := funD_of (d := dd__law_bent_right) (cd.def_ 27 rfl),
    g__law_refused := He.glo_ok KX G (cd.fact 52 rfl),
    d__law_refused := funD_of (d := dd__law_refused) (cd.def_ 28 rfl),
    g__law_right := He.glo_ok KX G (cd.fact 53 rfl),
    d__law_right := funD_of (d := dd__law_right) (cd.def_ 29 rfl),
    g_law := He.glo_ok KX G (cd.fact 54 rfl),
    d_law := funD_of (d := dd_law) (cd.def_ 30 rfl),
    e_InvalidText := errB_ok (He.glo_ok KX G (cd.fact 55 rfl)) (He.ba x0).1,
    n_InvalidText := funD_of (d := di_InvalidText) (cd.def_ 31 rfl),
    x_InvalidText := of_decide_eq_true (He.ba x0).2,
    tab__law_right := TB (He.cT K ("_law_right", none)) (List.mem_map.mpr ⟨("_law_right", none), by simp [tfL], rfl⟩),
    code__law_right := code_of (p := ("_law_right", none)) (funD_of (d := dd__law_right) (cd.def_ 29 rfl)),
    mem__law_right := by simp [TL],
    uni__law_right := by simp [TL] }
theorem law_b {w : World} {K : Fg} {mg : Str → Option Value} {h : Heap} (KX : K.In h) (G : h.Ns mainGlobals mg) (c : He.SaysX faL fnL [] tfL exL w h K) : (∀ (s : Shared) (u : Value), BindsTo s (fdOf K (He.ga K "law")) ⟨[u], []⟩ [("script", u)]) ∧ mg "law" = some (.ref (He.ga K "law")) := by
  have cd : He.SaysD faL fnL K := congrArg (fun z : He.AlT => z.1) c.t
  exact ⟨fun s u => FunD.bindsA (ps := ["script"]) (funD_of (d := dd_law) (cd.def_ 30 rfl)) (fun _ _ _ _ _ _ us hl => match us, hl with | [_], _ => rfl) s [u] rfl, He.glo_ok KX G (cd.fact 54 rfl)⟩
end K27
set_option Elab.async false
set_option linter.all false
set_option maxRecDepth 100000
set_option maxHeartbeats 2000000
namespace K27
open PySem PySem.Spec PyProof.Rows L2 LW
def sg : List Nat := [32, 44, 45, 46, 48, 49, 50, 51, 52, 53, 54, 55, 56, 57, 97, 98, 99, 100, 101, 102, 103, 104, 105, 106, 107, 108, 109, 110, 111, 112, 113, 114, 115, 116, 117, 118, 119, 120, 121, 122]
theorem z0_eq : z0 = tS sg := by decide +kernel
def dg : List Nat := [48, 49, 50, 51, 52, 53, 54, 55, 56, 57]
theorem z1_eq : z1 = tS dg := by decide +kernel
theorem sz : sizeLine = 16777216 := sizeLine_eq
theorem run_text_of (a s : List Nat) (ha : a.length ≤ 10000) : s_is_text_of.run [.str (tS a), .str (tS s)] = .ok (.val (.bool (a.all fun c => decide (c ∈ s)))) [] := by
  unfold s_is_text_of
  rw [run_of]
  have hz : a.length ≤ sizeLine := by rw [sz]; omega
  have key : lcL (tgName 2) mYes (mBin gIn (mVar 2) (mVar 1)) [2] (a.map fun c => PyData.str (tS [c])) ⟨[some (.val (.str (tS a))), some (.val (.str (tS s))), none], []⟩ [] = some ([] ++ a.map fun c => .bool (decide (c ∈ s)), ⟨[some (.val (.str (tS a))), some (.val (.str (tS s))), none], []⟩) := by
    refine lcL_map _ _ fun c hc => ?_
    simp [lcT, gIn, inD, Env.wipe, wipeS]
  simp [m_is_text_of, isiD, ev_lc, Env.calm, hz, Env.wipe, wipeS, key, Env.unwipe, backS, gAll, blsD_fn, Function.comp_def]
def notStr : D → Bool
  | .none => true
  | .int _ => true
  | .bool _ => true
  | .tuple _ => true
  | _ => false
theorem run_text_of' (d : D) (s : Str) (h : notStr d = true) : s_is_text_of.run [d, .str s] = .ok (.val (.bool false)) [] := by
  unfold s_is_text_of
  rw [run_of]
  cases d <;> first | (cases h; done) | simp [m_is_text_of, isiD]
def good (a : List Nat) : Bool := a.all fun c => decide (c ∈ sg)
theorem run_signed (a : List Nat) (ha : a.length ≤ 10000) : s_is_signed.run [.str (tS a)] = .ok (.val (.bool (good a))) [] := by
  unfold s_is_signed
  rw [run_of]
  simp [m_is_signed, z0_eq, run_text_of a sg ha, good]
theorem run_signed' (d : D) (h : notStr d = true) : s_is_signed.run [d] = .ok (.val (.bool false)) [] := by
  unfold s_is_signed
  rw [run_of]
  simp [m_is_signed, run_text_of' d _ h]
theorem run_check_signs (a : List Nat) (ha : a.length ≤ 10000) (hg : good a = true) : s_check_signs.run [.str (tS a)] = .ok (.val .none) [] := by
  unfold s_check_signs
  rw [run_of]
  simp [m_check_signs, run_signed a ha, hg]
theorem run_check_signs_x (d : D) (h : s_is_signed.run [d] = .ok (.val (.bool false)) []) : s_check_signs.run [d] = .exc "InvalidText" d := by
  unfold s_check_signs
  rw [run_of]
  simp [m_check_signs, h]
theorem run_check_text (a : List Nat) : s_check_text.run [.str (tS a)] = .ok (.val .none) [] := by
  unfold s_check_text
  rw [run_of]
  simp [m_check_text, isiD]
theorem run_check_text_x (d : D) (h : notStr d = true) : s_check_text.run [d] = .exc "InvalidText" d := by
  unfold s_check_text
  rw [run_of]
  cases d <;> first | (cases h; done) | simp [m_check_text, isiD]
def ix (c : Nat) : Nat := sg.idxOf c
theorem ix_lt {c : Nat} (h : c ∈ sg) : ix c < 40 := List.idxOf_lt_length_of_mem h
theorem occ_head : ∀ c ∈ sg, (Builtin.Str.occurrences (tS sg) (tS [c]) 0 (tS sg).length 1).head? = some (ix c) := by decide +kernel
theorem index_sg {c : Nat} (h : c ∈ sg) : gIndex (.str (tS sg)) [.str (tS [c])] = some (.val (.int (ix c : Nat))) := by
  have h2 := occ_head c h
  unfold gIndex
  dsimp only
  cases e : Builtin.Str.occurrences (tS sg) (tS [c]) 0 (tS sg).length 1 with
  | nil => rw [e] at h2; cases h2
  | cons i r => rw [e] at h2; cases h2; rfl
/-- the weighted sum: k the first sign's weight -/
def ws : Nat → List Nat → Nat
  | _, [] => 0
  | k, c :: a => k * (ix c + 1) + ws (k + 1) a
theorem ws_zip (a : List Nat) : ∀ k : Nat, ((a.zipIdx k).map fun p => ((p.2 : Int) + 1) * ((ix p.1 : Int) + 1)).sum = ws (k + 1) a := by
  induction a with
  | nil => intro k; rfl
  | cons c a ih =>
    intro k
    rw [List.zipIdx_cons, List.map_cons, List.sum_cons, ih (k + 1)]
    show _ = (((k + 1) * (ix c + 1) + ws (k + 1 + 1) a : Nat) : Int)
    push_cast
    rfl
def ck (a : List Nat) : Nat := ws 1 a % 997
theorem ck_lt (a : List Nat) : ck a < 997 := Nat.mod_lt _ (by decide)
theorem good_mem {a : List Nat} (h : good a = true) {c : Nat} (hc : c ∈ a) : c ∈ sg := of_decide_eq_true (List.all_eq_true.mp h c hc)
theorem mul_ix {i : Int} {c : Nat} (hm : c ∈ sg) : gMul (.int i) (.int ((ix c : Int) + 1)) = some (.val (.int (i * ((ix c : Int) + 1)))) := by
  have := ix_lt hm
  exact gMul_i (.inr (by omega))
theorem turn_check (a : List Nat) (c : Nat) (i : Int) (hm : c ∈ sg) : lcT (tgTup 2 (tgCons (tgName 1) (tgCons (tgName 2) tgNil))) mYes (mBin gMul (mVar 1) (mBin gAdd (mMeth gIndex (mOn "str" (mVal (.str z0))) (mCons (mVar 2) mNil)) (mVal (.int 1)))) [1, 2]
      (.tuple [.int i, .str (tS [c])]) ⟨[some (.val (.str (tS a))), none, none], []⟩ = some (some (.int (i * ((ix c : Int) + 1))), ⟨[some (.val (.str (tS a))), none, none], []⟩) := by
  simp [lcT, z0_eq, index_sg hm, mul_ix hm, Env.wipe, wipeS]
theorem run_check_of (a : List Nat) (ha : a.length ≤ 10000) (hg : good a = true) : s_check_of.run [.str (tS a)] = .ok (.val (.int (ck a : Nat))) [] := by
  unfold s_check_of
  rw [run_of]
  have hz : a.length ≤ sizeLine := by rw [sz]; omega
  have key : lcL (tgTup 2 (tgCons (tgName 1) (tgCons (tgName 2) tgNil))) mYes (mBin gMul (mVar 1) (mBin gAdd (mMeth gIndex (mOn "str" (mVal (.str z0))) (mCons (mVar 2) mNil)) (mVal (.int 1)))) [1, 2]
      (a.zipIdx.map fun p => .tuple [.int (1 + (p.2 : Nat)), .str (tS [p.1])]) ⟨[some (.val (.str (tS a))), none, none], []⟩ [] = some ([] ++ a.zipIdx.map fun p => .int (((p.2 : Int) + 1) * ((ix p.1 : Int) + 1)), ⟨[some (.val (.str (tS a))), none, none], []⟩) := by
    refine lcL_map _ _ fun p hp => ?_
    rw [show (1 : Int) + (p.2 : Nat) = (p.2 : Int) + 1 by omega]
    exact turn_check a p.1 _ (good_mem hg (List.fst_mem_of_mem_zipIdx hp))
  simp [m_check_of, ev_lc, Env.calm, hz, Env.wipe, wipeS, itemsD, enum_chars, key, Env.unwipe, backS, gSum, intsD_fn, ws_zip, gMod_i, ck]
def frm (a : List Nat) : List Nat := dig4 a.length ++ dig3 (ck a) ++ a
theorem dig4_len (n : Nat) : (dig4 n).length = 4 := rfl
theorem dig3_len (n : Nat) : (dig3 n).length = 3 := rfl
theorem frm_len (a : List Nat) : (frm a).length = 7 + a.length := by unfold frm; simp [dig4_len, dig3_len]; omega
theorem pad4 : PadOk 4 = true := by decide
theorem pad3 : PadOk 3 = true := by decide
theorem zfill4 {n : Nat} (h : n < 10000) : gZfill (.str (tS (TL.numL n))) [.int 4] = some (.val (.str (tS (dig4 n)))) := by
  unfold gZfill
  dsimp only
  rw [if_pos pad4, zf4 h]
theorem zfill3 {n : Nat} (h : n < 1000) : gZfill (.str (tS (TL.numL n))) [.int 3] = some (.val (.str (tS (dig3 n)))) := by
  unfold gZfill
  dsimp only
  rw [if_pos pad3, zf3 h]
theorem run_frame_of (a : List Nat) (ha : a.length < 10000) (hg : good a = true) : s_frame_of.run [.str (tS a)] = .ok (.val (.str (tS (frm a)))) [] := by
  unfold s_frame_of
  rw [run_of]
  have := ck_lt a
  simp [m_frame_of, gLen_s (show a.length ≤ 1000000 by omega), gStr_n (show a.length < 2 ^ 64 by omega), gStr_n (show ck a < 2 ^ 64 by omega), zfill4 ha, zfill3 (show ck a < 1000 by omega), run_check_of a (by omega) hg,
    gAdd_s (show (dig4 a.length).length + (dig3 (ck a)).length ≤ 1000000 by simp [dig4_len, dig3_len]), gAdd_s (show (dig4 a.length ++ dig3 (ck a)).length + a.length ≤ 1000000 by simp [dig4_len, dig3_len]; omega), frm]
end K27
set_option Elab.async false
set_option linter.all false
set_option maxRecDepth 100000
set_option maxHeartbeats 2000000
namespace K27
open PySem PySem.Spec PyProof.Rows L2 LW
def isD (a : List Nat) : Bool := a.all fun c => decide (c ∈ dg)
theorem isD_all {a : List Nat} (h : isD a = true) : a.all (fun c => decide (48 ≤ c) && decide (c ≤ 57)) = true := by
  refine List.all_eq_true.mpr fun c hc => ?_
  have := of_decide_eq_true (List.all_eq_true.mp h c hc)
  unfold dg at this
  simp at this
  simp
  omega
theorem isD_sub {a b : List Nat} (h : isD a = true) (s : ∀ c ∈ b, c ∈ a) : isD b = true := List.all_eq_true.mpr fun c hc => List.all_eq_true.mp h c (s c hc)
def tO : Option (List Nat) → D
  | none => .none
  | some t => .str (tS t)
/-- the text framed at the head of r -/
def taB (n c : Nat) (t : List Nat) : Option (List Nat) := if n = 0 ∨ t.length < n ∨ good t = false then none else if ck t = c then some t else none
def ta (r : List Nat) : Option (List Nat) :=
  if (r.take 7).length < 7 ∨ isD (r.take 7) = false then none else taB (NumText.digitsVal ((r.take 7).take 4)) (NumText.digitsVal ((r.take 7).drop 4)) ((r.drop 7).take (NumText.digitsVal ((r.take 7).take 4)))
theorem run_text_at (s : List Nat) (k : Nat) (hs : s.length ≤ 10000) : s_text_at.run [.str (tS s), .int (k : Nat)] = .ok (.val (tO (ta (s.drop k)))) [] := by
  obtain ⟨h, hh⟩ : ∃ h, h = (s.drop k).take 7 := ⟨_, rfl⟩
  have e1 : cutS (tS s) (some (k : Int)) (some ((k : Int) + 7)) = tS h := by
    rw [tS_mid rfl (show (k : Int) + 7 = ((k + 7 : Nat) : Int) from rfl), show k + 7 - k = 7 by omega, ← hh]
  have hl : h.length ≤ 7 := by rw [hh]; exact List.length_take_le _ _
  obtain ⟨i, hi⟩ : ∃ i : Int, i = k := ⟨_, rfl⟩
  obtain ⟨v, hv⟩ : ∃ v, v = tO (ta (s.drop k)) := ⟨_, rfl⟩
  rw [← hv]
  rw [← hi] at e1 ⊢
  unfold ta at hv
  rw [← hh] at hv
  unfold s_text_at
  rw [run_of]
  have g1 := gCut_s (lo := some i) (hi := some (i + 7)) (show s.length ≤ 1000000 by omega)
  have g2 := gLen_s (show h.length ≤ 1000000 by omega)
  have g3 := run_text_of h dg (by omega)
  by_cases h1 : h.length < 7
  · rw [if_pos (.inl h1)] at hv
    subst hv
    have h2 : (h.length : Int) < 7 := by omega
    simp [m_text_at, g1, e1, g2, h2, tO]
  have h2 : ¬(h.length : Int) < 7 := by omega
  by_cases h3 : isD h = false
  · rw [if_pos (.inr h3)] at hv
    subst hv
    change (h.all fun c => decide (c ∈ dg)) = false at h3
    rw [h3] at g3
    simp [m_text_at, g1, e1, g2, h2, z1_eq, g3, tO]
  rw [if_neg (by intro q; rcases q with q | q; exact h1 q; exact h3 q)] at hv
  have h4 : isD h = true := by simpa using h3
  have h5 : (h.all fun c => decide (c ∈ dg)) = true := h4
  rw [h5] at g3
  obtain ⟨n, hn⟩ : ∃ n, n = NumText.digitsVal (h.take 4) := ⟨_, rfl⟩
  obtain ⟨c, hc⟩ : ∃ c, c = NumText.digitsVal (h.drop 4) := ⟨_, rfl⟩
  rw [← hn, ← hc] at hv
  obtain ⟨t, ht⟩ : ∃ t, t = ((s.drop k).drop 7).take n := ⟨_, rfl⟩
  rw [← ht] at hv
  have c1 : cutS (tS h) none (some 4) = tS (h.take 4) := tS_to rfl
  have c2 : cutS (tS h) (some 4) none = tS (h.drop 4) := tS_from rfl
  have n1 : gInt [.str (tS (h.take 4))] = some (.val (.int (n : Nat))) := by
    rw [hn]
    exact gInt_s (isD_all (isD_sub h4 fun c hc => List.mem_of_mem_take hc)) (fun q => by have := congrArg List.length q; first | (rw [List.length_take, List.length_nil] at this; omega) | (rw [List.length_drop, List.length_nil] at this; omega)) (by first | (rw [List.length_take]; omega) | (rw [List.length_drop]; omega))
  have n2 : gInt [.str (tS (h.drop 4))] = some (.val (.int (c : Nat))) := by
    rw [hc]
    exact gInt_s (isD_all (isD_sub h4 fun c hc => List.mem_of_mem_drop hc)) (fun q => by have := congrArg List.length q; first | (rw [List.length_take, List.length_nil] at this; omega) | (rw [List.length_drop, List.length_nil] at this; omega)) (by first | (rw [List.length_take]; omega) | (rw [List.length_drop]; omega))
  obtain ⟨j, hj⟩ : ∃ j : Int, j = n := ⟨_, rfl⟩
  obtain ⟨d, hd⟩ : ∃ d : Int, d = c := ⟨_, rfl⟩
  have e2 : cutS (tS s) (some (i + 7)) (some (i + 7 + j)) = tS t := by
    rw [tS_mid (show i + 7 = ((k + 7 : Nat) : Int) by omega) (show i + 7 + j = ((k + 7 + n : Nat) : Int) by omega), show k + 7 + n - (k + 7) = n by omega, ht, List.drop_drop]
  have htl : t.length ≤ 10000 := by
    have : t.length ≤ s.length := by rw [ht]; simp; omega
    omega
  rw [← hj] at n1
  rw [← hd] at n2
  have g4 := gCut_s (lo := some (i + 7)) (hi := some (i + 7 + j)) (show s.length ≤ 1000000 by omega)
  have g5 := gCut_s (a := h) (lo := none) (hi := some 4) (show h.length ≤ 1000000 by omega)
  have g6 := gCut_s (a := h) (lo := some 4) (hi := none) (show h.length ≤ 1000000 by omega)
  have g7 := gLen_s (show t.length ≤ 1000000 by omega)
  have g8 := run_text_of t sg htl
  unfold taB at hv
  by_cases q1 : n = 0
  · rw [if_pos (.inl q1)] at hv
    subst hv
    have : (j = 0) = True := eq_true (by omega)
    simp [m_text_at, g1, e1, g2, h2, z1_eq, g3, g5, g6, c1, c2, n1, n2, g4, e2, this, tO]
  have q1' : ¬ j = 0 := by omega
  by_cases q2 : t.length < n
  · rw [if_pos (.inr (.inl q2))] at hv
    subst hv
    have : (t.length : Int) < j := by omega
    simp [m_text_at, g1, e1, g2, h2, z1_eq, g3, g5, g6, c1, c2, n1, n2, g4, e2, q1', g7, this, tO]
  have q2' : ¬ (t.length : Int) < j := by omega
  by_cases q3 : good t = false
  · rw [if_pos (.inr (.inr q3))] at hv
    subst hv
    change (t.all fun c => decide (c ∈ sg)) = false at q3
    rw [q3] at g8
    simp [m_text_at, g1, e1, g2, h2, z1_eq, g3, g5, g6, c1, c2, n1, n2, g4, e2, q1', g7, q2', z0_eq, g8, tO]
  rw [if_neg (by intro q; rcases q with q | q | q; exact q1 q; exact q2 q; exact q3 q)] at hv
  have q4 : good t = true := by simpa using q3
  have q5 : (t.all fun c => decide (c ∈ sg)) = true := q4
  rw [q5] at g8
  have g9 := run_check_of t htl q4
  by_cases q6 : ck t = c
  · rw [if_pos q6] at hv
    subst hv
    have : ((ck t : Nat) : Int) = d := by omega
    rw [this] at g9
    simp [m_text_at, g1, e1, g2, h2, z1_eq, g3, g5, g6, c1, c2, n1, n2, g4, e2, q1', g7, q2', z0_eq, g8, g9, tO]
  · rw [if_neg q6] at hv
    subst hv
    obtain ⟨m, hm⟩ : ∃ m : Int, m = (ck t : Nat) := ⟨_, rfl⟩
    rw [← hm] at g9
    have : ¬ m = d := by omega
    simp [m_text_at, g1, e1, g2, h2, z1_eq, g3, g5, g6, c1, c2, n1, n2, g4, e2, q1', g7, q2', z0_eq, g8, g9, this, tO]
/-- what the stream r tells -/
inductive Rd : List Nat → List (List Nat) → Nat → Prop
  | stop {r : List Nat} (h : ta r = none) : Rd r [] 0
  | step {r t : List Nat} {ts : List (List Nat)} {n : Nat} (h : ta r = some t) (k : Rd (r.drop (7 + t.length)) ts n) : Rd r (t :: ts) (7 + t.length + n)
theorem ta_len {r t : List Nat} (h : ta r = some t) : 7 + t.length ≤ r.length := by
  unfold ta at h
  split at h
  · cases h
  · rename_i q
    unfold taB at h
    split at h
    · cases h
    · split at h
      · cases h
        have : ¬ (r.take 7).length < 7 := fun z => q (.inl z)
        simp at this ⊢
        omega
      · cases h
theorem Rd.ex : ∀ (m : Nat) (r : List Nat), r.length ≤ m → ∃ ts n, Rd r ts n := by
  intro m
  induction m with
  | zero =>
    intro r h
    have : r = [] := List.eq_nil_of_length_eq_zero (by omega)
    subst this
    exact ⟨_, _, .stop rfl⟩
  | succ m ih =>
    intro r h
    cases e : ta r with
    | none => exact ⟨_, _, .stop e⟩
    | some t =>
      have := ta_len e
      obtain ⟨ts, n, k⟩ := ih (r.drop (7 + t.length)) (by first | (rw [List.length_take]; omega) | (rw [List.length_drop]; omega))
      exact ⟨_, _, .step e k⟩
theorem Rd.len {r : List Nat} {ts : List (List Nat)} {n : Nat} (h : Rd r ts n) : ts.length ≤ r.length ∧ n ≤ r.length := by
  induction h with
  | stop => simp
  | step h k ih =>
    have := ta_len h
    simp at ih ⊢
    omega
def tL (ts : List (List Nat)) : List D := ts.map fun t => .str (tS t)
end K27
set_option Elab.async false
set_option linter.all false
set_option maxRecDepth 100000
set_option maxHeartbeats 2000000
namespace K27
open PySem PySem.Spec PyProof.Rows L2 LW
@[simp] theorem szs : sizeLine = 16777216 := sizeLine_eq
@[simp] theorem tO_s (t : List Nat) : tO (some t) = .str (tS t) := rfl
@[simp] theorem tO_n : tO none = .none := rfl
theorem ev_wh {mc : M Bool} {mb : MS} {fu : LW.Env → Nat} {ρ : LW.Env} : mWhile mc mb fu ρ = whL mc mb (fu ρ) ρ := rfl
theorem whL_s {mc : M Bool} {mb : MS} {n : Nat} {ρ : LW.Env} : whL mc mb (n + 1) ρ = (mc ρ).toS fun b ρ1 => if b = true then (match mb ρ1 with
      | .nx ρ2 => whL mc mb n ρ2
      | .ct ρ2 => whL mc mb n ρ2
      | .bk ρ2 => .nx ρ2
      | o => o) else .nx ρ1 := rfl
theorem wh_frames (s : List Nat) (hs : s.length ≤ 10000) {r : List Nat} {ts : List (List Nat)} {n : Nat} (h : Rd r ts n) : ∀ (k fu : Nat) (acc : List D), r = s.drop k → ts.length < fu → acc.length + ts.length ≤ 100000 →
    whL (mBool (mBin gIsNot (mVar 3) (mVal .none))) (mSeq (mDrop (mMut gAppend (mOn "list" (mVar 1)) (mCons (mVar 3) mNil)))
    (mSeq (mSet 2 (mBin gAdd (mBin gAdd (mVar 2) (mVal (.int 7))) (mCallB gLen (mCons (mVar 3) mNil))))
    (mSet 3 (mCallP s_text_at (mCons (mVar 0) (mCons (mVar 2) mNil)))))) fu ⟨[some (.val (.str (tS s))), some (.own (.list acc)), some (.val (.int (k : Nat))), some (.val (tO (ta r)))], []⟩
    = .nx ⟨[some (.val (.str (tS s))), some (.own (.list (acc ++ tL ts))), some (.val (.int ((k + n : Nat) : Int))), some (.val .none)], []⟩ := by
  induction h with
  | stop h =>
    intro k fu acc hr hf ha
    obtain ⟨fu, rfl⟩ : ∃ f, fu = f + 1 := ⟨fu - 1, by omega⟩
    rw [whL_s, h]
    simp [tL]
  | @step r t ts n h kk ih =>
    intro k fu acc hr hf ha
    obtain ⟨fu, rfl⟩ : ∃ f, fu = f + 1 := ⟨fu - 1, by omega⟩
    have hl := ta_len h
    have hr2 : r.length ≤ 10000 := by rw [hr, List.length_drop]; omega
    have g1 := gLen_s (show t.length ≤ 1000000 by omega)
    have g2 := run_text_at s (k + (7 + t.length)) hs
    rw [← List.drop_drop, ← hr] at g2
    have := ih (k + (7 + t.length)) fu (acc ++ [.str (tS t)]) (by rw [hr, List.drop_drop]) (by simp at hf; omega) (by simp at ha ⊢; omega)
    obtain ⟨i, hi⟩ : ∃ i : Int, i = k := ⟨_, rfl⟩
    have hi2 : ((k + (7 + t.length) : Nat) : Int) = i + 7 + (t.length : Nat) := by omega
    rw [hi2] at g2 this
    rw [whL_s, h, ← hi]
    have ga : gAppend (.list acc) [.str (tS t)] = some (.list (acc ++ [.str (tS t)]), .none) := gAppend_l (by simp at ha; omega)
    have hsc : scalD (tO (ta (List.drop (7 + t.length) r))) = true := by cases ta (List.drop (7 + t.length) r) <;> rfl
    simp [ga, g1, g2, hsc, this]
    exact ⟨rfl, by omega⟩
theorem run_frames_by (s : List Nat) (hs : s.length ≤ 10000) {ts : List (List Nat)} {n : Nat} (h : Rd s ts n) : s_frames_by.run [.str (tS s)] = .ok (.val (.tuple [.list (tL ts), .int (n : Nat)])) [] := by
  unfold s_frames_by
  rw [run_of]
  have g := run_text_at s 0 hs
  rw [List.drop_zero] at g
  have hl := h.len
  have := wh_frames s hs h 0 (s.length + 1) [] rfl (by omega) (by simp; omega)
  have hsc : scalD (tO (ta s)) = true := by cases ta s <;> rfl
  have z : ((0 : Nat) : Int) = 0 := rfl
  rw [z] at g this
  simp [m_frames_by, g, hsc, ev_wh, fuelF, this]
theorem run_frames_in (s : List Nat) (hs : s.length ≤ 10000) {ts : List (List Nat)} {n : Nat} (h : Rd s ts n) : s_frames_in.run [.str (tS s)] = .ok (.val (.tuple [.tuple (tL ts), .int (n : Nat)])) [] := by
  unfold s_frames_in
  rw [run_of]
  simp [m_frames_in, run_check_text, run_frames_by s hs h]
theorem run_frames_in_x (d : D) (h : notStr d = true) : s_frames_in.run [d] = .exc "InvalidText" d := by
  unfold s_frames_in
  rw [run_of]
  simp [m_frames_in, run_check_text_x d h]
theorem run_check_number (a : List Nat) (ha : a.length ≤ 10000) (hg : good a = true) : s_check_number.run [.str (tS a)] = .ok (.val (.int (ck a : Nat))) [] := by
  unfold s_check_number
  rw [run_of]
  simp [m_check_number, run_check_signs a ha hg, run_check_of a ha hg]
theorem run_frame (a : List Nat) (h1 : 1 ≤ a.length) (h2 : a.length ≤ 999) (hg : good a = true) : s_frame.run [.str (tS a)] = .ok (.val (.str (tS (frm a)))) [] := by
  unfold s_frame
  rw [run_of]
  obtain ⟨i, hi⟩ : ∃ i : Int, i = (a.length : Nat) := ⟨_, rfl⟩
  have g1 := gLen_s (show a.length ≤ 1000000 by omega)
  rw [← hi] at g1
  have h3 : 1 ≤ i := by omega
  have h4 : i ≤ 999 := by omega
  simp [m_frame, run_check_signs a (by omega) hg, g1, run_frame_of a (by omega) hg, h3, h4]
theorem run_frame_x (d : D) (h : s_is_signed.run [d] = .ok (.val (.bool false)) []) : s_frame.run [d] = .exc "InvalidText" d := by
  unfold s_frame
  rw [run_of]
  simp [m_frame, run_check_signs_x d h]
theorem run_opened_x (d : D) (h : s_is_signed.run [d] = .ok (.val (.bool false)) []) : s_opened.run [d] = .exc "InvalidText" d := by
  unfold s_opened
  rw [run_of]
  simp [m_opened, run_check_signs_x d h]
theorem run_frame_e (a : List Nat) (ha : a.length ≤ 10000) (hg : good a = true) (h : a.length = 0 ∨ 999 < a.length) : s_frame.run [.str (tS a)] = .exc "InvalidText" (.str (tS a)) := by
  unfold s_frame
  rw [run_of]
  obtain ⟨i, hi⟩ : ∃ i : Int, i = (a.length : Nat) := ⟨_, rfl⟩
  have g1 := gLen_s (show a.length ≤ 1000000 by omega)
  rw [← hi] at g1
  by_cases h1 : 1 ≤ i
  · have : ¬ i ≤ 999 := by omega
    simp [m_frame, run_check_signs a ha hg, g1, h1, this]
  · simp [m_frame, run_check_signs a ha hg, g1, h1]
/-! ### the law's own defs -/
theorem turn_frame (a : List Nat) (c : Nat) (i : Int) (hm : c ∈ sg) : lcT (tgTup 2 (tgCons (tgName 3) (tgCons (tgName 4) tgNil))) mYes (mBin gMul (mBin gAdd (mVar 3) (mVal (.int 1))) (mBin gAdd (mMeth gIndex (mOn "str" (mVar 1)) (mCons (mVar 4) mNil)) (mVal (.int 1)))) [3, 4]
      (.tuple [.int i, .str (tS [c])]) ⟨[some (.val (.str (tS a))), some (.val (.str (tS sg))), none, none, none], []⟩ = some (some (.int ((i + 1) * ((ix c : Int) + 1))), ⟨[some (.val (.str (tS a))), some (.val (.str (tS sg))), none, none, none], []⟩) := by
  simp [lcT, index_sg hm, mul_ix hm, Env.wipe, wipeS]
theorem run_lframe (a : List Nat) (ha : a.length < 10000) (hg : good a = true) : s__law_frame.run [.str (tS a)] = .ok (.val (.str (tS (frm a)))) [] := by
  unfold s__law_frame
  rw [run_of]
  have hz : a.length ≤ 16777216 := by omega
  have hc := ck_lt a
  have key : lcL (tgTup 2 (tgCons (tgName 3) (tgCons (tgName 4) tgNil))) mYes (mBin gMul (mBin gAdd (mVar 3) (mVal (.int 1))) (mBin gAdd (mMeth gIndex (mOn "str" (mVar 1)) (mCons (mVar 4) mNil)) (mVal (.int 1)))) [3, 4]
      (a.zipIdx.map fun p => .tuple [.int (p.2 : Nat), .str (tS [p.1])]) ⟨[some (.val (.str (tS a))), some (.val (.str (tS sg))), none, none, none], []⟩ [] = some ([] ++ a.zipIdx.map fun p => .int (((p.2 : Int) + 1) * ((ix p.1 : Int) + 1)), ⟨[some (.val (.str (tS a))), some (.val (.str (tS sg))), none, none, none], []⟩) := by
    refine lcL_map _ _ fun p hp => ?_
    exact turn_frame a p.1 _ (good_mem hg (List.fst_mem_of_mem_zipIdx hp))
  obtain ⟨i, hi⟩ : ∃ i : Int, i = (a.length : Nat) := ⟨_, rfl⟩
  have g1 := gLen_s (show a.length ≤ 1000000 by omega)
  rw [← hi] at g1
  have g2 : gStr [.int (10000 + i)] = some (.val (.str (tS (TL.numL (10000 + a.length))))) := by
    rw [show 10000 + i = ((10000 + a.length : Nat) : Int) by omega]
    exact gStr_n (by omega)
  have g3 : gStr [.int (1000 + (ws (0 + 1) a : Int) % 997)] = some (.val (.str (tS (TL.numL (1000 + ck a))))) := by
    rw [show (1000 + (ws (0 + 1) a : Int) % 997) = ((1000 + ck a : Nat) : Int) by unfold ck; rw [Nat.zero_add]; omega]
    exact gStr_n (by omega)
  have ws0 := ws_zip a 0
  obtain ⟨w, hw⟩ : ∃ w : Int, w = ws (0 + 1) a := ⟨_, rfl⟩
  rw [← hw] at ws0 g3
  have g4 : gMod (.int w) (.int 997) = some (.val (.int (w % 997))) := gMod_i (by decide)
  have l1 : (TL.numL (10000 + a.length)).length ≤ 1000000 := by rw [num5 (by omega) (by omega)]; simp
  have l2 : (TL.numL (1000 + ck a)).length ≤ 1000000 := by rw [num4 (by omega) (by omega)]; simp
  have g5 := gCut_s (lo := some 1) (hi := none) l1
  have g6 := gCut_s (lo := some 1) (hi := none) l2
  rw [tS_from (show (1 : Int) = ((1 : Nat) : Int) from rfl), num_1e4 ha] at g5
  rw [tS_from (show (1 : Int) = ((1 : Nat) : Int) from rfl), num_1e3 (by omega)] at g6
  simp [m__law_frame, z0_eq, ev_lc, Env.calm, hz, Env.wipe, wipeS, itemsD, enum_chars, key, Env.unwipe, backS, gSum, intsD_fn, ws0, g4, g1, g2, g3, g5, g6,
    gAdd_s (show (dig4 a.length).length + (dig3 (ck a)).length ≤ 1000000 by simp [dig4_len, dig3_len]), gAdd_s (show (dig4 a.length ++ dig3 (ck a)).length + a.length ≤ 1000000 by simp [dig4_len, dig3_len]; omega), frm]
/-- data that _law_same reads n deep -/
def okd : Nat → D → Prop
  | 0, _ => False
  | _ + 1, .none => True
  | _ + 1, .int _ => True
  | _ + 1, .bool _ => True
  | _ + 1, .str _ => True
  | n + 1, .tuple ds => ds.length ≤ 100000 ∧ ∀ d ∈ ds, okd n d
  | n + 1, .list ds => ds.length ≤ 100000 ∧ ∀ d ∈ ds, okd n d
  | _ + 1, _ => False
theorem same_s (n : Nat) : (s__law_same (n + 1)).run = (bodyFS 4 [false, false] (m__law_same (s__law_same n))).run := rfl
theorem all_true {α : Type} (l : List α) : (l.map fun _ => true).all id = true := by
  induction l <;> simp_all
theorem turn_same_tuple (f : FS) (ds : List D) (d : D) (j : Int) (g : gIx (.tuple ds) (.int j) = some (.val d)) (k : f.run [d, d] = .ok (.val (.bool true)) []) : lcT (tgName 3) mYes (mCallP f (mCons (mBin gIx (mVar 0) (mVar 3)) (mCons (mBin gIx (mVar 1) (mVar 3)) mNil))) [3] (.int j)
          ⟨[some (.val (.tuple ds)), some (.val (.tuple ds)), some (.val (.bool true)), none], []⟩  = some (some (.bool true), ⟨[some (.val (.tuple ds)), some (.val (.tuple ds)), some (.val (.bool true)), none], []⟩) := by
  simp [lcT, g, k, Env.wipe, wipeS]
theorem step_same_tuple (f : FS) (ds L : List D) (bs : List D) (k : Int) (hz : L.length ≤ 16777216) (hb : blsD bs = some (bs.map fun _ => true)) (g : gLen [.tuple ds] = some (.val (.int k))) (hr : gRng [.int k] = some L)
    (key : lcL (tgName 3) mYes (mCallP f (mCons (mBin gIx (mVar 0) (mVar 3)) (mCons (mBin gIx (mVar 1) (mVar 3)) mNil))) [3] L
          ⟨[some (.val (.tuple ds)), some (.val (.tuple ds)), some (.val (.bool true)), none], []⟩ [] = some (bs, ⟨[some (.val (.tuple ds)), some (.val (.tuple ds)), some (.val (.bool true)), none], []⟩)) :
    (bodyFS 4 [false, false] (m__law_same f)).run [.tuple ds, .tuple ds] = .ok (.val (.bool true)) [] := by
  rw [run_of]
  simp -implicitDefEqProofs [m__law_same, isiD, ev_lc, g, hr, Env.calm, hz, Env.wipe, wipeS, Env.unwipe, backS, gAll, key, hb]
theorem turn_same_list (f : FS) (ds : List D) (d : D) (j : Int) (g : gIx (.list ds) (.int j) = some (.val d)) (k : f.run [d, d] = .ok (.val (.bool true)) []) : lcT (tgName 3) mYes (mCallP f (mCons (mBin gIx (mVar 0) (mVar 3)) (mCons (mBin gIx (mVar 1) (mVar 3)) mNil))) [3] (.int j)
          ⟨[some (.val (.list ds)), some (.val (.list ds)), some (.val (.bool true)), none], []⟩  = some (some (.bool true), ⟨[some (.val (.list ds)), some (.val (.list ds)), some (.val (.bool true)), none], []⟩) := by
  simp [lcT, g, k, Env.wipe, wipeS]
theorem step_same_list (f : FS) (ds L : List D) (bs : List D) (k : Int) (hz : L.length ≤ 16777216) (hb : blsD bs = some (bs.map fun _ => true)) (g : gLen [.list ds] = some (.val (.int k))) (hr : gRng [.int k] = some L)
    (key : lcL (tgName 3) mYes (mCallP f (mCons (mBin gIx (mVar 0) (mVar 3)) (mCons (mBin gIx (mVar 1) (mVar 3)) mNil))) [3] L
          ⟨[some (.val (.list ds)), some (.val (.list ds)), some (.val (.bool true)), none], []⟩ [] = some (bs, ⟨[some (.val (.list ds)), some (.val (.list ds)), some (.val (.bool true)), none], []⟩)) :
    (bodyFS 4 [false, false] (m__law_same f)).run [.list ds, .list ds] = .ok (.val (.bool true)) [] := by
  rw [run_of]
  simp -implicitDefEqProofs [m__law_same, isiD, ev_lc, g, hr, Env.calm, hz, Env.wipe, wipeS, Env.unwipe, backS, gAll, key, hb]
theorem run_same : ∀ (n : Nat) (d : D), okd n d → (s__law_same n).run [d, d] = .ok (.val (.bool true)) [] := by
  intro n
  induction n with
  | zero => intro d h; exact h.elim
  | succ n ih =>
    intro d h
    rw [same_s]
    cases d with
    | none => rw [run_of]; simp [m__law_same]
    | int i => rw [run_of]; simp [m__law_same, isiD]
    | bool b => rw [run_of]; cases b <;> simp [m__law_same, isiD]
    | str s =>
      obtain ⟨a, rfl⟩ := tS_of s
      rw [run_of]
      simp [m__law_same, isiD]
    | tuple ds =>
      have hh : ds.length ≤ 100000 := h.1
      refine step_same_tuple _ ds _ (List.map (fun _ => PyData.bool true) (List.range ds.length)) ((ds.length : Nat) : Int) ?_ ?_ (gLen_t ds) (gRng_n rfl (by omega)) (lcL_map _ _ fun i hi => ?_)
      · rw [List.length_map, List.length_range]; omega
      · simp [blsD_fn]
      · have hi := List.mem_range.mp hi
        exact turn_same_tuple _ ds ds[i] _ (by rw [gIx_t rfl hi, List.getElem?_eq_getElem hi]; rfl) (ih _ (h.2 _ (List.getElem_mem hi)))
    | list ds =>
      have hh : ds.length ≤ 100000 := h.1
      refine step_same_list _ ds _ (List.map (fun _ => PyData.bool true) (List.range ds.length)) ((ds.length : Nat) : Int) ?_ ?_ (gLen_l ds) (gRng_n rfl (by omega)) (lcL_map _ _ fun i hi => ?_)
      · rw [List.length_map, List.length_range]; omega
      · simp [blsD_fn]
      · have hi := List.mem_range.mp hi
        exact turn_same_list _ ds ds[i] _ (by rw [gIx_l rfl hi, List.getElem?_eq_getElem hi]; rfl) (ih _ (h.2 _ (List.getElem_mem hi)))
    | _ => exact h.elim
end K27
set_option Elab.async false
set_option linter.all false
set_option maxRecDepth 100000
set_option maxHeartbeats 2000000
namespace K27
open PySem PySem.Spec PyProof.Rows L2 LW
/-! ### texts -/
theorem ta_at {n c : Nat} (x : List Nat) (hn : n < 10000) (hc : c < 1000) : ta (dig4 n ++ dig3 c ++ x) = taB n c (x.take n) := by
  have e1 : (dig4 n ++ dig3 c ++ x).take 7 = dig4 n ++ dig3 c := List.take_left' (by simp [dig4_len, dig3_len])
  have e2 : (dig4 n ++ dig3 c ++ x).drop 7 = x := List.drop_left' (by simp [dig4_len, dig3_len])
  have e3 : (dig4 n ++ dig3 c).take 4 = dig4 n := List.take_left' (by simp [dig4_len])
  have e4 : (dig4 n ++ dig3 c).drop 4 = dig3 c := List.drop_left' (by simp [dig4_len])
  have d4 : ∀ k, isD (dig4 k) = true := by
    intro k
    unfold isD dig4 dg
    simp
    omega
  have d3 : ∀ k, isD (dig3 k) = true := by
    intro k
    unfold isD dig3 dg
    simp
    omega
  have hd : isD (dig4 n ++ dig3 c) = true := by
    have h1 := d4 n
    have h2 := d3 c
    unfold isD at h1 h2 ⊢
    rw [List.all_append, h1, h2]
    rfl
  unfold ta
  rw [e1, e2, e3, e4, if_neg (by rw [hd]; simp [dig4_len, dig3_len]), val4 hn, val3 hc]
/-- a text that the law frames -/
def okT (a : List Nat) : Prop := 1 ≤ a.length ∧ a.length ≤ 999 ∧ good a = true
theorem ta_frm {a : List Nat} (h : okT a) (r : List Nat) : ta (frm a ++ r) = some a := by
  have hc := ck_lt a
  unfold frm
  rw [List.append_assoc, ta_at _ (by have := h.2.1; omega) (by omega), List.take_left]
  unfold taB
  have q : ¬ (a.length = 0 ∨ a.length < a.length ∨ good a = false) := by
    have h1 := h.1
    have h2 := h.2.2
    rintro (q | q | q)
    · omega
    · omega
    · rw [h2] at q
      cases q
  rw [if_neg q, if_pos rfl]
def logOf (ts : List (List Nat)) : List Nat := (ts.map frm).flatten
theorem logOf_cons (t : List Nat) (ts : List (List Nat)) : logOf (t :: ts) = frm t ++ logOf ts := rfl
theorem Rd.pre {r : List Nat} {us : List (List Nat)} {n : Nat} (h : Rd r us n) : ∀ {ts : List (List Nat)}, (∀ t ∈ ts, okT t) → Rd (logOf ts ++ r) (ts ++ us) ((logOf ts).length + n)
  | [], _ => by simpa [logOf] using h
  | t :: ts, ht => by
    have ih := Rd.pre h (ts := ts) fun x hx => ht x (by simp [hx])
    rw [logOf_cons, List.append_assoc]
    have e : (frm t ++ (logOf ts ++ r)).drop (7 + t.length) = logOf ts ++ r := List.drop_left' (frm_len t)
    have := Rd.step (ta_frm (ht t (by simp)) (logOf ts ++ r)) (by rw [e]; exact ih)
    rw [List.length_append, frm_len, Nat.add_assoc]
    exact this
theorem Rd.pre0 {r : List Nat} (h : ta r = none) {ts : List (List Nat)} (ht : ∀ t ∈ ts, okT t) : Rd (logOf ts ++ r) ts (logOf ts).length := by
  have := Rd.pre (Rd.stop h) ht
  simpa using this
theorem Rd.pre1 {r t : List Nat} (h : ta r = some t) {ts : List (List Nat)} (ht : ∀ t ∈ ts, okT t) : ∃ us n, Rd (logOf ts ++ r) (ts ++ t :: us) ((logOf ts).length + (7 + t.length + n)) := by
  obtain ⟨us, n, k⟩ := Rd.ex _ (r.drop (7 + t.length)) (Nat.le_refl _)
  exact ⟨us, n, Rd.pre (.step h k) ht⟩
theorem ta_short {r : List Nat} (h : r.length < 7) : ta r = none := by
  unfold ta
  rw [if_pos (.inl (by simp; omega))]
theorem ta_cut {a : List Nat} (h : okT a) {m : Nat} (hm : m < 7 + a.length) : ta ((frm a).take m) = none := by
  have hc := ck_lt a
  by_cases h7 : m < 7
  · exact ta_short (by rw [List.length_take]; omega)
  · have e : (frm a).take m = dig4 a.length ++ dig3 (ck a) ++ a.take (m - 7) := by
      unfold frm
      rw [List.take_append]
      have l7 : (dig4 a.length ++ dig3 (ck a)).length = 7 := by simp [dig4_len, dig3_len]
      rw [l7, List.take_of_length_le (by omega)]
    rw [e, ta_at _ (by have := h.2.1; omega) (by omega)]
    unfold taB
    rw [if_pos (.inr (.inl (by simp; omega)))]
theorem ta_other {c : Nat} (hc : c ∉ dg) (r : List Nat) : ta (c :: r) = none := by
  unfold ta
  refine if_pos (.inr ?_)
  rw [List.take_succ_cons]
  unfold isD
  rw [List.all_cons, decide_eq_false hc]
  rfl
/-- one text's place before `at` -/
def fnd : List (List Nat) → Nat → List (List Nat)
  | [], _ => []
  | t :: ts, m => if 7 + t.length ≤ m then t :: fnd ts (m - (7 + t.length)) else []
def fend (ts : List (List Nat)) : Nat := (ts.map fun t => 7 + t.length).sum
theorem rd_take : ∀ {ts : List (List Nat)} (m : Nat), (∀ t ∈ ts, okT t) → Rd ((logOf ts).take m) (fnd ts m) (fend (fnd ts m))
  | [], m, _ => by
    show Rd (List.take m []) [] 0
    rw [List.take_nil]
    exact .stop (ta_short (by simp))
  | t :: ts, m, ht => by
    rw [logOf_cons]
    unfold fnd
    by_cases h : 7 + t.length ≤ m
    · rw [if_pos h, List.take_append, frm_len, List.take_of_length_le (by rw [frm_len]; exact h)]
      have ih := rd_take (ts := ts) (m - (7 + t.length)) fun x hx => ht x (by simp [hx])
      have e : (frm t ++ (logOf ts).take (m - (7 + t.length))).drop (7 + t.length) = (logOf ts).take (m - (7 + t.length)) := List.drop_left' (frm_len t)
      have := Rd.step (ta_frm (ht t (by simp)) ((logOf ts).take (m - (7 + t.length)))) (by rw [e]; exact ih)
      exact this
    · rw [if_neg h]
      rw [List.take_append, frm_len, show m - (7 + t.length) = 0 by omega, List.take_zero, List.append_nil]
      exact .stop (ta_cut (ht t (by simp)) (by omega))
theorem log_len {ts : List (List Nat)} : (logOf ts).length = fend ts := by
  induction ts with
  | nil => rfl
  | cons t ts ih =>
    rw [logOf_cons, List.length_append, frm_len, ih]
    rfl
theorem fend_le {ts : List (List Nat)} (h : ∀ t ∈ ts, okT t) : fend ts ≤ 1006 * ts.length := by
  induction ts with
  | nil => exact Nat.le_refl _
  | cons t ts ih =>
    have := ih fun x hx => h x (by simp [hx])
    have h2 := (h t (by simp)).2.1
    show 7 + t.length + fend ts ≤ _
    rw [List.length_cons]
    omega
/-! ### the check number -/
theorem sg_get {i : Nat} (h : i < 40) : sg[i]? = some (sg.getD i 0) := by
  rw [List.getD_eq_getElem?_getD, List.getElem?_eq_getElem (show i < sg.length from h)]
  rfl
theorem sg_mem {i : Nat} (h : i < 40) : sg.getD i 0 ∈ sg := List.mem_of_getElem? (sg_get h)
theorem ix_get : ∀ i < 40, ix (sg.getD i 0) = i := by decide +kernel
theorem get_ix : ∀ c ∈ sg, sg.getD (ix c) 0 = c := by decide +kernel
theorem ws_app (a b : List Nat) : ∀ k, ws k (a ++ b) = ws k a + ws (k + a.length) b := by
  induction a with
  | nil => intro k; simp [ws]
  | cons c a ih =>
    intro k
    rw [List.cons_append]
    show k * (ix c + 1) + ws (k + 1) (a ++ b) = k * (ix c + 1) + ws (k + 1) a + _
    rw [ih, List.length_cons, show k + 1 + a.length = k + (a.length + 1) by omega]
    omega
/-- the sign at i turned to c -/
def put (a : List Nat) (i c : Nat) : List Nat := a.take i ++ [c] ++ a.drop (i + 1)
theorem put_len {a : List Nat} {i c : Nat} (h : i < a.length) : (put a i c).length = a.length := by
  unfold put
  simp
  omega
theorem split_at {a : List Nat} {i : Nat} (h : i < a.length) : a = a.take i ++ [a[i]] ++ a.drop (i + 1) := by
  rw [List.append_assoc, List.singleton_append, List.getElem_cons_drop h, List.take_append_drop]
theorem ws_put {a : List Nat} {i c : Nat} (h : i < a.length) : ws 1 (put a i c) + (i + 1) * (ix a[i] + 1) = ws 1 a + (i + 1) * (ix c + 1) := by
  have e := congrArg (ws 1) (split_at h)
  unfold put
  rw [ws_app, ws_app] at e ⊢
  have l : (a.take i).length = i := by simp; omega
  rw [List.length_append, l, List.length_singleton] at e ⊢
  have s : ∀ c, ws (1 + i) [c] = (i + 1) * (ix c + 1) := by
    intro c
    show (1 + i) * (ix c + 1) + 0 = _
    rw [Nat.add_comm 1 i]
    omega
  rw [s] at e
  rw [s]
  omega
theorem good_put {a : List Nat} {i c : Nat} (h : good a = true) (hc : c ∈ sg) : good (put a i c) = true := by
  refine List.all_eq_true.mpr fun x hx => decide_eq_true ?_
  unfold put at hx
  rw [List.mem_append, List.mem_append, List.mem_singleton] at hx
  rcases hx with (hx | rfl) | hx
  · exact good_mem h (List.mem_of_mem_take hx)
  · exact hc
  · exact good_mem h (List.mem_of_mem_drop hx)
end K27
set_option Elab.async false
set_option linter.all false
set_option maxRecDepth 100000
set_option maxHeartbeats 2000000
namespace K27
open PySem PySem.Spec PyProof.Rows L2 LW
/-- a drawing bag -/
def isBag (d : D) : Prop := ∃ x y z : Int, 0 ≤ x ∧ d = .list [.int x, .int y, .int z]
theorem run_draw {b : D} (hb : isBag b) {m : Int} (h0 : 0 < m) (h1 : m < 1073741824) : ∃ (v : Nat) (b' : D), s__law_draw.run [b, .int m] = .ok (.val (.int (v : Nat))) [b'] ∧ isBag b' ∧ (v : Int) < m := by
  obtain ⟨x, y, z, hx, rfl⟩ := hb
  have i0 : ∀ p q r : D, gIx (.list [p, q, r]) (.int 0) = some (.val p) := fun p q r => rfl
  have i1 : ∀ p q r : D, gIx (.list [p, q, r]) (.int 1) = some (.val q) := fun p q r => rfl
  have i2 : ∀ p q r : D, gIx (.list [p, q, r]) (.int 2) = some (.val r) := fun p q r => rfl
  have n0 : ixN 3 0 = some 0 := rfl
  have n1 : ixN 3 1 = some 1 := rfl
  have n2 : ixN 3 2 = some 2 := rfl
  by_cases hp : 0 < x
  · refine ⟨(x % m).toNat, .list [.int (x / m), .int y, .int z], ?_, ⟨_, _, _, Int.ediv_nonneg hx (by omega), rfl⟩, by have := Int.emod_lt_of_pos x h0; have := Int.emod_nonneg x (show m ≠ 0 by omega); omega⟩
    rw [show (((x % m).toNat : Nat) : Int) = x % m from Int.toNat_of_nonneg (Int.emod_nonneg x (by omega))]
    unfold s__law_draw
    rw [run_of]
    have g := gDivmod_i (i := x) ⟨h0, h1⟩
    simp -implicitDefEqProofs [m__law_draw, i0, i1, i2, hp, g, n0, n1, n2]
  · obtain ⟨w, hw⟩ : ∃ w : Int, w = (y * (y % 39979 + 30047) + 65027 * (z + 1) + 19) % 2147483399 := ⟨_, rfl⟩
    refine ⟨(w / 259 % m).toNat, .list [.int x, .int w, .int (z + 1)], ?_, ⟨_, _, _, hx, rfl⟩, by have := Int.emod_lt_of_pos (w / 259) h0; have := Int.emod_nonneg (w / 259) (show m ≠ 0 by omega); omega⟩
    rw [show (((w / 259 % m).toNat : Nat) : Int) = w / 259 % m from Int.toNat_of_nonneg (Int.emod_nonneg _ (by omega))]
    unfold s__law_draw
    rw [run_of]
    have g1 := gMod_i (i := y) (show (0 : Int) < 39979 by decide)
    have hm := Int.emod_lt_of_pos y (show (0 : Int) < 39979 by decide)
    have hm0 := Int.emod_nonneg y (show (39979 : Int) ≠ 0 by decide)
    have g2 : gMul (.int y) (.int (y % 39979 + 30047)) = some (.val (.int (y * (y % 39979 + 30047)))) := gMul_i (.inr (by omega))
    have g3 : gMul (.int 65027) (.int (z + 1)) = some (.val (.int (65027 * (z + 1)))) := gMul_i (.inl (by decide))
    have g4 := gMod_i (i := y * (y % 39979 + 30047) + 65027 * (z + 1) + 19) (show (0 : Int) < 2147483399 by decide)
    rw [← hw] at g4
    have g5 := gDiv_i (i := w) (j := 259) (by decide)
    have g6 := gMod_i (i := w / 259) h0
    simp -implicitDefEqProofs [m__law_draw, i0, i1, i2, hp, g1, g2, g3, g4, g5, g6, n0, n1, n2]
theorem run_one {b : D} (hb : isBag b) {ds : List D} (h0 : 0 < ds.length) (h1 : ds.length ≤ 1000000) : ∃ (k : Nat) (b' : D) (hk : k < ds.length), s__law_one.run [b, .list ds] = .ok (.val ds[k]) [b'] ∧ isBag b' := by
  obtain ⟨v, b', e, hb', hv⟩ := run_draw hb (show (0 : Int) < (ds.length : Nat) by omega) (by omega)
  have hk : v < ds.length := by omega
  refine ⟨v, b', hk, ?_, hb'⟩
  have g := gIx_l (ds := ds) (i := (v : Int)) rfl hk
  rw [List.getElem?_eq_getElem hk] at g
  have g2 := gLen_l ds
  obtain ⟨n, hn⟩ : ∃ n : Int, n = (ds.length : Nat) := ⟨_, rfl⟩
  obtain ⟨i, hi⟩ : ∃ i : Int, i = (v : Nat) := ⟨_, rfl⟩
  rw [← hn] at g2 e
  rw [← hi] at g e
  generalize ds[v] = d at g ⊢
  have hmd : s__law_draw.md = [true, false] := rfl
  unfold s__law_one
  rw [run_of]
  simp -implicitDefEqProofs [m__law_one, g2, hmd, e, g]
theorem run_oneS {b : D} (hb : isBag b) : ∃ (c : Nat) (b' : D), s__law_one.run [b, .str (tS sg)] = .ok (.val (.str (tS [c]))) [b'] ∧ isBag b' ∧ c ∈ sg := by
  obtain ⟨v, b', e, hb', hv⟩ := run_draw hb (show (0 : Int) < 40 by decide) (by decide)
  have hk : v < sg.length := by show v < 40; omega
  refine ⟨sg[v], b', ?_, hb', List.getElem_mem hk⟩
  have g := gIx_s (a := sg) (i := (v : Int)) rfl hk (by decide)
  have g2 : gLen [.str (tS sg)] = some (.val (.int 40)) := gLen_s (by decide)
  obtain ⟨i, hi⟩ : ∃ i : Int, i = (v : Nat) := ⟨_, rfl⟩
  rw [← hi] at g e
  generalize sg[v] = d at g ⊢
  have hmd : s__law_draw.md = [true, false] := rfl
  unfold s__law_one
  rw [run_of]
  simp -implicitDefEqProofs [m__law_one, g2, hmd, e, g]
/-- turns that draw -/
theorem lcL_ex {mt : MT} {mc : M Bool} {me : M EV} {vs : List Nat} (R : LW.Env → Prop) (Q : D → Prop) : ∀ {ds : List D} {ρ : LW.Env} {acc : List D}, R ρ → (∀ d ∈ ds, ∀ ρ, R ρ → ∃ y ρ', lcT mt mc me vs d ρ = some (some y, ρ') ∧ R ρ' ∧ Q y) →
    ∃ ys ρ', lcL mt mc me vs ds ρ acc = some (acc ++ ys, ρ') ∧ R ρ' ∧ ys.length = ds.length ∧ ∀ y ∈ ys, Q y
  | [], ρ, acc, hr, _ => ⟨[], ρ, by simp [lcL], hr, rfl, by simp⟩
  | d :: ds, ρ, acc, hr, h => by
    obtain ⟨y, ρ1, e, h1, q⟩ := h d (by simp) ρ hr
    obtain ⟨ys, ρ2, e2, h2, l2, q2⟩ := lcL_ex R Q (ds := ds) (acc := acc ++ [y]) h1 fun d hd => h d (by simp [hd])
    refine ⟨y :: ys, ρ2, ?_, h2, by simp [l2], ?_⟩
    · rw [lcL_cons, e]
      show lcL mt mc me vs ds ρ1 (acc ++ [y]) = _
      rw [e2, List.append_assoc]
      rfl
    · intro z hz
      rcases List.mem_cons.mp hz with rfl | hz
      · exact q
      · exact q2 z hz
theorem join_tS (l : List (List Nat)) : Txt.join (tS []) (l.map tS) = tS l.flatten := by
  show Builtin.Str.glued (tS []) (l.map tS) = _
  rw [StrLaws.glued_eq_join]
  induction l with
  | nil => rfl
  | cons a l ih =>
    cases l with
    | nil =>
      show tS a = tS (a ++ [])
      rw [List.append_nil]
    | cons b l =>
      show tS a ++ tS [] ++ Str.join (tS []) ((b :: l).map tS) = _
      rw [ih, tS_cat, tS_cat, List.append_nil]
      rfl
theorem z5_eq : z5 = tS [] := rfl
theorem join_g (l : List (List Nat)) (h : l.flatten.length ≤ 1000000) : gJoin (.str z5) [.list (l.map fun a => .str (tS a))] = some (.val (.str (tS l.flatten))) := by
  unfold gJoin
  dsimp only
  rw [strsD_fn]
  dsimp only
  rw [if_pos, z5_eq, join_tS]
  rw [z5_eq, tS_len, List.length_nil, Nat.mul_zero, Nat.add_zero, List.map_map, show ((fun x => x.length) ∘ tS) = List.length from funext fun a => tS_len a, ← List.length_flatten]
  omega
theorem cs_of {ys : List D} (h : ∀ y ∈ ys, ∃ c ∈ sg, y = .str (tS [c])) : ∃ a : List Nat, a.length = ys.length ∧ good a = true ∧ ys = (a.map fun c => [c]).map fun x => .str (tS x) := by
  induction ys with
  | nil => exact ⟨[], rfl, rfl, rfl⟩
  | cons y ys ih =>
    obtain ⟨c, hc, rfl⟩ := h y List.mem_cons_self
    obtain ⟨a, l, g, rfl⟩ := ih fun z hz => h z (List.mem_cons_of_mem _ hz)
    refine ⟨c :: a, by rw [List.length_cons, List.length_cons, l], ?_, rfl⟩
    unfold good at g ⊢
    rw [List.all_cons, g, decide_eq_true hc]
    rfl
theorem flat_one (a : List Nat) : (a.map fun c => [c]).flatten = a := by
  induction a with
  | nil => rfl
  | cons c a ih => rw [List.map_cons, List.flatten_cons, ih]; rfl
end K27
set_option Elab.async false
set_option linter.all false
set_option maxRecDepth 100000
set_option maxHeartbeats 2000000
namespace K27
open PySem PySem.Spec PyProof.Rows L2 LW
theorem run_signs : s__law_signs.run [] = .ok (.val (.str (tS sg))) [] := by
  unfold s__law_signs
  rw [run_of]
  simp -implicitDefEqProofs [m__law_signs, env0, z0_eq]
/-- signs drawn -/
theorem turn_drawn (x y : Option Slot) {b : D} (hb : isBag b) (d : D) : ∃ (z : D) (ρ' : LW.Env), lcT (tgName 3) mYes (mCallIO s__law_one (mCons (mVar 0) (mCons (mCallP s__law_signs mNil) mNil))) [3] d ⟨[some (.io 0), x, y, none], [b]⟩ = some (some z, ρ') ∧ (∃ b', isBag b' ∧ ρ' = ⟨[some (.io 0), x, y, none], [b']⟩) ∧ ∃ c ∈ sg, z = .str (tS [c]) := by
  obtain ⟨c, b', e, hb', hc⟩ := run_oneS hb
  refine ⟨.str (tS [c]), ⟨[some (.io 0), x, y, none], [b']⟩, ?_, ⟨b', hb', rfl⟩, c, hc, rfl⟩
  have hmd : s__law_one.md = [true, false] := rfl
  simp -implicitDefEqProofs [lcT, run_signs, hmd, e, Env.wipe, wipeS]
theorem many_drawn (x y : Option Slot) {b : D} (hb : isBag b) (l : List D) : ∃ (a : List Nat) (b' : D), lcL (tgName 3) mYes (mCallIO s__law_one (mCons (mVar 0) (mCons (mCallP s__law_signs mNil) mNil))) [3] l ⟨[some (.io 0), x, y, none], [b]⟩ [] = some ((a.map fun c => [c]).map fun x => .str (tS x), ⟨[some (.io 0), x, y, none], [b']⟩) ∧ isBag b' ∧ a.length = l.length ∧ good a = true := by
  obtain ⟨ys, ρ', e, ⟨b', hb', rfl⟩, hl, hq⟩ := lcL_ex (mt := tgName 3) (mc := mYes) (me := mCallIO s__law_one (mCons (mVar 0) (mCons (mCallP s__law_signs mNil) mNil))) (vs := [3]) (fun ρ => ∃ b, isBag b ∧ ρ = ⟨[some (.io 0), x, y, none], [b]⟩) (fun z => ∃ c ∈ sg, z = .str (tS [c]))
    (ds := l) (ρ := ⟨[some (.io 0), x, y, none], [b]⟩) (acc := []) ⟨b, hb, rfl⟩ (by
      rintro d _ ρ ⟨b, hb, rfl⟩
      exact turn_drawn x y hb d)
  obtain ⟨a, hal, hg, rfl⟩ := cs_of hq
  exact ⟨a, b', by rw [e]; rfl, hb', hal.trans hl, hg⟩
theorem rep_foldl (x : Array Nat) : ∀ (n : Nat) (acc : Array Nat), ((List.replicate n x).foldl (· ++ ·) acc).toList = acc.toList ++ (List.replicate n x.toList).flatten := by
  intro n
  induction n with
  | zero => intro acc; simp
  | succ n ih => intro acc; rw [List.replicate_succ, List.foldl_cons, ih, List.replicate_succ, List.flatten_cons]; simp
theorem gMul_s {a : List Nat} {n : Nat} {i : Int} (hi : i = n) (h1 : 1 < n) (h2 : n ≤ 1000000) (ha : 0 < a.length) (hz : a.length * n ≤ 1000000) : gMul (.str (tS a)) (.int i) = some (.val (.str (tS (List.replicate n a).flatten))) := by
  subst hi
  show (if _ then _ else _) = _
  rw [if_pos ⟨by omega, by omega, by rw [tS_len]; exact ha, by rw [tS_len, Int.toNat_natCast, sizeLine_eq]; omega⟩, Int.toNat_natCast]
  congr 3
  show (⟨_⟩ : Str) = ⟨_⟩
  congr 1
  apply Array.ext'
  rw [rep_foldl]
  rfl
theorem good_rep {a : List Nat} (h : good a = true) (n : Nat) : good (List.replicate n a).flatten = true := by
  refine List.all_eq_true.mpr fun c hc => decide_eq_true ?_
  obtain ⟨l, hl, hc⟩ := List.mem_flatten.mp hc
  rw [List.eq_of_mem_replicate hl] at hc
  exact good_mem h hc
theorem good_take {a : List Nat} (h : good a = true) (n : Nat) : good (a.take n) = true := List.all_eq_true.mpr fun c hc => decide_eq_true (good_mem h (List.mem_of_mem_take hc))
theorem good_drop {a : List Nat} (h : good a = true) (n : Nat) : good (a.drop n) = true := List.all_eq_true.mpr fun c hc => decide_eq_true (good_mem h (List.mem_of_mem_drop hc))
theorem good_app {a b : List Nat} (h : good a = true) (h2 : good b = true) : good (a ++ b) = true := by
  unfold good at *
  rw [List.all_append, h, h2]
  rfl
theorem rep_len (a : List Nat) (n : Nat) : (List.replicate n a).flatten.length = n * a.length := by
  induction n with
  | zero => simp
  | succ n ih => rw [List.replicate_succ, List.flatten_cons, List.length_append, ih, Nat.succ_mul, Nat.add_comm]
theorem run_text_drawn {b : D} (hb : isBag b) : ∃ (a : List Nat) (b' : D), s__law_text_drawn.run [b] = .ok (.val (.str (tS a))) [b'] ∧ isBag b' ∧ okT a := by
  obtain ⟨v1, b1, e1, hb1, l1⟩ := run_draw hb (show (0 : Int) < 40 by decide) (by decide)
  obtain ⟨v2, b2, e2, hb2, l2⟩ := run_draw hb1 (show (0 : Int) < 20 by decide) (by decide)
  obtain ⟨v3, b3, e3, hb3, l3⟩ := run_draw hb2 (show (0 : Int) < 10 by decide) (by decide)
  obtain ⟨k, b4, hk, e4, hb4⟩ := run_one hb3 (ds := [.int 1, .int 2, .int 3, .int (1 + (v1 : Nat)), .int (5 + (v2 : Nat)), .int (990 + (v3 : Nat)), .int 999]) (by simp) (by simp)
  obtain ⟨m, hm, m1, m2⟩ : ∃ m : Nat, [PyData.int 1, .int 2, .int 3, .int (1 + (v1 : Nat)), .int (5 + (v2 : Nat)), .int (990 + (v3 : Nat)), .int 999][k] = PyData.int (m : Nat) ∧ 1 ≤ m ∧ m ≤ 999 := by
    match k, hk with
    | 0, _ => exact ⟨1, rfl, by decide, by decide⟩
    | 1, _ => exact ⟨2, rfl, by decide, by decide⟩
    | 2, _ => exact ⟨3, rfl, by decide, by decide⟩
    | 3, _ => exact ⟨1 + v1, rfl, by omega, by omega⟩
    | 4, _ => exact ⟨5 + v2, rfl, by omega, by omega⟩
    | 5, _ => exact ⟨990 + v3, rfl, by omega, by omega⟩
    | 6, _ => exact ⟨999, rfl, by decide, by decide⟩
  rw [hm] at e4
  obtain ⟨i1, hi1⟩ : ∃ i : Int, i = (v1 : Nat) := ⟨_, rfl⟩
  obtain ⟨i2, hi2⟩ : ∃ i : Int, i = (v2 : Nat) := ⟨_, rfl⟩
  obtain ⟨i3, hi3⟩ : ∃ i : Int, i = (v3 : Nat) := ⟨_, rfl⟩
  obtain ⟨j, hj⟩ : ∃ i : Int, i = (m : Nat) := ⟨_, rfl⟩
  rw [← hi1] at e1 e4
  rw [← hi2] at e2 e4
  rw [← hi3] at e3 e4
  rw [← hj] at e4
  have hmd1 : s__law_one.md = [true, false] := rfl
  have hmd2 : s__law_draw.md = [true, false] := rfl
  by_cases h60 : j < 60
  · obtain ⟨l, hl⟩ : ∃ l : List D, l = (List.range m).map fun i => .int (i : Nat) := ⟨_, rfl⟩
    have hll : l.length = m := by rw [hl]; simp
    have gr : gRng [.int j] = some l := by rw [hl]; exact gRng_n hj (by omega)
    obtain ⟨a, b5, e5, hb5, la, ga⟩ := many_drawn (some (.val (.int j))) none hb4 l
    refine ⟨a, b5, ?_, hb5, by omega, by omega, ga⟩
    have gj := join_g (a.map fun c => [c]) (by rw [flat_one]; omega)
    rw [flat_one] at gj
    obtain ⟨L, hL⟩ : ∃ L, L = ((a.map fun c => [c]).map fun x => PyData.str (tS x)) := ⟨_, rfl⟩
    rw [← hL] at e5 gj
    have hz : l.length ≤ 16777216 := by omega
    unfold s__law_text_drawn
    rw [run_of]
    simp -implicitDefEqProofs [m__law_text_drawn, e1, e2, e3, e4, hmd1, hmd2, h60, gr, ev_lc, Env.calm, hz, Env.wipe, wipeS, Env.unwipe, backS, e5, gj]
  · obtain ⟨l, hl⟩ : ∃ l : List D, l = (List.range 7).map fun i => .int (i : Nat) := ⟨_, rfl⟩
    have hll : l.length = 7 := by rw [hl]; simp
    have gr : gRng [.int 7] = some l := by rw [hl]; exact gRng_n rfl (by omega)
    obtain ⟨a, b5, e5, hb5, la, ga⟩ := many_drawn (some (.val (.int j))) none hb4 l
    have la7 : a.length = 7 := by omega
    have hrl := rep_len a 200
    refine ⟨(List.replicate 200 a).flatten.take m, b5, ?_, hb5, by rw [List.length_take, hrl]; omega, by rw [List.length_take, hrl]; omega, good_take (good_rep ga 200) m⟩
    have gj := join_g (a.map fun c => [c]) (by rw [flat_one]; omega)
    rw [flat_one] at gj
    obtain ⟨L, hL⟩ : ∃ L, L = ((a.map fun c => [c]).map fun x => PyData.str (tS x)) := ⟨_, rfl⟩
    rw [← hL] at e5 gj
    have hz : l.length ≤ 16777216 := by omega
    have gm := gMul_s (a := a) (n := 200) (i := 200) rfl (by decide) (by decide) (by omega) (by omega)
    obtain ⟨big, hbig⟩ : ∃ big, big = (List.replicate 200 a).flatten := ⟨_, rfl⟩
    rw [← hbig] at gm hrl ⊢
    have gc := gCut_s (a := big) (lo := none) (hi := some j) (by rw [hrl]; omega)
    rw [tS_to hj] at gc
    unfold s__law_text_drawn
    rw [run_of]
    simp -implicitDefEqProofs [m__law_text_drawn, e1, e2, e3, e4, hmd1, hmd2, h60, gr, ev_lc, Env.calm, hz, Env.wipe, wipeS, Env.unwipe, backS, e5, gj, gm, gc]
theorem run_put {a : List Nat} {i : Nat} (hi : i < a.length) (ha : a.length ≤ 10000) (hg : good a = true) {by_ : Int} {j : Nat} (hj : ((ix a[i] : Nat) + by_) % 40 = (j : Nat)) {z : Int} (hz : z = (i : Nat)) : s__law_put_sign.run [.str (tS a), .int z, .int by_] = .ok (.val (.str (tS (put a i (sg.getD j 0))))) [] := by
  have hj40 : j < sg.length := by show j < 40; omega
  have g1 := gIx_s (a := a) hz hi (by omega)
  have g2 := index_sg (good_mem hg (List.getElem_mem hi))
  generalize a[i] = c at g1 g2 hj
  obtain ⟨x, hx⟩ : ∃ x : Int, x = (ix c : Nat) := ⟨_, rfl⟩
  rw [← hx] at g2 hj
  obtain ⟨w, hw⟩ : ∃ w : Int, w = (j : Nat) := ⟨_, rfl⟩
  rw [← hw] at hj
  have g3 := gMod_i (i := x + by_) (show (0 : Int) < 40 by decide)
  rw [hj] at g3
  have g4 := gIx_s (a := sg) hw hj40 (by decide)
  have e4 : sg[j]'hj40 = sg.getD j 0 := by rw [List.getD_eq_getElem?_getD, List.getElem?_eq_getElem hj40]; rfl
  rw [e4] at g4
  generalize sg.getD j 0 = d at g4 ⊢
  have g5 := gCut_s (a := a) (lo := none) (hi := some z) (by omega)
  rw [tS_to hz] at g5
  have g6 := gCut_s (a := a) (lo := some (z + 1)) (hi := none) (by omega)
  rw [tS_from (show z + 1 = ((i + 1 : Nat) : Int) by omega)] at g6
  have g7 := gAdd_s (a := a.take i) (b := [d]) (by simp; omega)
  have g8 := gAdd_s (a := a.take i ++ [d]) (b := a.drop (i + 1)) (by simp; omega)
  obtain ⟨L1, h1⟩ : ∃ L, L = a.take i := ⟨_, rfl⟩
  obtain ⟨L2, h2⟩ : ∃ L, L = a.drop (i + 1) := ⟨_, rfl⟩
  unfold put
  rw [← h1, ← h2] at g8 ⊢
  rw [← h1] at g5 g7
  rw [← h2] at g6
  obtain ⟨L3, h3⟩ : ∃ L, L = L1 ++ [d] := ⟨_, rfl⟩
  rw [← h3] at g7 g8 ⊢
  obtain ⟨L4, h4⟩ : ∃ L, L = L3 ++ L2 := ⟨_, rfl⟩
  rw [← h4] at g8 ⊢
  unfold s__law_put_sign
  rw [run_of]
  simp -implicitDefEqProofs [m__law_put_sign, run_signs, g1, g2, g3, g4, g5, g6, g7, g8]
end K27
set_option Elab.async false
set_option linter.all false
set_option maxRecDepth 100000
set_option maxHeartbeats 2000000
namespace K27
open PySem PySem.Spec PyProof.Rows L2 LW
theorem forL_ex {mt : MT} {mb : MS} (R : LW.Env → Prop) (E : RV → LW.Env → Prop) : ∀ {ds : List D} {ρ : LW.Env}, R ρ → (∀ d ∈ ds, ∀ ρ, R ρ → ∃ ρ1, mt d ρ = some ρ1 ∧ ((∃ ρ2, mb ρ1 = .nx ρ2 ∧ R ρ2) ∨ (∃ r ρ2, mb ρ1 = .rt r ρ2 ∧ E r ρ2))) →
    (∃ ρ', forL mt mb ds ρ = .nx ρ' ∧ R ρ') ∨ (∃ r ρ', forL mt mb ds ρ = .rt r ρ' ∧ E r ρ')
  | [], ρ, hr, _ => .inl ⟨ρ, rfl, hr⟩
  | d :: ds, ρ, hr, h => by
    obtain ⟨ρ1, e1, h1⟩ := h d (by simp) ρ hr
    rcases h1 with ⟨ρ2, e2, h2⟩ | ⟨r, ρ2, e2, h2⟩
    · have ih := forL_ex R E (ds := ds) h2 fun d hd => h d (by simp [hd])
      have e : forL mt mb (d :: ds) ρ = forL mt mb ds ρ2 := by
        show (match mt d ρ with | none => _ | some ρ1 => _) = _
        rw [e1]
        dsimp only
        rw [e2]
      rw [e]
      exact ih
    · refine .inr ⟨r, ρ2, ?_, h2⟩
      show (match mt d ρ with | none => _ | some ρ1 => _) = _
      rw [e1]
      dsimp only
      rw [e2]
theorem put_set {a : List Nat} {i c : Nat} (h : i < a.length) : put a i c = a.set i c := by
  rw [List.set_eq_take_append_cons_drop, if_pos h]
  unfold put
  simp
theorem put_get {a : List Nat} {i c j : Nat} (h : i < a.length) (hj : j < a.length) (hn : i ≠ j) : (put a i c)[j]'(by rw [put_len h]; exact hj) = a[j] := by
  have := put_set (c := c) h
  simp only [this]
  exact List.getElem_set_ne hn (by simpa using hj)
theorem kept_ck {a : List Nat} {p : Nat} (h : 2 * p + 1 < a.length) {c d : Nat} (hc : ix c = ix (a[p]'(by omega)) + 2) (hd : ix d + 1 = ix (a[2 * p + 1])) : ck (put (put a p c) (2 * p + 1) d) = ck a := by
  have h1 : p < a.length := by omega
  have w1 := ws_put (a := a) (i := p) (c := c) h1
  have w2 := ws_put (a := put a p c) (i := 2 * p + 1) (c := d) (by rw [put_len h1]; exact h)
  rw [put_get h1 h (by omega), ← hd] at w2
  rw [hc] at w1
  unfold ck
  congr 1
  generalize ix a[p] = A at *
  generalize ix d = B at *
  have e1 : (p + 1) * (A + 2 + 1) = (p + 1) * (A + 1) + 2 * (p + 1) := by rw [show A + 2 + 1 = (A + 1) + 2 by omega, Nat.mul_add]; omega
  have e2 : (2 * p + 1 + 1) * (B + 1 + 1) = (2 * p + 1 + 1) * (B + 1) + 2 * (p + 1) := by rw [Nat.mul_add _ (B + 1) 1]; omega
  omega
theorem run_kept {b : D} (hb : isBag b) {a : List Nat} (ha : okT a) : ∃ (x : List Nat) (b' : D), s__law_kept_check.run [b, .str (tS a)] = .ok (.val (.str (tS x))) [b'] ∧ isBag b' ∧ x.length = a.length ∧ good x = true ∧ ck x = ck a := by
  obtain ⟨ha1, ha2, hg⟩ := ha
  obtain ⟨n, hn⟩ : ∃ n : Int, n = (a.length : Nat) := ⟨_, rfl⟩
  obtain ⟨m, hm⟩ : ∃ n : Int, n = ((a.length / 2 : Nat) : Int) := ⟨_, rfl⟩
  have g1 := gLen_s (show a.length ≤ 1000000 by omega)
  rw [← hn] at g1
  have g2 : gDiv (.int n) (.int 2) = some (.val (.int m)) := by rw [gDiv_i (by decide), show n / 2 = m by omega]
  obtain ⟨L, hL⟩ : ∃ L : List D, L = (List.range (a.length / 2)).map fun i => .int (i : Nat) := ⟨_, rfl⟩
  have g3 : gRng [.int m] = some L := by rw [hL]; exact gRng_n hm (by omega)
  have hmd2 : s__law_draw.md = [true, false] := rfl
  obtain ⟨mb, hmb⟩ : ∃ mb : MS, mb = (mSeq (mSet 3 (mBin gMod (mCallB gInt (mCons (mBin gAdd (mVar 2) (mCallIO s__law_draw (mCons (mVar 0) (mCons (mVal (.int 7)) mNil)))) mNil)) (mCallB gMax (mCons (mVal (.int 1)) (mCons (mBin gDiv (mCallB gLen (mCons (mVar 1) mNil)) (mVal (.int 2))) mNil)))))
    (mSeq (mAsg (mLc (mItr (mTup (mCons (mVar 3) (mCons (mBin gAdd (mBin gMul (mVal (.int 2)) (mVar 3)) (mVal (.int 1))) mNil)))) (tgName 6) mYes (mMeth gIndex (mOn "str" (mCallP s__law_signs mNil)) (mCons (mBin gIx (mVar 1) (mVar 6)) mNil)) [6]) (tgTup 2 (tgCons (tgName 4) (tgCons (tgName 5) tgNil))))
    (mIte (mAnd (mBool (mBin gLt (mBin gAdd (mVar 4) (mVal (.int 2))) (mVal (.int 40)))) (mBool (mBin gGt (mVar 5) (mVal (.int 0))))) (mRet (mCallP s__law_put_sign (mCons (mCallP s__law_put_sign (mCons (mVar 1) (mCons (mVar 3) (mCons (mVal (.int 2)) mNil)))) (mCons (mBin gAdd (mBin gMul (mVal (.int 2)) (mVar 3)) (mVal (.int 1))) (mCons (mUn gNeg (mVal (.int 1))) mNil))))) mSkip))) := ⟨_, rfl⟩
  have key := forL_ex (mt := tgName 2) (mb := mb) (fun ρ => ∃ b s2 s3 s4 s5, isBag b ∧ ρ = ⟨[some (.io 0), some (.val (.str (tS a))), s2, s3, s4, s5, none], [b]⟩)
    (fun r ρ => ∃ x b, r = .val (.str (tS x)) ∧ ρ.io = [b] ∧ isBag b ∧ x.length = a.length ∧ good x = true ∧ ck x = ck a) (ds := L) (ρ := ⟨[some (.io 0), some (.val (.str (tS a))), none, none, none, none, none], [b]⟩) ⟨b, none, none, none, none, hb, rfl⟩ (by
      rintro d hd ρ ⟨b, s2, s3, s4, s5, hb, rfl⟩
      rw [hL] at hd
      obtain ⟨t, ht, rfl⟩ := List.mem_map.mp hd
      have ht := List.mem_range.mp ht
      obtain ⟨v, b', ed, hb', hv⟩ := run_draw hb (show (0 : Int) < 7 by decide) (by decide)
      obtain ⟨v', hv'⟩ : ∃ n : Int, n = (v : Nat) := ⟨_, rfl⟩
      obtain ⟨t', ht'⟩ : ∃ n : Int, n = (t : Nat) := ⟨_, rfl⟩
      rw [← hv'] at ed hv
      rw [← ht']
      refine ⟨⟨[some (.io 0), some (.val (.str (tS a))), some (.val (.int t')), s3, s4, s5, none], [b]⟩, rfl, ?_⟩
      have g4 : gMax [.int 1, .int m] = some (.val (.int m)) := by
        rw [gMax_2]
        by_cases q : m > 1
        · rw [if_pos q]
        · rw [if_neg q, show m = 1 by omega]
      obtain ⟨p, hp⟩ : ∃ p, p = (t + v) % (a.length / 2) := ⟨_, rfl⟩
      have hp2 : p < a.length / 2 := by rw [hp]; exact Nat.mod_lt _ (by omega)
      obtain ⟨p', hp'⟩ : ∃ n : Int, n = (p : Nat) := ⟨_, rfl⟩
      have g5 : gMod (.int (t' + v')) (.int m) = some (.val (.int p')) := by
        rw [gMod_i (by omega), hp', hp, ht', hv', hm]
        rfl
      obtain ⟨q', hq'⟩ : ∃ n : Int, n = 2 * p' + 1 := ⟨_, rfl⟩
      have hq2 : q' = ((2 * p + 1 : Nat) : Int) := by omega
      have g6 : gMul (.int 2) (.int p') = some (.val (.int (2 * p'))) := gMul_i (.inl (by decide))
      have g7 := gIx_s (a := a) hp' (by omega) (by omega)
      have g8 := gIx_s (a := a) hq2 (show 2 * p + 1 < a.length by omega) (by omega)
      have g9 := index_sg (good_mem hg (List.getElem_mem (show p < a.length by omega)))
      have g10 := index_sg (good_mem hg (List.getElem_mem (show 2 * p + 1 < a.length by omega)))
      have k1 := ix_lt (good_mem hg (List.getElem_mem (show p < a.length by omega)))
      have k2 := ix_lt (good_mem hg (List.getElem_mem (show 2 * p + 1 < a.length by omega)))
      obtain ⟨A, hA⟩ : ∃ n : Int, n = (ix (a[p]'(by omega)) : Nat) := ⟨_, rfl⟩
      obtain ⟨B, hB⟩ : ∃ n : Int, n = (ix (a[2 * p + 1]'(by omega)) : Nat) := ⟨_, rfl⟩
      rw [← hA] at g9
      rw [← hB] at g10
      by_cases cc : A + 2 < 40 ∧ 0 < B
      · right
        have r1 := run_put (a := a) (i := p) (by omega) (by omega) hg (by_ := 2) (j := ix (a[p]'(by omega)) + 2) (by omega) hp'
        have gp := good_put (a := a) (i := p) hg (sg_mem (i := ix (a[p]'(by omega)) + 2) (by omega))
        have lp := put_len (a := a) (i := p) (c := sg.getD (ix (a[p]'(by omega)) + 2) 0) (by omega)
        have pg := put_get (a := a) (i := p) (c := sg.getD (ix (a[p]'(by omega)) + 2) 0) (j := 2 * p + 1) (by omega) (by omega) (by omega)
        have r2 := run_put (a := put a p (sg.getD (ix (a[p]'(by omega)) + 2) 0)) (i := 2 * p + 1) (by omega) (by omega) gp (by_ := -1) (j := ix (a[2 * p + 1]'(by omega)) - 1) (by rw [pg]; omega) hq2
        have gq := good_put (a := put a p (sg.getD (ix (a[p]'(by omega)) + 2) 0)) (i := 2 * p + 1) gp (sg_mem (i := ix (a[2 * p + 1]'(by omega)) - 1) (by omega))
        have lq := put_len (a := put a p (sg.getD (ix (a[p]'(by omega)) + 2) 0)) (i := 2 * p + 1) (c := sg.getD (ix (a[2 * p + 1]'(by omega)) - 1) 0) (by omega)
        have ckq := kept_ck (a := a) (p := p) (by omega) (c := sg.getD (ix (a[p]'(by omega)) + 2) 0) (d := sg.getD (ix (a[2 * p + 1]'(by omega)) - 1) 0) (ix_get _ (by omega)) (by rw [ix_get _ (by omega)]; omega)
        obtain ⟨x2, hx2⟩ : ∃ x, x = put (put a p (sg.getD (ix (a[p]'(by omega)) + 2) 0)) (2 * p + 1) (sg.getD (ix (a[2 * p + 1]'(by omega)) - 1) 0) := ⟨_, rfl⟩
        rw [← hx2] at r2 gq lq ckq
        obtain ⟨x1, hx1⟩ : ∃ x, x = put a p (sg.getD (ix (a[p]'(by omega)) + 2) 0) := ⟨_, rfl⟩
        rw [← hx1] at r1 r2 lq lp
        refine ⟨.val (.str (tS x2)), ⟨[some (.io 0), some (.val (.str (tS a))), some (.val (.int t')), some (.val (.int p')), some (.val (.int A)), some (.val (.int B)), none], [b']⟩, ?_, x2, b', rfl, rfl, hb', lq.trans lp, gq, ckq⟩
        rw [hq'] at r2 g8
        obtain ⟨c1, hc1⟩ : ∃ x, x = a[p]'(by omega) := ⟨_, rfl⟩
        obtain ⟨c2, hc2⟩ : ∃ x, x = a[2 * p + 1]'(by omega) := ⟨_, rfl⟩
        rw [← hc1] at g7 g9
        rw [← hc2] at g8 g10
        rw [hmb]
        simp -implicitDefEqProofs [hmd2, ed, g1, g2, g4, g5, ev_lc, Env.calm, Env.wipe, wipeS, Env.unwipe, backS, lcL_cons, lcT, lcL, g6, run_signs, g7, g8, g9, g10, cc.1, cc.2, r1, r2]
      · left
        refine ⟨⟨[some (.io 0), some (.val (.str (tS a))), some (.val (.int t')), some (.val (.int p')), some (.val (.int A)), some (.val (.int B)), none], [b']⟩, ?_, b', _, _, _, _, hb', rfl⟩
        rw [hq'] at g8
        obtain ⟨c1, hc1⟩ : ∃ x, x = a[p]'(by omega) := ⟨_, rfl⟩
        obtain ⟨c2, hc2⟩ : ∃ x, x = a[2 * p + 1]'(by omega) := ⟨_, rfl⟩
        rw [← hc1] at g7 g9
        rw [← hc2] at g8 g10
        rw [hmb]
        by_cases c3 : A + 2 < 40
        · have c4 : ¬ 0 < B := fun h => cc ⟨c3, h⟩
          simp -implicitDefEqProofs [hmd2, ed, g1, g2, g4, g5, ev_lc, Env.calm, Env.wipe, wipeS, Env.unwipe, backS, lcL_cons, lcT, lcL, g6, run_signs, g7, g8, g9, g10, c3, c4]
        · simp -implicitDefEqProofs [hmd2, ed, g1, g2, g4, g5, ev_lc, Env.calm, Env.wipe, wipeS, Env.unwipe, backS, lcL_cons, lcT, lcL, g6, run_signs, g7, g8, g9, g10, c3])
  rcases key with ⟨ρ', e, b', s2, s3, s4, s5, hb', rfl⟩ | ⟨r, ρ', e, x, b', rfl, hio, hb', lx, gx, kx⟩
  · refine ⟨a, b', ?_, hb', rfl, hg, rfl⟩
    rw [hmb] at e
    unfold s__law_kept_check
    rw [run_of]
    simp -implicitDefEqProofs [m__law_kept_check, g1, g2, g3, e]
  · refine ⟨x, b', ?_, hb', lx, gx, kx⟩
    rw [hmb] at e
    unfold s__law_kept_check
    rw [run_of]
    simp -implicitDefEqProofs [m__law_kept_check, g1, g2, g3, e, hio]
end K27
set_option Elab.async false
set_option linter.all false
set_option maxRecDepth 100000
set_option maxHeartbeats 2000000
namespace K27
open PySem PySem.Spec PyProof.Rows L2 LW
theorem str_ok {a : List Nat} (h : good a = true) : PyData.strOk (tS a) = true := by
  unfold PyData.strOk
  rw [← Array.all_toList, tS_cps]
  refine List.all_eq_true.mpr fun c hc => ?_
  have := good_mem h hc
  have k : ∀ c ∈ sg, decide (c < 0x110000) = true := by decide +kernel
  exact k c this
theorem lay_tL : ∀ {ts : List (List Nat)}, (∀ t ∈ ts, good t = true) → PyData.canLayAll0 (tL ts) = true ∧ PyData.depthAll (tL ts) = 0
  | [], _ => ⟨rfl, rfl⟩
  | t :: ts, h => by
    obtain ⟨h1, h2⟩ := lay_tL (ts := ts) fun x hx => h x (by simp [hx])
    have h3 := str_ok (h t (by simp))
    constructor
    · show (PyData.canLay0 (.str (tS t)) && PyData.canLayAll0 (tL ts)) = true
      rw [h1]
      simpa [PyData.canLay0] using h3
    · show max (PyData.depth (.str (tS t))) (PyData.depthAll (tL ts)) = 0
      rw [h2]
      simp [PyData.depth]
theorem gEq_tL {ts : List (List Nat)} (h : ∀ t ∈ ts, good t = true) : gEq (.tuple (tL ts)) (.tuple (tL ts)) = some (.val (.bool true)) := by
  obtain ⟨h1, h2⟩ := lay_tL h
  have hl : PyData.canLay0 (.tuple (tL ts)) = true := by simpa [PyData.canLay0] using h1
  have hs : SeqAt.shaped (.tuple (tL ts)) = true := by
    unfold SeqAt.shaped
    rw [hl]
    simp [PyData.depth, h2]
  have hr := SeqAt.eqv_refl _ hl
  unfold gEq eqD
  have : gEqS (.tuple (tL ts)) (.tuple (tL ts)) = none := rfl
  rw [this]
  dsimp only
  rw [if_pos ⟨hs, hs⟩, hr]
  rfl
theorem tL_cons (t : List Nat) (ts : List (List Nat)) : tL (t :: ts) = .str (tS t) :: tL ts := rfl
theorem tL_app (a b : List (List Nat)) : tL (a ++ b) = tL a ++ tL b := List.map_append
theorem tL_len (a : List (List Nat)) : (tL a).length = a.length := List.length_map _
theorem tL_take (a : List (List Nat)) (n : Nat) : (tL a).take n = tL (a.take n) := List.map_take.symm
theorem forL_s {mt : MT} {mb : MS} {d : D} {ds : List D} {ρ : LW.Env} : forL mt mb (d :: ds) ρ = match mt d ρ with
    | none => .stk
    | some ρ1 => match mb ρ1 with
      | .nx ρ2 => forL mt mb ds ρ2
      | .ct ρ2 => forL mt mb ds ρ2
      | .bk ρ2 => .nx ρ2
      | o => o := rfl
theorem for_log (S0 S1 S2 : Option Slot) : ∀ (us : List (List Nat)) (acc : List Nat) (es : List D) (s5 : Option Slot), (∀ u ∈ us, okT u) → acc.length + (logOf us).length ≤ 10000 → es.length + us.length ≤ 1000 →
    ∃ es' s5', forL (tgName 5) (mSeq (mSet 3 (mBin gAdd (mVar 3) (mCallP s__law_frame (mCons (mVar 5) mNil))))
    (mDrop (mMut gAppend (mOn "list" (mVar 4)) (mCons (mCallB gLen (mCons (mVar 3) mNil)) mNil)))) (tL us) ⟨[S0, S1, S2, some (.val (.str (tS acc))), some (.own (.list es)), s5, none], []⟩
    = .nx ⟨[S0, S1, S2, some (.val (.str (tS (acc ++ logOf us)))), some (.own (.list es')), s5', none], []⟩
  | [], acc, es, s5, _, _, _ => ⟨es, s5, by rw [show logOf [] = [] from rfl, List.append_nil]; rfl⟩
  | u :: us, acc, es, s5, h, hl, he => by
    have hu := h u (by simp)
    rw [logOf_cons, List.length_append] at hl
    obtain ⟨es', s5', ih⟩ := for_log S0 S1 S2 us (acc ++ frm u) (es ++ [.int ((acc ++ frm u).length : Nat)]) (some (.val (.str (tS u)))) (fun x hx => h x (by simp [hx])) (by rw [List.length_append]; omega) (by rw [List.length_append, List.length_singleton]; rw [List.length_cons] at he; omega)
    refine ⟨es', s5', ?_⟩
    rw [logOf_cons, ← List.append_assoc, ← ih]
    have g1 := run_lframe u (by have := hu.2.1; omega) hu.2.2
    have g2 := gAdd_s (a := acc) (b := frm u) (by omega)
    have g3 := gLen_s (a := acc ++ frm u) (by rw [List.length_append]; omega)
    obtain ⟨L, hL⟩ : ∃ L, L = acc ++ frm u := ⟨_, rfl⟩
    obtain ⟨F, hF⟩ : ∃ F, F = frm u := ⟨_, rfl⟩
    rw [← hL] at g2 g3 ⊢
    rw [← hF] at g1 g2
    obtain ⟨n, hn⟩ : ∃ n : Int, n = (L.length : Nat) := ⟨_, rfl⟩
    rw [← hn] at g3 ⊢
    have g4 : gAppend (.list es) [.int n] = some (.list (es ++ [.int n]), .none) := gAppend_l (by omega)
    rw [tL_cons, forL_s]
    simp -implicitDefEqProofs [g1, g2, g3, g4]
theorem run_stream0 {ts : List (List Nat)} {r : List Nat} (ht : ∀ t ∈ ts, okT t) (hn : ts.length ≤ 4) (hr : r.length ≤ 5000) (h : ta r = none) : s__law_stream_right.run [.list (tL ts), .str (tS r), .bool false] = .ok (.val (.bool true)) [] := by
  have hf := fend_le ht
  have hl : (logOf ts).length ≤ 4024 := by rw [log_len]; omega
  obtain ⟨es, s5, e⟩ := for_log (some (.val (.list (tL ts)))) (some (.val (.str (tS r)))) (some (.val (.bool false))) ts [] [] none ht (by rw [List.length_nil]; omega) (by rw [List.length_nil]; omega)
  have g1 := run_frames_in (logOf ts ++ r) (by rw [List.length_append]; omega) (Rd.pre0 h ht)
  have g2 := gAdd_s (a := logOf ts) (b := r) (by omega)
  have g3 := gLen_s (a := logOf ts) (by omega)
  rw [List.nil_append] at e
  obtain ⟨n, hn⟩ : ∃ n : Int, n = ((logOf ts).length : Nat) := ⟨_, rfl⟩
  rw [← hn] at g3 g1
  obtain ⟨L, hL⟩ : ∃ L, L = logOf ts := ⟨_, rfl⟩
  obtain ⟨T, hT⟩ : ∃ T, T = tL ts := ⟨_, rfl⟩
  have hTl : T.length ≤ 4 := by rw [hT, tL_len]; omega
  rw [← hL] at g1 g2 g3 e
  obtain ⟨F, hF⟩ : ∃ F, F = L ++ r := ⟨_, rfl⟩
  rw [← hF] at g1 g2
  rw [← hT] at g1 e ⊢
  have g4 := run_same 8 (.tuple [.tuple T, .int n]) ⟨by simp, fun d hd => by
    rcases List.mem_cons.mp hd with rfl | hd
    · refine ⟨by omega, fun d hd => ?_⟩
      rw [hT] at hd
      obtain ⟨_, _, rfl⟩ := List.mem_map.mp hd
      exact True.intro
    · rw [List.mem_singleton.mp hd]
      exact True.intro⟩
  have z : tS [] = z5 := rfl
  rw [z] at e
  unfold s__law_stream_right
  rw [run_of]
  simp -implicitDefEqProofs [m__law_stream_right, itemsD, e, g1, g2, g3, g4]
theorem run_stream1 {ts : List (List Nat)} {r t : List Nat} (ht : ∀ t ∈ ts, okT t) (hn : ts.length ≤ 4) (hr : r.length ≤ 5000) (h : ta r = some t) : s__law_stream_right.run [.list (tL ts), .str (tS r), .bool true] = .ok (.val (.bool true)) [] := by
  have hf := fend_le ht
  have hl : (logOf ts).length ≤ 4024 := by rw [log_len]; omega
  obtain ⟨es, s5, e⟩ := for_log (some (.val (.list (tL ts)))) (some (.val (.str (tS r)))) (some (.val (.bool true))) ts [] [] none ht (by rw [List.length_nil]; omega) (by rw [List.length_nil]; omega)
  obtain ⟨us, k, hk⟩ := Rd.pre1 h ht
  have g1 := run_frames_in (logOf ts ++ r) (by rw [List.length_append]; omega) hk
  have g2 := gAdd_s (a := logOf ts) (b := r) (by omega)
  have g3 := gLen_s (a := logOf ts) (by omega)
  have g5 := gEq_tL fun t h => (ht t h).2.2
  rw [List.nil_append] at e
  obtain ⟨n, hn'⟩ : ∃ n : Int, n = ((logOf ts).length : Nat) := ⟨_, rfl⟩
  obtain ⟨n2, hn2⟩ : ∃ n : Int, n = (((logOf ts).length + (7 + t.length + k) : Nat) : Int) := ⟨_, rfl⟩
  have hlt : n < n2 := by omega
  rw [← hn2] at g1
  rw [← hn'] at g3
  obtain ⟨m, hm⟩ : ∃ n : Int, n = (ts.length : Nat) := ⟨_, rfl⟩
  obtain ⟨T2, hT2⟩ : ∃ T, T = tL (ts ++ t :: us) := ⟨_, rfl⟩
  obtain ⟨L, hL⟩ : ∃ L, L = logOf ts := ⟨_, rfl⟩
  obtain ⟨T, hT⟩ : ∃ T, T = tL ts := ⟨_, rfl⟩
  have hTl : T.length = ts.length := by rw [hT, tL_len]
  have g6 : gLen [.list T] = some (.val (.int m)) := by rw [gLen_l, hTl, hm]
  obtain ⟨m2, hm2⟩ : ∃ n : Int, n = (T2.length : Nat) := ⟨_, rfl⟩
  have g7 := gLen_t T2
  rw [← hm2] at g7
  have hmm : m < m2 := by rw [hm, hm2, hT2, tL_len, List.length_append, List.length_cons]; omega
  have g8 : cutD T2 none (some m) = T := by
    rw [cutD_to hm, hT2, tL_take, List.take_left, hT]
  have i0 : ∀ p q : D, gIx (.tuple [p, q]) (.int 0) = some (.val p) := fun p q => rfl
  have i1 : ∀ p q : D, gIx (.tuple [p, q]) (.int 1) = some (.val q) := fun p q => rfl
  rw [← hL] at g1 g2 g3 e
  obtain ⟨F, hF⟩ : ∃ F, F = L ++ r := ⟨_, rfl⟩
  rw [← hF] at g1 g2
  rw [← hT] at e g5 ⊢
  rw [← hT2] at g1
  have z : tS [] = z5 := rfl
  rw [z] at e
  unfold s__law_stream_right
  rw [run_of]
  simp -implicitDefEqProofs [m__law_stream_right, itemsD, e, g1, g2, g3, g5, g6, g7, g8, i0, i1, hlt, hmm]
end K27
set_option Elab.async false
set_option linter.all false
set_option maxRecDepth 100000
set_option maxHeartbeats 2000000
namespace K27
open PySem PySem.Spec PyProof.Rows L2 LW
def hdOf (a : List Nat) : List Nat := dig4 a.length ++ dig3 (ck a)
theorem hd_len (a : List Nat) : (hdOf a).length = 7 := by unfold hdOf; simp [dig4_len, dig3_len]
theorem frm_hd (a : List Nat) : frm a = hdOf a ++ a := rfl
theorem ta_hd {a : List Nat} (h : okT a) (x : List Nat) : ta (hdOf a ++ x) = taB a.length (ck a) (x.take a.length) := by
  have hc := ck_lt a
  exact ta_at x (by have := h.2.1; omega) (by omega)
/-- a text of the same length under a's header -/
theorem ta_bent {a x : List Nat} (h : okT a) (hx : x.length = a.length) (hg : good x = true) (r : List Nat) : ta (hdOf a ++ x ++ r) = if ck x = ck a then some x else none := by
  rw [List.append_assoc, ta_hd h, List.take_append, hx, Nat.sub_self, List.take_zero, List.append_nil, List.take_of_length_le (by omega)]
  unfold taB
  have h1 := h.1
  have q : ¬ (a.length = 0 ∨ x.length < a.length ∨ good x = false) := by
    rintro (q | q | q)
    · omega
    · omega
    · rw [hg] at q
      cases q
  rw [if_neg q]
theorem mod_ne {x y k d : Nat} (h : x + k * d = y ∨ y + k * d = x) (hd : 0 < d) (hd2 : d < 40) (hk : k ≤ 999) (hk1 : 1 ≤ k) : (x % 997 = y % 997) ↔ k % 997 = 0 := by
  have key : (x % 997 = y % 997) ↔ (k * d) % 997 = 0 := by rcases h with h | h <;> omega
  rw [key]
  constructor
  · intro e
    by_cases hk' : k < 997
    · exfalso
      have hp : ∀ d < 40, 0 < d → Nat.gcd 997 d = 1 := by decide +kernel
      have hdv : 997 ∣ k * d := Nat.dvd_of_mod_eq_zero e
      have hcp : Nat.Coprime 997 d := hp d hd2 hd
      have := Nat.le_of_dvd (by omega) (hcp.dvd_of_dvd_mul_right hdv)
      omega
    · have hk3 : k = 997 ∨ k = 998 ∨ k = 999 := by omega
      rcases hk3 with rfl | rfl | rfl
      · rfl
      · omega
      · omega
  · intro e
    have : k = 997 := by omega
    subst this
    exact Nat.mul_mod_right 997 d
theorem bent_ck {a : List Nat} (ha : okT a) {p v : Nat} (hp : p < a.length) (hv : v < 39) : ck (put a p (sg.getD ((ix a[p] + (1 + v)) % 40) 0)) = ck a ↔ (p + 1) % 997 = 0 := by
  have hx := ix_lt (good_mem ha.2.2 (List.getElem_mem hp))
  have w := ws_put (a := a) (i := p) (c := sg.getD ((ix a[p] + (1 + v)) % 40) 0) hp
  rw [ix_get _ (Nat.mod_lt _ (by decide))] at w
  unfold ck
  generalize ws 1 (put a p _) = A at w ⊢
  generalize ws 1 a = B at w ⊢
  generalize ix a[p] = x at hx w
  have hl := ha.2.1
  by_cases q : x + (1 + v) < 40
  · rw [Nat.mod_eq_of_lt q] at w
    refine mod_ne (d := 1 + v) (.inr ?_) (by omega) (by omega) (by omega) (by omega)
    rw [show x + (1 + v) + 1 = (x + 1) + (1 + v) by omega, Nat.mul_add (p + 1) (x + 1) (1 + v)] at w
    omega
  · rw [show (x + (1 + v)) % 40 = x + (1 + v) - 40 by omega] at w
    refine mod_ne (d := 40 - (1 + v)) (.inl ?_) (by omega) (by omega) (by omega) (by omega)
    rw [show x + 1 = (x + (1 + v) - 40 + 1) + (40 - (1 + v)) by omega, Nat.mul_add (p + 1) (x + (1 + v) - 40 + 1)] at w
    omega
/-- two neighbours turned about -/
def turn2 (a : List Nat) (q : Nat) : List Nat := a.take q ++ ((a.drop q).take 2).reverse ++ a.drop (q + 2)
theorem ix_inj {c d : Nat} (hc : c ∈ sg) (hd : d ∈ sg) (h : ix c = ix d) : c = d := by rw [← get_ix c hc, ← get_ix d hd, h]
theorem turn2_one {a : List Nat} (h : a.length = 1) : turn2 a 0 = a := by
  match a, h with
  | [c], _ => rfl
theorem turn2_ck {a : List Nat} (ha : okT a) {q : Nat} (hq : q < max 1 (a.length - 1)) : (turn2 a q).length = a.length ∧ good (turn2 a q) = true ∧ (ck (turn2 a q) = ck a ↔ turn2 a q = a) := by
  by_cases h1 : a.length = 1
  · have : q = 0 := by omega
    subst this
    rw [turn2_one h1]
    exact ⟨rfl, ha.2.2, by simp⟩
  · have hq1 : q + 1 < a.length := by have := ha.1; omega
    have e0 : a = a.take q ++ ([a[q], a[q + 1]] ++ a.drop (q + 2)) := by
      rw [List.cons_append, List.singleton_append, List.getElem_cons_drop hq1, List.getElem_cons_drop (by omega : q < a.length), List.take_append_drop]
    have e1 : (a.drop q).take 2 = [a[q], a[q + 1]] := by
      rw [← List.getElem_cons_drop (by omega : q < a.length), ← List.getElem_cons_drop hq1]
      rfl
    have e2 : turn2 a q = a.take q ++ ([a[q + 1], a[q]] ++ a.drop (q + 2)) := by
      unfold turn2
      rw [e1, List.append_assoc]
      rfl
    have m1 := good_mem ha.2.2 (List.getElem_mem (show q < a.length by omega))
    have m2 := good_mem ha.2.2 (List.getElem_mem hq1)
    have w1 := congrArg (ws 1) e0
    have w2 := congrArg (ws 1) e2
    rw [ws_app, ws_app] at w1 w2
    have l : (a.take q).length = q := by simp; omega
    rw [l] at w1 w2
    have s : ∀ c d, ws (1 + q) [c, d] = (q + 1) * (ix c + 1) + ((q + 1) * (ix d + 1) + (ix d + 1)) := by
      intro c d
      show (1 + q) * (ix c + 1) + ((1 + q + 1) * (ix d + 1) + 0) = _
      rw [Nat.add_comm 1 q, Nat.succ_mul (q + 1)]
      omega
    rw [s] at w1 w2
    have k1 := ix_lt m1
    have k2 := ix_lt m2
    refine ⟨?_, ?_, ?_, fun h => by rw [h]⟩
    · rw [e2]
      simp
      omega
    · refine List.all_eq_true.mpr fun x hx => decide_eq_true ?_
      rw [e2] at hx
      rw [List.mem_append, List.mem_append] at hx
      rcases hx with hx | hx | hx
      · exact good_mem ha.2.2 (List.mem_of_mem_take hx)
      · rcases List.mem_cons.mp hx with rfl | hx
        · exact m2
        · rw [List.mem_singleton.mp hx]; exact m1
      · exact good_mem ha.2.2 (List.mem_of_mem_drop hx)
    · intro h
      unfold ck at h
      have hl1 : ([a[q], a[q + 1]] : List Nat).length = 2 := rfl
      have hl2 : ([a[q + 1], a[q]] : List Nat).length = 2 := rfl
      rw [hl1] at w1
      rw [hl2] at w2
      have : ix a[q] = ix a[q + 1] := by
        generalize ws 1 (turn2 a q) = A at h w2
        generalize ws 1 a = B at h w1
        generalize ws 1 (a.take q) = C at w1 w2
        generalize ws (1 + q + 2) (a.drop (q + 2)) = D at w1 w2
        generalize (q + 1) * (ix a[q] + 1) = E at w1 w2
        generalize (q + 1) * (ix a[q + 1] + 1) = F at w1 w2
        omega
      have := ix_inj m1 m2 this
      rw [e2, ← this]
      rw [this] at e0
      rw [← this] at e0
      exact e0.symm
end K27
set_option Elab.async false
set_option linter.all false
set_option maxRecDepth 100000
set_option maxHeartbeats 4000000
namespace K27
open PySem PySem.Spec PyProof.Rows L2 LW
theorem op {α : Type} (a : α) : ∃ x : α, x = a := ⟨a, rfl⟩
theorem pk1 (e : EV) : pickL [0] [e] = [e] := rfl
theorem z6_eq : z6 = tS (dig4 0 ++ dig3 0) := by decide +kernel
theorem z7_eq : z7 = tS (dig4 0) := by decide +kernel
theorem z8_eq : z8 = tS [97] := by decide +kernel
theorem z3_eq : z3 = tS [32] := by decide +kernel
theorem run_stream {ts : List (List Nat)} (ht : ∀ t ∈ ts, okT t) (hn : ts.length ≤ 4) {r x : List Nat} (hr : r.length ≤ 5000) {e : Bool} {p : Prop} [Decidable p] (h : ta r = if p then some x else none) (he : e = decide p) : s__law_stream_right.run [.list (tL ts), .str (tS r), .bool e] = .ok (.val (.bool true)) [] := by
  by_cases q : p
  · rw [if_pos q] at h
    rw [he, decide_eq_true q]
    exact run_stream1 ht hn hr h
  · rw [if_neg q] at h
    rw [he, decide_eq_false q]
    exact run_stream0 ht hn hr h
theorem turn_log (S : List (Option Slot)) (io : List D) (u : List Nat) (hu : okT u) (a b c d e f g h i j k l : Option Slot) : lcT (tgName 12) mYes (mCallP s__law_frame (mCons (mVar 12) mNil)) [12] (.str (tS u)) ⟨[a, b, c, d, e, f, g, h, i, j, k, l, none, none], io⟩ = some (some (.str (tS (frm u))), ⟨[a, b, c, d, e, f, g, h, i, j, k, l, none, none], io⟩) := by
  have g1 := run_lframe u (by have := hu.2.1; omega) hu.2.2
  generalize frm u = F at g1 ⊢
  simp -implicitDefEqProofs [lcT, g1, Env.wipe, wipeS]
theorem comp_log (io : List D) (ts : List (List Nat)) (ht : ∀ t ∈ ts, okT t) (a b c d e f g h i j k l : Option Slot) : lcL (tgName 12) mYes (mCallP s__law_frame (mCons (mVar 12) mNil)) [12] (tL ts) ⟨[a, b, c, d, e, f, g, h, i, j, k, l, none, none], io⟩ [] = some (tL (ts.map frm), ⟨[a, b, c, d, e, f, g, h, i, j, k, l, none, none], io⟩) := by
  have := lcL_map (mt := tgName 12) (mc := mYes) (me := mCallP s__law_frame (mCons (mVar 12) mNil)) (vs := [12]) (ρ := ⟨[a, b, c, d, e, f, g, h, i, j, k, l, none, none], io⟩) (fun t => .str (tS t)) (fun t => .str (tS (frm t))) (xs := ts) (acc := []) fun t h' => turn_log [] io t (ht t h') a b c d e f g h i j k l
  unfold tL
  rw [this, List.nil_append, List.map_map]
  rfl
theorem join_log {ts : List (List Nat)} (h : (logOf ts).length ≤ 1000000) : gJoin (.str z5) [.list (tL (ts.map frm))] = some (.val (.str (tS (logOf ts)))) := by
  unfold tL
  exact join_g (ts.map frm) h
theorem strs_ok (ts : List (List Nat)) (n : Int) (h : ts.length ≤ 1000) : okd 8 (.tuple [.tuple (tL ts), .int n]) := ⟨by simp, fun d hd => by
    rcases List.mem_cons.mp hd with rfl | hd
    · refine ⟨by rw [tL_len]; omega, fun d hd => ?_⟩
      obtain ⟨_, _, rfl⟩ := List.mem_map.mp hd
      exact True.intro
    · rw [List.mem_singleton.mp hd]
      exact True.intro⟩
/-- the streams whose last frame is not whole -/
theorem ta_rests {a : List Nat} (h : okT a) : ta (dig4 0 ++ dig3 0) = none ∧ ta (dig4 0 ++ (dig3 (ck a) ++ a)) = none ∧ ta (dig4 (a.length + 1) ++ (dig3 (ck a) ++ a)) = none ∧ ta (dig4 a.length ++ dig3 ((ck a + 1) % 997) ++ a) = none ∧ ta ([97] ++ frm a) = none ∧ ta ([32] ++ frm a) = none := by
  have hc := ck_lt a
  have hl := h.2.1
  refine ⟨?_, ?_, ?_, ?_, ta_other (by decide) _, ta_other (by decide) _⟩
  · have := ta_at (n := 0) (c := 0) [] (by decide) (by decide)
    rw [List.append_nil] at this
    rw [this]
    rfl
  · rw [← List.append_assoc, ta_at _ (by decide) (by omega)]
    rfl
  · rw [← List.append_assoc, ta_at _ (by omega) (by omega)]
    unfold taB
    rw [if_pos (.inr (.inl (by simp)))]
  · rw [ta_at _ (by omega) (by omega), List.take_of_length_le (Nat.le_refl _)]
    unfold taB
    have h1 := h.1
    have q : ¬ (a.length = 0 ∨ a.length < a.length ∨ good a = false) := by
      rintro (q | q | q)
      · omega
      · omega
      · rw [h.2.2] at q
        cases q
    rw [if_neg q, if_neg (by omega)]
end K27
set_option Elab.async false
set_option linter.all false
set_option maxRecDepth 100000
set_option maxHeartbeats 8000000
namespace K27
open PySem PySem.Spec PyProof.Rows L2 LW
theorem run_bent {b : D} (hb : isBag b) {ts : List (List Nat)} (ht : ∀ t ∈ ts, okT t) (hn : ts.length ≤ 4) {a : List Nat} (ha : okT a) : ∃ b', s__law_bent_right.run [b, .list (tL ts), .str (tS a)] = .ok (.val (.bool true)) [b'] ∧ isBag b' := by
  have ha1 := ha.1
  have ha2 := ha.2.1
  have hf := fend_le ht
  have hlog : (logOf ts).length ≤ 4024 := by rw [log_len]; omega
  have hcl := ck_lt a
  have hmd1 : s__law_one.md = [true, false] := rfl
  have hmd2 : s__law_draw.md = [true, false] := rfl
  have hmd3 : s__law_kept_check.md = [true, false] := rfl
  obtain ⟨n, hn'⟩ := op ((a.length : Nat) : Int)
  obtain ⟨W, hW⟩ := op (frm a)
  have hWl : W.length = 7 + a.length := by rw [hW, frm_len]
  obtain ⟨H, hH⟩ := op (hdOf a)
  have hHl : H.length = 7 := by rw [hH, hd_len]
  have hWH : W = H ++ a := by rw [hW, hH, frm_hd]
  have g_n : gLen [.str (tS a)] = some (.val (.int n)) := by rw [hn']; exact gLen_s (by omega)
  have f1 : s__law_frame.run [.str (tS a)] = .ok (.val (.str (tS W))) [] := by rw [hW]; exact run_lframe a (by omega) ha.2.2
  -- the first draw and the bent text
  obtain ⟨p, b1, e1, hb1, l1⟩ := run_draw hb (show (0 : Int) < n by omega) (by omega)
  obtain ⟨v, b2, e2, hb2, l2⟩ := run_draw hb1 (show (0 : Int) < 39 by decide) (by decide)
  have hp : p < a.length := by omega
  obtain ⟨p', hp'⟩ := op ((p : Nat) : Int)
  obtain ⟨v', hv'⟩ := op ((v : Nat) : Int)
  rw [← hp'] at e1
  rw [← hv'] at e2
  obtain ⟨B, hB⟩ := op (put a p (sg.getD ((ix a[p] + (1 + v)) % 40) 0))
  have p1 : s__law_put_sign.run [.str (tS a), .int p', .int (1 + v')] = .ok (.val (.str (tS B))) [] := by rw [hB]; exact run_put hp (by omega) ha.2.2 (by omega) hp'
  have hBl : B.length = a.length := by rw [hB]; exact put_len hp
  have hBg : good B = true := by rw [hB]; exact good_put ha.2.2 (sg_mem (Nat.mod_lt _ (by decide)))
  have hBc : ck B = ck a ↔ (p + 1) % 997 = 0 := by rw [hB]; exact bent_ck ha hp (by omega)
  have c7 : gCut none (some 7) (.str (tS W)) = some (.val (.str (tS H))) := by
    rw [gCut_s (by omega), tS_to (show (7 : Int) = ((7 : Nat) : Int) from rfl), hWH, List.take_left' hHl]
  obtain ⟨HB, hHB⟩ := op (H ++ B)
  have a1 : gAdd (.str (tS H)) (.str (tS B)) = some (.val (.str (tS HB))) := by rw [hHB]; exact gAdd_s (by omega)
  have hHBl : HB.length = 7 + a.length := by rw [hHB, List.length_append]; omega
  obtain ⟨R1, hR1⟩ := op (HB ++ W)
  have a2 : gAdd (.str (tS HB)) (.str (tS W)) = some (.val (.str (tS R1))) := by rw [hR1]; exact gAdd_s (by omega)
  obtain ⟨w, hw⟩ := op ((p' + 1) % 997)
  have m1 : gMod (.int (p' + 1)) (.int 997) = some (.val (.int w)) := by rw [hw]; exact gMod_i (by decide)
  obtain ⟨eb, heb⟩ := op (w == 0)
  have q1 : gEq (.int w) (.int 0) = some (.val (.bool eb)) := by rw [heb]; rfl
  have st1 : s__law_stream_right.run [.list (tL ts), .str (tS R1), .bool eb] = .ok (.val (.bool true)) [] := by
    refine run_stream (x := B) (p := ck B = ck a) ht hn (by rw [hR1, List.length_append]; omega) (by rw [hR1, hHB, hH]; exact ta_bent ha hBl hBg W) ?_
    rw [heb, show (w == 0) = decide (w = 0) from rfl]
    refine decide_eq_decide.mpr ?_
    rw [hBc]
    omega
  -- the turned text
  obtain ⟨M, hM⟩ := op ((max 1 (a.length - 1) : Nat) : Int)
  have x1 : gMax [.int 1, .int (n - 1)] = some (.val (.int M)) := by
    rw [gMax_2]
    by_cases q : n - 1 > 1
    · rw [if_pos q, show n - 1 = M by omega]
    · rw [if_neg q, show 1 = M by omega]
  obtain ⟨q, b3, e3, hb3, l3⟩ := run_draw hb2 (show (0 : Int) < M by omega) (by omega)
  obtain ⟨q', hq'⟩ := op ((q : Nat) : Int)
  rw [← hq'] at e3
  have hT := turn2_ck ha (q := q) (by omega)
  obtain ⟨A1, hA1⟩ := op (a.take q)
  obtain ⟨A2, hA2⟩ := op ((a.drop q).take 2)
  obtain ⟨A2r, hA2r⟩ := op A2.reverse
  obtain ⟨A3, hA3⟩ := op (a.drop (q + 2))
  have hA2l : A2.length ≤ 16777216 := by rw [hA2, List.length_take, List.length_drop]; omega
  have hl1 : A1.length ≤ a.length := by rw [hA1, List.length_take]; omega
  have hl2 : A2r.length ≤ a.length := by rw [hA2r, List.length_reverse, hA2, List.length_take, List.length_drop]; omega
  have hl3 : A3.length ≤ a.length := by rw [hA3, List.length_drop]; omega
  have c1 : gCut none (some q') (.str (tS a)) = some (.val (.str (tS A1))) := by rw [gCut_s (by omega), tS_to hq', hA1]
  have c2 : gCut (some q') (some (q' + 2)) (.str (tS a)) = some (.val (.str (tS A2))) := by
    rw [gCut_s (by omega), tS_mid hq' (show q' + 2 = ((q + 2 : Nat) : Int) by omega), show q + 2 - q = 2 by omega, hA2]
  have c3 : gCut (some (q' + 2)) none (.str (tS a)) = some (.val (.str (tS A3))) := by rw [gCut_s (by omega), tS_from (show q' + 2 = ((q + 2 : Nat) : Int) by omega), hA3]
  have rv : revS (tS A2) = tS A2r := by rw [hA2r]; exact tS_rev A2
  obtain ⟨A12, hA12⟩ := op (A1 ++ A2r)
  have a3 : gAdd (.str (tS A1)) (.str (tS A2r)) = some (.val (.str (tS A12))) := by rw [hA12]; exact gAdd_s (by omega)
  have hl12 : A12.length ≤ 2000 := by rw [hA12, List.length_append]; omega
  obtain ⟨T, hTT⟩ := op (A12 ++ A3)
  have a4 : gAdd (.str (tS A12)) (.str (tS A3)) = some (.val (.str (tS T))) := by rw [hTT]; exact gAdd_s (by omega)
  have hTe : T = turn2 a q := by rw [hTT, hA12, hA1, hA2r, hA2, hA3]; rfl
  rw [← hTe] at hT
  obtain ⟨hTl, hTg, hTc⟩ := hT
  obtain ⟨HT, hHT⟩ := op (H ++ T)
  have a5 : gAdd (.str (tS H)) (.str (tS T)) = some (.val (.str (tS HT))) := by rw [hHT]; exact gAdd_s (by omega)
  have hHTl : HT.length = 7 + a.length := by rw [hHT, List.length_append]; omega
  obtain ⟨R2, hR2⟩ := op (HT ++ W)
  have a6 : gAdd (.str (tS HT)) (.str (tS W)) = some (.val (.str (tS R2))) := by rw [hR2]; exact gAdd_s (by omega)
  obtain ⟨et, het⟩ := op (decide (T = a))
  have q2 : gEq (.str (tS T)) (.str (tS a)) = some (.val (.bool et)) := by rw [het]; exact gEq_s T a
  have st2 : s__law_stream_right.run [.list (tL ts), .str (tS R2), .bool et] = .ok (.val (.bool true)) [] := by
    refine run_stream (x := T) (p := ck T = ck a) ht hn (by rw [hR2, List.length_append]; omega) (by rw [hR2, hHT, hH]; exact ta_bent ha hTl hTg W) ?_
    rw [het]
    exact decide_eq_decide.mpr hTc.symm
  -- the text of the same check number
  obtain ⟨x, b4, k1, hb4, hxl, hxg, hxc⟩ := run_kept hb3 ha
  obtain ⟨Lg, hLg⟩ := op (logOf ts)
  have hLgl : Lg.length ≤ 4024 := by rw [hLg]; exact hlog
  have j1 := join_log (ts := ts) (by omega)
  rw [← hLg] at j1
  have k2 := comp_log [b4] ts ht (some (.io 0)) (some (.val (.list (tL ts)))) (some (.val (.str (tS a)))) (some (.val (.str (tS W)))) (some (.val (.int p'))) (some (.val (.str (tS B)))) (some (.val (.int q'))) (some (.val (.str (tS T)))) (some (.val (.str (tS x)))) none none none
  have hxo : okT x := ⟨by omega, by omega, hxg⟩
  have hts1 : ∀ t ∈ ts ++ [x], okT t := fun t h => by
    rcases List.mem_append.mp h with h | h
    · exact ht t h
    · rw [List.mem_singleton.mp h]; exact hxo
  have hrd := Rd.pre0 (r := []) (ta_short (by decide)) hts1
  rw [List.append_nil] at hrd
  have hlg2 : logOf (ts ++ [x]) = Lg ++ frm x := by rw [hLg]; unfold logOf; simp
  rw [hlg2] at hrd
  obtain ⟨LH, hLH⟩ := op (Lg ++ H)
  have a7 : gAdd (.str (tS Lg)) (.str (tS H)) = some (.val (.str (tS LH))) := by rw [hLH]; exact gAdd_s (by omega)
  have hLHl : LH.length ≤ 5000 := by rw [hLH, List.length_append]; omega
  obtain ⟨LX, hLX⟩ := op (LH ++ x)
  have a8 : gAdd (.str (tS LH)) (.str (tS x)) = some (.val (.str (tS LX))) := by rw [hLX]; exact gAdd_s (by omega)
  have hfx : Lg ++ frm x = LX := by
    rw [hLX, hLH, List.append_assoc]
    congr 1
    rw [hH]
    unfold frm hdOf
    rw [hxl, hxc]
  rw [hfx] at hrd
  have hLXl : LX.length ≤ 10000 := by rw [hLX, List.length_append]; omega
  have i1 := run_frames_in LX hLXl hrd
  obtain ⟨N, hN⟩ := op ((LX.length : Nat) : Int)
  rw [← hN] at i1
  obtain ⟨LW', hLW⟩ := op (Lg ++ W)
  have a9 : gAdd (.str (tS Lg)) (.str (tS W)) = some (.val (.str (tS LW'))) := by rw [hLW]; exact gAdd_s (by omega)
  have hLWl : LW'.length = LX.length := by rw [hLW, hLX, hLH, List.length_append, List.length_append, List.length_append]; omega
  have g_N : gLen [.str (tS LW')] = some (.val (.int N)) := by rw [hN, ← hLWl]; exact gLen_s (by omega)
  obtain ⟨T2, hT2⟩ := op (tL (ts ++ [x]))
  have sm := run_same 8 _ (strs_ok (ts ++ [x]) N (by rw [List.length_append, List.length_singleton]; omega))
  rw [← hT2] at i1 sm
  have a10 : gAdd (.tuple (tL ts)) (.tuple [.str (tS x)]) = some (.val (.tuple T2)) := by
    rw [hT2, tL_app]
    exact gAdd_t (by rw [tL_len, List.length_singleton]; omega)
  obtain ⟨c, hc⟩ := op ((ck a : Nat) : Int)
  have n1 := run_check_number x (by omega) hxg
  have n2 := run_check_number a (by omega) ha.2.2
  rw [hxc] at n1
  rw [← hc] at n1 n2
  -- what is not read
  obtain ⟨r1n, r2n, r3n, r4n, r5n, r6n⟩ := ta_rests ha
  obtain ⟨W', hW'⟩ := op ((W.length : Nat) : Int)
  have g_W : gLen [.str (tS W)] = some (.val (.int W')) := by rw [hW']; exact gLen_s (by omega)
  obtain ⟨m, b5, e4, hb5, l4⟩ := run_draw hb4 (show (0 : Int) < W' by omega) (by omega)
  obtain ⟨m', hm'⟩ := op ((m : Nat) : Int)
  rw [← hm'] at e4
  have r0n := ta_cut ha (m := m) (by omega)
  rw [← hW] at r0n r5n r6n
  obtain ⟨Q0, hQ0⟩ := op (W.take m)
  have c4 : gCut none (some m') (.str (tS W)) = some (.val (.str (tS Q0))) := by rw [gCut_s (by omega), tS_to hm', hQ0]
  obtain ⟨W4, hW4⟩ := op (W.drop 4)
  have hW4' : W4 = dig3 (ck a) ++ a := by
    rw [hW4, hW]
    unfold frm
    rw [List.append_assoc, List.drop_left' (dig4_len _)]
  have hW4l : W4.length = 3 + a.length := by rw [hW4', List.length_append, dig3_len]
  have c5 : gCut (some 4) none (.str (tS W)) = some (.val (.str (tS W4))) := by rw [gCut_s (by omega), tS_from (show (4 : Int) = ((4 : Nat) : Int) from rfl), hW4]
  rw [← hW4'] at r2n r3n
  obtain ⟨Q2, hQ2⟩ := op (dig4 0 ++ W4)
  have a11 : gAdd (.str z7) (.str (tS W4)) = some (.val (.str (tS Q2))) := by rw [hQ2, z7_eq]; exact gAdd_s (by rw [dig4_len]; omega)
  have g_s1 : gStr [.int (10001 + n)] = some (.val (.str (tS (TL.numL (10000 + (a.length + 1)))))) := by
    rw [show 10001 + n = ((10000 + (a.length + 1) : Nat) : Int) by omega]
    exact gStr_n (by omega)
  obtain ⟨NS, hNS⟩ := op (TL.numL (10000 + (a.length + 1)))
  rw [← hNS] at g_s1
  obtain ⟨D4, hD4⟩ := op (dig4 (a.length + 1))
  have c6 : gCut (some 1) none (.str (tS NS)) = some (.val (.str (tS D4))) := by
    rw [gCut_s (by rw [hNS, num5 (by omega) (by omega)]; simp), tS_from (show (1 : Int) = ((1 : Nat) : Int) from rfl), hNS, num_1e4 (by omega), hD4]
  rw [← hD4] at r3n
  have hD4l : D4.length = 4 := by rw [hD4, dig4_len]
  obtain ⟨Q3, hQ3⟩ := op (D4 ++ W4)
  have a12 : gAdd (.str (tS D4)) (.str (tS W4)) = some (.val (.str (tS Q3))) := by rw [hQ3]; exact gAdd_s (by omega)
  obtain ⟨D0, hD0⟩ := op (dig4 a.length)
  have hD0l : D0.length = 4 := by rw [hD0, dig4_len]
  have c8 : gCut none (some 4) (.str (tS W)) = some (.val (.str (tS D0))) := by
    rw [gCut_s (by omega), tS_to (show (4 : Int) = ((4 : Nat) : Int) from rfl), hW]
    unfold frm
    rw [List.append_assoc, List.take_left' (dig4_len _), hD0]
  obtain ⟨D3, hD3⟩ := op (dig3 (ck a))
  have c9 : gCut (some 4) (some 7) (.str (tS W)) = some (.val (.str (tS D3))) := by
    rw [gCut_s (by omega), tS_mid (show (4 : Int) = ((4 : Nat) : Int) from rfl) (show (7 : Int) = ((7 : Nat) : Int) from rfl), ← hW4, hW4', show 7 - 4 = 3 from rfl, List.take_left' (dig3_len _), hD3]
  have v1 : gInt [.str (tS D3)] = some (.val (.int c)) := by
    have := gInt_s (all3 (ck a)) (by unfold dig3; simp) (by rw [dig3_len]; decide)
    rw [val3 (by omega)] at this
    rw [hD3, hc, this]
  obtain ⟨c', hc'⟩ := op (((ck a + 1) % 997 : Nat) : Int)
  have m2 : gMod (.int (c + 1)) (.int 997) = some (.val (.int c')) := by rw [gMod_i (by decide), hc', hc]; rfl
  have g_s2 : gStr [.int (1000 + c')] = some (.val (.str (tS (TL.numL (1000 + (ck a + 1) % 997))))) := by
    rw [show 1000 + c' = ((1000 + (ck a + 1) % 997 : Nat) : Int) by omega]
    exact gStr_n (by omega)
  obtain ⟨NC, hNC⟩ := op (TL.numL (1000 + (ck a + 1) % 997))
  rw [← hNC] at g_s2
  obtain ⟨D5, hD5⟩ := op (dig3 ((ck a + 1) % 997))
  have c10 : gCut (some 1) none (.str (tS NC)) = some (.val (.str (tS D5))) := by
    rw [gCut_s (by rw [hNC, num4 (by omega) (by omega)]; simp), tS_from (show (1 : Int) = ((1 : Nat) : Int) from rfl), hNC, num_1e3 (by omega), hD5]
  have hD5l : D5.length = 3 := by rw [hD5, dig3_len]
  rw [← hD0, ← hD5] at r4n
  obtain ⟨D05, hD05⟩ := op (D0 ++ D5)
  have a13 : gAdd (.str (tS D0)) (.str (tS D5)) = some (.val (.str (tS D05))) := by rw [hD05]; exact gAdd_s (by omega)
  rw [← hD05] at r4n
  have hD05l : D05.length = 7 := by rw [hD05, List.length_append]; omega
  obtain ⟨Q4, hQ4⟩ := op (D05 ++ a)
  have a14 : gAdd (.str (tS D05)) (.str (tS a)) = some (.val (.str (tS Q4))) := by rw [hQ4]; exact gAdd_s (by omega)
  obtain ⟨Q5, hQ5⟩ := op ([97] ++ W)
  have a15 : gAdd (.str z8) (.str (tS W)) = some (.val (.str (tS Q5))) := by rw [hQ5, z8_eq]; exact gAdd_s (by rw [List.length_singleton]; omega)
  obtain ⟨Q6, hQ6⟩ := op ([32] ++ W)
  have a16 : gAdd (.str z3) (.str (tS W)) = some (.val (.str (tS Q6))) := by rw [hQ6, z3_eq]; exact gAdd_s (by rw [List.length_singleton]; omega)
  rw [← hQ0] at r0n
  rw [← hQ2] at r2n
  rw [← hQ3] at r3n
  rw [← hQ4] at r4n
  rw [← hQ5] at r5n
  rw [← hQ6] at r6n
  have s0 := run_stream0 ht hn (r := Q0) (by rw [hQ0, List.length_take]; omega) r0n
  have s1 := run_stream0 ht hn (r := dig4 0 ++ dig3 0) (by decide) r1n
  rw [← z6_eq] at s1
  have s2 := run_stream0 ht hn (r := Q2) (by rw [hQ2, List.length_append, dig4_len]; omega) r2n
  have s3 := run_stream0 ht hn (r := Q3) (by rw [hQ3, List.length_append]; omega) r3n
  have s4 := run_stream0 ht hn (r := Q4) (by rw [hQ4, List.length_append]; omega) r4n
  have s5 := run_stream0 ht hn (r := Q5) (by rw [hQ5, List.length_append, List.length_singleton]; omega) r5n
  have s6 := run_stream0 ht hn (r := Q6) (by rw [hQ6, List.length_append, List.length_singleton]; omega) r6n
  obtain ⟨k, b6, hk, e5, hb6⟩ := run_one hb5 (ds := [.str (tS Q2), .str (tS Q3), .str (tS Q4), .str (tS Q5), .str (tS Q6)]) (by simp) (by simp)
  obtain ⟨Qk, hQk, sk⟩ : ∃ Qk : List Nat, [PyData.str (tS Q2), .str (tS Q3), .str (tS Q4), .str (tS Q5), .str (tS Q6)][k] = PyData.str (tS Qk) ∧ s__law_stream_right.run [.list (tL ts), .str (tS Qk), .bool false] = .ok (.val (.bool true)) [] := by
    match k, hk with
    | 0, _ => exact ⟨Q2, rfl, s2⟩
    | 1, _ => exact ⟨Q3, rfl, s3⟩
    | 2, _ => exact ⟨Q4, rfl, s4⟩
    | 3, _ => exact ⟨Q5, rfl, s5⟩
    | 4, _ => exact ⟨Q6, rfl, s6⟩
  rw [hQk] at e5
  obtain ⟨TS, hTS⟩ := op (tL ts)
  have hTSl : TS.length ≤ 16777216 := by rw [hTS, tL_len]; omega
  obtain ⟨FS', hFS⟩ := op (tL (ts.map frm))
  rw [← hTS] at st1 st2 k2 a10 s0 s1 sk ⊢
  rw [← hFS] at k2 j1
  refine ⟨b6, ?_, hb6⟩
  have d1 : ∀ x1 x2 x3 x4 y1 y2 y3 : D, gAdd (.list [x1, x2, x3, x4]) (.list [y1, y2, y3]) = some (.own (.list [x1, x2, x3, x4, y1, y2, y3])) := fun _ _ _ _ _ _ _ => gAdd_l (by simp)
  have d2 : ∀ x1 x2 y1 : D, gAdd (.list [x1, x2]) (.list [y1]) = some (.own (.list [x1, x2, y1])) := fun _ _ _ => gAdd_l (by simp)
  have d3 : ∀ x1 x2 x3 x4 y1 y2 y3 : D, cutD [x1, x2, x3, x4, y1, y2, y3] (some 2) none = [x3, x4, y1, y2, y3] := fun _ _ _ _ _ _ _ => rfl
  have d4 : ∀ x1 x2 x3 x4 y1 y2 y3 : D, cutD [x1, x2, x3, x4, y1, y2, y3] none (some 2) = [x1, x2] := fun _ _ _ _ _ _ _ => rfl
  unfold s__law_bent_right
  rw [run_of]
  simp -implicitDefEqProofs [-gEq_i, -gEq_s, m__law_bent_right, f1, g_n, hmd1, hmd2, hmd3, e1, e2, p1, c7, a1, a2, m1, q1, st1, x1, e3, c1, c2, c3, hA2l, rv, a3, a4, a5, a6, q2, st2, k1, ev_lc, Env.calm, hTSl, Env.wipe, wipeS, Env.unwipe, backS, k2, j1, a7, a8, pk1, i1, a10, a9, g_N, sm, n1, n2, g_W, e4, c4, c5, a11, g_s1, c6, a12, d1, c8, c9, v1, m2, g_s2, c10, a13, a14, a15, a16, d2, d3, d4, e5, lcL_cons, lcT, lcL, s0, s1, sk, gAll, blsD]
end K27
set_option Elab.async false
set_option linter.all false
set_option maxRecDepth 100000
set_option maxHeartbeats 8000000
namespace K27
open PySem PySem.Spec PyProof.Rows L2 LW
def vS : Option D → Option Slot
  | none => none
  | some d => some (.val d)
theorem okT_take {a : List Nat} (h : okT a) : okT (a.take 40) := ⟨by rw [List.length_take]; have := h.1; omega, by rw [List.length_take]; have := h.2.1; omega, good_take h.2.2 40⟩
theorem for_texts (S5 S6 S7 S8 S9 S10 S11 S12 S13 : Option Slot) : ∀ (ds : List D) (ts : List (List Nat)) (b : D) (g : Bool) (s3 : Option Slot) (o4 : Option D), (∀ t ∈ ts, okT t) → isBag b → ts.length + ds.length ≤ 10 →
    ∃ (ts' : List (List Nat)) (b' : D) (g' : Bool) (s3' : Option Slot) (o4' : Option D), (∀ t ∈ ts', okT t) ∧ isBag b' ∧ ts'.length = ts.length + ds.length ∧
    forL (tgName 3) (mSeq (mSet 4 (mCallIO s__law_text_drawn (mCons (mVar 0) mNil)))
    (mSeq (mDrop (mMut gAppend (mOn "list" (mVar 1)) (mCons (mIf (mBool (mVar 2)) (mCut (mVar 4) (mPart none) (mPart (some (mVal (.int 40))))) (mVar 4)) mNil)))
    (mSet 2 (mOrV (mVar 2) (mBin gGt (mCallB gLen (mCons (mVar 4) mNil)) (mVal (.int 60))))))) ds ⟨[some (.io 0), some (.own (.list (tL ts))), some (.val (.bool g)), s3, vS o4, S5, S6, S7, S8, S9, S10, S11, S12, S13], [b]⟩
    = .nx ⟨[some (.io 0), some (.own (.list (tL ts'))), some (.val (.bool g')), s3', vS o4', S5, S6, S7, S8, S9, S10, S11, S12, S13], [b']⟩
  | [], ts, b, g, s3, o4, ht, hb, _ => ⟨ts, b, g, s3, o4, ht, hb, rfl, rfl⟩
  | d :: ds, ts, b, g, s3, o4, ht, hb, hl => by
    obtain ⟨a, b1, e1, hb1, ha⟩ := run_text_drawn hb
    have hmd : s__law_text_drawn.md = [true] := rfl
    have ha1 := ha.1
    have ha2 := ha.2.1
    obtain ⟨n, hn⟩ := op ((a.length : Nat) : Int)
    have g1 : gLen [.str (tS a)] = some (.val (.int n)) := by rw [hn]; exact gLen_s (by omega)
    rw [List.length_cons] at hl
    cases g with
    | true =>
      obtain ⟨ts', b', g', s3', o4', h1, h2, h3, h4⟩ := for_texts S5 S6 S7 S8 S9 S10 S11 S12 S13 ds (ts ++ [a.take 40]) b1 true (some (.val d)) (some (.str (tS a))) (fun t h => by
        rcases List.mem_append.mp h with h | h
        · exact ht t h
        · rw [List.mem_singleton.mp h]; exact okT_take ha) hb1 (by rw [List.length_append, List.length_singleton]; omega)
      refine ⟨ts', b', g', s3', o4', h1, h2, by rw [h3, List.length_append, List.length_singleton, List.length_cons]; omega, ?_⟩
      rw [← h4, forL_s]
      have c1 : gCut none (some 40) (.str (tS a)) = some (.val (.str (tS (a.take 40)))) := by rw [gCut_s (by omega), tS_to (show (40 : Int) = ((40 : Nat) : Int) from rfl)]
      have a1 : gAppend (.list (tL ts)) [.str (tS (a.take 40))] = some (.list (tL (ts ++ [a.take 40])), .none) := by rw [tL_app]; exact gAppend_l (by rw [tL_len]; omega)
      generalize a.take 40 = A at c1 a1 ⊢
      simp -implicitDefEqProofs [hmd, e1, c1, a1, g1, vS]
    | false =>
      obtain ⟨ts', b', g', s3', o4', h1, h2, h3, h4⟩ := for_texts S5 S6 S7 S8 S9 S10 S11 S12 S13 ds (ts ++ [a]) b1 (decide (60 < n)) (some (.val d)) (some (.str (tS a))) (fun t h => by
        rcases List.mem_append.mp h with h | h
        · exact ht t h
        · rw [List.mem_singleton.mp h]; exact ha) hb1 (by rw [List.length_append, List.length_singleton]; omega)
      refine ⟨ts', b', g', s3', o4', h1, h2, by rw [h3, List.length_append, List.length_singleton, List.length_cons]; omega, ?_⟩
      rw [← h4, forL_s]
      have a1 : gAppend (.list (tL ts)) [.str (tS a)] = some (.list (tL (ts ++ [a])), .none) := by rw [tL_app]; exact gAppend_l (by rw [tL_len]; omega)
      simp -implicitDefEqProofs [hmd, e1, a1, g1, vS]
theorem turn_text (S2 S3 S6 S7 S8 S9 S10 S11 S12 S13 : Option Slot) {b : D} (hb : isBag b) {ts : List (List Nat)} (ht : ∀ t ∈ ts, okT t) (hn : ts.length ≤ 4) {a : List Nat} (ha : okT a) (s5 : Option Slot) : ∃ b' s5', isBag b' ∧
    (mSeq (mSet 5 (mCallP s__law_frame (mCons (mVar 4) mNil)))
    (mSeq (mIte (mNot (mBool (mCallP (s__law_same 8) (mCons (mLst (mCons (mCallP s_frame (mCons (mVar 4) mNil)) (mCons (mCallP s_frame (mKw [0] mNil (mCons (mVar 4) mNil))) (mCons (mCallP s_check_number (mKw [0] mNil (mCons (mVar 4) mNil))) mNil)))) (mCons (mLst (mCons (mVar 5) (mCons (mVar 5) (mCons (mCallB gInt (mCons (mCut (mVar 5) (mPart (some (mVal (.int 4)))) (mPart (some (mVal (.int 7))))) mNil)) mNil)))) mNil))))) (mRet (mVal (.bool false))) mSkip)
    (mIte (mNot (mBool (mCallIO s__law_bent_right (mCons (mVar 0) (mCons (mVar 1) (mCons (mVar 4) mNil)))))) (mRet (mVal (.bool false))) mSkip))) ⟨[some (.io 0), some (.val (.list (tL ts))), S2, S3, some (.val (.str (tS a))), s5, S6, S7, S8, S9, S10, S11, S12, S13], [b]⟩
    = .nx ⟨[some (.io 0), some (.val (.list (tL ts))), S2, S3, some (.val (.str (tS a))), s5', S6, S7, S8, S9, S10, S11, S12, S13], [b']⟩ := by
  obtain ⟨b', e1, hb'⟩ := run_bent hb ht hn ha
  have ha1 := ha.1
  have ha2 := ha.2.1
  have hmd : s__law_bent_right.md = [true, false, false] := rfl
  have hcl := ck_lt a
  have f1 := run_lframe a (by omega) ha.2.2
  have f2 := run_frame a ha1 ha2 ha.2.2
  have f3 := run_check_number a (by omega) ha.2.2
  have hWl := frm_len a
  obtain ⟨W, hW⟩ := op (frm a)
  obtain ⟨c, hc⟩ := op ((ck a : Nat) : Int)
  rw [← hc] at f3
  rw [← hW] at f1 f2 hWl
  obtain ⟨D3, hD3⟩ := op (dig3 (ck a))
  have c9 : gCut (some 4) (some 7) (.str (tS W)) = some (.val (.str (tS D3))) := by
    rw [gCut_s (by omega), tS_mid (show (4 : Int) = ((4 : Nat) : Int) from rfl) (show (7 : Int) = ((7 : Nat) : Int) from rfl), hW]
    unfold frm
    rw [List.append_assoc, List.drop_left' (dig4_len _), show 7 - 4 = 3 from rfl, List.take_left' (dig3_len _), hD3]
  have v1 : gInt [.str (tS D3)] = some (.val (.int c)) := by
    have := gInt_s (all3 (ck a)) (by unfold dig3; simp) (by rw [dig3_len]; decide)
    rw [val3 (by omega)] at this
    rw [hD3, hc, this]
  have sm := run_same 8 (.list [.str (tS W), .str (tS W), .int c]) ⟨by simp, fun d hd => by
    rcases List.mem_cons.mp hd with rfl | hd
    · exact True.intro
    rcases List.mem_cons.mp hd with rfl | hd
    · exact True.intro
    rw [List.mem_singleton.mp hd]
    exact True.intro⟩
  obtain ⟨TS, hTS⟩ := op (tL ts)
  rw [← hTS] at e1 ⊢
  refine ⟨b', some (.val (.str (tS W))), hb', ?_⟩
  simp -implicitDefEqProofs [f1, f2, f3, pk1, c9, v1, sm, hmd, e1]
end K27
set_option Elab.async false
set_option linter.all false
set_option maxRecDepth 100000
set_option maxHeartbeats 8000000
namespace K27
open PySem PySem.Spec PyProof.Rows L2 LW
theorem enum_cons (k : Nat) (d : D) (ds : List D) : enumD (k : Int) (d :: ds) = .tuple [.int (k : Nat), d] :: enumD ((k + 1 : Nat) : Int) ds := by
  unfold enumD
  rw [List.mapIdx_cons]
  have e : (fun (i : Nat) (d : D) => PyData.tuple [.int ((k : Int) + ((i + 1 : Nat) : Int)), d]) = fun (i : Nat) (d : D) => .tuple [.int (((k + 1 : Nat) : Int) + (i : Nat)), d] := by
    funext i d
    rw [show (k : Int) + ((i + 1 : Nat) : Int) = ((k + 1 : Nat) : Int) + (i : Nat) by omega]
  rw [e, show (k : Int) + ((0 : Nat) : Int) = k by omega]
/-- the found frames, a dead search -/
theorem for_dead (S0 S1 S2 S5 S6 S7 S9 S11 S12 S13 : Option Slot) (e : D) (F : List D) (hF : F.length ≤ 100) : ∀ (us : List (List Nat)) (k : Nat) (s3 : Option Slot) (o4 o10 : Option D), F.length < k → ∃ o4' o10',
    forL (tgTup 2 (tgCons (tgName 10) (tgCons (tgName 4) tgNil))) (mIte (mAnd (mBool (mBin gEq (mCallB gLen (mCons (mVar 8) mNil)) (mVar 10))) (mBool (mBin gLe (mBin gAdd (mBin gAdd (mVar 9) (mCallB gLen (mCons (mVar 4) mNil))) (mVal (.int 7))) (mVar 7)))) (mPar [8, 9] (mConsL (mBin gAdd (mVar 8) (mLst (mCons (mVar 4) mNil))) (mConsL (mBin gAdd (mBin gAdd (mVar 9) (mCallB gLen (mCons (mVar 4) mNil))) (mVal (.int 7))) mNil))) mSkip)
      (enumD (k : Nat) (tL us)) ⟨[S0, S1, S2, s3, vS o4, S5, S6, S7, some (.own (.list F)), S9, vS o10, S11, S12, S13], [e]⟩
      = .nx ⟨[S0, S1, S2, s3, vS o4', S5, S6, S7, some (.own (.list F)), S9, vS o10', S11, S12, S13], [e]⟩
  | [], k, s3, o4, o10, h => ⟨o4, o10, rfl⟩
  | u :: us, k, s3, o4, o10, h => by
    obtain ⟨o4', o10', ih⟩ := for_dead S0 S1 S2 S5 S6 S7 S9 S11 S12 S13 e F hF us (k + 1) s3 (some (.str (tS u))) (some (.int (k : Nat))) (by omega)
    refine ⟨o4', o10', ?_⟩
    rw [← ih, tL_cons, enum_cons, forL_s]
    generalize enumD ((k + 1 : Nat) : Int) (tL us) = L
    have g1 := gLen_l F
    obtain ⟨n, hn⟩ := op ((F.length : Nat) : Int)
    rw [← hn] at g1
    obtain ⟨k', hk'⟩ := op ((k : Nat) : Int)
    rw [← hk']
    have g2 : gEq (.int n) (.int k') = some (.val (.bool false)) := by rw [gEq_i, show (n == k') = decide (n = k') from rfl, decide_eq_false (by omega)]
    simp -implicitDefEqProofs [-gEq_i, -gLen_l, g1, g2, vS]
theorem for_found (S0 S1 S2 S5 S6 S11 S12 S13 : Option Slot) (b : D) (m : Nat) : ∀ (us : List (List Nat)) (F : List (List Nat)) (e : Nat) (s3 : Option Slot) (o4 o10 : Option D), (∀ u ∈ us, okT u) → F.length + us.length ≤ 100 → e ≤ m → ∃ o4' o10',
    forL (tgTup 2 (tgCons (tgName 10) (tgCons (tgName 4) tgNil))) (mIte (mAnd (mBool (mBin gEq (mCallB gLen (mCons (mVar 8) mNil)) (mVar 10))) (mBool (mBin gLe (mBin gAdd (mBin gAdd (mVar 9) (mCallB gLen (mCons (mVar 4) mNil))) (mVal (.int 7))) (mVar 7)))) (mPar [8, 9] (mConsL (mBin gAdd (mVar 8) (mLst (mCons (mVar 4) mNil))) (mConsL (mBin gAdd (mBin gAdd (mVar 9) (mCallB gLen (mCons (mVar 4) mNil))) (mVal (.int 7))) mNil))) mSkip)
      (enumD (F.length : Nat) (tL us)) ⟨[S0, S1, S2, s3, vS o4, S5, S6, some (.val (.int (m : Nat))), some (.own (.list (tL F))), some (.val (.int (e : Nat))), vS o10, S11, S12, S13], [b]⟩
      = .nx ⟨[S0, S1, S2, s3, vS o4', S5, S6, some (.val (.int (m : Nat))), some (.own (.list (tL (F ++ fnd us (m - e))))), some (.val (.int ((e + fend (fnd us (m - e)) : Nat) : Int))), vS o10', S11, S12, S13], [b]⟩
  | [], F, e, s3, o4, o10, _, _, _ => ⟨o4, o10, by
      show SO.nx _ = SO.nx _
      rw [show fnd [] (m - e) = [] from rfl, List.append_nil]
      rfl⟩
  | u :: us, F, e, s3, o4, o10, h, hl, he => by
    have hu := h u (by simp)
    have hu2 := hu.2.1
    rw [List.length_cons] at hl
    obtain ⟨n, hn⟩ := op ((u.length : Nat) : Int)
    have g0 : gLen [.str (tS u)] = some (.val (.int n)) := by rw [hn]; exact gLen_s (by omega)
    obtain ⟨k, hk⟩ := op ((F.length : Nat) : Int)
    have g1 : gLen [.list (tL F)] = some (.val (.int k)) := by rw [gLen_l, tL_len, hk]
    have g2 : gEq (.int k) (.int k) = some (.val (.bool true)) := by rw [gEq_i]; simp
    obtain ⟨m', hm'⟩ := op ((m : Nat) : Int)
    obtain ⟨e', he'⟩ := op ((e : Nat) : Int)
    by_cases q : 7 + u.length ≤ m - e
    · obtain ⟨o4', o10', ih⟩ := for_found S0 S1 S2 S5 S6 S11 S12 S13 b m us (F ++ [u]) (e + u.length + 7) s3 (some (.str (tS u))) (some (.int (F.length : Nat))) (fun x hx => h x (by simp [hx])) (by rw [List.length_append, List.length_singleton]; omega) (by omega)
      refine ⟨o4', o10', ?_⟩
      have ef : fnd (u :: us) (m - e) = u :: fnd us (m - (e + u.length + 7)) := by
        show (if _ then _ else _) = _
        rw [if_pos q, show m - e - (7 + u.length) = m - (e + u.length + 7) by omega]
      have e2 : fend (u :: fnd us (m - (e + u.length + 7))) = 7 + u.length + fend (fnd us (m - (e + u.length + 7))) := rfl
      rw [ef, e2, show F ++ u :: fnd us (m - (e + u.length + 7)) = F ++ [u] ++ fnd us (m - (e + u.length + 7)) by simp, show e + (7 + u.length + fend (fnd us (m - (e + u.length + 7)))) = e + u.length + 7 + fend (fnd us (m - (e + u.length + 7))) by omega, ← ih, tL_cons, enum_cons, forL_s]
      rw [List.length_append, List.length_singleton]
      generalize enumD ((F.length + 1 : Nat) : Int) (tL us) = L
      have e3 : ((e + u.length + 7 : Nat) : Int) = e' + n + 7 := by omega
      have g3 : e' + n + 7 ≤ m' := by omega
      have g4 : gAdd (.list (tL F)) (.list [.str (tS u)]) = some (.own (.list (tL (F ++ [u])))) := by rw [tL_app]; exact gAdd_l (by rw [tL_len, List.length_singleton]; omega)
      rw [e3, ← hm', ← he', ← hk]
      generalize tL (F ++ [u]) = FF at g4 ⊢
      generalize tL F = FF0 at g4 g1 ⊢
      simp -implicitDefEqProofs [-gEq_i, -gLen_l, g0, g1, g2, g3, g4, vS]
    · obtain ⟨o4', o10', ih⟩ := for_dead S0 S1 S2 S5 S6 (some (.val (.int (m : Nat)))) (some (.val (.int (e : Nat)))) S11 S12 S13 b (tL F) (by rw [tL_len]; omega) us (F.length + 1) s3 (some (.str (tS u))) (some (.int (F.length : Nat))) (by rw [tL_len]; omega)
      refine ⟨o4', o10', ?_⟩
      have ef : fnd (u :: us) (m - e) = [] := by
        show (if _ then _ else _) = _
        rw [if_neg q]
      rw [ef, List.append_nil, show fend [] = 0 from rfl, Nat.add_zero, ← ih, tL_cons, enum_cons, forL_s]
      generalize enumD ((F.length + 1 : Nat) : Int) (tL us) = L
      have g3 : ¬ e' + n + 7 ≤ m' := by omega
      rw [← hm', ← he', ← hk]
      generalize tL F = FF0 at g1 ⊢
      simp -implicitDefEqProofs [-gEq_i, -gLen_l, g0, g1, g2, g3, vS]
end K27
set_option Elab.async false
set_option linter.all false
set_option maxRecDepth 100000
set_option maxHeartbeats 8000000
namespace K27
open PySem PySem.Spec PyProof.Rows L2 LW
theorem for_bag (S0 S1 S5 S6 : Option Slot) : ∀ (ns : List Int) (k : Nat) (s : Int) (o3 o4 : Option D), ∃ (s' : Int) (o3' o4' : Option D),
    forL (tgTup 2 (tgCons (tgName 3) (tgCons (tgName 4) tgNil))) (mSet 2 (mBin gMod (mCallB gInt (mCons (mBin gAdd (mBin gAdd (mBin gAdd (mBin gMul (mVar 2) (mVal (.int 48611))) (mBin gMod (mCallB gInt (mCons (mVar 4) mNil)) (mVal (.int 1999999913)))) (mBin gMul (mVal (.int 41)) (mVar 3))) (mVal (.int 7))) mNil)) (mVal (.int 2147483399)))) (enumD (k : Nat) (ns.map PyData.int)) ⟨[S0, S1, some (.val (.int s)), vS o3, vS o4, S5, S6], []⟩
    = .nx ⟨[S0, S1, some (.val (.int s')), vS o3', vS o4', S5, S6], []⟩
  | [], k, s, o3, o4 => ⟨s, o3, o4, rfl⟩
  | n :: ns, k, s, o3, o4 => by
    have g1 : gMul (.int s) (.int 48611) = some (.val (.int (s * 48611))) := gMul_i (.inr (by decide))
    have g2 := gMod_i (i := n) (show (0 : Int) < 1999999913 by decide)
    have g3 : gMul (.int 41) (.int (k : Nat)) = some (.val (.int (41 * (k : Nat)))) := gMul_i (.inl (by decide))
    obtain ⟨t, ht⟩ := op (s * 48611 + n % 1999999913 + 41 * (k : Nat) + 7)
    have g4 := gMod_i (i := t) (show (0 : Int) < 2147483399 by decide)
    rw [ht] at g4
    obtain ⟨u, hu⟩ := op ((s * 48611 + n % 1999999913 + 41 * (k : Nat) + 7) % 2147483399)
    rw [← hu] at g4
    obtain ⟨s', o3', o4', ih⟩ := for_bag S0 S1 S5 S6 ns (k + 1) u (some (.int (k : Nat))) (some (.int n))
    refine ⟨s', o3', o4', ?_⟩
    rw [← ih, List.map_cons, enum_cons, forL_s]
    generalize enumD ((k + 1 : Nat) : Int) (ns.map PyData.int) = L
    obtain ⟨k', hk'⟩ := op ((k : Nat) : Int)
    rw [← hk'] at g3 g4 ⊢
    simp -implicitDefEqProofs [g1, g2, g3, g4, vS]
theorem run_bag (ns : List Int) (hl : ns.length ≤ 63) (k : Nat) (hk : k < 2) : ∃ b, s__law_bag.run [.list (ns.map PyData.int), .int (k : Nat)] = .ok (.own b) [] ∧ isBag b := by
  obtain ⟨L, hL⟩ := op (ns.map PyData.int)
  obtain ⟨k', hk'⟩ := op ((k : Nat) : Int)
  have g1 : gMul (.int 5003) (.int k') = some (.val (.int (5003 * k'))) := gMul_i (.inl (by decide))
  have g2 : cutD L none (some 9) = (ns.take 9).map PyData.int := by rw [cutD_to (show (9 : Int) = ((9 : Nat) : Int) from rfl), hL, List.map_take]
  obtain ⟨s', o3, o4, e⟩ := for_bag (some (.val (.list L))) (some (.val (.int k'))) none none (ns.take 9) 0 (90019 + 5003 * k') none none
  rw [show ((0 : Nat) : Int) = 0 from rfl] at e
  obtain ⟨M, hM⟩ := op ((ns.take 9).map PyData.int)
  rw [← hM] at e g2
  obtain ⟨n, hn⟩ := op ((L.length : Nat) : Int)
  have g3 : gLen [.list L] = some (.val (.int n)) := by rw [gLen_l, hn]
  obtain ⟨own, ho⟩ : ∃ own : Int, (if k' < n then gIx (.list L) (.int k') = some (.val (.int own)) else own = 0) := by
    by_cases q : k' < n
    · simp only [if_pos q]
      have hkl : k < L.length := by omega
      refine ⟨ns[k]'(by rw [hL, List.length_map] at hkl; exact hkl), ?_⟩
      rw [gIx_l hk' hkl, List.getElem?_eq_getElem hkl]
      simp only [hL, List.getElem_map, Option.map_some]
    · exact ⟨0, by rw [if_neg q]⟩
  obtain ⟨A, hA⟩ := op (if own < 0 then -own else own)
  have hA0 : 0 ≤ A := by rw [hA]; split <;> omega
  have g4 : gAbs [.int own] = some (.val (.int A)) := by rw [hA]; rfl
  have g5 : gPow (.int 10) (.int 18) = some (.val (.int 1000000000000000000)) := by
    unfold gPow
    dsimp only
    rw [if_pos (by decide)]
    rfl
  obtain ⟨d, hd⟩ := op (A % 1000000000000000000000000000099)
  have hd0 : 0 ≤ d := by rw [hd]; exact Int.emod_nonneg _ (by decide)
  have g6 := gMod_i (i := A) (show (0 : Int) < 1000000000000000000000000000099 by decide)
  rw [← hd] at g6
  obtain ⟨m, hm⟩ := op (own % 1999999913)
  have g7 := gMod_i (i := own) (show (0 : Int) < 1999999913 by decide)
  rw [← hm] at g7
  have g8 : gMul (.int 7) (.int m) = some (.val (.int (7 * m))) := gMul_i (.inl (by decide))
  obtain ⟨w, hw⟩ := op ((s' + 7 * m) % 2147483399)
  have g9 := gMod_i (i := s' + 7 * m) (show (0 : Int) < 2147483399 by decide)
  rw [← hw] at g9
  rw [← hL, ← hk']
  have v1 : vS none = none := rfl
  rw [v1] at e
  by_cases q : k' < n
  · rw [if_pos q] at ho
    by_cases q2 : 1000000000000000000 ≤ A
    · refine ⟨.list [.int d, .int w, .int 0], ?_, d, w, 0, hd0, rfl⟩
      unfold s__law_bag
      rw [run_of]
      simp -implicitDefEqProofs [-gLen_l, -gAbs_i, m__law_bag, g1, g2, itemsD, e, g3, ho, q, g4, g5, q2, g6, g7, g8, g9]
    · refine ⟨.list [.int 0, .int w, .int 0], ?_, 0, w, 0, by decide, rfl⟩
      unfold s__law_bag
      rw [run_of]
      simp -implicitDefEqProofs [-gLen_l, -gAbs_i, m__law_bag, g1, g2, itemsD, e, g3, ho, q, g4, g5, q2, g6, g7, g8, g9]
  · rw [if_neg q] at ho
    subst ho
    have q2 : ¬ 1000000000000000000 ≤ A := by rw [hA]; decide
    refine ⟨.list [.int 0, .int w, .int 0], ?_, 0, w, 0, by decide, rfl⟩
    unfold s__law_bag
    rw [run_of]
    simp -implicitDefEqProofs [-gLen_l, -gAbs_i, m__law_bag, g1, g2, itemsD, e, g3, q, g4, g5, q2, g6, g7, g8, g9]
end K27
set_option Elab.async false
set_option linter.all false
set_option maxRecDepth 100000
set_option maxHeartbeats 8000000
namespace K27
open PySem PySem.Spec PyProof.Rows L2 LW
theorem for_right (S2 S3 S6 S7 S8 S9 S10 S11 S12 S13 : Option Slot) {ts : List (List Nat)} (ht : ∀ t ∈ ts, okT t) (hn : ts.length ≤ 4) : ∀ (us : List (List Nat)) (b : D) (o4 : Option D) (s5 : Option Slot), (∀ u ∈ us, okT u) → isBag b → ∃ (b' : D) (o4' : Option D) (s5' : Option Slot), isBag b' ∧
    forL (tgName 4) (mSeq (mSet 5 (mCallP s__law_frame (mCons (mVar 4) mNil)))
    (mSeq (mIte (mNot (mBool (mCallP (s__law_same 8) (mCons (mLst (mCons (mCallP s_frame (mCons (mVar 4) mNil)) (mCons (mCallP s_frame (mKw [0] mNil (mCons (mVar 4) mNil))) (mCons (mCallP s_check_number (mKw [0] mNil (mCons (mVar 4) mNil))) mNil)))) (mCons (mLst (mCons (mVar 5) (mCons (mVar 5) (mCons (mCallB gInt (mCons (mCut (mVar 5) (mPart (some (mVal (.int 4)))) (mPart (some (mVal (.int 7))))) mNil)) mNil)))) mNil))))) (mRet (mVal (.bool false))) mSkip)
    (mIte (mNot (mBool (mCallIO s__law_bent_right (mCons (mVar 0) (mCons (mVar 1) (mCons (mVar 4) mNil)))))) (mRet (mVal (.bool false))) mSkip))) (tL us) ⟨[some (.io 0), some (.val (.list (tL ts))), S2, S3, vS o4, s5, S6, S7, S8, S9, S10, S11, S12, S13], [b]⟩
    = .nx ⟨[some (.io 0), some (.val (.list (tL ts))), S2, S3, vS o4', s5', S6, S7, S8, S9, S10, S11, S12, S13], [b']⟩
  | [], b, o4, s5, _, hb => ⟨b, o4, s5, hb, rfl⟩
  | u :: us, b, o4, s5, h, hb => by
    obtain ⟨b1, s51, hb1, e1⟩ := turn_text S2 S3 S6 S7 S8 S9 S10 S11 S12 S13 hb ht hn (h u (by simp)) s5
    obtain ⟨b', o4', s5', hb', ih⟩ := for_right S2 S3 S6 S7 S8 S9 S10 S11 S12 S13 ht hn us b1 (some (.str (tS u))) s51 (fun x hx => h x (by simp [hx])) hb1
    refine ⟨b', o4', s5', hb', ?_⟩
    rw [← ih, tL_cons, forL_s]
    have e2 : tgName 4 (.str (tS u)) ⟨[some (.io 0), some (.val (.list (tL ts))), S2, S3, vS o4, s5, S6, S7, S8, S9, S10, S11, S12, S13], [b]⟩ = some ⟨[some (.io 0), some (.val (.list (tL ts))), S2, S3, some (.val (.str (tS u))), s5, S6, S7, S8, S9, S10, S11, S12, S13], [b]⟩ := rfl
    rw [e2]
    dsimp only
    rw [e1]
    rfl
theorem comp_log4 (io : List D) (ts : List (List Nat)) (ht : ∀ t ∈ ts, okT t) (a b c d e f g h i j k l m : Option Slot) : lcL (tgName 4) mYes (mCallP s__law_frame (mCons (mVar 4) mNil)) [4] (tL ts) ⟨[a, b, c, d, none, e, f, g, h, i, j, k, l, m], io⟩ [] = some (tL (ts.map frm), ⟨[a, b, c, d, none, e, f, g, h, i, j, k, l, m], io⟩) := by
  have := lcL_map (mt := tgName 4) (mc := mYes) (me := mCallP s__law_frame (mCons (mVar 4) mNil)) (vs := [4]) (ρ := ⟨[a, b, c, d, none, e, f, g, h, i, j, k, l, m], io⟩) (fun t => .str (tS t)) (fun t => .str (tS (frm t))) (xs := ts) (acc := []) fun u h' => by
    have hu := ht u h'
    have g1 := run_lframe u (by have := hu.2.1; omega) hu.2.2
    generalize frm u = F at g1 ⊢
    simp -implicitDefEqProofs [lcT, g1, Env.wipe, wipeS]
  unfold tL
  rw [this, List.nil_append, List.map_map]
  rfl
theorem fnd_len : ∀ (ts : List (List Nat)) (m : Nat), (fnd ts m).length ≤ ts.length
  | [], m => Nat.le_refl _
  | t :: ts, m => by
    show (if _ then _ else _ : List (List Nat)).length ≤ _
    split
    · have := fnd_len ts (m - (7 + t.length))
      rw [List.length_cons, List.length_cons]
      omega
    · exact Nat.zero_le _
theorem turn_prefix (S2 S5 S11 S12 S13 : Option Slot) {ts : List (List Nat)} (ht : ∀ t ∈ ts, okT t) (hn : ts.length ≤ 4) {b : D} (hb : isBag b) (s3 : Option Slot) (o4 : Option D) (s7 s8 s9 : Option Slot) (o10 : Option D) : ∃ (b' : D) (o4' : Option D) (s7' s8' s9' : Option Slot) (o10' : Option D), isBag b' ∧
    (mSeq (mSet 7 (mCallIO s__law_draw (mCons (mVar 0) (mCons (mBin gAdd (mCallB gLen (mCons (mVar 6) mNil)) (mVal (.int 1))) mNil))))
    (mSeq (mPar [8, 9] (mConsL (mLst mNil) (mConsL (mVal (.int 0)) mNil)))
    (mSeq (mFor (mEn1 (mCons (mVar 1) mNil)) (tgTup 2 (tgCons (tgName 10) (tgCons (tgName 4) tgNil))) (mIte (mAnd (mBool (mBin gEq (mCallB gLen (mCons (mVar 8) mNil)) (mVar 10))) (mBool (mBin gLe (mBin gAdd (mBin gAdd (mVar 9) (mCallB gLen (mCons (mVar 4) mNil))) (mVal (.int 7))) (mVar 7)))) (mPar [8, 9] (mConsL (mBin gAdd (mVar 8) (mLst (mCons (mVar 4) mNil))) (mConsL (mBin gAdd (mBin gAdd (mVar 9) (mCallB gLen (mCons (mVar 4) mNil))) (mVal (.int 7))) mNil))) mSkip))
    (mIte (mNot (mBool (mCallP (s__law_same 8) (mCons (mCallP s_frames_in (mCons (mCut (mVar 6) (mPart none) (mPart (some (mVar 7)))) mNil)) (mCons (mTup (mCons (mCallB gTuple (mCons (mVar 8) mNil)) (mCons (mVar 9) mNil))) mNil))))) (mRet (mVal (.bool false))) mSkip))))
    ⟨[some (.io 0), some (.val (.list (tL ts))), S2, s3, vS o4, S5, some (.val (.str (tS (logOf ts)))), s7, s8, s9, vS o10, S11, S12, S13], [b]⟩
    = .nx ⟨[some (.io 0), some (.val (.list (tL ts))), S2, s3, vS o4', S5, some (.val (.str (tS (logOf ts)))), s7', s8', s9', vS o10', S11, S12, S13], [b']⟩ := by
  have hf := fend_le ht
  have hlog : (logOf ts).length ≤ 4024 := by rw [log_len]; omega
  have hmd : s__law_draw.md = [true, false] := rfl
  obtain ⟨N, hN⟩ := op (((logOf ts).length : Nat) : Int)
  have g1 : gLen [.str (tS (logOf ts))] = some (.val (.int N)) := by rw [hN]; exact gLen_s (by omega)
  obtain ⟨p, b1, e1, hb1, l1⟩ := run_draw hb (show (0 : Int) < N + 1 by omega) (by omega)
  obtain ⟨o4', o10', e2⟩ := for_found (some (.io 0)) (some (.val (.list (tL ts)))) S2 S5 (some (.val (.str (tS (logOf ts))))) S11 S12 S13 b1 p ts [] 0 s3 o4 o10 ht (by rw [List.length_nil]; omega) (by omega)
  rw [List.nil_append, Nat.sub_zero, Nat.zero_add, List.length_nil, show ((0 : Nat) : Int) = 0 from rfl, show tL [] = [] from rfl] at e2
  have hrd := rd_take p ht
  have hfl := Rd.len hrd
  have i1 := run_frames_in ((logOf ts).take p) (by rw [List.length_take]; omega) hrd
  have hsm := run_same 8 _ (strs_ok (fnd ts p) ((fend (fnd ts p) : Nat) : Int) (by have := fnd_len ts p; omega))
  refine ⟨b1, o4', some (.val (.int (p : Nat))), some (.own (.list (tL (fnd ts p)))), some (.val (.int (fend (fnd ts p) : Nat))), o10', hb1, ?_⟩
  have c1 : ∀ p' : Int, p' = (p : Nat) → gCut none (some p') (.str (tS (logOf ts))) = some (.val (.str (tS ((logOf ts).take p)))) := fun p' hp' => by rw [gCut_s (by omega), tS_to hp']
  obtain ⟨p', hp'⟩ := op ((p : Nat) : Int)
  have c1 := c1 p' hp'
  rw [← hp'] at e1 e2 ⊢
  obtain ⟨E, hE⟩ := op ((fend (fnd ts p) : Nat) : Int)
  rw [← hE] at e2 i1 hsm ⊢
  obtain ⟨T, hT⟩ := op (tL (fnd ts p))
  rw [← hT] at e2 i1 hsm ⊢
  obtain ⟨T0, hT0⟩ := op (tL ts)
  rw [← hT0] at e2 ⊢
  obtain ⟨Q, hQ⟩ := op ((logOf ts).take p)
  rw [← hQ] at i1 c1
  obtain ⟨LL, hLL⟩ := op (logOf ts)
  rw [← hLL] at e2 g1 c1 ⊢
  simp -implicitDefEqProofs [g1, hmd, e1, itemsD, e2, c1, i1, hsm]
theorem for_prefix (S2 S5 S11 S12 S13 : Option Slot) {ts : List (List Nat)} (ht : ∀ t ∈ ts, okT t) (hn : ts.length ≤ 4) : ∀ (ds : List D) (b : D) (s3 : Option Slot) (o4 : Option D) (s7 s8 s9 : Option Slot) (o10 : Option D), isBag b → ∃ (b' : D) (s3' : Option Slot) (o4' : Option D) (s7' s8' s9' : Option Slot) (o10' : Option D), isBag b' ∧
    forL (tgName 3) (mSeq (mSet 7 (mCallIO s__law_draw (mCons (mVar 0) (mCons (mBin gAdd (mCallB gLen (mCons (mVar 6) mNil)) (mVal (.int 1))) mNil))))
    (mSeq (mPar [8, 9] (mConsL (mLst mNil) (mConsL (mVal (.int 0)) mNil)))
    (mSeq (mFor (mEn1 (mCons (mVar 1) mNil)) (tgTup 2 (tgCons (tgName 10) (tgCons (tgName 4) tgNil))) (mIte (mAnd (mBool (mBin gEq (mCallB gLen (mCons (mVar 8) mNil)) (mVar 10))) (mBool (mBin gLe (mBin gAdd (mBin gAdd (mVar 9) (mCallB gLen (mCons (mVar 4) mNil))) (mVal (.int 7))) (mVar 7)))) (mPar [8, 9] (mConsL (mBin gAdd (mVar 8) (mLst (mCons (mVar 4) mNil))) (mConsL (mBin gAdd (mBin gAdd (mVar 9) (mCallB gLen (mCons (mVar 4) mNil))) (mVal (.int 7))) mNil))) mSkip))
    (mIte (mNot (mBool (mCallP (s__law_same 8) (mCons (mCallP s_frames_in (mCons (mCut (mVar 6) (mPart none) (mPart (some (mVar 7)))) mNil)) (mCons (mTup (mCons (mCallB gTuple (mCons (mVar 8) mNil)) (mCons (mVar 9) mNil))) mNil))))) (mRet (mVal (.bool false))) mSkip)))) ds
    ⟨[some (.io 0), some (.val (.list (tL ts))), S2, s3, vS o4, S5, some (.val (.str (tS (logOf ts)))), s7, s8, s9, vS o10, S11, S12, S13], [b]⟩
    = .nx ⟨[some (.io 0), some (.val (.list (tL ts))), S2, s3', vS o4', S5, some (.val (.str (tS (logOf ts)))), s7', s8', s9', vS o10', S11, S12, S13], [b']⟩
  | [], b, s3, o4, s7, s8, s9, o10, hb => ⟨b, s3, o4, s7, s8, s9, o10, hb, rfl⟩
  | d :: ds, b, s3, o4, s7, s8, s9, o10, hb => by
    obtain ⟨b1, o41, s71, s81, s91, o101, hb1, e1⟩ := turn_prefix S2 S5 S11 S12 S13 ht hn hb (some (.val d)) o4 s7 s8 s9 o10
    obtain ⟨b', s3', o4', s7', s8', s9', o10', hb', ih⟩ := for_prefix S2 S5 S11 S12 S13 ht hn ds b1 (some (.val d)) o41 s71 s81 s91 o101 hb1
    refine ⟨b', s3', o4', s7', s8', s9', o10', hb', ?_⟩
    rw [← ih, forL_s]
    have e2 : tgName 3 d ⟨[some (.io 0), some (.val (.list (tL ts))), S2, s3, vS o4, S5, some (.val (.str (tS (logOf ts)))), s7, s8, s9, vS o10, S11, S12, S13], [b]⟩ = some ⟨[some (.io 0), some (.val (.list (tL ts))), S2, some (.val d), vS o4, S5, some (.val (.str (tS (logOf ts)))), s7, s8, s9, vS o10, S11, S12, S13], [b]⟩ := rfl
    rw [e2]
    dsimp only
    rw [e1]
end K27
set_option Elab.async false
set_option linter.all false
set_option maxRecDepth 100000
set_option maxHeartbeats 8000000
namespace K27
open PySem PySem.Spec PyProof.Rows L2 LW
theorem z9_eq : z9 = tS [65] := by decide +kernel
theorem z10_eq : z10 = tS [97, 59, 98] := by decide +kernel
theorem z11_eq : z11 = tS [97, 10] := by decide +kernel
theorem signed_bad {a : List Nat} (ha : a.length ≤ 10000) (h : good a = false) : s_is_signed.run [.str (tS a)] = .ok (.val (.bool false)) [] := by
  rw [run_signed a ha, h]
theorem okd_sub : ∀ (d : D), (d = .none ∨ d = .int 5 ∨ d = .bool true ∨ (∃ x, d = .str x) ∨ ∃ x, d = .tuple [.str x]) → okd 6 d := by
  rintro d (rfl | rfl | rfl | ⟨x, rfl⟩ | ⟨x, rfl⟩)
  · exact True.intro
  · exact True.intro
  · exact True.intro
  · exact True.intro
  · exact ⟨by simp, fun d hd => by rw [List.mem_singleton.mp hd]; exact True.intro⟩
theorem odd_f : ∀ (k : Nat) (hk : k < 6) (d : D), [PyData.none, .int 5, .str z9, .str z10, .str z11, .tuple [.str z8]][k]? = some d → s_is_signed.run [d] = .ok (.val (.bool false)) [] ∧ okd 6 d := by
  intro k hk d h
  match k, hk with
  | 0, _ => cases h; exact ⟨run_signed' _ rfl, okd_sub _ (by simp)⟩
  | 1, _ => cases h; exact ⟨run_signed' _ rfl, okd_sub _ (by simp)⟩
  | 2, _ => cases h; rw [z9_eq]; exact ⟨signed_bad (by decide) (by decide), okd_sub _ (by simp)⟩
  | 3, _ => cases h; rw [z10_eq]; exact ⟨signed_bad (by decide) (by decide), okd_sub _ (by simp)⟩
  | 4, _ => cases h; rw [z11_eq]; exact ⟨signed_bad (by decide) (by decide), okd_sub _ (by simp)⟩
  | 5, _ => cases h; exact ⟨run_signed' _ rfl, okd_sub _ (by simp)⟩
theorem none_f : ∀ (k : Nat) (hk : k < 4) (d : D), [PyData.none, .int 5, .tuple [.str z8], .bool true][k]? = some d → s_frames_in.run [d] = .exc "InvalidText" d ∧ okd 6 d := by
  intro k hk d h
  match k, hk with
  | 0, _ => cases h; exact ⟨run_frames_in_x _ rfl, okd_sub _ (by simp)⟩
  | 1, _ => cases h; exact ⟨run_frames_in_x _ rfl, okd_sub _ (by simp)⟩
  | 2, _ => cases h; exact ⟨run_frames_in_x _ rfl, okd_sub _ (by simp)⟩
  | 3, _ => cases h; exact ⟨run_frames_in_x _ rfl, okd_sub _ (by simp)⟩
theorem len_z (t : List Nat) (h : t.length ≤ 1000000) (n : Int) (hn : n = (t.length : Nat)) : gLen [.str (tS t)] = some (.val (.int n)) := by rw [hn]; exact gLen_s h
theorem run_right {b : D} (hb : isBag b) : ∃ b', s__law_right.run [b] = .ok (.val (.bool true)) [b'] := by
  have hmd1 : s__law_one.md = [true, false] := rfl
  have hmd2 : s__law_draw.md = [true, false] := rfl
  obtain ⟨v, b1, e1, hb1, l1⟩ := run_draw hb (show (0 : Int) < 4 by decide) (by decide)
  obtain ⟨l, hl⟩ : ∃ l : List D, l = (List.range (1 + v)).map fun i => .int (i : Nat) := ⟨_, rfl⟩
  have hll : l.length = 1 + v := by rw [hl]; simp
  obtain ⟨v', hv'⟩ := op ((v : Nat) : Int)
  have gr : gRng [.int (1 + v')] = some l := by rw [hl]; exact gRng_n (by omega) (by omega)
  rw [← hv'] at e1
  obtain ⟨ts, b2, g, s3, o4, ht, hb2, hn, e2⟩ := for_texts none none none none none none none none none l [] b1 false none none (fun t h => by cases h) hb1 (by rw [List.length_nil]; omega)
  rw [show tL [] = [] from rfl, show vS none = none from rfl] at e2
  have hn4 : ts.length ≤ 4 := by rw [hn, List.length_nil]; omega
  obtain ⟨b3, o4', s5, hb3, e3⟩ := for_right (some (.val (.bool g))) s3 none none none none none none none none ht hn4 ts b2 o4 none ht hb2
  have hf := fend_le ht
  have hlog : (logOf ts).length ≤ 4024 := by rw [log_len]; omega
  have e4 := comp_log4 [b3] ts ht (some (.io 0)) (some (.val (.list (tL ts)))) (some (.val (.bool g))) s3 s5 none none none none none none none none
  have e5 := join_log (ts := ts) (by omega)
  obtain ⟨l6, hl6⟩ : ∃ l : List D, l = (List.range 6).map fun i => .int (i : Nat) := ⟨_, rfl⟩
  have gr6 : gRng [.int 6] = some l6 := by rw [hl6]; exact gRng_n rfl (by omega)
  obtain ⟨b4, s36, o46, s76, s86, s96, o106, hb4, e6⟩ := for_prefix (some (.val (.bool g))) s5 none none none ht hn4 l6 b3 s3 o4' none none none none hb3
  rw [show vS none = none from rfl] at e6
  obtain ⟨k1, b5, hk1, e7, hb5⟩ := run_one hb4 (ds := [.none, .int 5, .str z9, .str z10, .str z11, .tuple [.str z8]]) (by simp) (by simp)
  obtain ⟨k2, b6, hk2, e8, hb6⟩ := run_one hb5 (ds := [.none, .int 5, .tuple [.str z8], .bool true]) (by simp) (by simp)
  obtain ⟨odd, hodd⟩ := op ([PyData.none, .int 5, .str z9, .str z10, .str z11, .tuple [.str z8]][k1])
  obtain ⟨nun, hnun⟩ := op ([PyData.none, .int 5, .tuple [.str z8], .bool true][k2])
  obtain ⟨x1, okodd⟩ := odd_f k1 hk1 odd (by rw [hodd]; exact List.getElem?_eq_getElem hk1)
  obtain ⟨x2, oknun⟩ := none_f k2 hk2 nun (by rw [hnun]; exact List.getElem?_eq_getElem hk2)
  rw [← hodd] at e7
  rw [← hnun] at e8
  have x3 := run_frame_x odd x1
  have x4 := run_opened_x odd x1
  have x5 := run_frame_e [] (by decide) rfl (.inl rfl)
  rw [← z5_eq] at x5
  obtain ⟨A, hA⟩ := op (List.replicate 1000 [97]).flatten
  obtain ⟨B, hB⟩ := op (List.replicate 999 [97]).flatten
  have hAl : A.length = 1000 := by rw [hA, rep_len]; rfl
  have hBl : B.length = 999 := by rw [hB, rep_len]; rfl
  have hAg : good A = true := by rw [hA]; exact good_rep (by decide) _
  have hBg : good B = true := by rw [hB]; exact good_rep (by decide) _
  have m1 : gMul (.str z8) (.int 1000) = some (.val (.str (tS A))) := by
    rw [z8_eq, hA]
    exact gMul_s rfl (by decide) (by decide) (by decide) (by decide)
  have m2 : gMul (.str z8) (.int 999) = some (.val (.str (tS B))) := by
    rw [z8_eq, hB]
    exact gMul_s rfl (by decide) (by decide) (by decide) (by decide)
  have x6 := run_frame_e A (by omega) hAg (.inr (by omega))
  have x7 := run_frame B (by omega) (by omega) hBg
  have x8 := len_z (frm B) (by rw [frm_len]; omega) 1006 (by rw [frm_len, hBl]; rfl)
  obtain ⟨FB, hFB⟩ := op (frm B)
  rw [← hFB] at x7 x8
  have sm := run_same 8 (.list [.list [odd], .list [nun], .list [odd], .list [.str z5], .list [.str (tS A)]]) ⟨by simp, fun d hd => by
    have one : ∀ d, okd 6 d → okd 7 (.list [d]) := fun d h => ⟨by simp, fun x hx => by rw [List.mem_singleton.mp hx]; exact h⟩
    rcases List.mem_cons.mp hd with rfl | hd
    · exact one _ okodd
    rcases List.mem_cons.mp hd with rfl | hd
    · exact one _ oknun
    rcases List.mem_cons.mp hd with rfl | hd
    · exact one _ okodd
    rcases List.mem_cons.mp hd with rfl | hd
    · exact one _ True.intro
    rw [List.mem_singleton.mp hd]
    exact one _ True.intro⟩
  have ap : ∀ (ds : List D) (d : D), ds.length < 10 → gAppend (.list ds) [d] = some (.list (ds ++ [d]), .none) := fun ds d h => gAppend_l (by omega)
  obtain ⟨TS, hTS⟩ := op (tL ts)
  have hTSl : TS.length ≤ 16777216 := by rw [hTS, tL_len]; omega
  obtain ⟨FS', hFS⟩ := op (tL (ts.map frm))
  obtain ⟨Lg, hLg⟩ := op (logOf ts)
  rw [← hTS] at e2 e3 e4 e6
  rw [← hFS] at e4 e5
  rw [← hLg] at e5 e6
  have wv : ∀ o, (vS o = none) ∨ (∃ d, vS o = some (.val d)) := fun o => by cases o <;> simp [vS]
  refine ⟨b6, ?_⟩
  unfold s__law_right
  rw [run_of]
  rcases wv o4' with w | ⟨d4, w⟩
  · rw [w] at e3 e6
    simp -implicitDefEqProofs [-gEq_s, m__law_right, hmd1, hmd2, e1, gr, e2, e3, ev_lc, Env.calm, hTSl, Env.wipe, wipeS, Env.unwipe, backS, e4, e5, gr6, e6, e7, e8, x3, x2, x4, x5, m1, x6, m2, x7, x8, sm, ap]
  · rw [w] at e3 e6
    simp -implicitDefEqProofs [-gEq_s, m__law_right, hmd1, hmd2, e1, gr, e2, e3, ev_lc, Env.calm, hTSl, Env.wipe, wipeS, Env.unwipe, backS, e4, e5, gr6, e6, e7, e8, x3, x2, x4, x5, m1, x6, m2, x7, x8, sm, ap]
theorem law_true (ns : List Int) (hl : ns.length ≤ 63) (hb : ∀ z ∈ ns, Builtin.Int.intBits z ≤ 1048576) : s_law.run [.list (ns.map PyData.int)] = .ok (.val (.bool true)) [] := by
  obtain ⟨L, hL⟩ := op (ns.map PyData.int)
  obtain ⟨b0, e0, hb0⟩ := run_bag ns hl 0 (by decide)
  obtain ⟨b1, e1, hb1⟩ := run_bag ns hl 1 (by decide)
  obtain ⟨c0, r0⟩ := run_right hb0
  obtain ⟨c1, r1⟩ := run_right hb1
  have gr : gRng [.int 2] = some [.int (0 : Nat), .int (1 : Nat)] := (gRng_n (j := 2) (n := 2) rfl (by decide)).trans rfl
  have hmd : s__law_right.md = [true] := rfl
  have hs0 : scalD b0 = false := by obtain ⟨_, _, _, _, rfl⟩ := hb0; rfl
  have hs1 : scalD b1 = false := by obtain ⟨_, _, _, _, rfl⟩ := hb1; rfl
  rw [← hL] at e0 e1 ⊢
  obtain ⟨i0, hi0⟩ := op ((0 : Nat) : Int)
  obtain ⟨i1, hi1⟩ := op ((1 : Nat) : Int)
  rw [← hi0] at e0 gr
  rw [← hi1] at e1 gr
  unfold s_law
  rw [run_of]
  simp -implicitDefEqProofs [m_law, gr, ev_lc, Env.calm, Env.wipe, wipeS, Env.unwipe, backS, lcL_cons, lcT, lcL, e0, e1, r0, r1, hs0, hs1, hmd, gAll, blsD]
end K27
open PySem PySem.W PySem.Calls PyProof.Rows
set_option maxHeartbeats 0 in
theorem PySem.Challenge.cw_landwatches_k27_whole_frames_by_lengths_holds : PySem.Challenge.rw_landwatches_k27_whole_frames_by_lengths.Holds := by
  w_on; o_law
  refine HandSHeadRun.head_any (r := OpenLaw.row PySem.Challenge.rw_landwatches_k27_whole_frames_by_lengths) (q := K27.qv) (H := K27.hk) (ob := K27.ob) (M := 4000) (loose := K27.looseL) (d := HandSHeadRun.topDef (OpenLaw.row PySem.Challenge.rw_landwatches_k27_whole_frames_by_lengths).prog 51) (kwd := []) K27.ob_eq
    (by kernel_rfl) (fun s => by kernel_rfl) K27.run (by kernel_rfl) (by kernel_rfl) (by kernel_rfl) (by rfl) (by first | assumption | decide +kernel) (by decide +kernel) ⟨rfl, rfl, rfl, rfl, rfl, by decide +kernel⟩ ?hw ?hc
  case hw => w_witness2
  case hc =>
    refine LW.walk_law (l := PySem.Challenge.rw_landwatches_k27_whole_frames_by_lengths) (n := 63) (k := 16) (x := "script") (y := "law") (T := K27.TL) (fl := K27.fl) (f := K27.s_law) rfl (by decide) (by kernel_rfl) ⟨rfl, by decide, by decide⟩ (by kernel_rfl) rfl (fun K p hp => ?_) (fun ns hl hb => K27.law_true ns hl hb) fun w K h mg KX G c => ?_
    · simp only [K27.TL, List.mem_singleton] at hp
      subst hp
      exact ⟨_, by simp [K27.tfL], rfl⟩
    · obtain ⟨b1, b2⟩ := K27.law_b KX G c
      exact ⟨b1, b2, fun base hK hG TB => K27.ok_law (K27.tx_of KX G c TB)⟩
