import PyProof.Rows.All
import Wide.All
import OpenK.AllK
import Wide.FinOn
import Lean
import PySem.Challenge.RW_np0024_01
open PySem PySem.W PyProof.Rows PySem.Calls
set_option Elab.async false
set_option linter.unusedVariables false
set_option maxRecDepth 100000
set_option maxHeartbeats 8000000
namespace Mine
local macro_rules | `(tactic| walk_at $s:str) => do
  let t := Lean.Syntax.mkStrLit ("mine " ++ s.getString)
  `(tactic| k_extra $t)
local macro_rules | `(tactic| k_upd) => `(tactic| k_extra "mine k_upd")
local macro_rules | `(tactic| k_updF) => `(tactic| k_extra "mine k_updF")
local macro_rules | `(tactic| k_mem) => `(tactic| k_extra "mine k_mem")
local macro_rules | `(tactic| k_all) => `(tactic| k_extra "mine k_all")
local macro_rules | `(tactic| ktr_room) => `(tactic| k_extra "mine ktr_room")
local macro_rules | `(tactic| ktr_units) => `(tactic| k_extra "mine ktr_units")
open_top hd for PySem.Challenge.rw_np0024_01
theorem top_off : True := by
  w_top off
  trivial
/-- a pure call: it hands back R; the ledger stays -/
noncomputable def Pure (w : World) (k : Nat) (f : Addr) (vs : List Value) (R : Tok → Value) : Prop :=
  ∀ (p : Program) (loose : List Str) (mean : ExcName → Option Value) (mg mb : Str → Option Value)
    (dp un : Nat) (gd : Option (List Code)) (cn : Str) (cs : Scope) (a : Addr) (ccd : Value) (cl : List (Str × Addr)) (outer : List Env) (A₀ : Around) (base h₀ : Heap) (L : Addr) (m : Str → Option Value) (news : List (Addr × Obj)) (s : Shared)
    (Q E : Value → Shared → Prop),
    Below A₀ base outer h₀ → Fr h₀ L s.heap m → Frag.In (Mine.hd.heap_39 w.params) h₀ → News h₀ L s.heap news → Top p loose mean mg mb h₀ → cs.kind = .function → dp + k < recursionLimit → un + 8 * k < cLine →
    (∀ (t : Tok) (h' : Heap) (tk' : Nat), Fr h₀ L h' m → News h₀ L h' news → Q (R t) { s with heap := h', toks := tk' }) →
    wpAny (model PySem.Challenge.rw_np0024_01.row.prog w) (ktrTop dp un gd cn cs L a ccd cl outer) (call (.ref f) vs) Q E s

theorem Pure.use {w : World} {k : Nat} {f : Addr} {vs : List Value} {R : Tok → Value} (C : Pure w k f vs R)
    {p : Program} {loose : List Str} {mean : ExcName → Option Value} {mg mb : Str → Option Value}
    {dp un : Nat} {gd : Option (List Code)} {cn : Str} {cs : Scope} {a : Addr} {ccd : Value} {cl : List (Str × Addr)} {outer : List Env} {A₀ : Around} {base h₀ : Heap} {L : Addr} {m : Str → Option Value} {news : List (Addr × Obj)} {s : Shared}
    {Q E : Value → Shared → Prop}
    (B : Below A₀ base outer h₀) (F : Fr h₀ L s.heap m) (X : Frag.In (Mine.hd.heap_39 w.params) h₀) (N : News h₀ L s.heap news) (T : Top p loose mean mg mb h₀) (hk : cs.kind = .function) (hd : dp + k < recursionLimit) (hu : un + 8 * k < cLine)
    (ret : ∀ (t : Tok) (h' : Heap) (tk' : Nat), Fr h₀ L h' m → News h₀ L h' news → Q (R t) { s with heap := h', toks := tk' }) :
    wpAny (model PySem.Challenge.rw_np0024_01.row.prog w) (ktrTop dp un gd cn cs L a ccd cl outer) (call (.ref f) vs) Q E s :=
  C p loose mean mg mb dp un gd cn cs a ccd cl outer A₀ base h₀ L m news s Q E B F X N T hk hd hu ret

noncomputable def codeOf (e : Int) : Int := e.fmod 4194304
noncomputable def bitsOf (e : Int) : Int := e - e.fmod 4194304
noncomputable def hasCtl (c : Int) : Bool := (decide (64 ≤ c) && decide (c ≤ 95)) || (decide (97 ≤ c) && decide (c ≤ 122))
noncomputable def isGreat (c : Int) : Bool := decide (65 ≤ c) && decide (c ≤ 90)
noncomputable def isCtl (c : Int) : Bool := decide (c < 32)
noncomputable def withControl (e : Int) : Int :=
  if hasCtl (codeOf e) = true then
    (if isGreat (codeOf e) = true then (codeOf e).fmod 32 + Builtin.bitAnd (Builtin.bitOr (bitsOf e) 33554432) (Builtin.bitXor (Builtin.bitOr (bitsOf e) 33554432) 67108864)
     else (codeOf e).fmod 32 + Builtin.bitAnd (bitsOf e) (Builtin.bitXor (bitsOf e) 67108864))
  else if codeOf e < 32 then e else codeOf e + Builtin.bitOr (bitsOf e) 67108864
noncomputable def hasMeta (e : Int) : Bool := Builtin.bitAnd e 134217728 != 0

noncomputable abbrev tup2 (a b : Value) : Obj := { cls := .type "tuple", data := .seq [a, b].toArray }
/-- a call that hands back one new object -/
noncomputable def New (w : World) (k : Nat) (f : Addr) (vs : List Value) (O : Obj → Prop) : Prop :=
  ∀ (p : Program) (loose : List Str) (mean : ExcName → Option Value) (mg mb : Str → Option Value)
    (dp un : Nat) (gd : Option (List Code)) (cn : Str) (cs : Scope) (a : Addr) (ccd : Value) (cl : List (Str × Addr)) (outer : List Env) (A₀ : Around) (base h₀ : Heap) (L : Addr) (m : Str → Option Value) (news : List (Addr × Obj)) (s : Shared)
    (Q E : Value → Shared → Prop),
    Below A₀ base outer h₀ → Fr h₀ L s.heap m → Frag.In (Mine.hd.heap_39 w.params) h₀ → News h₀ L s.heap news → Top p loose mean mg mb h₀ → cs.kind = .function → dp + k < recursionLimit → un + 8 * k < cLine →
    (∀ (b : Addr) (o : Obj) (h' : Heap) (tk' : Nat), O o → (∀ p ∈ news, p.1 < b) → Fr h₀ L h' m → News h₀ L h' ((b, o) :: news) → Q (.ref b) { s with heap := h', toks := tk' }) →
    wpAny (model PySem.Challenge.rw_np0024_01.row.prog w) (ktrTop dp un gd cn cs L a ccd cl outer) (call (.ref f) vs) Q E s

theorem New.use {w : World} {k : Nat} {f : Addr} {vs : List Value} {O : Obj → Prop} (C : New w k f vs O)
    {p : Program} {loose : List Str} {mean : ExcName → Option Value} {mg mb : Str → Option Value}
    {dp un : Nat} {gd : Option (List Code)} {cn : Str} {cs : Scope} {a : Addr} {ccd : Value} {cl : List (Str × Addr)} {outer : List Env} {A₀ : Around} {base h₀ : Heap} {L : Addr} {m : Str → Option Value} {news : List (Addr × Obj)} {s : Shared}
    {Q E : Value → Shared → Prop}
    (B : Below A₀ base outer h₀) (F : Fr h₀ L s.heap m) (X : Frag.In (Mine.hd.heap_39 w.params) h₀) (N : News h₀ L s.heap news) (T : Top p loose mean mg mb h₀) (hk : cs.kind = .function) (hd : dp + k < recursionLimit) (hu : un + 8 * k < cLine)
    (ret : ∀ (b : Addr) (o : Obj) (h' : Heap) (tk' : Nat), O o → (∀ p ∈ news, p.1 < b) → Fr h₀ L h' m → News h₀ L h' ((b, o) :: news) → Q (.ref b) { s with heap := h', toks := tk' }) :
    wpAny (model PySem.Challenge.rw_np0024_01.row.prog w) (ktrTop dp un gd cn cs L a ccd cl outer) (call (.ref f) vs) Q E s :=
  C p loose mean mg mb dp un gd cn cs a ccd cl outer A₀ base h₀ L m news s Q E B F X N T hk hd hu ret
theorem New.useB {α β : Type} {V : α → β → Obj} {w : World} {k : Nat} {f : Addr} {vs : List Value} (C : New w k f vs (fun o => ∃ x y, o = V x y))
    {p : Program} {loose : List Str} {mean : ExcName → Option Value} {mg mb : Str → Option Value}
    {dp un : Nat} {gd : Option (List Code)} {cn : Str} {cs : Scope} {a : Addr} {ccd : Value} {cl : List (Str × Addr)} {outer : List Env} {A₀ : Around} {base h₀ : Heap} {L : Addr} {m : Str → Option Value} {news : List (Addr × Obj)} {s : Shared}
    {Q E : Value → Shared → Prop}
    (B : Below A₀ base outer h₀) (F : Fr h₀ L s.heap m) (X : Frag.In (Mine.hd.heap_39 w.params) h₀) (N : News h₀ L s.heap news) (T : Top p loose mean mg mb h₀) (hk : cs.kind = .function) (hd : dp + k < recursionLimit) (hu : un + 8 * k < cLine)
    (ret : ∀ (b : Addr) (h' : Heap) (tk' : Nat) (x : α) (y : β), (∀ p ∈ news, p.1 < b) → Fr h₀ L h' m → News h₀ L h' ((b, V x y) :: news) → Q (.ref b) { s with heap := h', toks := tk' }) :
    wpAny (model PySem.Challenge.rw_np0024_01.row.prog w) (ktrTop dp un gd cn cs L a ccd cl outer) (call (.ref f) vs) Q E s := by
  refine New.use C B F X N T hk hd hu ?_
  rintro b o h' tk' ⟨x, y, rfl⟩
  exact ret b h' tk' x y
theorem roomD {dp a k K R : Nat} (h : dp + K < R) (hk : Nat.ble (a + k) K = true) : dp + a + k < R := by
  have := Nat.le_of_ble_eq_true hk
  omega
theorem roomU {un a k K R : Nat} (h : un + 8 * K < R) (hk : Nat.ble (a + 8 * k) (8 * K) = true) : un + a + 8 * k < R := by
  have := Nat.le_of_ble_eq_true hk
  omega
theorem room0 {dp K R : Nat} (h : dp + K < R) : dp < R := Nat.lt_of_le_of_lt (Nat.le_add_right _ _) h
theorem elB2_2 {β : Type} {y : β} {α1 α2 : Type} {V : α1 → α2 → β} {P1 P2 : α1 → α2 → Prop} {G : β → Prop} (h : ∀ (x1 : α1) (x2 : α2), P1 x1 x2 → P2 x1 x2 → G (V x1 x2)) : (∃ x1 x2, y = V x1 x2 ∧ P1 x1 x2 ∧ P2 x1 x2) → G y := by
  rintro ⟨x1, x2, e, h1, h2⟩
  rw [e]
  exact h _ _ h1 h2
theorem elB2_3 {β : Type} {y : β} {α1 α2 : Type} {V : α1 → α2 → β} {P1 P2 P3 : α1 → α2 → Prop} {G : β → Prop} (h : ∀ (x1 : α1) (x2 : α2), P1 x1 x2 → P2 x1 x2 → P3 x1 x2 → G (V x1 x2)) : (∃ x1 x2, y = V x1 x2 ∧ P1 x1 x2 ∧ P2 x1 x2 ∧ P3 x1 x2) → G y := by
  rintro ⟨x1, x2, e, h1, h2, h3⟩
  rw [e]
  exact h _ _ h1 h2 h3
theorem elB2_4 {β : Type} {y : β} {α1 α2 : Type} {V : α1 → α2 → β} {P1 P2 P3 P4 : α1 → α2 → Prop} {G : β → Prop} (h : ∀ (x1 : α1) (x2 : α2), P1 x1 x2 → P2 x1 x2 → P3 x1 x2 → P4 x1 x2 → G (V x1 x2)) : (∃ x1 x2, y = V x1 x2 ∧ P1 x1 x2 ∧ P2 x1 x2 ∧ P3 x1 x2 ∧ P4 x1 x2) → G y := by
  rintro ⟨x1, x2, e, h1, h2, h3, h4⟩
  rw [e]
  exact h _ _ h1 h2 h3 h4
theorem elB4_4 {β : Type} {y : β} {α1 α2 α3 α4 : Type} {V : α1 → α2 → α3 → α4 → β} {P1 P2 P3 P4 : α1 → α2 → α3 → α4 → Prop} {G : β → Prop} (h : ∀ (x1 : α1) (x2 : α2) (x3 : α3) (x4 : α4), P1 x1 x2 x3 x4 → P2 x1 x2 x3 x4 → P3 x1 x2 x3 x4 → P4 x1 x2 x3 x4 → G (V x1 x2 x3 x4)) : (∃ x1 x2 x3 x4, y = V x1 x2 x3 x4 ∧ P1 x1 x2 x3 x4 ∧ P2 x1 x2 x3 x4 ∧ P3 x1 x2 x3 x4 ∧ P4 x1 x2 x3 x4) → G y := by
  rintro ⟨x1, x2, x3, x4, e, h1, h2, h3, h4⟩
  rw [e]
  exact h _ _ _ _ h1 h2 h3 h4
theorem elB4_5 {β : Type} {y : β} {α1 α2 α3 α4 : Type} {V : α1 → α2 → α3 → α4 → β} {P1 P2 P3 P4 P5 : α1 → α2 → α3 → α4 → Prop} {G : β → Prop} (h : ∀ (x1 : α1) (x2 : α2) (x3 : α3) (x4 : α4), P1 x1 x2 x3 x4 → P2 x1 x2 x3 x4 → P3 x1 x2 x3 x4 → P4 x1 x2 x3 x4 → P5 x1 x2 x3 x4 → G (V x1 x2 x3 x4)) : (∃ x1 x2 x3 x4, y = V x1 x2 x3 x4 ∧ P1 x1 x2 x3 x4 ∧ P2 x1 x2 x3 x4 ∧ P3 x1 x2 x3 x4 ∧ P4 x1 x2 x3 x4 ∧ P5 x1 x2 x3 x4) → G y := by
  rintro ⟨x1, x2, x3, x4, e, h1, h2, h3, h4, h5⟩
  rw [e]
  exact h _ _ _ _ h1 h2 h3 h4 h5
theorem elB6_7 {β : Type} {y : β} {α1 α2 α3 α4 α5 α6 : Type} {V : α1 → α2 → α3 → α4 → α5 → α6 → β} {P1 P2 P3 P4 P5 P6 P7 : α1 → α2 → α3 → α4 → α5 → α6 → Prop} {G : β → Prop} (h : ∀ (x1 : α1) (x2 : α2) (x3 : α3) (x4 : α4) (x5 : α5) (x6 : α6), P1 x1 x2 x3 x4 x5 x6 → P2 x1 x2 x3 x4 x5 x6 → P3 x1 x2 x3 x4 x5 x6 → P4 x1 x2 x3 x4 x5 x6 → P5 x1 x2 x3 x4 x5 x6 → P6 x1 x2 x3 x4 x5 x6 → P7 x1 x2 x3 x4 x5 x6 → G (V x1 x2 x3 x4 x5 x6)) : (∃ x1 x2 x3 x4 x5 x6, y = V x1 x2 x3 x4 x5 x6 ∧ P1 x1 x2 x3 x4 x5 x6 ∧ P2 x1 x2 x3 x4 x5 x6 ∧ P3 x1 x2 x3 x4 x5 x6 ∧ P4 x1 x2 x3 x4 x5 x6 ∧ P5 x1 x2 x3 x4 x5 x6 ∧ P6 x1 x2 x3 x4 x5 x6 ∧ P7 x1 x2 x3 x4 x5 x6) → G y := by
  rintro ⟨x1, x2, x3, x4, x5, x6, e, h1, h2, h3, h4, h5, h6, h7⟩
  rw [e]
  exact h _ _ _ _ _ _ h1 h2 h3 h4 h5 h6 h7
theorem elB7_11 {β : Type} {y : β} {α1 α2 α3 α4 α5 α6 α7 : Type} {V : α1 → α2 → α3 → α4 → α5 → α6 → α7 → β} {P1 P2 P3 P4 P5 P6 P7 P8 P9 P10 P11 : α1 → α2 → α3 → α4 → α5 → α6 → α7 → Prop} {G : β → Prop} (h : ∀ (x1 : α1) (x2 : α2) (x3 : α3) (x4 : α4) (x5 : α5) (x6 : α6) (x7 : α7), P1 x1 x2 x3 x4 x5 x6 x7 → P2 x1 x2 x3 x4 x5 x6 x7 → P3 x1 x2 x3 x4 x5 x6 x7 → P4 x1 x2 x3 x4 x5 x6 x7 → P5 x1 x2 x3 x4 x5 x6 x7 → P6 x1 x2 x3 x4 x5 x6 x7 → P7 x1 x2 x3 x4 x5 x6 x7 → P8 x1 x2 x3 x4 x5 x6 x7 → P9 x1 x2 x3 x4 x5 x6 x7 → P10 x1 x2 x3 x4 x5 x6 x7 → P11 x1 x2 x3 x4 x5 x6 x7 → G (V x1 x2 x3 x4 x5 x6 x7)) : (∃ x1 x2 x3 x4 x5 x6 x7, y = V x1 x2 x3 x4 x5 x6 x7 ∧ P1 x1 x2 x3 x4 x5 x6 x7 ∧ P2 x1 x2 x3 x4 x5 x6 x7 ∧ P3 x1 x2 x3 x4 x5 x6 x7 ∧ P4 x1 x2 x3 x4 x5 x6 x7 ∧ P5 x1 x2 x3 x4 x5 x6 x7 ∧ P6 x1 x2 x3 x4 x5 x6 x7 ∧ P7 x1 x2 x3 x4 x5 x6 x7 ∧ P8 x1 x2 x3 x4 x5 x6 x7 ∧ P9 x1 x2 x3 x4 x5 x6 x7 ∧ P10 x1 x2 x3 x4 x5 x6 x7 ∧ P11 x1 x2 x3 x4 x5 x6 x7) → G y := by
  rintro ⟨x1, x2, x3, x4, x5, x6, x7, e, h1, h2, h3, h4, h5, h6, h7, h8, h9, h10, h11⟩
  rw [e]
  exact h _ _ _ _ _ _ _ h1 h2 h3 h4 h5 h6 h7 h8 h9 h10 h11
theorem elA1_2 {α1 : Type} {P1 P2 : α1 → Prop} {G : Prop} (h : ∀ (x1 : α1), P1 x1 → P2 x1 → G) : (∃ x1, P1 x1 ∧ P2 x1) → G := by
  rintro ⟨x1, h1, h2⟩
  exact h _ h1 h2
theorem elC2_1 {β : Type} {y : β} {α1 α2 : Type} {V : α1 → α2 → β} {P1 : α1 → α2 → Prop} {G : β → Prop} (h : ∀ (x1 : α1) (x2 : α2), P1 x1 x2 → G (V x1 x2)) : (∃ x1 x2, P1 x1 x2 ∧ y = V x1 x2) → G y := by
  rintro ⟨x1, x2, h1, e⟩
  rw [e]
  exact h _ _ h1
theorem exI2 {α1 α2 : Type} {P : α1 → α2 → Prop} (x1 : α1) (x2 : α2) (h : P x1 x2) : ∃ x1 x2, P x1 x2 := ⟨x1, x2, h⟩
theorem exI3 {α1 α2 α3 : Type} {P : α1 → α2 → α3 → Prop} (x1 : α1) (x2 : α2) (x3 : α3) (h : P x1 x2 x3) : ∃ x1 x2 x3, P x1 x2 x3 := ⟨x1, x2, x3, h⟩
theorem exI4 {α1 α2 α3 α4 : Type} {P : α1 → α2 → α3 → α4 → Prop} (x1 : α1) (x2 : α2) (x3 : α3) (x4 : α4) (h : P x1 x2 x3 x4) : ∃ x1 x2 x3 x4, P x1 x2 x3 x4 := ⟨x1, x2, x3, x4, h⟩
theorem exI5 {α1 α2 α3 α4 α5 : Type} {P : α1 → α2 → α3 → α4 → α5 → Prop} (x1 : α1) (x2 : α2) (x3 : α3) (x4 : α4) (x5 : α5) (h : P x1 x2 x3 x4 x5) : ∃ x1 x2 x3 x4 x5, P x1 x2 x3 x4 x5 := ⟨x1, x2, x3, x4, x5, h⟩
theorem exI6 {α1 α2 α3 α4 α5 α6 : Type} {P : α1 → α2 → α3 → α4 → α5 → α6 → Prop} (x1 : α1) (x2 : α2) (x3 : α3) (x4 : α4) (x5 : α5) (x6 : α6) (h : P x1 x2 x3 x4 x5 x6) : ∃ x1 x2 x3 x4 x5 x6, P x1 x2 x3 x4 x5 x6 := ⟨x1, x2, x3, x4, x5, x6, h⟩
theorem exI7 {α1 α2 α3 α4 α5 α6 α7 : Type} {P : α1 → α2 → α3 → α4 → α5 → α6 → α7 → Prop} (x1 : α1) (x2 : α2) (x3 : α3) (x4 : α4) (x5 : α5) (x6 : α6) (x7 : α7) (h : P x1 x2 x3 x4 x5 x6 x7) : ∃ x1 x2 x3 x4 x5 x6 x7, P x1 x2 x3 x4 x5 x6 x7 := ⟨x1, x2, x3, x4, x5, x6, x7, h⟩
theorem exI9 {α1 α2 α3 α4 α5 α6 α7 α8 α9 : Type} {P : α1 → α2 → α3 → α4 → α5 → α6 → α7 → α8 → α9 → Prop} (x1 : α1) (x2 : α2) (x3 : α3) (x4 : α4) (x5 : α5) (x6 : α6) (x7 : α7) (x8 : α8) (x9 : α9) (h : P x1 x2 x3 x4 x5 x6 x7 x8 x9) : ∃ x1 x2 x3 x4 x5 x6 x7 x8 x9, P x1 x2 x3 x4 x5 x6 x7 x8 x9 := ⟨x1, x2, x3, x4, x5, x6, x7, x8, x9, h⟩
theorem exI10 {α1 α2 α3 α4 α5 α6 α7 α8 α9 α10 : Type} {P : α1 → α2 → α3 → α4 → α5 → α6 → α7 → α8 → α9 → α10 → Prop} (x1 : α1) (x2 : α2) (x3 : α3) (x4 : α4) (x5 : α5) (x6 : α6) (x7 : α7) (x8 : α8) (x9 : α9) (x10 : α10) (h : P x1 x2 x3 x4 x5 x6 x7 x8 x9 x10) : ∃ x1 x2 x3 x4 x5 x6 x7 x8 x9 x10, P x1 x2 x3 x4 x5 x6 x7 x8 x9 x10 := ⟨x1, x2, x3, x4, x5, x6, x7, x8, x9, x10, h⟩
theorem exI11 {α1 α2 α3 α4 α5 α6 α7 α8 α9 α10 α11 : Type} {P : α1 → α2 → α3 → α4 → α5 → α6 → α7 → α8 → α9 → α10 → α11 → Prop} (x1 : α1) (x2 : α2) (x3 : α3) (x4 : α4) (x5 : α5) (x6 : α6) (x7 : α7) (x8 : α8) (x9 : α9) (x10 : α10) (x11 : α11) (h : P x1 x2 x3 x4 x5 x6 x7 x8 x9 x10 x11) : ∃ x1 x2 x3 x4 x5 x6 x7 x8 x9 x10 x11, P x1 x2 x3 x4 x5 x6 x7 x8 x9 x10 x11 := ⟨x1, x2, x3, x4, x5, x6, x7, x8, x9, x10, x11, h⟩
open PySem.Spec
open LCg LCt
section
variable {prog : Program} {w : World} {A : Around} {E : Value → Shared → Prop} {s : Shared} {h₀ : Heap} {L : Addr} {m : Str → Option Value} {env : Env}

/-- the turns of a comprehension with one test, by what holds between them -/
theorem restT_inv {ct elt : Expr} {x : Str} {scope : Scope} {cl : List (Str × Addr)} {S : List (Addr × Obj) → Prop} {P : Nat → Value → Prop} {Fin : List Value → List (Addr × Obj) → Prop} {n : Nat}
    (J : Nat → List Value → List (Addr × Obj) → Prop)
    (step : ∀ i ys news v I oI C oC D m₂ h tk (E' : Value → Shared → Prop), i < n → J i ys news → P i v → NsObj oC m₂ → m₂ x = some v → Fr h₀ L h m → News h₀ L h ((I, oI) :: (C, oC) :: (D, lst ys) :: news) → Off3 I C D news → ((@Ne Nat I C) ∧ (@Ne Nat I D) ∧ (@Ne Nat C D)) →
      wpAny (model prog w) A (isTrue ct (compEnvC scope cl C env) (eval ct (compEnvC scope cl C env))) (fun ok s' => if ok = true then
        wpAny (model prog w) A (eval elt (compEnvC scope cl C env)) (CompEnd h₀ L m { s with heap := h, toks := tk } I oI C oC D (lst ys) S (fun y news' => J (i + 1) (ys ++ [y]) news')) E' s'
        else CompEnd h₀ L m { s with heap := h, toks := tk } I oI C oC D (lst ys) S (fun _ news' => J (i + 1) ys news') Value.none s') E' { s with heap := h, toks := tk })
    (done : ∀ ys news, J n ys news → Fin ys news) :
    ∀ k i ys news, k + i = n → J i ys news → CompRestT prog w A h₀ L m env ct elt x scope cl s S P Fin k i ys news := by
  have mono : ∀ {I C D : Addr} {oI oC oD : Obj} {s₁ : Shared} {R R' : Value → List (Addr × Obj) → Prop} {y : Value} {s₂ : Shared}, (∀ nw, R y nw → R' y nw) → CompEnd h₀ L m s₁ I oI C oC D oD S R y s₂ → CompEnd h₀ L m s₁ I oI C oC D oD S R' y s₂ := by
    rintro I C D oI oC oD s₁ R R' y s₂ hR ⟨h', tk, nw, e, F, N, o, hS, r⟩
    exact ⟨h', tk, nw, e, F, N, o, hS, hR nw r⟩
  intro k
  induction k with
  | zero =>
    intro i ys news e hJ
    rw [Nat.zero_add] at e
    subst e
    exact CompRestT.zero (done ys news hJ)
  | succ k ih =>
    intro i ys news e hJ
    refine CompRestT.succ fun v I oI C oC D m₂ h tk E' hP hC hx F N off ne => ?_
    refine wpAny_mono (step i ys news v I oI C oC D m₂ h tk E' (by omega) hJ hP hC hx F N off ne) (fun ok s' h' => ?_) fun _ _ e => e
    cases ok with
    | true =>
      simp only [if_true] at h' ⊢
      exact wpAny_mono h' (fun y s₂ h₂ => mono (fun nw r => ih (i + 1) _ _ (by omega) r) h₂) fun _ _ e => e
    | false =>
      simp only [Bool.false_eq_true, if_false] at h' ⊢
      exact mono (fun nw r => ih (i + 1) _ _ (by omega) r) h'

theorem rest_inv {elt : Expr} {x : Str} {scope : Scope} {cl : List (Str × Addr)} {S : List (Addr × Obj) → Prop} {P : Nat → Value → Prop} {Fin : List Value → List (Addr × Obj) → Prop} {n : Nat}
    (J : Nat → List Value → List (Addr × Obj) → Prop)
    (step : ∀ i ys news v I oI C oC D m₂ h tk (E' : Value → Shared → Prop), i < n → J i ys news → P i v → NsObj oC m₂ → m₂ x = some v → Fr h₀ L h m → News h₀ L h ((I, oI) :: (C, oC) :: (D, lst ys) :: news) → Off3 I C D news → ((@Ne Nat I C) ∧ (@Ne Nat I D) ∧ (@Ne Nat C D)) →
        wpAny (model prog w) A (eval elt (compEnvC scope cl C env)) (CompEnd h₀ L m { s with heap := h, toks := tk } I oI C oC D (lst ys) S (fun y news' => J (i + 1) (ys ++ [y]) news')) E' { s with heap := h, toks := tk })
    (done : ∀ ys news, J n ys news → Fin ys news) :
    ∀ k i ys news, k + i = n → J i ys news → CompRest prog w A h₀ L m env elt x scope cl s S P Fin k i ys news := by
  have mono : ∀ {I C D : Addr} {oI oC oD : Obj} {s₁ : Shared} {R R' : Value → List (Addr × Obj) → Prop} {y : Value} {s₂ : Shared}, (∀ nw, R y nw → R' y nw) → CompEnd h₀ L m s₁ I oI C oC D oD S R y s₂ → CompEnd h₀ L m s₁ I oI C oC D oD S R' y s₂ := by
    rintro I C D oI oC oD s₁ R R' y s₂ hR ⟨h', tk, nw, e, F, N, o, hS, r⟩
    exact ⟨h', tk, nw, e, F, N, o, hS, hR nw r⟩
  intro k
  induction k with
  | zero =>
    intro i ys news e hJ
    rw [Nat.zero_add] at e
    subst e
    exact CompRest.zero (done ys news hJ)
  | succ k ih =>
    intro i ys news e hJ
    refine CompRest.succ fun v I oI C oC D m₂ h tk E' hP hC hx F N off ne => ?_
    exact wpAny_mono (step i ys news v I oI C oC D m₂ h tk E' (by omega) hJ hP hC hx F N off ne) (fun y s₂ h₂ => mono (fun nw r => ih (i + 1) _ _ (by omega) r) h₂) fun _ _ e => e

/-- the same where the ledger stays -/
theorem restT_pure {ct elt : Expr} {x : Str} {scope : Scope} {cl : List (Str × Addr)} {S : List (Addr × Obj) → Prop} {P : Nat → Value → Prop} {Fin : List Value → List (Addr × Obj) → Prop} {n : Nat} {news : List (Addr × Obj)}
    (J : Nat → List Value → Prop)
    (step : ∀ i ys v I oI C oC D m₂ h tk (E' : Value → Shared → Prop), i < n → J i ys → P i v → NsObj oC m₂ → m₂ x = some v → Fr h₀ L h m → News h₀ L h ((I, oI) :: (C, oC) :: (D, lst ys) :: news) → Off3 I C D news → ((@Ne Nat I C) ∧ (@Ne Nat I D) ∧ (@Ne Nat C D)) →
      wpAny (model prog w) A (isTrue ct (compEnvC scope cl C env) (eval ct (compEnvC scope cl C env))) (fun ok s' => if ok = true then
        wpAny (model prog w) A (eval elt (compEnvC scope cl C env)) (CompEnd h₀ L m { s with heap := h, toks := tk } I oI C oC D (lst ys) S (fun y news' => news' = news ∧ J (i + 1) (ys ++ [y]))) E' s'
        else CompEnd h₀ L m { s with heap := h, toks := tk } I oI C oC D (lst ys) S (fun _ news' => news' = news ∧ J (i + 1) ys) Value.none s') E' { s with heap := h, toks := tk })
    (done : ∀ ys, J n ys → Fin ys news) (h0 : J 0 []) :
    CompRestT prog w A h₀ L m env ct elt x scope cl s S P Fin n 0 [] news := by
  refine restT_inv (fun i ys nw => nw = news ∧ J i ys) ?_ ?_ n 0 [] news rfl ⟨rfl, h0⟩
  · rintro i ys nw v I oI C oC D m₂ h tk E' hi ⟨rfl, hJ⟩ hP hC hx F N off ne
    exact step i ys v I oI C oC D m₂ h tk E' hi hJ hP hC hx F N off ne
  · rintro ys nw ⟨rfl, hJ⟩
    exact done ys hJ
theorem rest_pure {elt : Expr} {x : Str} {scope : Scope} {cl : List (Str × Addr)} {S : List (Addr × Obj) → Prop} {P : Nat → Value → Prop} {Fin : List Value → List (Addr × Obj) → Prop} {n : Nat} {news : List (Addr × Obj)}
    (J : Nat → List Value → Prop)
    (step : ∀ i ys v I oI C oC D m₂ h tk (E' : Value → Shared → Prop), i < n → J i ys → P i v → NsObj oC m₂ → m₂ x = some v → Fr h₀ L h m → News h₀ L h ((I, oI) :: (C, oC) :: (D, lst ys) :: news) → Off3 I C D news → ((@Ne Nat I C) ∧ (@Ne Nat I D) ∧ (@Ne Nat C D)) →
        wpAny (model prog w) A (eval elt (compEnvC scope cl C env)) (CompEnd h₀ L m { s with heap := h, toks := tk } I oI C oC D (lst ys) S (fun y news' => news' = news ∧ J (i + 1) (ys ++ [y]))) E' { s with heap := h, toks := tk })
    (done : ∀ ys, J n ys → Fin ys news) (h0 : J 0 []) :
    CompRest prog w A h₀ L m env elt x scope cl s S P Fin n 0 [] news := by
  refine rest_inv (fun i ys nw => nw = news ∧ J i ys) ?_ ?_ n 0 [] news rfl ⟨rfl, h0⟩
  · rintro i ys nw v I oI C oC D m₂ h tk E' hi ⟨rfl, hJ⟩ hP hC hx F N off ne
    exact step i ys v I oI C oC D m₂ h tk E' hi hJ hP hC hx F N off ne
  · rintro ys nw ⟨rfl, hJ⟩
    exact done ys hJ

/-- what the source of a comprehension over the signs of a text gives -/
noncomputable def SrcS (A : Around) (h₀ : Heap) (L : Addr) (m : Str → Option Value) (Rest : Str → Shared → List (Addr × Obj) → Prop) (xv : Value) (s₁ : Shared) : Prop :=
  ∃ y t news, xv = .str y t ∧ A.handled = none ∧ Fr h₀ L s₁.heap m ∧ News h₀ L s₁.heap news ∧ y.cps.size ≤ sizeLine ∧ y.cps.all (· < 128) = true ∧ ∀ s₂ : Shared, (∃ h, s₂ = { s₁ with heap := h }) → Rest y s₂ news

theorem striter_st {I : Addr} {x : Str} {t : Tok} : ∀ i (h h' : Heap) (o : Obj) (nw : List (Addr × Obj)), h.IsStrIter I "str_ascii_iterator" x t i → h.get? I = some o → h'.get? I = some o → (∀ b o, h₀.get? b = some o → h'.get? b = some o) → News h₀ L h' nw → True → h'.IsStrIter I "str_ascii_iterator" x t i := by
  rintro i h h' o nw ⟨o', q, r⟩ e e' _ _ _
  rw [e] at q; cases q; exact ⟨o, e', r⟩

theorem ListComp_ST {ct elt iter : Expr} {x : Str} {px : Pos} {scope : Scope} {cl : List (Str × Addr)} {pos : Pos} {Q : Value → Shared → Prop} (F₀ : Fr h₀ L s.heap m)
    (hclos : closureFor scope env = pure cl) (hcell : ∀ y ∈ scope.names, y.2 ≠ .cell) (hkind : scope.kind = .function)
    (hnames : ∀ y ∈ scope.names, y.2 = .local → scope.names.lookup y.1 = some .local) (hx : scope.names.lookup x = some .local)
    (h : wpAny (model prog w) A (eval iter env) (SrcS A h₀ L m (fun y s₂ news => CompRestT prog w A h₀ L m env ct elt x scope cl s₂ (fun _ => True) (SignAt y) (FinE h₀ L m s₂ Q) y.cps.size 0 [] news)) E s)
    (hs : ∀ x, foldedSetIterable iter env x = pure x := by intro _; rfl) :
    wpAny (model prog w) A (eval (.ListComp elt [⟨.Name x px, iter, [ct], 0⟩] scope pos) env) Q E s := by
  rw [eval_ListComp]
  refine wpAny_comprehension_free (use := none) rfl hs hclos hkind hnames (wpAny_mono h (fun xv s₁ h₁ => ?_) fun _ _ e => e)
  obtain ⟨y, t, news, rfl, hh, F, N, hsz, ha, R⟩ := h₁
  refine wpAny_pyIter_ascii ha ?_
  have up : ∀ b o, s₁.heap.get? b = some o → (s₁.heap.push { cls := .type "str_ascii_iterator", data := .fields #[.str y t, .int 0 0] }).get? b = some o := fun b o e => Heap.get?_push_of_some _ e
  refine block_T (Walks.strAscii hh s₁.heap.objs.size y t) hsz (fun i h st => by obtain ⟨o, e, _⟩ := st; exact ⟨o, e⟩) striter_st hcell hkind hx ⟨_, Heap.get?_push_size _ rfl, rfl, rfl⟩ (fun b hb => ?_)
    (F.keeps up) (N.grown up) (Nat.ne_of_lt F.ns.lt) (next_is_new F) (fun p hp => Nat.ne_of_lt (Heap.lt_size (N p hp).1)) trivial (R _ ⟨_, rfl⟩) ?_
  · show b < (s₁.heap.push _).objs.size
    rw [Heap.size_push, List.mem_singleton.mp hb]; exact Nat.lt_succ_self _
  · intro D C h tk m' ys news' F' N' o1 hn hC₀ hD₀ hCL hDL hCD offC fin
    refine ⟨m', hn, fun h'' hs'' => fin D h'' tk (F'.change hs'' hCL hC₀) (fun p hp => ?_) o1⟩
    refine ⟨hs''.extBut _ _ ?_ (N' p hp).1, (N' p hp).2⟩
    rcases List.mem_cons.mp hp with rfl | hp
    · exact Ne.symm hCD
    · exact offC p hp

theorem ListComp_SU {elt iter : Expr} {x : Str} {px : Pos} {scope : Scope} {cl : List (Str × Addr)} {pos : Pos} {Q : Value → Shared → Prop} (F₀ : Fr h₀ L s.heap m)
    (hclos : closureFor scope env = pure cl) (hcell : ∀ y ∈ scope.names, y.2 ≠ .cell) (hkind : scope.kind = .function)
    (hnames : ∀ y ∈ scope.names, y.2 = .local → scope.names.lookup y.1 = some .local) (hx : scope.names.lookup x = some .local)
    (h : wpAny (model prog w) A (eval iter env) (SrcS A h₀ L m (fun y s₂ news => CompRest prog w A h₀ L m env elt x scope cl s₂ (fun _ => True) (SignAt y) (FinE h₀ L m s₂ Q) y.cps.size 0 [] news)) E s)
    (hs : ∀ x, foldedSetIterable iter env x = pure x := by intro _; rfl) :
    wpAny (model prog w) A (eval (.ListComp elt [⟨.Name x px, iter, [], 0⟩] scope pos) env) Q E s := by
  rw [eval_ListComp]
  refine wpAny_comprehension_free (use := none) rfl hs hclos hkind hnames (wpAny_mono h (fun xv s₁ h₁ => ?_) fun _ _ e => e)
  obtain ⟨y, t, news, rfl, hh, F, N, hsz, ha, R⟩ := h₁
  refine wpAny_pyIter_ascii ha ?_
  have up : ∀ b o, s₁.heap.get? b = some o → (s₁.heap.push { cls := .type "str_ascii_iterator", data := .fields #[.str y t, .int 0 0] }).get? b = some o := fun b o e => Heap.get?_push_of_some _ e
  refine block_U (Walks.strAscii hh s₁.heap.objs.size y t) hsz (fun i h st => by obtain ⟨o, e, _⟩ := st; exact ⟨o, e⟩) striter_st hcell hkind hx ⟨_, Heap.get?_push_size _ rfl, rfl, rfl⟩ (fun b hb => ?_)
    (F.keeps up) (N.grown up) (Nat.ne_of_lt F.ns.lt) (next_is_new F) (fun p hp => Nat.ne_of_lt (Heap.lt_size (N p hp).1)) trivial (R _ ⟨_, rfl⟩) ?_
  · show b < (s₁.heap.push _).objs.size
    rw [Heap.size_push, List.mem_singleton.mp hb]; exact Nat.lt_succ_self _
  · intro D C h tk m' ys news' F' N' o1 hn hC₀ hD₀ hCL hDL hCD offC fin
    refine ⟨m', hn, fun h'' hs'' => fin D h'' tk (F'.change hs'' hCL hC₀) (fun p hp => ?_) o1⟩
    refine ⟨hs''.extBut _ _ ?_ (N' p hp).1, (N' p hp).2⟩
    rcases List.mem_cons.mp hp with rfl | hp
    · exact Ne.symm hCD
    · exact offC p hp
end
noncomputable def SL (l : List Nat) : Str := ⟨l.toArray⟩
noncomputable def letters6 : List Nat := [65, 67, 72, 77, 83, 115]
noncomputable def ordL (x : List Nat) : List Nat := letters6.filter (fun c => x.contains c)

theorem SL_len (l : List Nat) : (SL l).length = l.length := by simp [SL, Str.length]
theorem SL_list (l : List Nat) : (SL l).cps.toList = l := by simp [SL]
theorem SL_append (a b : List Nat) : SL a ++ SL b = SL (a ++ b) := by
  apply Str.ext'
  rw [Str.cps_append]
  simp [SL]
theorem SL_inj {a b : List Nat} (h : SL a = SL b) : a = b := by
  have := congrArg (fun s : Str => s.cps.toList) h
  simpa [SL] using this
theorem SL_nil : Str.ofString "" = SL [] := by decide +kernel
theorem SL_letters : Str.ofString "ACHMSs" = SL letters6 := by decide +kernel

theorem joinSL : ∀ l : List (List Nat), Txt.join (Str.ofString "") (l.map SL) = SL l.flatten := by
  intro l
  show Builtin.Str.glued (Str.ofString "") (l.map SL) = _
  rw [StrLaws.glued_eq_join, SL_nil]
  induction l with
  | nil => rfl
  | cons a r ih =>
    cases r with
    | nil => simp [Str.join]
    | cons b r =>
      rw [List.map_cons, List.map_cons, Str.join]
      · rw [List.map_cons] at ih
        rw [ih, SL_append, SL_append]
        simp
      · intro h; cases h

theorem strs_snoc {vs : List Value} {xs : List Str} (h : StrsAre vs xs) (y : Str) (t : Tok) : StrsAre (vs ++ [.str y t]) (xs ++ [y]) := by
  induction h with
  | nil => exact .cons y t .nil
  | cons z u h ih => exact .cons z u ih
theorem strs_len {vs : List Value} {xs : List Str} (h : StrsAre vs xs) : vs.length = xs.length := by
  induction h with
  | nil => rfl
  | cons z u h ih => simp [ih]

theorem filt_take {i c : Nat} {l : List Nat} {p : Nat → Bool} (h : l[i]? = some c) : (l.take (i + 1)).filter p = (l.take i).filter p ++ (if p c = true then [c] else []) := by
  rw [List.take_add_one, h]
  simp only [Option.toList_some, List.filter_append]
  congr 1
  simp only [List.filter_cons, List.filter_nil]
theorem ordL_len (x : List Nat) : (ordL x).length ≤ 6 := List.length_filter_le _ letters6
theorem ordL_sub {x : List Nat} {c : Nat} (h : c ∈ ordL x) : c ∈ letters6 := (List.mem_filter.mp h).1
theorem sum_ones (l : List Nat) : ((l.map fun c => SL [c]).map (·.length)).sum = l.length := by
  induction l with
  | nil => rfl
  | cons a r ih => simp only [List.map_cons, List.sum_cons, ih, SL_len, List.length_cons, List.length_nil]; omega
theorem flat_ones (l : List Nat) : (l.map fun c => [c]).flatten = l := by
  induction l with
  | nil => rfl
  | cons a r ih => rw [List.map_cons, List.flatten_cons, ih]; rfl
theorem joinOnes (l : List Nat) : Txt.join (Str.ofString "") (l.map fun c => SL [c]) = SL l := by
  have h := joinSL (l.map fun c => [c])
  rw [List.map_map, flat_ones] at h
  exact h
theorem is_sign_int (w : World) (i : Int) (t : Tok) : Pure w 1 22 [.int i t] (fun _ => .bool true) := by
  k_with_none
  k_with "mine ktr_room" => (first | exact room0 hd | exact roomD hd rfl)
  k_with "mine ktr_units" => (exact roomU hu rfl)
  k_with "mine mine:use" => (
  (case k1 => k_asm)
  (case k2 => k_asm)
  (case k3 => k_asm)
  (case k4 => k_asm)
  (case k5 => k_asm)
  (case kK => first | exact rfl | assumption)
  (case kd => ktr_room)
  (case ku => ktr_units)
  intro _ _ _ _ _
  (try dsimp only)
  (try k_fold))
  unfold Pure; k_fill; intro p loose mean mg mb dp un gd cn cs a ccd cl outer A₀ base h₀ L m news s Q E B F X N T hk hd hu hret; refine wpAny_call ?_
  k_dflt ktr_enter
  k_steps
  all_goals exact hret 0 _ _ (by k_asm) (by k_asm)
theorem is_sign_str (w : World) (i : Str) (t : Tok) : Pure w 1 22 [.str i t] (fun _ => .bool false) := by
  unfold Pure; k_fill; intro p loose mean mg mb dp un gd cn cs a ccd cl outer A₀ base h₀ L m news s Q E B F X N T hk hd hu hret; refine wpAny_call ?_
  k_dflt ktr_enter
  k_steps
  all_goals exact hret 0 _ _ (by k_asm) (by k_asm)
theorem code_of (w : World) (i : Int) (t : Tok) : Pure w 1 48 [.int i t] (fun t => .int (codeOf i) t) := by
  unfold Pure; k_fill; intro p loose mean mg mb dp un gd cn cs a ccd cl outer A₀ base h₀ L m news s Q E B F X N T hk hd hu hret; refine wpAny_call ?_
  k_dflt ktr_enter
  k_steps
  all_goals exact hret _ _ _ (by k_asm) (by k_asm)
theorem bits_of (w : World) (i : Int) (t : Tok) : Pure w 1 55 [.int i t] (fun t => .int (bitsOf i) t) := by
  unfold Pure; k_fill; intro p loose mean mg mb dp un gd cn cs a ccd cl outer A₀ base h₀ L m news s Q E B F X N T hk hd hu hret; refine wpAny_call ?_
  k_dflt ktr_enter
  k_steps
  all_goals exact hret _ _ _ (by k_asm) (by k_asm)
theorem has_control_code (w : World) (i : Int) (t : Tok) : Pure w 1 79 [.int i t] (fun _ => .bool (hasCtl i)) := by
  unfold Pure; k_fill; intro p loose mean mg mb dp un gd cn cs a ccd cl outer A₀ base h₀ L m news s Q E B F X N T hk hd hu hret; refine wpAny_call ?_
  k_dflt ktr_enter
  k_steps
  all_goals (refine cb_retB (Q := Q) hret ?_ (by k_asm) (by k_asm); unfold hasCtl; rw [Bool.eq_iff_iff]; simp only [Bool.or_eq_true, Bool.and_eq_true, decide_eq_true_eq]; omega)
theorem is_great (w : World) (i : Int) (t : Tok) : Pure w 1 86 [.int i t] (fun _ => .bool (isGreat i)) := by
  unfold Pure; k_fill; intro p loose mean mg mb dp un gd cn cs a ccd cl outer A₀ base h₀ L m news s Q E B F X N T hk hd hu hret; refine wpAny_call ?_
  k_dflt ktr_enter
  k_steps
  all_goals (refine cb_retB (Q := Q) hret ?_ (by k_asm) (by k_asm); unfold isGreat; rw [Bool.eq_iff_iff]; simp only [Bool.or_eq_true, Bool.and_eq_true, decide_eq_true_eq]; omega)
theorem is_control_code (w : World) (i : Int) (t : Tok) : Pure w 1 114 [.int i t] (fun _ => .bool (isCtl i)) := by
  unfold Pure; k_fill; intro p loose mean mg mb dp un gd cn cs a ccd cl outer A₀ base h₀ L m news s Q E B F X N T hk hd hu hret; refine wpAny_call ?_
  k_dflt ktr_enter
  k_steps
  all_goals exact hret 0 _ _ (by k_asm) (by k_asm)
theorem with_control (w : World) (i : Int) (t : Tok) : Pure w 2 93 [.int i t] (fun t => .int (withControl i) t) := by
  k_with "mine call ref" => (k_here; (with_reducible show wpAny _ _ (call (Value.ref 48) [Value.int _ _]) _ _ _); k_dflt (refine' Pure.use (code_of _ _ _) ?k1 ?k2 ?k3 ?k4 ?k5 ?kK ?kd ?ku ?_; walk_at "mine:use"))
  k_with "mine call ref" => (k_here; (with_reducible show wpAny _ _ (call (Value.ref 55) [Value.int _ _]) _ _ _); k_dflt (refine' Pure.use (bits_of _ _ _) ?k1 ?k2 ?k3 ?k4 ?k5 ?kK ?kd ?ku ?_; walk_at "mine:use"))
  k_with "mine call ref" => (k_here; (with_reducible show wpAny _ _ (call (Value.ref 79) [Value.int _ _]) _ _ _); k_dflt (refine' Pure.use (has_control_code _ _ _) ?k1 ?k2 ?k3 ?k4 ?k5 ?kK ?kd ?ku ?_; walk_at "mine:use"))
  k_with "mine call ref" => (k_here; (with_reducible show wpAny _ _ (call (Value.ref 86) [Value.int _ _]) _ _ _); k_dflt (refine' Pure.use (is_great _ _ _) ?k1 ?k2 ?k3 ?k4 ?k5 ?kK ?kd ?ku ?_; walk_at "mine:use"))
  k_with "mine call ref" => (k_here; (with_reducible show wpAny _ _ (call (Value.ref 22) [Value.int _ _]) _ _ _); k_dflt (refine' Pure.use (is_sign_int _ _ _) ?k1 ?k2 ?k3 ?k4 ?k5 ?kK ?kd ?ku ?_; walk_at "mine:use"))
  k_with "mine call ref" => (k_here; (with_reducible show wpAny _ _ (call (Value.ref 22) [Value.str _ _]) _ _ _); k_dflt (refine' Pure.use (is_sign_str _ _ _) ?k1 ?k2 ?k3 ?k4 ?k5 ?kK ?kd ?ku ?_; walk_at "mine:use"))
  unfold Pure; k_fill; intro p loose mean mg mb dp un gd cn cs a ccd cl outer A₀ base h₀ L m news s Q E B F X N T hk hd hu hret; refine wpAny_call ?_
  k_dflt ktr_enter
  k_steps
  all_goals (refine cb_retI (Q := Q) hret ?_ (by k_asm) (by k_asm); unfold withControl; simp_all; try (intro; omega))
theorem has_meta_int (w : World) (i : Int) (t : Tok) : Pure w 2 135 [.int i t] (fun _ => .bool (hasMeta i)) := by
  unfold Pure; k_fill; intro p loose mean mg mb dp un gd cn cs a ccd cl outer A₀ base h₀ L m news s Q E B F X N T hk hd hu hret; refine wpAny_call ?_
  k_dflt ktr_enter
  k_steps
  all_goals exact hret 0 _ _ (by k_asm) (by k_asm)
theorem has_meta_str (w : World) (i : Str) (t : Tok) : Pure w 2 135 [.str i t] (fun _ => .bool false) := by
  unfold Pure; k_fill; intro p loose mean mg mb dp un gd cn cs a ccd cl outer A₀ base h₀ L m news s Q E B F X N T hk hd hu hret; refine wpAny_call ?_
  k_dflt ktr_enter
  k_steps
  all_goals exact hret 0 _ _ (by k_asm) (by k_asm)
theorem without_meta_int (w : World) (i : Int) (t : Tok) : Pure w 3 142 [.int i t] (fun t => .int (if hasMeta i = true then i - 134217728 else i) t) := by
  k_with "mine call ref" => (k_here; (with_reducible show wpAny _ _ (call (Value.ref 135) [Value.int _ _]) _ _ _); k_dflt (refine' Pure.use (has_meta_int _ _ _) ?k1 ?k2 ?k3 ?k4 ?k5 ?kK ?kd ?ku ?_; walk_at "mine:use"))
  k_with "mine call ref" => (k_here; (with_reducible show wpAny _ _ (call (Value.ref 135) [Value.str _ _]) _ _ _); k_dflt (refine' Pure.use (has_meta_str _ _ _) ?k1 ?k2 ?k3 ?k4 ?k5 ?kK ?kd ?ku ?_; walk_at "mine:use"))
  unfold Pure; k_fill; intro p loose mean mg mb dp un gd cn cs a ccd cl outer A₀ base h₀ L m news s Q E B F X N T hk hd hu hret; refine wpAny_call ?_
  k_dflt ktr_enter
  k_steps
  all_goals (refine cb_retI (Q := Q) hret ?_ (by k_asm) (by k_asm); simp [*])
theorem without_meta_str (w : World) (i : Str) (t : Tok) : Pure w 3 142 [.str i t] (fun t => .str i t) := by
  unfold Pure; k_fill; intro p loose mean mg mb dp un gd cn cs a ccd cl outer A₀ base h₀ L m news s Q E B F X N T hk hd hu hret; refine wpAny_call ?_
  k_dflt ktr_enter
  k_steps
  all_goals exact hret _ _ _ (by k_asm) (by k_asm)
open LCg LCt
theorem ordered (w : World) (x : List Nat) (t : Tok) : Pure w 1 41 [.str (SL x) t] (fun t => .str (SL (ordL x)) t) := by
  k_with_none
  k_with "mine ktr_room" => (first | exact room0 hd | exact roomD hd rfl)
  k_with "mine ktr_units" => (exact roomU hu rfl)
  k_with "mine mine:enterC" => (refine' code_defC ?k1 ?k2 ?k3 ?k4 ?k5 ?kA ?kF ?kK ?k6 ?k7 ?k8 ?k9 ?kB ?kD ?_ ?c2 ?c3 ?c4; (case kA => exact rfl); (case kF => exact rfl); (case kK => assumption); (case k1 => k_asm); (case k2 => k_asm); (case k3 => k_asm); (case k4 => k_asm); (case k5 => k_asm); (case k6 => k_is); (case k7 => k_is); (case k8 => ktr_room); (case k9 => exact BindsTo.of_eq rfl); (case kB => exact rfl); (case kD => decide +kernel); (case c2 => exact rfl); (case c3 => exact rfl); (case c4 => exact rfl); k_whole; intro _ _ _ _ _ _ _ N' Y' _ _ _ l1; (try k_lt l1); k_cells Y'; (try simp only [List.cons_append, List.nil_append] at N'); (try (revert l1; intro _)); (try (revert N'; intro _)); (try dsimp only); (try k_fold))
  k_with "mine eval ListComp" => (k_here; k_dflt (refine ListComp_ST (F₀ := by k_asm) (by with_unfolding_all rfl) (by decide) (by rfl) (by decide) (by rfl) ?_))
  unfold Pure; k_fill; intro p loose mean mg mb dp un gd cn cs a ccd cl outer A₀ base h₀ L m news s Q E B F X N T hk hd hu hret; refine wpAny_call ?_
  k_dflt walk_at "mine:enterC"
  k_steps
  refine ⟨_, _, _, rfl, rfl, by k_asm, by k_asm, by decide +kernel, by decide +kernel, ?_⟩
  rintro s₂ ⟨g, rfl⟩
  refine restT_pure (fun i ys => StrsAre ys (((letters6.take i).filter (fun c => x.contains c)).map fun c => SL [c])) ?_ ?_ .nil
  · rintro i ys v I oI C oC D m₂ h tk E' hi hys ⟨c, u, hc, rfl⟩ hC hx F₁ N₁ off ne
    have hc' : letters6[i]? = some c := by
      rw [SL_letters] at hc
      simpa [SL] using hc
    have key := StrLaws.found_one (SL x) c
    rw [SL_list] at key
    k_steps
    · refine LCg.CompEnd.intro (by k_asm) (by k_asm) _ (fun _ h => h) off trivial ⟨rfl, ?_⟩
      have hm : x.contains c = false := by simp_all
      rw [filt_take hc', List.map_append, hm]
      simpa using hys
    · refine LCg.CompEnd.intro (by k_asm) (by k_asm) _ (fun _ h => h) off trivial ⟨rfl, ?_⟩
      have hm : x.contains c = true := by simp_all
      rw [filt_take hc', List.map_append, hm]
      exact strs_snoc hys (SL [c]) u
  · intro ys hys
    have hys' : StrsAre ys ((ordL x).map fun c => SL [c]) := hys
    have hlen := ordL_len x
    k_steps
    refine join_listC (News.isList (by k_asm) (.head _)) (by simpa using hys') (by decide) (by rw [sum_ones, List.length_map]; omega) ?_
    intro t2 k2
    rw [joinOnes]
    (try dsimp only)
    k_steps
    exact hret _ _ _ (by k_asm) (by refine' cb_drop ?cbN ?cbS; (case cbN => assumption); (case cbS => exact fun _ hp => .tail _ (.tail _ hp)))
noncomputable def bitOf (c : Nat) : Int := if c = 65 then 4194304 else if c = 67 then 67108864 else if c = 72 then 16777216 else if c = 77 then 134217728 else if c = 83 then 33554432 else 8388608
theorem letters_cases {c : Nat} (h : c ∈ letters6) : c = 65 ∨ c = 67 ∨ c = 72 ∨ c = 77 ∨ c = 83 ∨ c = 115 := by
  simpa [letters6] using h
theorem idx0 : Builtin.Str.occurrences (Str.ofString "ACHMSs") (SL [65]) 0 (Str.ofString "ACHMSs").length 1 = 0 :: [] := by decide +kernel
theorem idx1 : Builtin.Str.occurrences (Str.ofString "ACHMSs") (SL [67]) 0 (Str.ofString "ACHMSs").length 1 = 1 :: [] := by decide +kernel
theorem idx2 : Builtin.Str.occurrences (Str.ofString "ACHMSs") (SL [72]) 0 (Str.ofString "ACHMSs").length 1 = 2 :: [] := by decide +kernel
theorem idx3 : Builtin.Str.occurrences (Str.ofString "ACHMSs") (SL [77]) 0 (Str.ofString "ACHMSs").length 1 = 3 :: [] := by decide +kernel
theorem idx4 : Builtin.Str.occurrences (Str.ofString "ACHMSs") (SL [83]) 0 (Str.ofString "ACHMSs").length 1 = 4 :: [] := by decide +kernel
theorem idx5 : Builtin.Str.occurrences (Str.ofString "ACHMSs") (SL [115]) 0 (Str.ofString "ACHMSs").length 1 = 5 :: [] := by decide +kernel
theorem bit_of (w : World) (c : Nat) (t : Tok) (hc : c ∈ letters6) : Pure w 1 36 [.str (SL [c]) t] (fun t => .int (bitOf c) t) := by
  k_with_none
  k_with "mine ktr_room" => (first | exact room0 hd | exact roomD hd rfl)
  k_with "mine ktr_units" => (exact roomU hu rfl)
  k_with "mine mine:use" => (
  (case k1 => k_asm)
  (case k2 => k_asm)
  (case k3 => k_asm)
  (case k4 => k_asm)
  (case k5 => k_asm)
  (case kK => first | exact rfl | assumption)
  (case kd => ktr_room)
  (case ku => ktr_units)
  intro _ _ _ _ _
  (try dsimp only)
  (try k_fold))
  k_with "mine call builtin:str.index" => (k_dflt (first | refine SC.index idx0 ?_ | refine SC.index idx1 ?_ | refine SC.index idx2 ?_ | refine SC.index idx3 ?_ | refine SC.index idx4 ?_ | refine SC.index idx5 ?_); (try dsimp only))
  unfold Pure; k_fill; intro p loose mean mg mb dp un gd cn cs a ccd cl outer A₀ base h₀ L m news s Q E B F X N T hk hd hu hret; refine wpAny_call ?_
  k_dflt ktr_enter
  rcases letters_cases hc with rfl | rfl | rfl | rfl | rfl | rfl
  all_goals k_steps
  all_goals (refine cb_retI (Q := Q) hret ?_ (by k_asm) (by k_asm); rfl)
noncomputable def withLetter (e : Int) (c : Nat) : Int := if c = 67 then withControl e else codeOf e + Builtin.bitOr (bitsOf e) (bitOf c)
theorem with_letter (w : World) (i : Int) (t : Tok) (c : Nat) (u : Tok) (hc : c ∈ letters6) : Pure w 3 100 [.int i t, .str (SL [c]) u] (fun t => .int (withLetter i c) t) := by
  k_with "mine call ref" => (k_here; (with_reducible show wpAny _ _ (call (Value.ref 48) [Value.int _ _]) _ _ _); k_dflt (refine' Pure.use (code_of _ _ _) ?k1 ?k2 ?k3 ?k4 ?k5 ?kK ?kd ?ku ?_; walk_at "mine:use"))
  k_with "mine call ref" => (k_here; (with_reducible show wpAny _ _ (call (Value.ref 55) [Value.int _ _]) _ _ _); k_dflt (refine' Pure.use (bits_of _ _ _) ?k1 ?k2 ?k3 ?k4 ?k5 ?kK ?kd ?ku ?_; walk_at "mine:use"))
  k_with "mine call ref" => (k_here; (with_reducible show wpAny _ _ (call (Value.ref 93) [Value.int _ _]) _ _ _); k_dflt (refine' Pure.use (with_control _ _ _) ?k1 ?k2 ?k3 ?k4 ?k5 ?kK ?kd ?ku ?_; walk_at "mine:use"))
  k_with "mine call ref" => (k_here; (with_reducible show wpAny _ _ (call (Value.ref 36) [Value.str _ _]) _ _ _); k_dflt (refine' Pure.use (bit_of _ _ _ (by assumption)) ?k1 ?k2 ?k3 ?k4 ?k5 ?kK ?kd ?ku ?_; walk_at "mine:use"))
  unfold Pure; k_fill; intro p loose mean mg mb dp un gd cn cs a ccd cl outer A₀ base h₀ L m news s Q E B F X N T hk hd hu hret; refine wpAny_call ?_
  k_dflt ktr_enter
  by_cases h67 : c = 67
  · subst h67
    have hC : (SL [67] == Str.ofString "C") = true := by decide +kernel
    k_steps
    all_goals (refine cb_retI (Q := Q) hret ?_ (by k_asm) (by k_asm); rfl)
  · have hC : (SL [c] == Str.ofString "C") = false := by
      rw [show Str.ofString "C" = SL [67] from by decide +kernel]
      exact Bool.eq_false_iff.mpr fun h => h67 (by simpa using SL_inj (eq_of_beq h))
    k_steps
    all_goals (refine cb_retI (Q := Q) hret ?_ (by k_asm) (by k_asm); simp [withLetter, h67])
open LCg LCt
noncomputable def pre (l : List Nat) : List Nat := (l.map fun c => [c, 45]).flatten
theorem pre_cons (c : Nat) (l : List Nat) : pre (c :: l) = c :: 45 :: pre l := rfl
theorem pre_len (l : List Nat) : (pre l).length = 2 * l.length := by
  induction l with
  | nil => rfl
  | cons a r ih => rw [pre_cons]; simp only [List.length_cons, ih]; omega
theorem sum_twos (l : List Nat) : ((l.map fun c => SL [c, 45]).map (·.length)).sum = 2 * l.length := by
  induction l with
  | nil => rfl
  | cons a r ih => simp only [List.map_cons, List.sum_cons, ih, SL_len, List.length_cons, List.length_nil]; omega
theorem joinTwos (l : List Nat) : Txt.join (Str.ofString "") (l.map fun c => SL [c, 45]) = SL (pre l) := by
  have h := joinSL (l.map fun c => [c, 45])
  rw [List.map_map] at h
  exact h
theorem dash : Str.ofString "-" = SL [45] := by decide +kernel
theorem ordL_ascii (x : List Nat) : (SL (ordL x)).cps.all (· < 128) = true := by
  rw [← Array.all_toList, SL_list, List.all_eq_true]
  intro c hc
  have h := ordL_sub hc
  simp only [letters6, List.mem_cons, List.not_mem_nil, or_false] at h
  rcases h with rfl | rfl | rfl | rfl | rfl | rfl <;> decide
theorem add_SL {prog : Program} {w : World} {A : Around} {E : Value → Shared → Prop} {s : Shared} {a b : List Nat} {t u : Tok} {Q : Value → Shared → Prop} (hsz : a.length + b.length ≤ 100000) (h : ∀ t' tk, Q (.str (SL (a ++ b)) t') { s with toks := tk }) :
    wpAny (model prog w) A (binaryOp .Add (.str (SL a) t) (.str (SL b) u)) Q E s := by
  refine PyProof.Rows.add_str (fun t' tk => ?_) (by rw [SL_len, SL_len, sizeLine_eq]; omega)
  rw [SL_append]
  exact h t' tk
section
theorem join_name (w : World) (x nm : List Nat) (t u : Tok) (hn : nm.length ≤ 1000) : Pure w 2 72 [.str (SL x) t, .str (SL nm) u] (fun t => .str (SL (pre (ordL x) ++ nm)) t) := by
  k_with_none
  k_with "mine ktr_room" => (first | exact room0 hd | exact roomD hd rfl)
  k_with "mine ktr_units" => (exact roomU hu rfl)
  k_with "mine mine:use" => (
  (case k1 => k_asm)
  (case k2 => k_asm)
  (case k3 => k_asm)
  (case k4 => k_asm)
  (case k5 => k_asm)
  (case kK => first | exact rfl | assumption)
  (case kd => ktr_room)
  (case ku => ktr_units)
  intro _ _ _ _ _
  (try dsimp only)
  (try k_fold))
  k_with "mine binaryOp Add str str" => ((with_reducible show wpAny _ _ (binaryOp Operator.Add (Value.str (SL _) _) (Value.str (SL _) _)) _ _ _); refine add_SL (by (try simp only [List.length_append, pre_len, List.length_cons, List.length_nil]); omega) ?_; intro _ _; (try dsimp only))
  k_with "mine eval ListComp" => (k_here; k_dflt (refine ListComp_SU (F₀ := by k_asm) (by with_unfolding_all rfl) (by decide) (by rfl) (by decide) (by rfl) ?_))
  k_with "mine call ref" => (k_here; (with_reducible show wpAny _ _ (call (Value.ref 41) [Value.str _ _]) _ _ _); k_dflt (refine' Pure.use (ordered _ _ _) ?k1 ?k2 ?k3 ?k4 ?k5 ?kK ?kd ?ku ?_; walk_at "mine:use"))
  unfold Pure; k_fill; intro p loose mean mg mb dp un gd cn cs a ccd cl outer A₀ base h₀ L m news s Q E B F X N T hk hd hu hret; refine wpAny_call ?_
  k_dflt ktr_enter
  k_steps
  refine ⟨_, _, _, rfl, rfl, by k_asm, by k_asm, ?_, ordL_ascii x, ?_⟩
  · have h1 := ordL_len x
    have h2 : (SL (ordL x)).cps.size = (ordL x).length := by simp [SL]
    rw [h2, sizeLine_eq]; omega
  rintro s₂ ⟨g, rfl⟩
  refine rest_pure (fun i ys => StrsAre ys (((ordL x).take i).map fun c => SL [c, 45])) ?_ ?_ .nil
  · rintro i ys v I oI C oC D m₂ h tk E' hi hys ⟨c, u, hc, rfl⟩ hC hx F₁ N₁ off ne
    have hc' : (ordL x)[i]? = some c := by simpa [SL] using hc
    k_steps
    refine LCg.CompEnd.intro (by k_asm) (by k_asm) _ (fun _ h => h) off trivial ⟨rfl, ?_⟩
    rw [List.take_add_one, hc', List.map_append]
    simp only [dash]
    exact strs_snoc hys (SL [c, 45]) _
  · intro ys hys
    have hys' : StrsAre ys ((ordL x).map fun c => SL [c, 45]) := by simpa [SL] using hys
    have hlen := ordL_len x
    k_steps
    refine join_listC (News.isList (by k_asm) (.head _)) (by simpa using hys') (by decide) (by rw [sum_twos, List.length_map]; omega) ?_
    intro t2 k2
    rw [joinTwos]
    (try dsimp only)
    k_steps
    exact hret _ _ _ (by k_asm) (by refine' cb_drop ?cbN ?cbS; (case cbN => assumption); (case cbS => exact fun _ hp => .tail _ hp))
end
open LCg LCt
noncomputable abbrev Led := List (Addr × Obj)
/-- a place where the walk is to stop -/
noncomputable def Stop (P : Prop) : Prop := P
/-- the end of a turn: the loop's state again -/
noncomputable def TurnE (h₀ : Heap) (L : Addr) (J : (Str → Option Value) → Led → Prop) (I : Addr) (oI : Obj) (s₁ s₂ : Shared) : Prop :=
  ∃ h' tk m' nw, s₂ = { s₁ with heap := h', toks := tk } ∧ Fr h₀ L h' m' ∧ News h₀ L h' ((I, oI) :: nw) ∧ (∀ p ∈ nw, p.1 ≠ I) ∧ J m' nw
theorem TurnE.intro {h₀ h' : Heap} {L : Addr} {J : (Str → Option Value) → Led → Prop} {I : Addr} {oI : Obj} {s₁ : Shared} {tk : Nat} {m' : Str → Option Value} (nw : Led) (F : Fr h₀ L h' m') (N : News h₀ L h' ((I, oI) :: nw)) (ho : ∀ p ∈ nw, p.1 ≠ I) (hJ : J m' nw) :
    TurnE h₀ L J I oI s₁ { s₁ with heap := h', toks := tk } := ⟨h', tk, m', nw, rfl, F, N, ho, hJ⟩
noncomputable def TurnN (h₀ : Heap) (L : Addr) (J : (Str → Option Value) → Led → Prop) (I : Addr) (oI : Obj) (s₁ : Shared) (Q : Flow → Shared → Prop) (f : Flow) (s₂ : Shared) : Prop :=
  match f with
  | .ret v => Q (.ret v) s₂
  | .brk => Q .next s₂
  | _ => TurnE h₀ L J I oI s₁ s₂
section
variable {prog : Program} {w : World} {A : Around} {E : Value → Shared → Prop} {s : Shared} {env : Env} {h₀ : Heap} {x : Str} {body : List Stmt} {Q : Flow → Shared → Prop}
/-- a for loop by what holds between its turns (the ledger may grow) -/
theorem loop_by {I : Addr} {fp : List Addr} {n : Nat} {P : Nat → Value → Prop} {St : Nat → Heap → Prop} {m₀ : Str → Option Value} {news : Led} (J : Nat → (Str → Option Value) → Led → Prop)
    (W : Walks prog w A I fp [I] n P St) (hob : ∀ i h, St i h → ∃ o, h.get? I = some o)
    (hfp : ∀ b ∈ fp, b = I ∨ (∃ q, h₀.get? b = some q) ∨ ∃ ol, ∀ i m nw, J i m nw → (b, ol) ∈ nw)
    (hLf : env.locals ∉ fp) (hI0 : h₀.get? I = none) (hnw : ∀ p ∈ news, p.1 ≠ I) (hst : St 0 s.heap) (F : Fr h₀ env.locals s.heap m₀) (N : News h₀ env.locals s.heap news) (h0 : J 0 m₀ news)
    (turn : ∀ i v m₁ nw h tk oI, i < n → P i v → J i m₁ nw → (∀ p ∈ nw, p.1 ≠ I) → Fr h₀ env.locals h (fun y => if y = x then some v else m₁ y) → News h₀ env.locals h ((I, oI) :: nw) →
      wpAny (model prog w) A (execs body env) (TurnN h₀ env.locals (J (i + 1)) I oI { s with heap := h, toks := tk } Q) E { s with heap := h, toks := tk })
    (done : ∀ m₁ nw h tk, J n m₁ nw → (∀ p ∈ nw, p.1 ≠ I) → Fr h₀ env.locals h m₁ → News h₀ env.locals h nw → Q .next { s with heap := h, toks := tk }) :
    LoopAtV prog w A h₀ env x body Q E (.ref I) s := by
  have hIf : I ∈ fp := W.sub I (List.mem_singleton.mpr rfl)
  refine exI9 I fp [I] n P St m₀ news J ⟨rfl, W, hLf, ?_, ?_, hst, F, N, h0, ?_, ?_⟩
  · intro b hb; rw [List.mem_singleton.mp hb]; exact hI0
  · intro p hp hI; exact hnw p hp (List.mem_singleton.mp hI)
  · rintro i v m₁ nw s₁ own ⟨hh', tk', rfl⟩ hin hP hJ hoff hown hget hall hst' F₁ N₁
    obtain ⟨oI, hoI⟩ := hob _ _ hst'
    have hmem : (I, oI) ∈ own := hall I hIf hI0 oI hoI
    have hoff' : ∀ p ∈ nw, p.1 ≠ I := fun p hp e => hoff p hp (List.mem_singleton.mpr e)
    have N₂ : News h₀ env.locals hh' ((I, oI) :: nw) := fun p hp => by
      rcases List.mem_cons.mp hp with rfl | hp
      · exact N₁ _ (List.mem_append_left _ hmem)
      · exact N₁ _ (List.mem_append_right _ hp)
    have hown' : ∀ p ∈ own, p = (I, oI) ∨ ∃ ol, p.2 = ol ∧ ∀ i m nw, J i m nw → (p.1, ol) ∈ nw := by
      intro p hp
      rcases hfp p.1 (hown p hp) with e | ⟨q, hq⟩ | ⟨ol, hol⟩
      · left
        have := hget p hp
        rw [e, hoI] at this
        exact Prod.ext e (Option.some.inj this).symm
      · have := (N₁ p (List.mem_append_left _ hp)).2.2
        rw [hq] at this; cases this
      · right
        refine ⟨ol, ?_, hol⟩
        have h1 := (N₁ _ (List.mem_append_right _ (hol i m₁ nw hJ))).1
        have h2 := hget p hp
        rw [h1] at h2
        exact (Option.some.inj h2).symm
    refine wpAny_mono (turn i v m₁ nw hh' tk' oI hin hP hJ hoff' F₁ N₂) (fun f s₂ p => ?_) fun _ _ e => e
    have fin : TurnE h₀ env.locals (J (i + 1)) I oI { s with heap := hh', toks := tk' } s₂ → LoopStepU h₀ env.locals [I] own (J (i + 1)) { s with heap := hh', toks := tk' } .next s₂ := by
      rintro ⟨h', tk, m', nw', e, F', N', hn, hj⟩
      refine ⟨rfl, h', tk, m', nw', e, F', fun p hp => ?_, fun p hp hI => hn p hp (List.mem_singleton.mp hI), hj⟩
      rcases List.mem_append.mp hp with hp | hp
      · rcases hown' p hp with rfl | ⟨ol, e1, e2⟩
        · exact N' _ (.head _)
        · have := N' _ (.tail _ (e2 _ _ _ hj))
          rw [← e1] at this
          exact this
      · exact N' _ (.tail _ hp)
    cases f with
    | ret v => exact .ret p
    | brk => exact .brk p
    | next => exact .next (fin p)
    | cont => exact .cont (fin p)
  · rintro h' tk m' nw' F' N' hoff hJ
    exact done m' nw' h' tk hJ (fun p hp e => hoff p hp (List.mem_singleton.mpr e)) F' N'

theorem iter_str_by {y : Str} {t : Tok} {m₀ : Str → Option Value} {news : Led} (J : Nat → (Str → Option Value) → Led → Prop) (ha : y.cps.all (· < 128) = true)
    (hh : A.handled = none) (F : Fr h₀ env.locals s.heap m₀) (N : News h₀ env.locals s.heap news) (h0 : J 0 m₀ news)
    (turn : ∀ i c u m₁ nw h tk oI, (∀ p ∈ news, p.1 < s.heap.objs.size) → y.cps[i]? = some c → J i m₁ nw → (∀ p ∈ nw, p.1 ≠ s.heap.objs.size) → Fr h₀ env.locals h (fun z => if z = x then some (.str ⟨#[c]⟩ u) else m₁ z) → News h₀ env.locals h ((s.heap.objs.size, oI) :: nw) →
      wpAny (model prog w) A (execs body env) (TurnN h₀ env.locals (J (i + 1)) s.heap.objs.size oI { s with heap := h, toks := tk } Q) E { s with heap := h, toks := tk })
    (done : ∀ m₁ nw h tk, J y.cps.size m₁ nw → Fr h₀ env.locals h m₁ → News h₀ env.locals h nw → Q .next { s with heap := h, toks := tk }) :
    wpAny (model prog w) A (pyIter (.str y t)) (fun it s₂ => LoopAtV prog w A h₀ env x body Q E it s₂) E s := by
  refine wpAny_pyIter_ascii ha ?_
  refine loop_by J (Walks.strAscii hh s.heap.objs.size y t) (fun i h st => by obtain ⟨o, e, _⟩ := st; exact ⟨o, e⟩) (fun b hb => .inl (List.mem_singleton.mp hb)) ?_ (next_is_new F) (fun p hp => Nat.ne_of_lt (Heap.lt_size (N p hp).1))
    ⟨_, Heap.get?_push_size _ rfl, rfl, rfl⟩ (F.push _) (fun p hp => ⟨Heap.get?_push_of_some _ (N p hp).1, (N p hp).2⟩) h0 ?_ ?_
  · intro hm; exact absurd F.ns.lt ((List.mem_singleton.mp hm) ▸ Nat.lt_irrefl _)
  · rintro i v m₁ nw h tk oI hi ⟨c, u, hc, rfl⟩ hJ hoff F₁ N₁
    exact turn i c u m₁ nw h tk oI (fun p hp => Heap.lt_size (N p hp).1) hc hJ hoff F₁ N₁
  · intro m₁ nw h tk hJ _ F₁ N₁
    exact done m₁ nw h tk hJ F₁ N₁

/-- the source lies in the ledger, and stays there -/
theorem iter_list_by {l : Addr} {its : Array Value} {k : Nat} {m₀ : Str → Option Value} {news : Led} (J : Nat → (Str → Option Value) → Led → Prop)
    (hl : ∀ i m nw, J i m nw → (l, listOf its k) ∈ nw)
    (hh : A.handled = none) (F : Fr h₀ env.locals s.heap m₀) (N : News h₀ env.locals s.heap news) (h0 : J 0 m₀ news)
    (turn : ∀ i v m₁ nw h tk oI, (∀ p ∈ news, p.1 < s.heap.objs.size) → its[i]? = some v → J i m₁ nw → (∀ p ∈ nw, p.1 ≠ s.heap.objs.size) → Fr h₀ env.locals h (fun z => if z = x then some v else m₁ z) → News h₀ env.locals h ((s.heap.objs.size, oI) :: nw) →
      wpAny (model prog w) A (execs body env) (TurnN h₀ env.locals (J (i + 1)) s.heap.objs.size oI { s with heap := h, toks := tk } Q) E { s with heap := h, toks := tk })
    (done : ∀ m₁ nw h tk, J its.size m₁ nw → Fr h₀ env.locals h m₁ → News h₀ env.locals h nw → Q .next { s with heap := h, toks := tk }) :
    wpAny (model prog w) A (pyIter (.ref l)) (fun it s₂ => LoopAtV prog w A h₀ env x body Q E it s₂) E s := by
  have hmem := N _ (hl 0 m₀ news h0)
  have hls : s.heap.IsList l its := ⟨_, hmem.1, rfl, k, rfl⟩
  have hlt : l < s.heap.objs.size := Heap.lt_size hmem.1
  refine wpAny_pyIter_list hls ?_
  refine loop_by J (Walks.list hh s.heap.objs.size l (Nat.ne_of_lt hlt) its) (fun i h st => by obtain ⟨o, e, _⟩ := st.1; exact ⟨o, e⟩) (fun b hb => ?_) ?_ (next_is_new F) (fun p hp => Nat.ne_of_lt (Heap.lt_size (N p hp).1))
    ⟨⟨_, Heap.get?_push_size _ rfl, rfl, rfl⟩, hls.push _⟩ (F.push _) (fun p hp => ⟨Heap.get?_push_of_some _ (N p hp).1, (N p hp).2⟩) h0 ?_ ?_
  · rcases List.mem_cons.mp hb with e | hb
    · exact .inl e
    · exact .inr (.inr ⟨listOf its k, fun i m nw hJ => (List.mem_singleton.mp hb) ▸ hl i m nw hJ⟩)
  · intro hm
    rcases List.mem_cons.mp hm with e | hm
    · exact absurd F.ns.lt (e ▸ Nat.lt_irrefl _)
    · exact hmem.2.1 (List.mem_singleton.mp hm).symm
  · intro i v m₁ nw h tk oI hi hv hJ hoff F₁ N₁
    exact turn i v m₁ nw h tk oI (fun p hp => Heap.lt_size (N p hp).1) hv hJ hoff F₁ N₁
  · intro m₁ nw h tk hJ _ F₁ N₁
    exact done m₁ nw h tk hJ F₁ N₁

noncomputable def tupOf (its : Array Value) (k : Nat) : Obj := { cls := .type "tuple", data := .seq its k }
theorem iter_tuple_by {l : Addr} {its : Array Value} {k : Nat} {m₀ : Str → Option Value} {news : Led} (J : Nat → (Str → Option Value) → Led → Prop)
    (hl : ∀ i m nw, J i m nw → (l, tupOf its k) ∈ nw)
    (hh : A.handled = none) (F : Fr h₀ env.locals s.heap m₀) (N : News h₀ env.locals s.heap news) (h0 : J 0 m₀ news)
    (turn : ∀ i v m₁ nw h tk oI, (∀ p ∈ news, p.1 < s.heap.objs.size) → its[i]? = some v → J i m₁ nw → (∀ p ∈ nw, p.1 ≠ s.heap.objs.size) → Fr h₀ env.locals h (fun z => if z = x then some v else m₁ z) → News h₀ env.locals h ((s.heap.objs.size, oI) :: nw) →
      wpAny (model prog w) A (execs body env) (TurnN h₀ env.locals (J (i + 1)) s.heap.objs.size oI { s with heap := h, toks := tk } Q) E { s with heap := h, toks := tk })
    (done : ∀ m₁ nw h tk, J its.size m₁ nw → Fr h₀ env.locals h m₁ → News h₀ env.locals h nw → Q .next { s with heap := h, toks := tk }) :
    wpAny (model prog w) A (pyIter (.ref l)) (fun it s₂ => LoopAtV prog w A h₀ env x body Q E it s₂) E s := by
  have hmem := N _ (hl 0 m₀ news h0)
  have hls : s.heap.IsTuple l its := ⟨_, hmem.1, rfl, k, rfl⟩
  have hlt : l < s.heap.objs.size := Heap.lt_size hmem.1
  refine wpAny_pyIter_tuple hls ?_
  refine loop_by J (Walks.tuple hh s.heap.objs.size l (Nat.ne_of_lt hlt) its) (fun i h st => by obtain ⟨o, e, _⟩ := st.1; exact ⟨o, e⟩) (fun b hb => ?_) ?_ (next_is_new F) (fun p hp => Nat.ne_of_lt (Heap.lt_size (N p hp).1))
    ⟨⟨_, Heap.get?_push_size _ rfl, rfl, rfl⟩, hls.at fun o e => Heap.get?_push_of_some _ e⟩ (F.push _) (fun p hp => ⟨Heap.get?_push_of_some _ (N p hp).1, (N p hp).2⟩) h0 ?_ ?_
  · rcases List.mem_cons.mp hb with e | hb
    · exact .inl e
    · exact .inr (.inr ⟨tupOf its k, fun i m nw hJ => (List.mem_singleton.mp hb) ▸ hl i m nw hJ⟩)
  · intro hm
    rcases List.mem_cons.mp hm with e | hm
    · exact absurd F.ns.lt (e ▸ Nat.lt_irrefl _)
    · exact hmem.2.1 (List.mem_singleton.mp hm).symm
  · intro i v m₁ nw h tk oI hi hv hJ hoff F₁ N₁
    exact turn i v m₁ nw h tk oI (fun p hp => Heap.lt_size (N p hp).1) hv hJ hoff F₁ N₁
  · intro m₁ nw h tk hJ _ F₁ N₁
    exact done m₁ nw h tk hJ F₁ N₁

theorem iter_range_by {r : Addr} {a₀ b₀ : Int} {t₀ u₀ v₀ : Tok} {n : Nat} {m₀ : Str → Option Value} {news : Led} (J : Nat → (Str → Option Value) → Led → Prop)
    (hh : A.handled = none) (hr : IsRange s.heap r a₀ b₀ 1 t₀ u₀ v₀) (hsmall : Builtin.Range.small a₀ b₀ 1 = true) (hn : Builtin.Range.rangeSize a₀ b₀ 1 = (n : Int)) (F : Fr h₀ env.locals s.heap m₀) (N : News h₀ env.locals s.heap news) (h0 : J 0 m₀ news)
    (turn : ∀ i u m₁ nw h tk oI, (∀ p ∈ news, p.1 < s.heap.objs.size) → i < n → J i m₁ nw → (∀ p ∈ nw, p.1 ≠ s.heap.objs.size) → Fr h₀ env.locals h (fun z => if z = x then some (.int (a₀ + (i : Int) * 1) u) else m₁ z) → News h₀ env.locals h ((s.heap.objs.size, oI) :: nw) →
      wpAny (model prog w) A (execs body env) (TurnN h₀ env.locals (J (i + 1)) s.heap.objs.size oI { s with heap := h, toks := tk } Q) E { s with heap := h, toks := tk })
    (done : ∀ m₁ nw h tk, J n m₁ nw → Fr h₀ env.locals h m₁ → News h₀ env.locals h nw → Q .next { s with heap := h, toks := tk }) :
    wpAny (model prog w) A (pyIter (.ref r)) (fun it s₂ => LoopAtV prog w A h₀ env x body Q E it s₂) E s := by
  refine wpAny_pyIter_range hr hsmall ?_
  refine loop_by J (Walks.range hh s.heap.objs.size a₀ 1 n) (fun i h st => ⟨_, st⟩) (fun b hb => .inl (List.mem_singleton.mp hb)) ?_ (next_is_new F) (fun p hp => Nat.ne_of_lt (Heap.lt_size (N p hp).1))
    (by show IsRangeIter _ _ _ _ _; rw [hn]; simpa using Heap.get?_push_size _ rfl) (F.push _) (fun p hp => ⟨Heap.get?_push_of_some _ (N p hp).1, (N p hp).2⟩) h0 ?_ ?_
  · intro hm; exact absurd F.ns.lt ((List.mem_singleton.mp hm) ▸ Nat.lt_irrefl _)
  · rintro i v m₁ nw h tk oI hi ⟨u, rfl⟩ hJ hoff F₁ N₁
    exact turn i u m₁ nw h tk oI (fun p hp => Heap.lt_size (N p hp).1) hi hJ hoff F₁ N₁
  · intro m₁ nw h tk hJ _ F₁ N₁
    exact done m₁ nw h tk hJ F₁ N₁

/-- a while by its state -/
noncomputable def WEnd {σ : Type} (h₀ : Heap) (L : Addr) (St : σ → (Str → Option Value) → Led → Prop) (μ : σ → Nat) (c : σ) (s s₂ : Shared) : Prop :=
  ∃ c' h' tk m' nw, μ c' < μ c ∧ s₂ = { s with heap := h', toks := tk } ∧ St c' m' nw ∧ Fr h₀ L h' m' ∧ News h₀ L h' nw
theorem WEnd.intro {σ : Type} {h₀ : Heap} {L : Addr} {St : σ → (Str → Option Value) → Led → Prop} {μ : σ → Nat} {c : σ} {s : Shared} {h' : Heap} {tk : Nat} {m' : Str → Option Value} (c' : σ) (nw : Led) (F : Fr h₀ L h' m') (N : News h₀ L h' nw) (hμ : μ c' < μ c) (hS : St c' m' nw) :
    WEnd h₀ L St μ c s { s with heap := h', toks := tk } := ⟨c', h', tk, m', nw, hμ, rfl, hS, F, N⟩
noncomputable def WPost {σ : Type} (h₀ : Heap) (L : Addr) (St : σ → (Str → Option Value) → Led → Prop) (μ : σ → Nat) (c : σ) (s : Shared) (Q : Flow → Shared → Prop) (f : Flow) (s₂ : Shared) : Prop :=
  match f with
  | .ret v => Q (.ret v) s₂
  | .brk => Q .next s₂
  | _ => WEnd h₀ L St μ c s s₂
theorem while_by {σ : Type} {L : Addr} {test : PySem.Expr} {orelse : List Stmt} {pos : Pos} {m₀ : Str → Option Value} {news : Led} (μ : σ → Nat) (St : σ → (Str → Option Value) → Led → Prop) (hE : PassesOwn (model prog w) A env E) (F : Fr h₀ L s.heap m₀) (N : News h₀ L s.heap news) (c₀ : σ) (h0 : St c₀ m₀ news)
    (turn : ∀ c m₁ nw h tk, St c m₁ nw → Fr h₀ L h m₁ → News h₀ L h nw →
      wpAny (model prog w) A (isTrue test env (eval test env)) (fun b s₂ => if b = true then wpAny (model prog w) A (execs body env) (WPost h₀ L St μ c s Q) E s₂ else wpAny (model prog w) A (execs orelse env) Q E s₂) E { s with heap := h, toks := tk }) :
    wpAny (model prog w) A (exec (.While test body orelse pos) env) Q E s := by
  have all : ∀ (k : Nat) (c : σ) m₁ nw h tk, μ c < k → St c m₁ nw → Fr h₀ L h m₁ → News h₀ L h nw → WhlRest prog w A E env test body orelse Q 0 { s with heap := h, toks := tk } := by
    intro k
    induction k with
    | zero => intro c m₁ nw h tk hk; exact absurd hk (Nat.not_lt_zero _)
    | succ k ih =>
      intro c m₁ nw h tk hk hS F₁ N₁
      refine whl_turn (k := 0) hE (wpAny_mono (turn c m₁ nw h tk hS F₁ N₁) (fun b s₂ h₂ => ?_) fun _ _ e => e)
      cases b with
      | false => exact WhlIf.no rfl (by simpa using h₂)
      | true =>
        refine WhlIf.yes rfl (wpAny_mono (by simpa using h₂) (fun f s₃ h₃ => ?_) fun _ _ e => e)
        have fin : WEnd h₀ L St μ c s s₃ → WhlRest prog w A E env test body orelse Q 0 s₃ := by
          rintro ⟨c', h', tk', m', nw', hμ, rfl, hS', F', N'⟩
          exact ih c' m' nw' h' tk' (by omega) hS' F' N'
        cases f with
        | next => exact fin h₃
        | cont => exact fin h₃
        | brk => exact h₃
        | ret v => exact h₃
  exact whl_start 0 (all (μ c₀ + 1) c₀ m₀ news s.heap s.toks (Nat.lt_succ_self _) h0 F N)
theorem while_stop {test : PySem.Expr} {orelse : List Stmt} {pos : Pos} (h : Stop (wpAny (model prog w) A (exec (.While test body orelse pos) env) Q E s)) : wpAny (model prog w) A (exec (.While test body orelse pos) env) Q E s := h
theorem iter_stop {v : Value} (h : Stop (wpAny (model prog w) A (pyIter v) (fun it s₂ => LoopAtV prog w A h₀ env x body Q E it s₂) E s)) : wpAny (model prog w) A (pyIter v) (fun it s₂ => LoopAtV prog w A h₀ env x body Q E it s₂) E s := h
end
open LCg LCt
theorem len_SL {prog : Program} {w : World} {A : Around} {E : Value → Shared → Prop} {s : Shared} {l : List Nat} {t : Tok} {Q : Value → Shared → Prop} (hsz : l.length ≤ 100000) (h : Q (.int (l.length : Int) (s.toks + 1)) { s with toks := s.toks + 1 + 1 }) :
    wpAny (model prog w) A (call (.builtin "len") [.str (SL l) t]) Q E s := by
  refine PySem.P.len_str (by rw [SL_len]; omega) ?_
  rw [SL_len]; exact h
theorem item_SL {prog : Program} {w : World} {A : Around} {E : Value → Shared → Prop} {s : Shared} {value slice : Expr} {l : List Nat} {k : Int} {j c : Nat} {t u : Tok} {Q : Value → Shared → Prop} (hl : l.length ≤ 100000) (hkj : k = (j : Int)) (hc : l[j]? = some c) (h : Q (.str (SL [c]) s.toks) { s with toks := s.toks + 1 })
    (hs : subscripted slice false (.str (SL l) t) (.int k u) = operate [.str (SL l) t, .int k u] (getItem (.str (SL l) t) (.int k u)))
    (ht : ∀ r, letTemporaryGo value (.str (SL l) t) r = pure ()) :
    wpAny (model prog w) A (subscriptTail value slice (.str (SL l) t) (.int k u)) Q E s := by
  obtain ⟨hk, _⟩ := List.getElem?_eq_some_iff.mp hc
  subst hkj
  refine item_str (by unfold fitsSsize; simp; omega) (by rw [SL_len]; omega) (by rw [SL_len]; omega) (fun _ => ?_) hs ht
  have e : Txt.item (SL l) (j : Int) = SL [c] := by
    have e2 : seqIndex? (j : Int) (SL l).length = some j := by
      unfold seqIndex?
      rw [SL_len]
      have h0 : ¬ ((j : Int) < 0) := by omega
      simp only [h0, if_false]
      simp [hk]
    unfold Txt.item Txt.charAt
    rw [e2]
    simp [SL, hc]
  rw [e]; exact h
theorem slice_SL (a b : List Nat) (k : Int) (hk : k = a.length) : Txt.slice (SL (a ++ b)) (some k) none = SL b := by
  subst hk
  have h := eq_of_beq (slice_closes_fromL (x := SL (a ++ b)) (i := (a.length : Int)) (b := ((SL (a ++ b)).length : Int)) (by omega) (by rw [SL_len]; simp; omega) rfl)
  rw [h, SL_list, SL_len]
  have e : ((((a ++ b).length : Nat) : Int) - (a.length : Int)).toNat = b.length := by rw [List.length_append]; omega
  rw [e]
  simp [SL]
theorem fr_two {h₀ h : Heap} {L : Addr} {m : Str → Option Value} {x y : Str} {vx vy : Value} (hxy : y ≠ x) (hx : m x = some vx) (hy : m y = some vy) (F : Fr h₀ L h m) : Fr h₀ L h (fun z => if z = x then some vx else if z = y then some vy else m z) := by
  have e : (fun z => if z = x then some vx else if z = y then some vy else m z) = m := by
    funext z
    by_cases h1 : z = x
    · simp [h1, hx]
    · by_cases h2 : z = y
      · subst h2; simp [hxy, hy]
      · simp [h1, h2]
  rw [e]; exact F
noncomputable def splitF : List Nat → List Nat × List Nat
  | [] => ([], [])
  | [c] => ([], [c])
  | c :: d :: r => if (!r.isEmpty && d == 45 && letters6.contains c) = true then (c :: (splitF r).1, (splitF r).2) else ([], c :: d :: r)
theorem slice_SL2 (c d : Nat) (r : List Nat) : Txt.slice (SL (c :: d :: r)) (some 2) none = SL r := slice_SL [c, d] r 2 rfl
theorem dash_beq (d : Nat) : (SL [d] == Str.ofString "-") = (d == 45) := by
  rw [dash, Bool.eq_iff_iff, beq_iff_eq, beq_iff_eq]
  exact ⟨fun h => by simpa using SL_inj h, fun h => by rw [h]⟩
theorem in_letters (c : Nat) : (Builtin.Str.occurrences (Str.ofString "ACHMSs") (SL [c]) 0 (Str.ofString "ACHMSs").length 1).isEmpty = !letters6.contains c := by
  have key := StrLaws.found_one (SL letters6) c
  rw [SL_list] at key
  rw [SL_letters]
  have e : (Builtin.Str.occurrences (SL letters6) (SL [c]) 0 (SL letters6).length 1).isEmpty = !decide (c ∈ letters6) := by
    rw [← key]; simp [SL]
  rw [e]
  simp
theorem split_end {a : List Nat} {x nm : List Nat} {t1 t2 : Tok} (h : splitF x = (a ++ (splitF nm).1, (splitF nm).2)) (hn : splitF nm = ([], nm)) :
    ∃ u1 u2, tup2 (.str (SL (ordL a)) t1) (.str (SL nm) t2) = tup2 (.str (SL (ordL (splitF x).1)) u1) (.str (SL (splitF x).2) u2) := by
  rw [hn, List.append_nil] at h
  rw [h]
  exact ⟨t1, t2, rfl⟩
theorem split_name (w : World) (x : List Nat) (t : Tok) (hx : x.length ≤ 1000) : New w 2 67 [.str (SL x) t] (fun o => ∃ t1 t2, o = tup2 (.str (SL (ordL (splitF x).1)) t1) (.str (SL (splitF x).2) t2)) := by
  k_with_none
  k_with "mine ktr_room" => (first | exact room0 hd | exact roomD hd rfl)
  k_with "mine ktr_units" => (exact roomU hu rfl)
  k_with "mine mine:use" => (
  (case k1 => k_asm)
  (case k2 => k_asm)
  (case k3 => k_asm)
  (case k4 => k_asm)
  (case k5 => k_asm)
  (case kK => first | exact rfl | assumption)
  (case kd => ktr_room)
  (case ku => ktr_units)
  intro _ _ _ _ _
  (try dsimp only)
  (try k_fold))
  k_with "mine binaryOp Add str str" => ((with_reducible show wpAny _ _ (binaryOp Operator.Add (Value.str (SL _) _) (Value.str (SL _) _)) _ _ _); refine add_SL (by (try simp only [List.length_append, pre_len, List.length_cons, List.length_nil]); omega) ?_; intro _ _; (try dsimp only))
  k_with "mine exec While" => (k_here; refine while_stop ?_)
  k_with "mine pyIter str" => (k_here; refine iter_stop ?_)
  k_with "mine pyIter ref" => (k_here; refine iter_stop ?_)
  k_with "mine exec For Name Name cons nil" => (k_here; (with_unfolding_all refine' For_invVF ‹Fr _ _ _ _› ?k1 ?k2 ?_; (case k1 => exact rfl); (case k2 => exact rfl); k_whole))
  k_with "mine TurnN" => (dsimp only [TurnN])
  k_with "mine WPost" => (dsimp only [WPost])
  k_with "mine call builtin:len" => ((with_reducible show wpAny _ _ (call _ [Value.str (SL _) _]) _ _ _); refine len_SL (by (try simp only [List.length_append, pre_len, List.length_cons, List.length_nil]); omega) ?_; (try simp only [List.length_cons, List.length_nil]))
  k_with "mine subscriptTail" => ((with_reducible show wpAny _ _ (subscriptTail _ _ (Value.str (SL (_ :: _)) _) (Value.int 0 _)) _ _ _); refine item_SL (j := 0) (by (try simp only [List.length_append, pre_len, List.length_cons, List.length_nil]); omega) rfl rfl ?_ (by with_unfolding_all rfl) (by intro _; with_unfolding_all rfl))
  k_with "mine subscriptTail" => ((with_reducible show wpAny _ _ (subscriptTail _ _ (Value.str (SL (_ :: _ :: _)) _) (Value.int 1 _)) _ _ _); refine item_SL (j := 1) (by (try simp only [List.length_append, pre_len, List.length_cons, List.length_nil]); omega) rfl rfl ?_ (by with_unfolding_all rfl) (by intro _; with_unfolding_all rfl))
  k_with "mine subscriptTail Name Slice str ref" => (refine slice_strN_sn (hsz := ?hsz) (s := ⟨_, _, _, _, _⟩) (by k_asm) (by k_asm) ?_; (case hsz => (rw [SL_len, sizeLine_eq]; simp only [List.length_append, List.length_cons, List.length_nil]; omega)); intro _ _ _ _ _; rw [slice_SL2]; (try dsimp only))
  k_with "mine call ref" => (k_here; (with_reducible show wpAny _ _ (call (Value.ref 41) [Value.str _ _]) _ _ _); k_dflt (refine' Pure.use (ordered _ _ _) ?k1 ?k2 ?k3 ?k4 ?k5 ?kK ?kd ?ku ?_; walk_at "mine:use"))
  unfold New; k_fill; intro p loose mean mg mb dp un gd cn cs a ccd cl outer A₀ base h₀ L m news s Q E B F X N T hk hd hu hret; refine wpAny_call ?_
  k_dflt ktr_enter
  k_steps
  refine while_by (σ := List Nat × List Nat) (fun c => c.1.length) (fun c m nw => ∃ t1 t2, nw = news ∧ m (Str.ofString "name") = some (.str (SL c.1) t1) ∧ m (Str.ofString "letters") = some (.str (SL c.2) t2) ∧ 2 * c.2.length + c.1.length ≤ 1000 ∧ splitF x = (c.2 ++ (splitF c.1).1, (splitF c.1).2))
    (by passes_own) (by k_asm) (by k_asm) (x, []) ⟨_, _, rfl, rfl, rfl, by simpa using hx, by simp⟩ ?_
  rintro ⟨nm, a⟩ m₁ nw h tk
  apply elB2_4
  intro t1 t2 h1 h2 hlen hsp F1 N1
  have F2 := fr_two (by decide) h1 h2 F1
  clear F1
  dsimp only at F2 hlen hsp
  rcases nm with _ | ⟨c, _ | ⟨d, _ | ⟨e, r⟩⟩⟩
  all_goals simp only [List.length_cons, List.length_nil] at hlen
  · k_steps
    exact hret _ _ _ _ (split_end hsp rfl) (by assumption) (by k_asm) (by k_asm)
  · k_steps
    exact hret _ _ _ _ (split_end hsp rfl) (by assumption) (by k_asm) (by k_asm)
  · k_steps
    exact hret _ _ _ _ (split_end hsp (by simp [splitF])) (by assumption) (by k_asm) (by k_asm)
  · k_steps
    · rename (SL [d] == Str.ofString "-") = _ => hd1
      rename (Builtin.Str.occurrences (Str.ofString "ACHMSs") (SL [c]) 0 (Str.ofString "ACHMSs").length 1).isEmpty = _ => hd2
      rw [in_letters] at hd2
      have hc : letters6.contains c = false := by simpa using hd2
      exact hret _ _ _ _ (split_end hsp (by simp only [splitF, hc, Bool.and_false]; rfl)) (by assumption) (by k_asm) (by k_asm)
    · rename (SL [d] == Str.ofString "-") = _ => hd1
      rename (Builtin.Str.occurrences (Str.ofString "ACHMSs") (SL [c]) 0 (Str.ofString "ACHMSs").length 1).isEmpty = _ => hd2
      rw [in_letters] at hd2
      rw [dash_beq] at hd1
      have hc : letters6.contains c = true := by simpa using hd2
      refine WEnd.intro (e :: r, a ++ [c]) _ (by k_asm) (by k_asm) (by simp only [List.length_cons]; omega) ⟨_, _, rfl, rfl, rfl, by simp only [List.length_cons, List.length_append, List.length_nil]; omega, ?_⟩
      rw [hsp]
      have e2 : splitF (c :: d :: e :: r) = (c :: (splitF (e :: r)).1, (splitF (e :: r)).2) := by
        rw [splitF, hd1, hc]; rfl
      rw [e2]; simp
    · rename (SL [d] == Str.ofString "-") = _ => hd1
      rw [dash_beq] at hd1
      exact hret _ _ _ _ (split_end hsp (by simp only [splitF, hd1, Bool.and_false, Bool.false_and]; rfl)) (by assumption) (by k_asm) (by k_asm)
section
variable {prog : Program} {w : World} {A : Around} {E : Value → Shared → Prop} {s : Shared} {value slice : Expr} {T : Addr} {a b : Value} {h₀ : Heap} {L : Addr} {u : Tok} {news : List (Addr × Obj)} {Q : Value → Shared → Prop}
theorem tup2_0 (N : News h₀ L s.heap news) (hm : (T, tup2 a b) ∈ news) (h : Q a s)
    (hs : subscripted slice false (.ref T) (.int 0 u) = operate [.ref T, .int 0 u] (getItem (.ref T) (.int 0 u))) : wpAny (model prog w) A (subscriptTail value slice (.ref T) (.int 0 u)) Q E s :=
  item_tupleT (l := [a, b]) (j := 0) ⟨_, (N _ hm).1, rfl, _, rfl⟩ (by decide) (by decide) rfl rfl h hs
theorem tup2_1 (N : News h₀ L s.heap news) (hm : (T, tup2 a b) ∈ news) (h : Q b s)
    (hs : subscripted slice false (.ref T) (.int 1 u) = operate [.ref T, .int 1 u] (getItem (.ref T) (.int 1 u))) : wpAny (model prog w) A (subscriptTail value slice (.ref T) (.int 1 u)) Q E s :=
  item_tupleT (l := [a, b]) (j := 1) ⟨_, (N _ hm).1, rfl, _, rfl⟩ (by decide) (by decide) rfl rfl h hs
end
theorem is_event_int (w : World) (i : Int) (t : Tok) : Pure w 1 29 [.int i t] (fun _ => .bool (decide (0 ≤ i) && decide (i < 268435456))) := by
  k_with_none
  k_with "mine ktr_room" => (first | exact room0 hd | exact roomD hd rfl)
  k_with "mine ktr_units" => (exact roomU hu rfl)
  k_with "mine mine:use" => (
  (case k1 => k_asm)
  (case k2 => k_asm)
  (case k3 => k_asm)
  (case k4 => k_asm)
  (case k5 => k_asm)
  (case kK => first | exact rfl | assumption)
  (case kd => ktr_room)
  (case ku => ktr_units)
  intro _ _ _ _ _
  (try dsimp only)
  (try k_fold))
  unfold Pure; k_fill; intro p loose mean mg mb dp un gd cn cs a ccd cl outer A₀ base h₀ L m news s Q E B F X N T hk hd hu hret; refine wpAny_call ?_
  k_dflt ktr_enter
  k_steps
  all_goals (refine cb_retB (Q := Q) hret ?_ (by k_asm) (by k_asm); rw [Bool.eq_iff_iff]; simp only [Bool.and_eq_true, decide_eq_true_eq]; omega)
theorem is_event_str (w : World) (x : List Nat) (t : Tok) : Pure w 1 29 [.str (SL x) t] (fun _ => .bool (!x.isEmpty)) := by
  unfold Pure; k_fill; intro p loose mean mg mb dp un gd cn cs a ccd cl outer A₀ base h₀ L m news s Q E B F X N T hk hd hu hret; refine wpAny_call ?_
  k_dflt ktr_enter
  k_steps
  refine cb_retB (Q := Q) hret ?_ (by k_asm) (by k_asm)
  rw [SL_nil]
  cases x with
  | nil => rfl
  | cons a r => rw [Bool.eq_iff_iff]; simp only [bne_iff_ne, List.isEmpty_cons, Bool.not_false, iff_true]; exact fun h => by cases SL_inj h
theorem is_event_bool (w : World) (b : Bool) : Pure w 1 29 [.bool b] (fun _ => .bool false) := by
  unfold Pure; k_fill; intro p loose mean mg mb dp un gd cn cs a ccd cl outer A₀ base h₀ L m news s Q E B F X N T hk hd hu hret; refine wpAny_call ?_
  k_dflt ktr_enter
  k_steps
  all_goals exact hret 0 _ _ (by k_asm) (by k_asm)
theorem is_event_none (w : World) : Pure w 1 29 [.none] (fun _ => .bool false) := by
  unfold Pure; k_fill; intro p loose mean mg mb dp un gd cn cs a ccd cl outer A₀ base h₀ L m news s Q E B F X N T hk hd hu hret; refine wpAny_call ?_
  k_dflt ktr_enter
  k_steps
  all_goals exact hret 0 _ _ (by k_asm) (by k_asm)
noncomputable def baseOf (i : Int) : Int := if codeOf i < 32 then (if 1 ≤ codeOf i ∧ codeOf i ≤ 26 then codeOf i + 96 else codeOf i + 64) else if isGreat (codeOf i) = true then codeOf i + 32 else codeOf i
theorem base_of_int (w : World) (i : Int) (t : Tok) : Pure w 3 128 [.int i t] (fun t => .int (baseOf i) t) := by
  k_with "mine call ref" => (k_here; (with_reducible show wpAny _ _ (call (Value.ref 22) [Value.int _ _]) _ _ _); k_dflt (refine' Pure.use (is_sign_int _ _ _) ?k1 ?k2 ?k3 ?k4 ?k5 ?kK ?kd ?ku ?_; walk_at "mine:use"))
  k_with "mine call ref" => (k_here; (with_reducible show wpAny _ _ (call (Value.ref 22) [Value.str _ _]) _ _ _); k_dflt (refine' Pure.use (is_sign_str _ _ _) ?k1 ?k2 ?k3 ?k4 ?k5 ?kK ?kd ?ku ?_; walk_at "mine:use"))
  k_with "mine call ref" => (k_here; (with_reducible show wpAny _ _ (call (Value.ref 48) [Value.int _ _]) _ _ _); k_dflt (refine' Pure.use (code_of _ _ _) ?k1 ?k2 ?k3 ?k4 ?k5 ?kK ?kd ?ku ?_; walk_at "mine:use"))
  k_with "mine call ref" => (k_here; (with_reducible show wpAny _ _ (call (Value.ref 114) [Value.int _ _]) _ _ _); k_dflt (refine' Pure.use (is_control_code _ _ _) ?k1 ?k2 ?k3 ?k4 ?k5 ?kK ?kd ?ku ?_; walk_at "mine:use"))
  k_with "mine call ref" => (k_here; (with_reducible show wpAny _ _ (call (Value.ref 86) [Value.int _ _]) _ _ _); k_dflt (refine' Pure.use (is_great _ _ _) ?k1 ?k2 ?k3 ?k4 ?k5 ?kK ?kd ?ku ?_; walk_at "mine:use"))
  k_with "mine call ref" => (k_here; (with_reducible show wpAny _ _ (call (Value.ref 67) [Value.str _ _]) _ _ _); k_dflt (refine' New.useB (split_name _ _ _ (by assumption)) ?k1 ?k2 ?k3 ?k4 ?k5 ?kK ?kd ?ku ?_; (case k1 => k_asm); (case k2 => k_asm); (case k3 => k_asm); (case k4 => k_asm); (case k5 => k_asm); (case kK => first | exact rfl | assumption); (case kd => ktr_room); (case ku => ktr_units); intro _ _ _ _ _ l9 _ _; (try k_lt l9); (try (revert l9; intro _)); (try dsimp only); (try k_fold)))
  unfold Pure; k_fill; intro p loose mean mg mb dp un gd cn cs a ccd cl outer A₀ base h₀ L m news s Q E B F X N T hk hd hu hret; refine wpAny_call ?_
  k_dflt ktr_enter
  have hctl : isCtl (codeOf i) = decide (codeOf i < 32) := rfl
  k_steps
  all_goals (refine cb_retI (Q := Q) hret ?_ (by k_asm) (by k_asm); unfold baseOf; simp_all; try omega)
theorem base_of_str (w : World) (x : List Nat) (t : Tok) (hx : x.length ≤ 1000) : Pure w 3 128 [.str (SL x) t] (fun t => .str (SL (splitF x).2) t) := by
  k_with "mine subscriptTail" => (k_here; (with_reducible show wpAny _ _ (subscriptTail _ _ (Value.ref _) (Value.int 0 _)) _ _ _); k_dflt (refine' tup2_0 ?N ?m ?_ ?s; (case N => k_asm); (case m => k_mem); (case s => with_unfolding_all rfl)))
  k_with "mine subscriptTail" => (k_here; (with_reducible show wpAny _ _ (subscriptTail _ _ (Value.ref _) (Value.int 1 _)) _ _ _); k_dflt (refine' tup2_1 ?N ?m ?_ ?s; (case N => k_asm); (case m => k_mem); (case s => with_unfolding_all rfl)))
  unfold Pure; k_fill; intro p loose mean mg mb dp un gd cn cs a ccd cl outer A₀ base h₀ L m news s Q E B F X N T hk hd hu hret; refine wpAny_call ?_
  k_dflt ktr_enter
  k_steps
  exact hret _ _ _ (by k_asm) (by refine' cb_drop ?cbN ?cbS; (case cbN => assumption); (case cbS => exact fun _ hp => .tail _ hp))
theorem modifiers_of_str (w : World) (x : List Nat) (t : Tok) (hx : x.length ≤ 1000) : Pure w 3 121 [.str (SL x) t] (fun t => .str (SL (ordL (splitF x).1)) t) := by
  unfold Pure; k_fill; intro p loose mean mg mb dp un gd cn cs a ccd cl outer A₀ base h₀ L m news s Q E B F X N T hk hd hu hret; refine wpAny_call ?_
  k_dflt ktr_enter
  k_steps
  exact hret _ _ _ (by k_asm) (by refine' cb_drop ?cbN ?cbS; (case cbN => assumption); (case cbS => exact fun _ hp => .tail _ hp))
theorem fr_one {h₀ h : Heap} {L : Addr} {m : Str → Option Value} {x : Str} {v : Value} (hx : m x = some v) (F : Fr h₀ L h m) : Fr h₀ L h (fun z => if z = x then some v else m z) := by
  have e : (fun z => if z = x then some v else m z) = m := by
    funext z
    by_cases h1 : z = x
    · simp [h1, hx]
    · simp [h1]
  rw [e]; exact F
noncomputable def mkInt (i : Int) (x : List Nat) : Int := (ordL x).foldl withLetter i
theorem make_event_int (w : World) (i : Int) (x : List Nat) (t u : Tok) : Pure w 5 107 [.int i t, .str (SL x) u] (fun t => .int (mkInt i x) t) := by
  k_with_none
  k_with "mine ktr_room" => (first | exact room0 hd | exact roomD hd rfl)
  k_with "mine ktr_units" => (exact roomU hu rfl)
  k_with "mine mine:use" => (
  (case k1 => k_asm)
  (case k2 => k_asm)
  (case k3 => k_asm)
  (case k4 => k_asm)
  (case k5 => k_asm)
  (case kK => first | exact rfl | assumption)
  (case kd => ktr_room)
  (case ku => ktr_units)
  intro _ _ _ _ _
  (try dsimp only)
  (try k_fold))
  k_with "mine exec While" => (k_here; refine while_stop ?_)
  k_with "mine pyIter str" => (k_here; refine iter_stop ?_)
  k_with "mine pyIter ref" => (k_here; refine iter_stop ?_)
  k_with "mine exec For Name Name cons nil" => (k_here; (with_unfolding_all refine' For_invVF ‹Fr _ _ _ _› ?k1 ?k2 ?_; (case k1 => exact rfl); (case k2 => exact rfl); k_whole))
  k_with "mine TurnN" => (dsimp only [TurnN])
  k_with "mine WPost" => (dsimp only [WPost])
  k_with "mine binaryOp Add str str" => ((with_reducible show wpAny _ _ (binaryOp Operator.Add (Value.str (SL _) _) (Value.str (SL _) _)) _ _ _); refine add_SL (by (try simp only [List.length_append, pre_len, List.length_cons, List.length_nil]); omega) ?_; intro _ _; (try dsimp only))
  k_with "mine call builtin:len" => ((with_reducible show wpAny _ _ (call _ [Value.str (SL _) _]) _ _ _); refine len_SL (by (try simp only [List.length_append, pre_len, List.length_cons, List.length_nil]); omega) ?_; (try simp only [List.length_cons, List.length_nil]))
  k_with "mine subscriptTail" => ((with_reducible show wpAny _ _ (subscriptTail _ _ (Value.str (SL (_ :: _)) _) (Value.int 0 _)) _ _ _); refine item_SL (j := 0) (by (try simp only [List.length_append, pre_len, List.length_cons, List.length_nil]); omega) rfl rfl ?_ (by with_unfolding_all rfl) (by intro _; with_unfolding_all rfl))
  k_with "mine subscriptTail" => ((with_reducible show wpAny _ _ (subscriptTail _ _ (Value.str (SL (_ :: _ :: _)) _) (Value.int 1 _)) _ _ _); refine item_SL (j := 1) (by (try simp only [List.length_append, pre_len, List.length_cons, List.length_nil]); omega) rfl rfl ?_ (by with_unfolding_all rfl) (by intro _; with_unfolding_all rfl))
  k_with "mine call ref" => (k_here; (with_reducible show wpAny _ _ (call (Value.ref 22) [Value.int _ _]) _ _ _); k_dflt (refine' Pure.use (is_sign_int _ _ _) ?k1 ?k2 ?k3 ?k4 ?k5 ?kK ?kd ?ku ?_; walk_at "mine:use"))
  k_with "mine call ref" => (k_here; (with_reducible show wpAny _ _ (call (Value.ref 22) [Value.str _ _]) _ _ _); k_dflt (refine' Pure.use (is_sign_str _ _ _) ?k1 ?k2 ?k3 ?k4 ?k5 ?kK ?kd ?ku ?_; walk_at "mine:use"))
  k_with "mine call ref" => (k_here; (with_reducible show wpAny _ _ (call (Value.ref 41) [Value.str _ _]) _ _ _); k_dflt (refine' Pure.use (ordered _ _ _) ?k1 ?k2 ?k3 ?k4 ?k5 ?kK ?kd ?ku ?_; walk_at "mine:use"))
  k_with "mine call ref" => (k_here; (with_reducible show wpAny _ _ (call (Value.ref 100) [Value.int _ _, Value.str _ _]) _ _ _); k_dflt (refine' Pure.use (with_letter _ _ _ _ _ (by assumption)) ?k1 ?k2 ?k3 ?k4 ?k5 ?kK ?kd ?ku ?_; walk_at "mine:use"))
  unfold Pure; k_fill; intro p loose mean mg mb dp un gd cn cs a ccd cl outer A₀ base h₀ L m news s Q E B F X N T hk hd hu hret; refine wpAny_call ?_
  k_dflt ktr_enter
  k_steps
  have hsz : (SL (ordL x)).cps.size = (ordL x).length := by simp [SL]
  refine iter_str_by (fun k m nw => nw = news ∧ (∃ t, m (Str.ofString "base") = some (.int (((ordL x).take k).foldl withLetter i) t))) (ordL_ascii x) (by rfl) (by k_asm) (by k_asm) ⟨rfl, ⟨_, rfl⟩⟩ ?_ ?_
  · rintro k c u₁ m₁ nw h tk oI hlt hc ⟨rfl, ⟨t₁, hb⟩⟩ hoff F₁ N₁
    have hc' : (ordL x)[k]? = some c := by simpa [SL] using hc
    have hcl : c ∈ letters6 := ordL_sub (List.mem_of_getElem? hc')
    have F₂ := fr_one (x := Str.ofString "base") (v := .int (((ordL x).take k).foldl withLetter i) t₁) ((if_neg (by decide)).trans hb) F₁
    clear F₁
    have e9 : ((ordL x).take (k + 1)).foldl withLetter i = withLetter (((ordL x).take k).foldl withLetter i) c := by
      rw [List.take_add_one, hc', List.foldl_append]; rfl
    k_steps
    exact TurnE.intro _ (by k_asm) (by k_asm) hoff ⟨rfl, _, by rw [e9]; rfl⟩
  · rintro m₁ nw h tk ⟨rfl, ⟨t₁, hb⟩⟩ F₁ N₁
    have F₂ := fr_one hb F₁
    clear F₁
    rw [hsz, List.take_length] at F₂
    k_steps
    exact hret _ _ _ (by k_asm) (by k_asm)
theorem splitF_len (x : List Nat) : (splitF x).2.length ≤ x.length := by
  induction x using splitF.induct with
  | case1 => simp [splitF]
  | case2 => simp [splitF]
  | case3 c d r h ih => rw [splitF, if_pos h]; simp only [List.length_cons]; omega
  | case4 c d r h => rw [splitF, if_neg h]; exact Nat.le_refl _
noncomputable def mkName (b x : List Nat) : List Nat := pre (ordL (ordL (splitF b).1 ++ x)) ++ (splitF b).2
theorem mkName_len (b x : List Nat) : (mkName b x).length ≤ 12 + b.length := by
  have h1 := ordL_len (ordL (splitF b).1 ++ x)
  have h2 := splitF_len b
  unfold mkName
  rw [List.length_append, pre_len]; omega
theorem make_event_str (w : World) (b x : List Nat) (t u : Tok) (hb : b.length ≤ 1000) (hx : x.length ≤ 1000) : Pure w 5 107 [.str (SL b) t, .str (SL x) u] (fun t => .str (SL (mkName b x)) t) := by
  k_with "mine call ref" => (k_here; (with_reducible show wpAny _ _ (call (Value.ref 67) [Value.str _ _]) _ _ _); k_dflt (refine' New.useB (split_name _ _ _ (by assumption)) ?k1 ?k2 ?k3 ?k4 ?k5 ?kK ?kd ?ku ?_; (case k1 => k_asm); (case k2 => k_asm); (case k3 => k_asm); (case k4 => k_asm); (case k5 => k_asm); (case kK => first | exact rfl | assumption); (case kd => ktr_room); (case ku => ktr_units); intro _ _ _ _ _ l9 _ _; (try k_lt l9); (try (revert l9; intro _)); (try dsimp only); (try k_fold)))
  k_with "mine call ref" => (k_here; (with_reducible show wpAny _ _ (call (Value.ref 72) [Value.str _ _, Value.str _ _]) _ _ _); k_dflt (refine' Pure.use (join_name _ _ _ _ _ (by assumption)) ?k1 ?k2 ?k3 ?k4 ?k5 ?kK ?kd ?ku ?_; walk_at "mine:use"))
  unfold Pure; k_fill; intro p loose mean mg mb dp un gd cn cs a ccd cl outer A₀ base h₀ L m news s Q E B F X N T hk hd hu hret; refine wpAny_call ?_
  k_dflt ktr_enter
  have h1 := ordL_len (splitF b).1
  have h2 : (splitF b).2.length ≤ 1000 := Nat.le_trans (splitF_len b) hb
  k_steps
  exact hret _ _ _ (by k_asm) (by refine' cb_drop ?cbN ?cbS; (case cbN => assumption); (case cbS => exact fun _ hp => .tail _ hp))
/-- an event: a sign or a name -/
inductive Ev where
  | i (n : Int)
  | s (l : List Nat)
deriving DecidableEq
inductive EvIs : Value → Ev → Prop
  | i (n : Int) (t : Tok) : EvIs (.int n t) (.i n)
  | s (l : List Nat) (t : Tok) : EvIs (.str (SL l) t) (.s l)
inductive EvsAre : List Value → List Ev → Prop
  | nil : EvsAre [] []
  | cons {v : Value} {e : Ev} {vs : List Value} {es : List Ev} : EvIs v e → EvsAre vs es → EvsAre (v :: vs) (e :: es)
theorem EvsAre.len {vs : List Value} {es : List Ev} (h : EvsAre vs es) : vs.length = es.length := by
  induction h with
  | nil => rfl
  | cons _ _ ih => simp [ih]
theorem EvsAre.snoc {vs : List Value} {es : List Ev} {v : Value} {e : Ev} (h : EvsAre vs es) (hv : EvIs v e) : EvsAre (vs ++ [v]) (es ++ [e]) := by
  induction h with
  | nil => exact .cons hv .nil
  | cons h1 _ ih => exact .cons h1 ih
theorem EvsAre.app {vs vs' : List Value} {es es' : List Ev} (h : EvsAre vs es) (h' : EvsAre vs' es') : EvsAre (vs ++ vs') (es ++ es') := by
  induction h with
  | nil => exact h'
  | cons h1 _ ih => exact .cons h1 ih
theorem EvsAre.get {vs : List Value} {es : List Ev} (h : EvsAre vs es) : ∀ {i : Nat} {v : Value}, vs[i]? = some v → ∃ e, es[i]? = some e ∧ EvIs v e := by
  induction h with
  | nil => intro i v h; simp at h
  | cons h1 _ ih =>
    intro i v h
    cases i with
    | zero => simp at h; subst h; exact ⟨_, by simp, h1⟩
    | succ i => simp at h; obtain ⟨e, a, b⟩ := ih h; exact ⟨e, by simpa using a, b⟩
noncomputable def metaE : Ev → Bool
  | .i n => hasMeta n
  | .s _ => false
noncomputable def lessE : Ev → Ev
  | .i n => if hasMeta n = true then .i (n - 134217728) else .i n
  | .s l => .s l
noncomputable def spread1 (e : Ev) : List Ev := if metaE e = true then [.i 27, lessE e] else [lessE e]
noncomputable def spreadF (es : List Ev) : List Ev := (es.map spread1).flatten
theorem spreadF_snoc (es : List Ev) (e : Ev) : spreadF (es ++ [e]) = spreadF es ++ spread1 e := by simp [spreadF]
theorem spreadF_len (es : List Ev) : (spreadF es).length ≤ 2 * es.length := by
  induction es with
  | nil => simp [spreadF]
  | cons e r ih =>
    have h1 : spreadF (e :: r) = spread1 e ++ spreadF r := rfl
    have h2 : (spread1 e).length ≤ 2 := by unfold spread1; split <;> simp
    rw [h1, List.length_append, List.length_cons]; omega

/-- a call that hands back one new object, over a ledger of which P is known -/
noncomputable def NewP (w : World) (k : Nat) (f : Addr) (vs : List Value) (P : Led → Prop) (O : Obj → Prop) : Prop :=
  ∀ (p : Program) (loose : List Str) (mean : ExcName → Option Value) (mg mb : Str → Option Value)
    (dp un : Nat) (gd : Option (List Code)) (cn : Str) (cs : Scope) (a : Addr) (ccd : Value) (cl : List (Str × Addr)) (outer : List Env) (A₀ : Around) (base h₀ : Heap) (L : Addr) (m : Str → Option Value) (news : List (Addr × Obj)) (s : Shared)
    (Q E : Value → Shared → Prop),
    Below A₀ base outer h₀ → Fr h₀ L s.heap m → Frag.In (Mine.hd.heap_39 w.params) h₀ → News h₀ L s.heap news → Top p loose mean mg mb h₀ → cs.kind = .function → dp + k < recursionLimit → un + 8 * k < cLine → P news →
    (∀ (b : Addr) (o : Obj) (h' : Heap) (tk' : Nat), O o → (∀ p ∈ news, p.1 < b) → Fr h₀ L h' m → News h₀ L h' ((b, o) :: news) → Q (.ref b) { s with heap := h', toks := tk' }) →
    wpAny (model PySem.Challenge.rw_np0024_01.row.prog w) (ktrTop dp un gd cn cs L a ccd cl outer) (call (.ref f) vs) Q E s
theorem NewP.use {w : World} {k : Nat} {f : Addr} {vs : List Value} {P : Led → Prop} {O : Obj → Prop} (C : NewP w k f vs P O)
    {p : Program} {loose : List Str} {mean : ExcName → Option Value} {mg mb : Str → Option Value}
    {dp un : Nat} {gd : Option (List Code)} {cn : Str} {cs : Scope} {a : Addr} {ccd : Value} {cl : List (Str × Addr)} {outer : List Env} {A₀ : Around} {base h₀ : Heap} {L : Addr} {m : Str → Option Value} {news : List (Addr × Obj)} {s : Shared}
    {Q E : Value → Shared → Prop}
    (B : Below A₀ base outer h₀) (F : Fr h₀ L s.heap m) (X : Frag.In (Mine.hd.heap_39 w.params) h₀) (N : News h₀ L s.heap news) (T : Top p loose mean mg mb h₀) (hk : cs.kind = .function) (hd : dp + k < recursionLimit) (hu : un + 8 * k < cLine) (hP : P news)
    (ret : ∀ (b : Addr) (o : Obj) (h' : Heap) (tk' : Nat), O o → (∀ p ∈ news, p.1 < b) → Fr h₀ L h' m → News h₀ L h' ((b, o) :: news) → Q (.ref b) { s with heap := h', toks := tk' }) :
    wpAny (model PySem.Challenge.rw_np0024_01.row.prog w) (ktrTop dp un gd cn cs L a ccd cl outer) (call (.ref f) vs) Q E s :=
  C p loose mean mg mb dp un gd cn cs a ccd cl outer A₀ base h₀ L m news s Q E B F X N T hk hd hu hP ret

/-- a list or a tuple of these values -/
noncomputable def SeqOb (ob : Obj) (its : Array Value) : Prop := (∃ k, ob = listOf its k) ∨ ∃ k, ob = tupOf its k
theorem iter_seq_by {prog : Program} {w : World} {A : Around} {E : Value → Shared → Prop} {s : Shared} {env : Env} {h₀ : Heap} {x : Str} {body : List Stmt} {Q : Flow → Shared → Prop} {l : Addr} {ob : Obj} {its : Array Value} {m₀ : Str → Option Value} {news : Led} (J : Nat → (Str → Option Value) → Led → Prop)
    (hob : SeqOb ob its) (hl : ∀ i m nw, J i m nw → (l, ob) ∈ nw)
    (hh : A.handled = none) (F : Fr h₀ env.locals s.heap m₀) (N : News h₀ env.locals s.heap news) (h0 : J 0 m₀ news)
    (turn : ∀ i v m₁ nw h tk oI, (∀ p ∈ news, p.1 < s.heap.objs.size) → its[i]? = some v → J i m₁ nw → (∀ p ∈ nw, p.1 ≠ s.heap.objs.size) → Fr h₀ env.locals h (fun z => if z = x then some v else m₁ z) → News h₀ env.locals h ((s.heap.objs.size, oI) :: nw) →
      wpAny (model prog w) A (execs body env) (TurnN h₀ env.locals (J (i + 1)) s.heap.objs.size oI { s with heap := h, toks := tk } Q) E { s with heap := h, toks := tk })
    (done : ∀ m₁ nw h tk, J its.size m₁ nw → Fr h₀ env.locals h m₁ → News h₀ env.locals h nw → Q .next { s with heap := h, toks := tk }) :
    wpAny (model prog w) A (pyIter (.ref l)) (fun it s₂ => LoopAtV prog w A h₀ env x body Q E it s₂) E s := by
  rcases hob with ⟨k, rfl⟩ | ⟨k, rfl⟩
  · exact iter_list_by J hl hh F N h0 turn done
  · exact iter_tuple_by J hl hh F N h0 turn done
theorem append_L {prog : Program} {w : World} {A : Around} {E : Value → Shared → Prop} {s : Shared} {h₀ : Heap} {L D : Addr} {m : Str → Option Value} {news news' : Led} {ys : List Value} {n : Nat} {x : Value} {Q : Value → Shared → Prop} (F : Fr h₀ L s.heap m) (N : News h₀ L s.heap news) (U : Upd D (listOf ys.toArray n) (listOf (ys ++ [x]).toArray (n + 1)) news news')
    (hsz : ys.length ≤ 100000) (h : ∀ h', Fr h₀ L h' m → News h₀ L h' news' → Q .none { s with heap := h' }) : wpAny (model prog w) A (call (.builtin "list.append") [.ref D, x]) Q E s := by
  refine append_K F N (n := n) (its := ys.toArray) ?_ h (by rw [List.size_toArray, sizeLine_eq]; omega)
  rw [List.push_toArray]
  exact U
theorem kcj_skip1 {p q : Addr × Obj} {l : Led} : ∀ x ∈ p :: l, x ∈ p :: q :: l := fun x hx => by
  rcases List.mem_cons.mp hx with rfl | hx
  · exact .head _
  · exact .tail _ (.tail _ hx)
theorem tuple_L {prog : Program} {w : World} {A : Around} {E : Value → Shared → Prop} {s : Shared} {h₀ : Heap} {L l : Addr} {m : Str → Option Value} {news : Led} {ys : List Value} {n : Nat} {Q : Value → Shared → Prop} (F : Fr h₀ L s.heap m) (N : News h₀ L s.heap news) (hm : (l, listOf ys.toArray n) ∈ news)
    (hz : ys.length ≤ 16384) (h : ∀ D h', Fr h₀ L h' m → News h₀ L h' ((D, tupOf ys.toArray 0) :: news) → (∀ p ∈ news, p.1 < D) → Q (.ref D) { s with heap := h' }) : wpAny (model prog w) A (call (.type "tuple") [.ref l]) Q E s :=
  kde_tupleOf (zs := ys) F N (News.isList N hm) (by rw [List.size_toArray]; exact hz) rfl h
theorem EvsAre.snoc2 {vs : List Value} {es : List Ev} {v v' : Value} {e e' : Ev} (h : EvsAre vs es) (hv : EvIs v e) (hv' : EvIs v' e') : EvsAre (vs ++ [v] ++ [v']) (es ++ [e, e']) := by
  have := (h.snoc hv).snoc hv'
  rw [List.append_assoc es] at this
  exact this
theorem spread_meta (w : World) (kk : Addr) (ob : Obj) (vs : List Value) (es : List Ev) (hob : SeqOb ob vs.toArray) (hes : EvsAre vs es) (hlen : es.length ≤ 1000) :
    NewP w 4 149 [.ref kk] (fun news => (kk, ob) ∈ news) (fun o => ∃ vs' k, o = tupOf vs'.toArray k ∧ EvsAre vs' (spreadF es)) := by
  k_with_none
  k_with "mine ktr_room" => (first | exact room0 hd | exact roomD hd rfl)
  k_with "mine ktr_units" => (exact roomU hu rfl)
  k_with "mine mine:use" => (
  (case k1 => k_asm)
  (case k2 => k_asm)
  (case k3 => k_asm)
  (case k4 => k_asm)
  (case k5 => k_asm)
  (case kK => first | exact rfl | assumption)
  (case kd => ktr_room)
  (case ku => ktr_units)
  intro _ _ _ _ _
  (try dsimp only)
  (try k_fold))
  k_with "mine exec While" => (k_here; refine while_stop ?_)
  k_with "mine pyIter str" => (k_here; refine iter_stop ?_)
  k_with "mine pyIter ref" => (k_here; refine iter_stop ?_)
  k_with "mine exec For Name Name cons nil" => (k_here; (with_unfolding_all refine' For_invVF ‹Fr _ _ _ _› ?k1 ?k2 ?_; (case k1 => exact rfl); (case k2 => exact rfl); k_whole))
  k_with "mine TurnN" => (dsimp only [TurnN])
  k_with "mine WPost" => (dsimp only [WPost])
  k_with "mine binaryOp Add str str" => ((with_reducible show wpAny _ _ (binaryOp Operator.Add (Value.str (SL _) _) (Value.str (SL _) _)) _ _ _); refine add_SL (by (try simp only [List.length_append, pre_len, List.length_cons, List.length_nil]); omega) ?_; intro _ _; (try dsimp only))
  k_with "mine call builtin:len" => ((with_reducible show wpAny _ _ (call _ [Value.str (SL _) _]) _ _ _); refine len_SL (by (try simp only [List.length_append, pre_len, List.length_cons, List.length_nil]); omega) ?_; (try simp only [List.length_cons, List.length_nil]))
  k_with "mine subscriptTail" => ((with_reducible show wpAny _ _ (subscriptTail _ _ (Value.str (SL (_ :: _)) _) (Value.int 0 _)) _ _ _); refine item_SL (j := 0) (by (try simp only [List.length_append, pre_len, List.length_cons, List.length_nil]); omega) rfl rfl ?_ (by with_unfolding_all rfl) (by intro _; with_unfolding_all rfl))
  k_with "mine subscriptTail" => ((with_reducible show wpAny _ _ (subscriptTail _ _ (Value.str (SL (_ :: _ :: _)) _) (Value.int 1 _)) _ _ _); refine item_SL (j := 1) (by (try simp only [List.length_append, pre_len, List.length_cons, List.length_nil]); omega) rfl rfl ?_ (by with_unfolding_all rfl) (by intro _; with_unfolding_all rfl))
  k_with "mine k_upd" => first | exact Upd.head (by assumption) | exact Upd.tail (Ne.symm (by assumption)) (Upd.head (by assumption)) | exact Upd.tail (by assumption) (Upd.head (by assumption))
  k_with "mine k_updF" => exact UpdF.head (by assumption)
  k_with "mine k_mem" => assumption
  k_with "mine k_all" => assumption
  k_with "mine call builtin:list.append" => (k_here; (with_reducible show wpAny _ _ (call (Value.builtin _) [Value.ref _, _]) _ _ _); k_dflt (refine' append_L ?k1 ?k2 ?k3 ?z ?_; (case k1 => k_asm); (case k2 => k_asm); (case k3 => k_upd); (case z => ((try simp only [List.length_append, List.length_cons, List.length_nil]); omega))); intro _ _ _; (try dsimp only); (try k_sweep))
  k_with "mine call type:tuple" => (k_here; (with_reducible show wpAny _ _ (call (Value.type _) [Value.ref _]) _ _ _); k_dflt (refine' tuple_L ?k1 ?k2 ?k3 ?k4 ?_; (case k1 => k_asm); (case k2 => k_asm); (case k3 => k_mem); (case k4 => ((try simp only [List.length_append, List.length_cons, List.length_nil]); omega))); intro _ _ _ _ _; (try dsimp only); (try k_sweep))
  k_with "mine call ref" => (k_here; (with_reducible show wpAny _ _ (call (Value.ref 135) [Value.int _ _]) _ _ _); k_dflt (refine' Pure.use (has_meta_int _ _ _) ?k1 ?k2 ?k3 ?k4 ?k5 ?kK ?kd ?ku ?_; walk_at "mine:use"))
  k_with "mine call ref" => (k_here; (with_reducible show wpAny _ _ (call (Value.ref 135) [Value.str _ _]) _ _ _); k_dflt (refine' Pure.use (has_meta_str _ _ _) ?k1 ?k2 ?k3 ?k4 ?k5 ?kK ?kd ?ku ?_; walk_at "mine:use"))
  k_with "mine call ref" => (k_here; (with_reducible show wpAny _ _ (call (Value.ref 142) [Value.int _ _]) _ _ _); k_dflt (refine' Pure.use (without_meta_int _ _ _) ?k1 ?k2 ?k3 ?k4 ?k5 ?kK ?kd ?ku ?_; walk_at "mine:use"))
  k_with "mine call ref" => (k_here; (with_reducible show wpAny _ _ (call (Value.ref 142) [Value.str _ _]) _ _ _); k_dflt (refine' Pure.use (without_meta_str _ _ _) ?k1 ?k2 ?k3 ?k4 ?k5 ?kK ?kd ?ku ?_; walk_at "mine:use"))
  unfold NewP; k_fill; intro p loose mean mg mb dp un gd cn cs a ccd cl outer A₀ base h₀ L m news s Q E B F X N T hk hd hu hP hret; refine wpAny_call ?_
  k_dflt ktr_enter
  k_steps

  rename_i fa hA lA hB FA NA
  have hnf : ∀ p ∈ news, p.1 ≠ fa := fun p hp => Nat.ne_of_lt (lA p hp)
  refine iter_seq_by (fun k m nw => ∃ ys n, nw = (fa, listOf ys.toArray n) :: news ∧ EvsAre ys (spreadF (es.take k)) ∧ m (Str.ofString "found") = some (.ref fa)) hob ?_ (by rfl) (by k_asm) (by k_asm) ⟨[], 0, rfl, .nil, rfl⟩ ?_ ?_
  · rintro k m nw ⟨ys, n, rfl, _, _⟩; exact .tail _ hP
  · intro k v m₁ nw h tk oI hlt hv
    apply elB2_2
    intro ys n hys hf hoff F₁ N₁
    have hg := hes.get (by simpa using hv)
    revert hg
    apply elA1_2
    intro e he hve
    have F₂ := fr_one (x := Str.ofString "found") (v := .ref fa) ((if_neg (by decide)).trans hf) F₁
    clear F₁
    have e9 : spreadF (es.take (k + 1)) = spreadF (es.take k) ++ spread1 e := by
      rw [List.take_add_one, he]; exact spreadF_snoc _ _
    have hIf : @Ne Nat fa _ := hoff _ (.head _)
    have hoff' : ∀ (o : Obj), ∀ p ∈ (fa, o) :: news, p.1 ≠ _ := fun o p hp => by
      rcases List.mem_cons.mp hp with rfl | hp
      · exact hIf
      · exact hoff p (.tail _ hp)
    replace hoff' := fun {o} => hoff' o
    have hysl : ys.length ≤ 2000 := by
      have h1 := spreadF_len (es.take k)
      have h2 := hys.len
      have h3 : (es.take k).length ≤ es.length := by rw [List.length_take]; omega
      omega
    cases hve with
    | i n t =>
      k_steps
      · rename hasMeta n = true => hm
        refine TurnE.intro _ (by k_asm) (by k_asm) hoff' ⟨_, _, rfl, ?_, rfl⟩
        rw [e9, spread1, metaE, hm, if_pos rfl, lessE, hm, if_pos rfl, if_pos rfl]
        exact EvsAre.snoc2 hys (.i _ _) (.i _ _)
      · rename hasMeta n = false => hm
        refine TurnE.intro _ (by k_asm) (by k_asm) hoff' ⟨_, _, rfl, ?_, rfl⟩
        rw [e9, spread1, metaE, hm, if_neg (by decide), lessE, hm, if_neg (by decide), if_neg (by decide)]
        exact hys.snoc (.i _ _)
    | s l t =>
      k_steps
      refine TurnE.intro _ (by k_asm) (by k_asm) hoff' ⟨_, _, rfl, ?_, rfl⟩
      rw [e9]
      exact hys.snoc (.s _ _)
  · intro m₁ nw h tk
    apply elB2_2
    intro ys n hys hf F₁ N₁
    have F₂ := fr_one hf F₁
    clear F₁
    have hyl : ys.length ≤ 2000 := by
      have h1 := spreadF_len (es.take vs.toArray.size)
      have h2 := hys.len
      have h3 : (es.take vs.toArray.size).length ≤ es.length := by rw [List.length_take]; omega
      omega
    have hall : es.take vs.toArray.size = es := List.take_of_length_le (by rw [List.size_toArray, hes.len]; exact Nat.le_refl _)
    rw [hall] at hys
    k_steps
    refine hret _ _ _ _ ⟨ys, 0, rfl, hys⟩ (fun p hp => (by assumption : ∀ p ∈ (fa, listOf ys.toArray n) :: news, p.1 < _) p (.tail _ hp)) (by k_asm) (by refine' cb_drop ?cbN ?cbS; (case cbN => assumption); (case cbS => exact kcj_skip1))
noncomputable def signE : Ev → Bool
  | .i _ => true
  | .s _ => false
noncomputable def plusE : Ev → Ev
  | .i n => .i (n + 134217728)
  | .s l => .s l
noncomputable def escE : Ev → Bool
  | .i n => n == 27
  | .s _ => false
noncomputable def jstep (st : List Ev × Bool) (e : Ev) : List Ev × Bool :=
  if (st.2 && signE e && !metaE e) = true then (st.1 ++ [plusE e], false)
  else (if st.2 = true then (if escE e = true then st.1 ++ [.i 27] else st.1 ++ [.i 27, e]) else (if escE e = true then st.1 else st.1 ++ [e]), escE e)
noncomputable def joinSt (es : List Ev) : List Ev × Bool := es.foldl jstep ([], false)
noncomputable def joinedF (es : List Ev) : List Ev := if (joinSt es).2 = true then (joinSt es).1 ++ [.i 27] else (joinSt es).1
theorem jstep_len (st : List Ev × Bool) (e : Ev) : (jstep st e).1.length ≤ st.1.length + 2 := by
  unfold jstep; split
  · simp
  · dsimp only; split <;> split <;> simp
theorem joinSt_snoc (es : List Ev) (e : Ev) : joinSt (es ++ [e]) = jstep (joinSt es) e := by simp [joinSt]
theorem foldj_len (es : List Ev) : ∀ st : List Ev × Bool, (es.foldl jstep st).1.length ≤ st.1.length + 2 * es.length := by
  induction es with
  | nil => intro st; simp
  | cons e r ih =>
    intro st
    have h1 := ih (jstep st e)
    have h2 := jstep_len st e
    rw [List.foldl_cons, List.length_cons]; omega
theorem joinSt_len (es : List Ev) : (joinSt es).1.length ≤ 2 * es.length := by
  have := foldj_len es ([], false)
  simpa [joinSt] using this
theorem joinedF_len (es : List Ev) : (joinedF es).length ≤ 2 * es.length + 1 := by
  have := joinSt_len es
  unfold joinedF; split
  · rw [List.length_append, List.length_cons, List.length_nil]; omega
  · omega
theorem joined_meta (w : World) (kk : Addr) (ob : Obj) (vs : List Value) (es : List Ev) (hob : SeqOb ob vs.toArray) (hes : EvsAre vs es) (hlen : es.length ≤ 1000) :
    NewP w 4 156 [.ref kk] (fun news => (kk, ob) ∈ news) (fun o => ∃ vs' k, o = tupOf vs'.toArray k ∧ EvsAre vs' (joinedF es)) := by
  k_with_none
  k_with "mine ktr_room" => (first | exact room0 hd | exact roomD hd rfl)
  k_with "mine ktr_units" => (exact roomU hu rfl)
  k_with "mine mine:use" => (
  (case k1 => k_asm)
  (case k2 => k_asm)
  (case k3 => k_asm)
  (case k4 => k_asm)
  (case k5 => k_asm)
  (case kK => first | exact rfl | assumption)
  (case kd => ktr_room)
  (case ku => ktr_units)
  intro _ _ _ _ _
  (try dsimp only)
  (try k_fold))
  k_with "mine exec While" => (k_here; refine while_stop ?_)
  k_with "mine pyIter str" => (k_here; refine iter_stop ?_)
  k_with "mine pyIter ref" => (k_here; refine iter_stop ?_)
  k_with "mine exec For Name Name cons nil" => (k_here; (with_unfolding_all refine' For_invVF ‹Fr _ _ _ _› ?k1 ?k2 ?_; (case k1 => exact rfl); (case k2 => exact rfl); k_whole))
  k_with "mine TurnN" => (dsimp only [TurnN])
  k_with "mine WPost" => (dsimp only [WPost])
  k_with "mine binaryOp Add str str" => ((with_reducible show wpAny _ _ (binaryOp Operator.Add (Value.str (SL _) _) (Value.str (SL _) _)) _ _ _); refine add_SL (by (try simp only [List.length_append, pre_len, List.length_cons, List.length_nil]); omega) ?_; intro _ _; (try dsimp only))
  k_with "mine call builtin:len" => ((with_reducible show wpAny _ _ (call _ [Value.str (SL _) _]) _ _ _); refine len_SL (by (try simp only [List.length_append, pre_len, List.length_cons, List.length_nil]); omega) ?_; (try simp only [List.length_cons, List.length_nil]))
  k_with "mine subscriptTail" => ((with_reducible show wpAny _ _ (subscriptTail _ _ (Value.str (SL (_ :: _)) _) (Value.int 0 _)) _ _ _); refine item_SL (j := 0) (by (try simp only [List.length_append, pre_len, List.length_cons, List.length_nil]); omega) rfl rfl ?_ (by with_unfolding_all rfl) (by intro _; with_unfolding_all rfl))
  k_with "mine subscriptTail" => ((with_reducible show wpAny _ _ (subscriptTail _ _ (Value.str (SL (_ :: _ :: _)) _) (Value.int 1 _)) _ _ _); refine item_SL (j := 1) (by (try simp only [List.length_append, pre_len, List.length_cons, List.length_nil]); omega) rfl rfl ?_ (by with_unfolding_all rfl) (by intro _; with_unfolding_all rfl))
  k_with "mine k_upd" => first | exact Upd.head (by assumption) | exact Upd.tail (Ne.symm (by assumption)) (Upd.head (by assumption)) | exact Upd.tail (by assumption) (Upd.head (by assumption))
  k_with "mine k_updF" => exact UpdF.head (by assumption)
  k_with "mine k_mem" => assumption
  k_with "mine k_all" => assumption
  k_with "mine call builtin:list.append" => (k_here; (with_reducible show wpAny _ _ (call (Value.builtin _) [Value.ref _, _]) _ _ _); k_dflt (refine' append_L ?k1 ?k2 ?k3 ?z ?_; (case k1 => k_asm); (case k2 => k_asm); (case k3 => k_upd); (case z => ((try simp only [List.length_append, List.length_cons, List.length_nil]); omega))); intro _ _ _; (try dsimp only); (try k_sweep))
  k_with "mine call type:tuple" => (k_here; (with_reducible show wpAny _ _ (call (Value.type _) [Value.ref _]) _ _ _); k_dflt (refine' tuple_L ?k1 ?k2 ?k3 ?k4 ?_; (case k1 => k_asm); (case k2 => k_asm); (case k3 => k_mem); (case k4 => ((try simp only [List.length_append, List.length_cons, List.length_nil]); omega))); intro _ _ _ _ _; (try dsimp only); (try k_sweep))
  k_with "mine call ref" => (k_here; (with_reducible show wpAny _ _ (call (Value.ref 135) [Value.int _ _]) _ _ _); k_dflt (refine' Pure.use (has_meta_int _ _ _) ?k1 ?k2 ?k3 ?k4 ?k5 ?kK ?kd ?ku ?_; walk_at "mine:use"))
  k_with "mine call ref" => (k_here; (with_reducible show wpAny _ _ (call (Value.ref 135) [Value.str _ _]) _ _ _); k_dflt (refine' Pure.use (has_meta_str _ _ _) ?k1 ?k2 ?k3 ?k4 ?k5 ?kK ?kd ?ku ?_; walk_at "mine:use"))
  k_with "mine call ref" => (k_here; (with_reducible show wpAny _ _ (call (Value.ref 22) [Value.int _ _]) _ _ _); k_dflt (refine' Pure.use (is_sign_int _ _ _) ?k1 ?k2 ?k3 ?k4 ?k5 ?kK ?kd ?ku ?_; walk_at "mine:use"))
  k_with "mine call ref" => (k_here; (with_reducible show wpAny _ _ (call (Value.ref 22) [Value.str _ _]) _ _ _); k_dflt (refine' Pure.use (is_sign_str _ _ _) ?k1 ?k2 ?k3 ?k4 ?k5 ?kK ?kd ?ku ?_; walk_at "mine:use"))
  unfold NewP; k_fill; intro p loose mean mg mb dp un gd cn cs a ccd cl outer A₀ base h₀ L m news s Q E B F X N T hk hd hu hP hret; refine wpAny_call ?_
  k_dflt ktr_enter
  k_steps

  rename_i fa hA lA hB hC FA NA
  have hnf : ∀ p ∈ news, p.1 ≠ fa := fun p hp => Nat.ne_of_lt (lA p hp)
  refine iter_seq_by (fun k m nw => ∃ ys n, nw = (fa, listOf ys.toArray n) :: news ∧ EvsAre ys (joinSt (es.take k)).1 ∧ m (Str.ofString "found") = some (.ref fa) ∧ m (Str.ofString "is_open") = some (.bool (joinSt (es.take k)).2)) hob ?_ (by rfl) (by k_asm) (by k_asm) ⟨[], 0, rfl, .nil, rfl, rfl⟩ ?_ ?_
  · rintro k m nw ⟨ys, n, rfl, _, _⟩; exact .tail _ hP
  · intro k v m₁ nw h tk oI hlt hv
    apply elB2_3
    intro ys n hys hf hop hoff F₁ N₁
    have hg := hes.get (by simpa using hv)
    revert hg
    apply elA1_2
    intro e he hve
    have F₂ := fr_two (x := Str.ofString "found") (y := Str.ofString "is_open") (vx := .ref fa) (vy := .bool (joinSt (es.take k)).2) (by decide) ((if_neg (by decide)).trans hf) ((if_neg (by decide)).trans hop) F₁
    clear F₁
    have e9 : joinSt (es.take (k + 1)) = jstep (joinSt (es.take k)) e := by
      rw [List.take_add_one, he]; exact joinSt_snoc _ _
    have hIf : @Ne Nat fa _ := hoff _ (.head _)
    have hoff' : ∀ (o : Obj), ∀ p ∈ (fa, o) :: news, p.1 ≠ _ := fun o p hp => by
      rcases List.mem_cons.mp hp with rfl | hp
      · exact hIf
      · exact hoff p (.tail _ hp)
    replace hoff' := fun {o} => hoff' o
    have hysl : ys.length ≤ 2000 := by
      have h1 := joinSt_len (es.take k)
      have h2 := hys.len
      have h3 : (es.take k).length ≤ es.length := by rw [List.length_take]; omega
      omega
    clear hop
    generalize joinSt (es.take k) = st at *
    obtain ⟨out, op⟩ := st
    dsimp only at hys F₂ e9
    cases hve with
    | i n t =>
      cases op <;> k_steps
      · rename n = 27 => hn
        have e10 : joinSt (es.take (k + 1)) = (out, true) := by rw [e9, jstep]; simp [escE, hn]
        refine TurnE.intro _ (by k_asm) (by k_asm) hoff' ⟨_, _, rfl, by rw [e10]; exact hys, rfl, ?_⟩
        rw [e10]; first | rfl | (simp [hn])
      · rename n ≠ 27 => hn
        have e10 : joinSt (es.take (k + 1)) = (out ++ [.i n], false) := by rw [e9, jstep]; simp [escE, hn]
        refine TurnE.intro _ (by k_asm) (by k_asm) hoff' ⟨_, _, rfl, by rw [e10]; exact hys.snoc (.i _ _), rfl, ?_⟩
        rw [e10]; first | rfl | (simp [hn])
      · rename n = 27 => hn
        rename hasMeta n = true => hm
        have e10 : joinSt (es.take (k + 1)) = (out ++ [.i 27], true) := by rw [e9, jstep, metaE, hm]; simp [escE, hn]
        refine TurnE.intro _ (by k_asm) (by k_asm) hoff' ⟨_, _, rfl, by rw [e10]; exact hys.snoc (.i _ _), rfl, ?_⟩
        rw [e10]; first | rfl | (simp [hn])
      · rename n ≠ 27 => hn
        rename hasMeta n = true => hm
        have e10 : joinSt (es.take (k + 1)) = (out ++ [.i 27, .i n], false) := by rw [e9, jstep, metaE, hm]; simp [escE, hn]
        refine TurnE.intro _ (by k_asm) (by k_asm) hoff' ⟨_, _, rfl, by rw [e10]; exact hys.snoc2 (.i _ _) (.i _ _), rfl, ?_⟩
        rw [e10]; first | rfl | (simp [hn])
      · rename hasMeta n = false => hm
        have e10 : joinSt (es.take (k + 1)) = (out ++ [.i (n + 134217728)], false) := by rw [e9, jstep, metaE, hm]; simp [signE, plusE]
        refine TurnE.intro _ (by k_asm) (by k_asm) hoff' ⟨_, _, rfl, by rw [e10]; exact hys.snoc (.i _ _), rfl, ?_⟩
        rw [e10]; rfl
    | s l t =>
      cases op <;> k_steps
      · have e10 : joinSt (es.take (k + 1)) = (out ++ [.s l], false) := by rw [e9, jstep]; simp [escE]
        refine TurnE.intro _ (by k_asm) (by k_asm) hoff' ⟨_, _, rfl, by rw [e10]; exact hys.snoc (.s _ _), rfl, ?_⟩
        rw [e10]; rfl
      · have e10 : joinSt (es.take (k + 1)) = (out ++ [.i 27, .s l], false) := by rw [e9, jstep]; simp [escE, signE]
        refine TurnE.intro _ (by k_asm) (by k_asm) hoff' ⟨_, _, rfl, by rw [e10]; exact hys.snoc2 (.i _ _) (.s _ _), rfl, ?_⟩
        rw [e10]; rfl
  · intro m₁ nw h tk
    apply elB2_3
    intro ys n hys hf hop F₁ N₁
    have hall : es.take vs.toArray.size = es := List.take_of_length_le (by rw [List.size_toArray, hes.len]; exact Nat.le_refl _)
    rw [hall] at hys hop
    have F₂ := fr_two (x := Str.ofString "found") (y := Str.ofString "is_open") (vx := .ref fa) (vy := .bool (joinSt es).2) (by decide) hf hop F₁
    clear F₁ hop
    have hyl : ys.length ≤ 2000 := by
      have h1 := joinSt_len es
      have h2 := hys.len
      omega
    have hj : joinedF es = if (joinSt es).2 = true then (joinSt es).1 ++ [.i 27] else (joinSt es).1 := rfl
    generalize joinSt es = st at *
    obtain ⟨out, op⟩ := st
    dsimp only at hys F₂ hj
    cases op
    · k_steps
      refine hret _ _ _ _ ⟨ys, 0, rfl, by rw [hj]; exact hys⟩ (fun p hp => (by assumption : ∀ p ∈ (fa, listOf ys.toArray n) :: news, p.1 < _) p (.tail _ hp)) (by k_asm) (by refine' cb_drop ?cbN ?cbS; (case cbN => assumption); (case cbS => exact kcj_skip1))
    · k_steps
      refine hret _ _ _ _ ⟨ys ++ [.int 27 220], 0, rfl, by rw [hj]; exact hys.snoc (.i 27 220)⟩ (fun p hp => (by assumption : ∀ p ∈ (fa, listOf (ys ++ [Value.int 27 220]).toArray (n + 1)) :: news, p.1 < _) p (.tail _ hp)) (by k_asm) (by refine' cb_drop ?cbN ?cbS; (case cbN => assumption); (case cbS => exact kcj_skip1))
section
variable {prog : Program} {w : World} {A : Around} {E : Value → Shared → Prop} {s : Shared}
open Builtin.SmallTypes in
/-- the items of a tuple, one by one -/
theorem nextOf_tuple_item {it t : Addr} {i : Nat} {items : Array Value} {x : Value} {Q : Value → Shared → Prop} (hit : s.heap.IsTupleIter it t i)
    (ht : s.heap.IsTuple t items) (hx : items[i]? = some x)
    (hQ : ∀ h', h'.IsTupleIter it t (i + 1) → Heap.SameBut it s.heap h' → Q x { s with heap := h' }) :
    wpAny (model prog w) A (nextOf (.ref it)) Q E s := by
  obtain ⟨o, ho, hc, hd⟩ := id hit
  obtain ⟨ol, hol, _, nl, hdl⟩ := ht
  unfold nextOf
  refine wpAny_bind (wpAny_callSpecial?_slot (name := Str.ofString "__next__") hit.typeIs F.slot_tuple_iterator_next
    (wpAny_call_entry F.slot_tuple_iterator_next hit.typeIs F.entry_tuple_iterator_next ?_ (F.args_tuple_iterator_next_1 _)))
  show wpAny _ _ (field (.ref it) 0 >>= _) _ _ s
  refine wpAny_bind (wpAny_field ho hd (x := .ref t) rfl ?_)
  show wpAny _ _ (if (Value.ref t == Value.none) = true then _ else _) _ _ s
  rw [if_neg (show ¬ ((Value.ref t == Value.none) = true) from Bool.false_ne_true)]
  show wpAny _ _ (field (.ref it) 1 >>= _) _ _ s
  refine wpAny_bind (wpAny_field ho hd (x := .int i 0) rfl ?_)
  show wpAny _ _ (seqItems? (.ref t) >>= _) _ _ s
  refine wpAny_bind (wpAny_seqItems hol hdl ?_)
  simp only [Int.toNat_natCast, hx]
  refine wpAny_bind (wpAny_setField ho hd (by simp) (wpAny_pure ⟨x, rfl, wpAny_pure (hQ _ ?_ (Heap.SameBut.update ..))⟩))
  exact ⟨_, Heap.get?_update_self _ ho (Obj.isFreed_of_fields (Obj.data_mapFields hd _)), (Obj.cls_mapFields ..).trans hc, by
    rw [Obj.data_mapFields hd]; simp [rawInt]⟩
open Builtin.SmallTypes in
theorem nextOf_tuple_end {it t : Addr} {i : Nat} {items : Array Value} {Q : Value → Shared → Prop} (hh : A.handled = none)
    (hit : s.heap.IsTupleIter it t i) (ht : s.heap.IsTuple t items) (hx : items[i]? = none)
    (hE : ∀ h' e, Heap.ExtBut it s.heap h' → (∃ o, h'.get? e = some o ∧ o.cls = .type "StopIteration") → E (.ref e) { s with heap := h' }) :
    wpAny (model prog w) A (nextOf (.ref it)) Q E s := by
  obtain ⟨o, ho, hc, hd⟩ := id hit
  obtain ⟨ol, hol, _, nl, hdl⟩ := ht
  unfold nextOf
  refine wpAny_bind (wpAny_callSpecial?_slot (name := Str.ofString "__next__") hit.typeIs F.slot_tuple_iterator_next
    (wpAny_call_entry F.slot_tuple_iterator_next hit.typeIs F.entry_tuple_iterator_next ?_ (F.args_tuple_iterator_next_1 _)))
  show wpAny _ _ (field (.ref it) 0 >>= _) _ _ s
  refine wpAny_bind (wpAny_field ho hd (x := .ref t) rfl ?_)
  show wpAny _ _ (if (Value.ref t == Value.none) = true then _ else _) _ _ s
  rw [if_neg (show ¬ ((Value.ref t == Value.none) = true) from Bool.false_ne_true)]
  show wpAny _ _ (field (.ref it) 1 >>= _) _ _ s
  refine wpAny_bind (wpAny_field ho hd (x := .int i 0) rfl ?_)
  show wpAny _ _ (seqItems? (.ref t) >>= _) _ _ s
  refine wpAny_bind (wpAny_seqItems hol hdl ?_)
  simp only [Int.toNat_natCast, hx]
  refine wpAny_bind (wpAny_rule (wpAny_bind (wpAny_setField ho hd (by simp) ?_)))
  show wpAny _ _ (newExc (.type "StopIteration") [] >>= _) _ _ _
  refine wpAny_bind ?_
  simp only [newExc, newTuple]
  refine wpAny_bind (wpAny_newObj_type ?_ (by size_fits))
  refine wpAny_bind (m := firstArgMember _ _) (wpAny_of_eq (a := Value.none) (by first | rfl | (simp only [firstArgMember]; rfl)) ?_)
  refine wpAny_newObj_type ?_ (by size_fits)
  simp only [raiseNew]
  refine wpAny_bind (wpAny_handled ?_)
  first | rw [show A.in1.handled = none from hh] | rw [hh]
  refine wpAny_bind (wpAny_pure (wpAny_throw ?_))
  exact hE _ _ (((Heap.SameBut.update ..).extBut.push _).push _) ⟨_, Heap.get?_push_size _ rfl, rfl⟩
theorem drawsTuple (hh : A.handled = none) (it t : Addr) (hne : t ≠ it) (items : Array Value) :
    Draws prog w A it [it, t] items.size (fun i v => items[i]? = some v) (fun i h => h.IsTupleIter it t i ∧ h.IsTuple t items) where
  live := fun _ _ st => let ⟨o, ho, _⟩ := st.1; ⟨o, ho⟩
  frame := fun _ _ _ st hk => ⟨st.1.at fun o e => hk it (by simp) o e, st.2.at fun o e => hk t (by simp) o e⟩
  item := fun i s Q E hi st hQ => by
    refine nextOf_tuple_item st.1 st.2 (x := items[i]) (by simp [hi]) fun h' hit' hs' => ?_
    exact hQ _ h' s.toks (by simp [hi]) ⟨hit', st.2.extBut hs'.extBut hne⟩ hs'
  done := fun s Q E st hE => nextOf_tuple_end hh st.1 st.2 (by simp) hE

/-- the five things of a zip of two lie apart -/
structure ZApart (z TI TO i1 i2 : Addr) (fp1 fp2 : List Addr) : Prop where
  TIz : TI ≠ z
  TOz : TO ≠ z
  TITO : TI ≠ TO
  TI1 : TI ≠ i1
  TI2 : TI ≠ i2
  z1 : z ∉ fp1
  z2 : z ∉ fp2
  o1 : TO ∉ fp1
  o2 : TO ∉ fp2
  m1 : i1 ∈ fp1
  m2 : i2 ∈ fp2
  f1 : i1 ∉ fp2
  f2 : i2 ∉ fp1
namespace ZApart
variable {z TI TO i1 i2 : Addr} {fp1 fp2 : List Addr} (D : ZApart z TI TO i1 i2 fp1 fp2)
include D
theorem i1z : i1 ≠ z := fun e => D.z1 (e ▸ D.m1)
theorem i2z : i2 ≠ z := fun e => D.z2 (e ▸ D.m2)
theorem TOi1 : TO ≠ i1 := fun e => D.o1 (e ▸ D.m1)
theorem TOi2 : TO ≠ i2 := fun e => D.o2 (e ▸ D.m2)
theorem i12 : i1 ≠ i2 := fun e => D.f2 (e ▸ D.m1)
end ZApart

section
variable {z TI TO i1 i2 : Addr} {fp1 fp2 : List Addr} {n1 n2 : Nat} {P1 P2 : Nat → Value → Prop} {St1 St2 : Nat → Heap → Prop} {i : Nat} {a b : Value}
theorem zip_itemD {Q : Value → Shared → Prop} (D : ZApart z TI TO i1 i2 fp1 fp2) (D1 : Draws prog w A i1 fp1 n1 P1 St1) (D2 : Draws prog w A i2 fp2 n2 P2 St2) (hi1 : i < n1) (hi2 : i < n2)
    (hz : IsZip s.heap z TI TO .none) (hTI : IsPair s.heap TI (.ref i1) (.ref i2)) (hTO : IsPair s.heap TO a b) (h1 : St1 i s.heap) (h2 : St2 i s.heap)
    (hQ : ∀ h' tk x y, P1 i x → P2 i y → IsZip h' z TI TO (rawInt s.heap.objs.size) → IsPair h' TO x y → St1 (i + 1) h' → St2 (i + 1) h' → IsPair h' s.heap.objs.size x y → h'.objs.size = s.heap.objs.size + 1 →
      (∀ c o, c ≠ z → c ≠ TO → c ≠ i1 → c ≠ i2 → s.heap.get? c = some o → h'.get? c = some o) → Q (.ref s.heap.objs.size) { s with heap := h', toks := tk }) :
    wpAny (model prog w) A (Builtin.«zip.__next__» ⟨[.ref z], []⟩) (fun fin s' => ∃ v, fin = .done (.ret v) ∧ Q v s') E s := by
  obtain ⟨hp, g, d, tk₀, os⟩ := s
  dsimp only at hz hTI hTO h1 h2 hQ
  show wpAny _ _ (field (.ref z) 2 >>= _) _ _ _
  refine wpAny_bind (wpAny_field hz rfl (x := .bool false) rfl ?_)
  show wpAny _ _ (field (.ref z) 3 >>= _) _ _ _
  refine wpAny_bind (wpAny_field hz rfl (x := .ref TI) rfl ?_)
  refine wpAny_bind (wpAny_seqItems hTI rfl ?_)
  show wpAny _ _ (Builtin.SmallTypes.ownedTupleIsFree (.ref z) >>= _) _ _ _
  refine wpAny_bind ?_
  unfold Builtin.SmallTypes.ownedTupleIsFree
  refine wpAny_bind (wpAny_field hz rfl (x := .none) rfl (wpAny_pure ?_))
  simp only [if_true]
  refine wpAny_bind (wpAny_rule ?_)
  refine wpAny_bind (wpAny_field hz rfl (x := .ref TO) rfl ?_)
  refine wpAny_bind (wpAny_setField_rec hz (by simp) fun h₁ hz₁ hs₁ => ?_)
  replace hz₁ : IsZip h₁ z TI TO .ellipsis := hz₁
  replace hs₁ : Heap.SameBut z hp h₁ := hs₁
  refine wpAny_bind ?_
  simp only [List.zipIdx_cons, List.zipIdx_nil, List.forIn_cons, List.forIn_nil]
  have h1₁ : St1 i h₁ := D1.frame _ _ _ h1 fun c hc o e => hs₁.extBut _ _ (fun q => D.z1 (q ▸ hc)) e
  have h2₁ : St2 i h₁ := D2.frame _ _ _ h2 fun c hc o e => hs₁.extBut _ _ (fun q => D.z2 (q ▸ hc)) e
  refine wpAny_bind (wpAny_bind (wpAny_onRaise ?_))
  show wpAny _ _ (Builtin.SmallTypes.nextOf (.ref i1) >>= _) _ _ _
  refine wpAny_bind (D1.item i _ _ _ hi1 h1₁ fun x h₂ tk₂ hPx h1₂ hs₂ => wpAny_pure ?_)
  replace hs₂ : Heap.SameBut i1 h₁ h₂ := hs₂
  have hTO₂ : IsPair h₂ TO a b := hs₂.extBut _ _ D.TOi1 (hs₁.extBut _ _ D.TOz hTO)
  refine wpAny_bind (wpAny_seqItems hTO₂ rfl ?_)
  refine wpAny_bind (wpAny_updateSeq_pair hTO₂ fun h₃ hTO₃ hs₃ => ?_)
  replace hTO₃ : IsPair h₃ TO x b := hTO₃
  replace hs₃ : Heap.SameBut TO h₂ h₃ := hs₃
  refine wpAny_bind (wpAny_letGo (wpAny_pure ?_))
  have h2₃ : St2 i h₃ := D2.frame _ _ _ h2₁ fun c hc o e => hs₃.extBut _ _ (fun q => D.o2 (q ▸ hc)) (hs₂.extBut _ _ (fun q => D.f1 (q ▸ hc)) e)
  refine wpAny_bind (wpAny_bind (wpAny_onRaise ?_))
  show wpAny _ _ (Builtin.SmallTypes.nextOf (.ref i2) >>= _) _ _ _
  refine wpAny_bind (D2.item i _ _ _ hi2 h2₃ fun y h₄ tk₄ hPy h2₄ hs₄ => wpAny_pure ?_)
  replace hs₄ : Heap.SameBut i2 h₃ h₄ := hs₄
  have hTO₄ : IsPair h₄ TO x b := hs₄.extBut _ _ D.TOi2 hTO₃
  refine wpAny_bind (wpAny_seqItems hTO₄ rfl ?_)
  refine wpAny_bind (wpAny_updateSeq_pair hTO₄ fun h₅ hTO₅ hs₅ => ?_)
  replace hTO₅ : IsPair h₅ TO x y := hTO₅
  replace hs₅ : Heap.SameBut TO h₄ h₅ := hs₅
  refine wpAny_bind (wpAny_letGo (wpAny_pure (wpAny_pure ?_)))
  refine wpAny_bind (wpAny_seqItems hTO₅ rfl ?_)
  refine wpAny_bind (wpAny_newTuple ?_)
  have hsz : h₅.objs.size = hp.objs.size := by rw [hs₅.1, hs₄.1, hs₃.1, hs₂.1, hs₁.1]
  have hz₅ : IsZip h₅ z TI TO .ellipsis := hs₅.extBut _ _ D.TOz.symm (hs₄.extBut _ _ D.i2z.symm (hs₃.extBut _ _ D.TOz.symm (hs₂.extBut _ _ D.i1z.symm hz₁)))
  have hk₅ : ∀ c o, c ≠ z → c ≠ TO → c ≠ i1 → c ≠ i2 → hp.get? c = some o → h₅.get? c = some o := fun c o c1 c2 c3 c4 e =>
    hs₅.extBut _ _ c2 (hs₄.extBut _ _ c4 (hs₃.extBut _ _ c2 (hs₂.extBut _ _ c3 (hs₁.extBut _ _ c1 e))))
  have h1₅ : St1 (i + 1) h₅ := D1.frame _ _ _ h1₂ fun c hc o e => hs₅.extBut _ _ (fun q => D.o1 (q ▸ hc)) (hs₄.extBut _ _ (fun q => D.f2 (q ▸ hc)) (hs₃.extBut _ _ (fun q => D.o1 (q ▸ hc)) e))
  have h2₅ : St2 (i + 1) h₅ := D2.frame _ _ _ h2₄ fun c hc o e => hs₅.extBut _ _ (fun q => D.o2 (q ▸ hc)) e
  have hzlt : z < h₅.objs.size := Heap.lt_size hz₅
  show wpAny _ _ (Builtin.SmallTypes.ownedTupleHandOut (.ref z) (.ref h₅.objs.size) >>= _) _ _ _
  refine wpAny_bind ?_
  unfold Builtin.SmallTypes.ownedTupleHandOut
  have hz₆ : IsZip (h₅.push { cls := .type "tuple", data := .seq #[x, y] }) z TI TO .ellipsis := Heap.get?_push_of_some _ hz₅
  refine wpAny_bind (wpAny_setField_rec hz₆ (by simp) fun h₇ hz₇ hs₇ => ?_)
  replace hz₇ : IsZip h₇ z TI TO (rawInt h₅.objs.size) := hz₇
  refine wpAny_setField_rec hz₇ (by simp) fun h₈ hz₈ hs₈ => ?_
  replace hz₈ : IsZip h₈ z TI TO (rawInt h₅.objs.size) := hz₈
  have up : ∀ c o, c ≠ z → h₅.get? c = some o → h₈.get? c = some o := fun c o c1 e => hs₈.extBut _ _ c1 (hs₇.extBut _ _ c1 (Heap.get?_push_of_some _ e))
  have hT₈ : IsPair h₈ h₅.objs.size x y := hs₈.extBut _ _ (Nat.ne_of_gt hzlt) (hs₇.extBut _ _ (Nat.ne_of_gt hzlt) (Heap.get?_push_size _ rfl))
  have hz8 : h₈.objs.size = h₅.objs.size + 1 := by rw [hs₈.1, hs₇.1, Heap.size_push]
  rw [hsz] at hz₈ hT₈ hz8
  refine wpAny_pure ⟨_, rfl, ?_⟩
  show Q (.ref h₅.objs.size) _
  rw [hsz]
  exact hQ h₈ tk₄ x y hPx hPy hz₈ (up _ _ D.TOz hTO₅) (D1.frame _ _ _ h1₅ fun c hc o e => up c o (fun q => D.z1 (q ▸ hc)) e) (D2.frame _ _ _ h2₅ fun c hc o e => up c o (fun q => D.z2 (q ▸ hc)) e) hT₈ hz8 fun c o c1 c2 c3 c4 e => up c o c1 (hk₅ c o c1 c2 c3 c4 e)

theorem zip_endD {Q : Fin → Shared → Prop} (D : ZApart z TI TO i1 i2 fp1 fp2) (D1 : Draws prog w A i1 fp1 n1 P1 St1) (D2 : Draws prog w A i2 fp2 n2 P2 St2) (hi : i = n1 ∨ (i < n1 ∧ i = n2))
    (hz : IsZip s.heap z TI TO .none) (hTI : IsPair s.heap TI (.ref i1) (.ref i2)) (hTO : IsPair s.heap TO a b) (h1 : St1 i s.heap) (h2 : St2 i s.heap)
    (hE : ∀ h' tk e, (∀ c o, c ≠ z → c ≠ TO → c ≠ i1 → c ≠ i2 → s.heap.get? c = some o → h'.get? c = some o) → (∃ o, h'.get? e = some o ∧ o.cls = .type "StopIteration") → E (.ref e) { s with heap := h', toks := tk }) :
    wpAny (model prog w) A (Builtin.«zip.__next__» ⟨[.ref z], []⟩) Q E s := by
  obtain ⟨hp, g, d, tk₀, os⟩ := s
  dsimp only at hz hTI hTO h1 h2 hE
  show wpAny _ _ (field (.ref z) 2 >>= _) _ _ _
  refine wpAny_bind (wpAny_field hz rfl (x := .bool false) rfl ?_)
  show wpAny _ _ (field (.ref z) 3 >>= _) _ _ _
  refine wpAny_bind (wpAny_field hz rfl (x := .ref TI) rfl ?_)
  refine wpAny_bind (wpAny_seqItems hTI rfl ?_)
  show wpAny _ _ (Builtin.SmallTypes.ownedTupleIsFree (.ref z) >>= _) _ _ _
  refine wpAny_bind ?_
  unfold Builtin.SmallTypes.ownedTupleIsFree
  refine wpAny_bind (wpAny_field hz rfl (x := .none) rfl (wpAny_pure ?_))
  simp only [if_true]
  refine wpAny_bind (wpAny_rule ?_)
  refine wpAny_bind (wpAny_field hz rfl (x := .ref TO) rfl ?_)
  refine wpAny_bind (wpAny_setField_rec hz (by simp) fun h₁ hz₁ hs₁ => ?_)
  replace hz₁ : IsZip h₁ z TI TO .ellipsis := hz₁
  replace hs₁ : Heap.SameBut z hp h₁ := hs₁
  refine wpAny_bind ?_
  simp only [List.zipIdx_cons, List.zipIdx_nil, List.forIn_cons, List.forIn_nil]
  have h1₁ : St1 i h₁ := D1.frame _ _ _ h1 fun c hc o e => hs₁.extBut _ _ (fun q => D.z1 (q ▸ hc)) e
  have h2₁ : St2 i h₁ := D2.frame _ _ _ h2 fun c hc o e => hs₁.extBut _ _ (fun q => D.z2 (q ▸ hc)) e
  refine wpAny_bind (wpAny_bind (wpAny_onRaise ?_))
  show wpAny _ _ (Builtin.SmallTypes.nextOf (.ref i1) >>= _) _ _ _
  rcases hi with rfl | ⟨hi1, rfl⟩
  · refine wpAny_bind (D1.done _ _ _ h1₁ fun h₂ e hs₂ he => ?_)
    replace hs₂ : Heap.ExtBut i1 h₁ h₂ := hs₂
    obtain ⟨oe, hoe, hce⟩ := he
    have hz₂ : IsZip h₂ z TI TO .ellipsis := hs₂ _ _ D.i1z.symm hz₁
    have hez : e ≠ z := fun x => by subst x; rw [hz₂] at hoe; cases hoe; simp at hce
    refine wpAny_setField_rec hz₂ (by simp) fun h₃ _ hs₃ => hE h₃ _ e (fun c o c1 _ c3 _ x => hs₃.extBut _ _ c1 (hs₂ _ _ c3 (hs₁.extBut _ _ c1 x))) ⟨oe, hs₃.extBut _ _ hez hoe, hce⟩
  · refine wpAny_bind (D1.item i _ _ _ hi1 h1₁ fun x h₂ tk₂ hPx h1₂ hs₂ => wpAny_pure ?_)
    replace hs₂ : Heap.SameBut i1 h₁ h₂ := hs₂
    have hTO₂ : IsPair h₂ TO a b := hs₂.extBut _ _ D.TOi1 (hs₁.extBut _ _ D.TOz hTO)
    refine wpAny_bind (wpAny_seqItems hTO₂ rfl ?_)
    refine wpAny_bind (wpAny_updateSeq_pair hTO₂ fun h₃ hTO₃ hs₃ => ?_)
    replace hs₃ : Heap.SameBut TO h₂ h₃ := hs₃
    refine wpAny_bind (wpAny_letGo (wpAny_pure ?_))
    have h2₃ : St2 i h₃ := D2.frame _ _ _ h2₁ fun c hc o e => hs₃.extBut _ _ (fun q => D.o2 (q ▸ hc)) (hs₂.extBut _ _ (fun q => D.f1 (q ▸ hc)) e)
    refine wpAny_bind (wpAny_bind (wpAny_onRaise ?_))
    show wpAny _ _ (Builtin.SmallTypes.nextOf (.ref i2) >>= _) _ _ _
    refine wpAny_bind (D2.done _ _ _ h2₃ fun h₄ e hs₄ he => ?_)
    replace hs₄ : Heap.ExtBut i2 h₃ h₄ := hs₄
    obtain ⟨oe, hoe, hce⟩ := he
    have hz₄ : IsZip h₄ z TI TO .ellipsis := hs₄ _ _ D.i2z.symm (hs₃.extBut _ _ D.TOz.symm (hs₂.extBut _ _ D.i1z.symm hz₁))
    have hez : e ≠ z := fun x => by subst x; rw [hz₄] at hoe; cases hoe; simp at hce
    refine wpAny_setField_rec hz₄ (by simp) fun h₅ _ hs₅ => hE h₅ _ e (fun c o c1 c2 c3 c4 x => hs₅.extBut _ _ c1 (hs₄ _ _ c4 (hs₃.extBut _ _ c2 (hs₂.extBut _ _ c3 (hs₁.extBut _ _ c1 x))))) ⟨oe, hs₅.extBut _ _ hez hoe, hce⟩

theorem walksZip (D : ZApart z TI TO i1 i2 fp1 fp2) (D1 : Draws prog w A.in1 i1 fp1 n1 P1 St1) (D2 : Draws prog w A.in1 i2 fp2 n2 P2 St2) :
    WalksT prog w A z (z :: TI :: TO :: (fp1 ++ fp2)) [z, TO, i1, i2] (min n1 n2)
      (fun i vals => ∃ x y, P1 i x ∧ P2 i y ∧ vals = #[x, y])
      (fun i h => IsZip h z TI TO .none ∧ IsPair h TI (.ref i1) (.ref i2) ∧ (∃ a b, IsPair h TO a b) ∧ St1 i h ∧ St2 i h)
      (fun i T h => IsZip h z TI TO (rawInt T) ∧ IsPair h TI (.ref i1) (.ref i2) ∧ (∃ a b, IsPair h TO a b) ∧ St1 (i + 1) h ∧ St2 (i + 1) h ∧ T ≠ z ∧ T ≠ TO ∧ T ≠ i1 ∧ T ≠ i2) where
  sub := fun c hc => by
    simp only [List.mem_cons, List.not_mem_nil, or_false, List.mem_append] at hc ⊢
    rcases hc with rfl | rfl | rfl | rfl
    · exact .inl rfl
    · exact .inr (.inr (.inl rfl))
    · exact .inr (.inr (.inr (.inl D.m1)))
    · exact .inr (.inr (.inr (.inr D.m2)))
  frame := fun i h h' hst hk => by
    obtain ⟨hz, hTI, ⟨a, b, hTO⟩, h1, h2⟩ := hst
    exact ⟨hk z (by simp) _ hz, hk TI (by simp) _ hTI, ⟨a, b, hk TO (by simp) _ hTO⟩, D1.frame _ _ _ h1 fun c hc o e => hk c (by simp [hc]) o e, D2.frame _ _ _ h2 fun c hc o e => hk c (by simp [hc]) o e⟩
  item := fun i s Q E hi hst hQ => by
    obtain ⟨hz, hTI, ⟨a, b, hTO⟩, h1, h2⟩ := hst
    have hT : s.TypeIs (.ref z) "zip" := ⟨_, hz, rfl⟩
    unfold pyNext
    refine wpAny_bind (wpAny_attempt (wpAny_callSpecial?_slot (name := Str.ofString "__next__") hT F.slot_zip_next
      (wpAny_call_entry F.slot_zip_next hT F.entry_zip_next
        (zip_itemD D D1 D2 (Nat.lt_of_lt_of_le hi (Nat.min_le_left ..)) (Nat.lt_of_lt_of_le hi (Nat.min_le_right ..)) hz hTI hTO h1 h2 fun h' tk x y hx hy a1 a2 a3 a4 a5 a6 hk => wpAny_pure ?_) (F.args_zip_next_1 _))))
    have lt : ∀ {c o}, s.heap.get? c = some o → s.heap.objs.size ≠ c := fun e => Nat.ne_of_gt (Heap.lt_size e)
    exact hQ s.heap.objs.size #[x, y] h' tk ⟨x, y, hx, hy, rfl⟩ (Nat.le_refl _) ⟨_, a5, rfl, _, rfl⟩
      ⟨a1, hk _ _ D.TIz D.TITO D.TI1 D.TI2 hTI, ⟨_, _, a2⟩, a3, a4, lt hz, lt hTO, (by obtain ⟨_, e⟩ := D1.live _ _ h1; exact lt e), (by obtain ⟨_, e⟩ := D2.live _ _ h2; exact lt e)⟩
      fun c o hc e => hk c o (fun x => hc (by simp [x])) (fun x => hc (by simp [x])) (fun x => hc (by simp [x])) (fun x => hc (by simp [x])) e
  go := fun elts k pos i T s Q E hm hQ => by
    obtain ⟨hz, hTI, ⟨a, b, hTO⟩, h1, h2, _⟩ := hm
    refine wpAny_letOwnedTupleGo_zip hz fun h' hz' hs' => hQ h' ⟨hz', hs'.extBut _ _ D.TIz hTI, ⟨a, b, hs'.extBut _ _ D.TOz hTO⟩, D1.frame _ _ _ h1 fun c hc o e => hs'.extBut _ _ (fun q => D.z1 (q ▸ hc)) e, D2.frame _ _ _ h2 fun c hc o e => hs'.extBut _ _ (fun q => D.z2 (q ▸ hc)) e⟩ fun c o hc e => hs'.extBut _ _ (fun x => hc (by simp [x])) e
  apart := fun i T h hm hT => by
    obtain ⟨_, _, _, _, _, t1, t2, t3, t4⟩ := hm
    simp at hT
    rcases hT with rfl | rfl | rfl | rfl
    · exact t1 rfl
    · exact t2 rfl
    · exact t3 rfl
    · exact t4 rfl
  done := fun s Q E hst hQ => by
    obtain ⟨hz, hTI, ⟨a, b, hTO⟩, h1, h2⟩ := hst
    have hT : s.TypeIs (.ref z) "zip" := ⟨_, hz, rfl⟩
    unfold pyNext
    refine wpAny_bind (wpAny_attempt (wpAny_callSpecial?_slot (name := Str.ofString "__next__") hT F.slot_zip_next
      (wpAny_call_entry F.slot_zip_next hT F.entry_zip_next (zip_endD D D1 D2 (by omega) hz hTI hTO h1 h2 fun h' tk e hk he => ?_) (F.args_zip_next_1 _))))
    obtain ⟨o, ho, hc⟩ := he
    refine wpAny_bind (wpAny_isInstance (T := "StopIteration") (b := true) ⟨o, ho, hc⟩ isSubtype_stop ?_)
    exact wpAny_pure (hQ _ _ fun c o hc e => hk c o (fun x => hc (by simp [x])) (fun x => hc (by simp [x])) (fun x => hc (by simp [x])) (fun x => hc (by simp [x])) e)
  self := fun i s Q E hst hQ => wpAny_pyIter_zip hst.1 hQ
end
end
noncomputable abbrev zH2 (h : Heap) (o1 o2 : Obj) : Heap := (h.push o1).push o2
noncomputable abbrev zH3 (h : Heap) (o1 o2 : Obj) : Heap := (zH2 h o1 o2).push { cls := .type "tuple", data := .seq #[.ref h.objs.size, .ref (h.push o1).objs.size] }
noncomputable abbrev zH4 (h : Heap) (o1 o2 : Obj) : Heap := (zH3 h o1 o2).push { cls := .type "tuple", data := .seq #[.none, .none] }
noncomputable abbrev zH5 (h : Heap) (o1 o2 : Obj) : Heap := (zH4 h o1 o2).push { cls := .type "zip", data := .fields #[.none, .bool false, .bool false, .ref (zH2 h o1 o2).objs.size, .ref (zH3 h o1 o2).objs.size] }
/-- what starting an iterator over v does: one new object -/
noncomputable def Starts (v : Value) (o : Obj) (C : Heap → Prop) : Prop :=
  ∀ (prog : Program) (w : World) (A : Around) (E : Value → Shared → Prop) (s : Shared) (Q : Value → Shared → Prop), C s.heap → Q (.ref s.heap.objs.size) { s with heap := s.heap.push o } → wpAny (model prog w) A (pyIter v) Q E s
theorem starts_ascii (x : Str) (t : Tok) (ha : x.cps.all (· < 128) = true) : Starts (.str x t) { cls := .type "str_ascii_iterator", data := .fields #[.str x t, .int 0 0] } (fun _ => True) :=
  fun prog w A E s Q _ hQ => wpAny_pyIter_ascii ha hQ
theorem starts_tuple (t : Addr) (items : Array Value) : Starts (.ref t) { cls := .type "tuple_iterator", data := .fields #[.ref t, .int 0 0] } (fun h => h.IsTuple t items) :=
  fun prog w A E s Q ht hQ => wpAny_pyIter_tuple ht hQ
theorem meetsZip (v1 v2 : Value) (o1 o2 : Obj) (C1 C2 : Heap → Prop) (S1 : Starts v1 o1 C1) (S2 : Starts v2 o2 C2) :
    PySem.Meets (Builtin.«zip.__new__» ⟨[.type "zip", v1, v2], []⟩) (fun _ R s => C1 s.heap ∧ C2 (s.heap.push o1) ∧
      R (.ok (.ret (.ref (zH4 s.heap o1 o2).objs.size))) { s with heap := zH5 s.heap o1 o2 }) :=
  .of_wp fun prog w A R s h => by
    obtain ⟨hp, g, d, tk, os⟩ := s; obtain ⟨hl1, hl2, h⟩ := h
    have hsub := sub_zip
    have hS1 := fun A E Q => S1 prog w A E ⟨hp, g, d, tk, os⟩ Q hl1
    have hS2 := fun A E Q => S2 prog w A E ⟨hp.push o1, g, d, tk, os⟩ Q hl2
    wp_walk using hS1 _ _ _, hS2 _ _ _
    exact ⟨_, rfl, h⟩
theorem zapart_new (n : Addr) (e1 e2 : List Addr) (h1 : ∀ b ∈ e1, @LT.lt Nat _ b n) (h2 : ∀ b ∈ e2, @LT.lt Nat _ b n) : ZApart (n + 4) (n + 2) (n + 3) n (n + 1) (n :: e1) ((n + 1) :: e2) where
  TIz := by show @Ne Nat (n + 2) (n + 4); omega
  TOz := by show @Ne Nat (n + 3) (n + 4); omega
  TITO := by show @Ne Nat (n + 2) (n + 3); omega
  TI1 := by show @Ne Nat (n + 2) n; omega
  TI2 := by show @Ne Nat (n + 2) (n + 1); omega
  z1 := fun h => by
    rcases List.mem_cons.mp h with h | h
    · have h' : @Eq Nat (n + 4) n := h
      omega
    · have := h1 _ h; omega
  z2 := fun h => by
    rcases List.mem_cons.mp h with h | h
    · have h' : @Eq Nat (n + 4) (n + 1) := h
      omega
    · have := h2 _ h; omega
  o1 := fun h => by
    rcases List.mem_cons.mp h with h | h
    · have h' : @Eq Nat (n + 3) n := h
      omega
    · have := h1 _ h; omega
  o2 := fun h => by
    rcases List.mem_cons.mp h with h | h
    · have h' : @Eq Nat (n + 3) (n + 1) := h
      omega
    · have := h2 _ h; omega
  m1 := .head _
  m2 := .head _
  f1 := fun h => by
    rcases List.mem_cons.mp h with h | h
    · have h' : @Eq Nat n (n + 1) := h
      omega
    · have := h2 _ h; omega
  f2 := fun h => by
    rcases List.mem_cons.mp h with h | h
    · have h' : @Eq Nat (n + 1) n := h
      omega
    · have := h1 _ h; omega
section
variable {prog : Program} {w : World} {A : Around} {E : Value → Shared → Prop} {s : Shared}
theorem call_zip_new {v1 v2 : Value} {o1 o2 : Obj} {C1 C2 : Heap → Prop} {Q : Value → Shared → Prop} (S1 : Starts v1 o1 C1) (S2 : Starts v2 o2 C2) (f1 : o1.isFreed = false) (f2 : o2.isFreed = false) (h1 : C1 s.heap) (h2 : C2 (s.heap.push o1))
    (h : ∀ h', IsZip h' (s.heap.objs.size + 4) (s.heap.objs.size + 2) (s.heap.objs.size + 3) .none → IsPair h' (s.heap.objs.size + 2) (.ref s.heap.objs.size) (.ref (s.heap.objs.size + 1)) →
      IsPair h' (s.heap.objs.size + 3) .none .none → h'.get? s.heap.objs.size = some o1 → h'.get? (s.heap.objs.size + 1) = some o2 →
      (∀ c o, s.heap.get? c = some o → h'.get? c = some o) → Q (.ref (s.heap.objs.size + 4)) { s with heap := h' }) :
    wpAny (model prog w) A (call (.type "zip") [v1, v2]) Q E s := by
  refine callType_new F.called_zip (by decide) (F.typeCall_zip_2 _ _) (F.newCall_zip_2 _ _) (fun obj => F.args_object_init_3 obj _ _) F.entry_zip_new
    (meetsZip v1 v2 o1 o2 C1 C2 S1 S2) ⟨h1, h2, ?_⟩
  have z1 : (s.heap.push o1).objs.size = s.heap.objs.size + 1 := Heap.size_push ..
  have z2 : (zH2 s.heap o1 o2).objs.size = s.heap.objs.size + 2 := by rw [Heap.size_push, z1]
  have z3 : (zH3 s.heap o1 o2).objs.size = s.heap.objs.size + 3 := by rw [Heap.size_push, z2]
  have z4 : (zH4 s.heap o1 o2).objs.size = s.heap.objs.size + 4 := by rw [Heap.size_push, z3]
  have g5 : (zH5 s.heap o1 o2).get? (zH4 s.heap o1 o2).objs.size = some _ := Heap.get?_push_size _ rfl
  have g4 : (zH5 s.heap o1 o2).get? (zH3 s.heap o1 o2).objs.size = some _ := Heap.get?_push_of_some _ (Heap.get?_push_size _ rfl)
  have g3 : (zH5 s.heap o1 o2).get? (zH2 s.heap o1 o2).objs.size = some _ := Heap.get?_push_of_some _ (Heap.get?_push_of_some _ (Heap.get?_push_size _ rfl))
  have g2 : (zH5 s.heap o1 o2).get? (s.heap.push o1).objs.size = some _ := Heap.get?_push_of_some _ (Heap.get?_push_of_some _ (Heap.get?_push_of_some _ (Heap.get?_push_size _ f2)))
  have g1 : (zH5 s.heap o1 o2).get? s.heap.objs.size = some _ := Heap.get?_push_of_some _ (Heap.get?_push_of_some _ (Heap.get?_push_of_some _ (Heap.get?_push_of_some _ (Heap.get?_push_size _ f1))))
  show _ ∧ _
  rw [z2, z3, z4] at g5
  rw [z1, z2] at g3
  rw [z3] at g4
  rw [z1] at g2
  rw [z4]
  exact ⟨⟨_, g5, rfl⟩, h _ g5 g3 g4 g1 g2 fun c o x =>
    Heap.get?_push_of_some _ (Heap.get?_push_of_some _ (Heap.get?_push_of_some _ (Heap.get?_push_of_some _ (Heap.get?_push_of_some _ x))))⟩

variable {env : Env} {h₀ : Heap} {xi xc : Str} {body : List Stmt} {Q : Flow → Shared → Prop}
noncomputable def ZEnd (h₀ : Heap) (L : Addr) (xi xc : Str) (m₀ : Str → Option Value) (need : Led) (J : Prop) (s₁ s₂ : Shared) : Prop :=
  ∃ h' tk m', s₂ = { s₁ with heap := h', toks := tk } ∧ Fr h₀ L h' m' ∧ News h₀ L h' need ∧ (∀ z, z ≠ xi → z ≠ xc → m' z = m₀ z) ∧ J
noncomputable def ZTurn (h₀ : Heap) (L : Addr) (xi xc : Str) (m₀ : Str → Option Value) (need : Led) (J : Prop) (s₁ : Shared) (Q : Flow → Shared → Prop) (f : Flow) (s₂ : Shared) : Prop :=
  match f with
  | .ret v => Q (.ret v) s₂
  | .brk => Q .next s₂
  | _ => ZEnd h₀ L xi xc m₀ need J s₁ s₂
/-- for a, b in zip(t, u): two tuples of the ledger, a body that stores nothing -/
theorem zip_tt_for {l1 l2 : Addr} {xs ys : Array Value} {k1 k2 : Nat} {m₀ : Str → Option Value} {news : Led} (hh : A.handled = none) (F : Fr h₀ env.locals s.heap m₀) (N : News h₀ env.locals s.heap news)
    (hm1 : (l1, tupOf xs k1) ∈ news) (hm2 : (l2, tupOf ys k2) ∈ news) (J : Nat → Prop) (h0 : J 0)
    (turn : ∀ i x y (m₁ : Str → Option Value) h tk own, xs[i]? = some x → ys[i]? = some y → J i → (∀ z, z ≠ xi → z ≠ xc → m₁ z = m₀ z) → Fr h₀ env.locals h (fun z => if z = xc then some y else if z = xi then some x else m₁ z) → News h₀ env.locals h (own ++ news) →
      wpAny (model prog w) A (execs body env) (ZTurn h₀ env.locals xi xc m₀ (own ++ news) (J (i + 1)) { s with heap := h, toks := tk } Q) E { s with heap := h, toks := tk })
    (done : ∀ (m₁ : Str → Option Value) h tk, J (min xs.size ys.size) → (∀ z, z ≠ xi → z ≠ xc → m₁ z = m₀ z) → Fr h₀ env.locals h m₁ → News h₀ env.locals h news → Q .next { s with heap := h, toks := tk }) :
    wpAny (model prog w) A (call (.type "zip") [.ref l1, .ref l2]) (fun xv s₁ => wpAny (model prog w) A (pyIter xv) (fun it s₂ => PairAt3 prog w A h₀ env xi xc body Q E it s₂) E s₁) E s := by
  have t1 : s.heap.IsTuple l1 xs := ⟨_, (N _ hm1).1, rfl, _, rfl⟩
  have t2 : s.heap.IsTuple l2 ys := ⟨_, (N _ hm2).1, rfl, _, rfl⟩
  have q1 : l1 < s.heap.objs.size := Heap.lt_size (N _ hm1).1
  have q2 : l2 < s.heap.objs.size := Heap.lt_size (N _ hm2).1
  have hLs : env.locals < s.heap.objs.size := F.ns.lt
  have hab : h₀.objs.size ≤ env.locals := F.above
  refine call_zip_new (starts_tuple l1 xs) (starts_tuple l2 ys) rfl rfl t1 (t2.at fun o e => Heap.get?_push_of_some _ e) fun h' hz hTI hTO hi1 hi2 hk => ?_
  refine wpAny_pyIter_zip hz ?_
  have D := zapart_new s.heap.objs.size [l1] [l2] (fun b hb => (List.mem_singleton.mp hb) ▸ q1) (fun b hb => (List.mem_singleton.mp hb) ▸ q2)
  have D1 := drawsTuple (prog := prog) (w := w) (A := A.in1) hh s.heap.objs.size l1 (Nat.ne_of_lt q1) xs
  have D2 := drawsTuple (prog := prog) (w := w) (A := A.in1) hh (s.heap.objs.size + 1) l2 (Nat.ne_of_lt (Nat.lt_succ_of_lt q2)) ys
  have F' : Fr h₀ env.locals h' m₀ := F.keeps hk
  have N' : News h₀ env.locals h' news := fun p hp => ⟨hk _ _ (N p hp).1, (N p hp).2⟩
  have old : ∀ p ∈ news, @LT.lt Nat _ p.1 s.heap.objs.size := fun p hp => Heap.lt_size (N p hp).1
  refine exI11 _ _ _ _ _ _ _ (fun i x y => xs[i]? = some x ∧ ys[i]? = some y) m₀ news (fun i m nw => nw = news ∧ (∀ z, z ≠ xi → z ≠ xc → m z = m₀ z) ∧ J i) ⟨rfl, walksZip D D1 D2, ?_, ?_, ?_, ?_,
    ⟨hz, hTI, ⟨_, _, hTO⟩, ⟨⟨_, hi1, rfl, rfl⟩, t1.at fun o e => hk _ _ e⟩, ⟨⟨_, hi2, rfl, rfl⟩, t2.at fun o e => hk _ _ e⟩⟩, F', N', ⟨rfl, fun _ _ _ => rfl, h0⟩, ?_, ?_⟩
  · rintro i vals ⟨x, y, hx, hy, rfl⟩
    exact ⟨x, y, rfl, hx, hy⟩
  · intro hm
    simp only [List.mem_cons, List.not_mem_nil, or_false, List.mem_append] at hm
    have up : ∀ k, env.locals ≠ s.heap.objs.size + k := fun k e => Nat.ne_of_lt (Nat.lt_of_lt_of_le hLs (Nat.le_add_right _ k)) e
    rcases hm with e | e | e | (e | e) | (e | e)
    · exact up 4 e
    · exact up 2 e
    · exact up 3 e
    · exact up 0 e
    · exact (N _ hm1).2.1 e.symm
    · exact up 1 e
    · exact (N _ hm2).2.1 e.symm
  · intro b hb
    simp only [List.mem_cons, List.not_mem_nil, or_false] at hb
    have nw : ∀ k, h₀.get? (s.heap.objs.size + k) = none := fun k => Heap.get?_none_of_le (Nat.le_trans hab (Nat.le_trans (Nat.le_of_lt hLs) (Nat.le_add_right _ k)))
    rcases hb with rfl | rfl | rfl | rfl
    · exact nw 4
    · exact nw 3
    · exact nw 0
    · exact nw 1
  · intro p hp hm
    have hq1 := old p hp
    simp only [List.mem_cons, List.not_mem_nil, or_false] at hm
    have dn : ∀ k, p.1 ≠ s.heap.objs.size + k := fun k e => Nat.ne_of_lt (Nat.lt_of_lt_of_le hq1 (Nat.le_add_right _ k)) e
    rcases hm with e | e | e | e
    · exact dn 4 e
    · exact dn 3 e
    · exact dn 0 e
    · exact dn 1 e
  · rintro i x y m₁ nw s₁ own ⟨hh', tk', rfl⟩ _ ⟨hx, hy⟩ ⟨rfl, hm, hJ⟩ _ _ F₁ N₁
    refine wpAny_mono (turn i x y m₁ hh' tk' own hx hy hJ hm F₁ N₁) (fun f s₂ p => ?_) fun _ _ e => e
    have fin : ZEnd h₀ env.locals xi xc m₀ (own ++ nw) (J (i + 1)) { s with heap := hh', toks := tk' } s₂ → LoopStep2 h₀ env.locals own nw (fun m nw' => nw' = nw ∧ (∀ z, z ≠ xi → z ≠ xc → m z = m₀ z) ∧ J (i + 1)) { s with heap := hh', toks := tk' } .next s₂ := by
      rintro ⟨h2, tk2, m2, rfl, F2, N2, hm2', hJ2⟩
      exact ⟨rfl, h2, tk2, m2, nw, rfl, F2, N2, rfl, rfl, hm2', hJ2⟩
    cases f with
    | ret v => exact p
    | brk => exact p
    | next => exact fin p
    | cont => exact fin p
  · rintro h2 tk2 m2 nw2 F2 N2 _ ⟨rfl, hm, hJ⟩
    exact done m2 h2 tk2 hJ hm F2 N2
end
/-- a pure call over a ledger of which P is known -/
noncomputable def PureP (w : World) (k : Nat) (f : Addr) (vs : List Value) (P : Led → Prop) (R : Tok → Value) : Prop :=
  ∀ (p : Program) (loose : List Str) (mean : ExcName → Option Value) (mg mb : Str → Option Value)
    (dp un : Nat) (gd : Option (List Code)) (cn : Str) (cs : Scope) (a : Addr) (ccd : Value) (cl : List (Str × Addr)) (outer : List Env) (A₀ : Around) (base h₀ : Heap) (L : Addr) (m : Str → Option Value) (news : List (Addr × Obj)) (s : Shared)
    (Q E : Value → Shared → Prop),
    Below A₀ base outer h₀ → Fr h₀ L s.heap m → Frag.In (Mine.hd.heap_39 w.params) h₀ → News h₀ L s.heap news → Top p loose mean mg mb h₀ → cs.kind = .function → dp + k < recursionLimit → un + 8 * k < cLine → P news →
    (∀ (t : Tok) (h' : Heap) (tk' : Nat), Fr h₀ L h' m → News h₀ L h' news → Q (R t) { s with heap := h', toks := tk' }) →
    wpAny (model PySem.Challenge.rw_np0024_01.row.prog w) (ktrTop dp un gd cn cs L a ccd cl outer) (call (.ref f) vs) Q E s
theorem PureP.use {w : World} {k : Nat} {f : Addr} {vs : List Value} {P : Led → Prop} {R : Tok → Value} (C : PureP w k f vs P R)
    {p : Program} {loose : List Str} {mean : ExcName → Option Value} {mg mb : Str → Option Value}
    {dp un : Nat} {gd : Option (List Code)} {cn : Str} {cs : Scope} {a : Addr} {ccd : Value} {cl : List (Str × Addr)} {outer : List Env} {A₀ : Around} {base h₀ : Heap} {L : Addr} {m : Str → Option Value} {news : List (Addr × Obj)} {s : Shared}
    {Q E : Value → Shared → Prop}
    (B : Below A₀ base outer h₀) (F : Fr h₀ L s.heap m) (X : Frag.In (Mine.hd.heap_39 w.params) h₀) (N : News h₀ L s.heap news) (T : Top p loose mean mg mb h₀) (hk : cs.kind = .function) (hd : dp + k < recursionLimit) (hu : un + 8 * k < cLine) (hP : P news)
    (ret : ∀ (t : Tok) (h' : Heap) (tk' : Nat), Fr h₀ L h' m → News h₀ L h' news → Q (R t) { s with heap := h', toks := tk' }) :
    wpAny (model PySem.Challenge.rw_np0024_01.row.prog w) (ktrTop dp un gd cn cs L a ccd cl outer) (call (.ref f) vs) Q E s :=
  C p loose mean mg mb dp un gd cn cs a ccd cl outer A₀ base h₀ L m news s Q E B F X N T hk hd hu hP ret
noncomputable def okPair (a b : Ev) : Bool := !(escE a && signE b && !metaE b)
theorem slice_tup1 {prog : Program} {w : World} {A : Around} {E : Value → Shared → Prop} {s : Shared} {h₀ : Heap} {L : Addr} {m : Str → Option Value} {news : Led} {value slice : Expr} {t : Addr} {vs : List Value} {k : Nat} {u : Tok} {Q : Value → Shared → Prop}
    (F : Fr h₀ L s.heap m) (N : News h₀ L s.heap news) (hm : (t, tupOf vs.toArray k) ∈ news) (h1 : 1 ≤ vs.length) (h2 : vs.length ≤ 100000)
    (h : ∀ D h', Fr h₀ L h' m → News h₀ L h' ((D, tupOf (vs.drop 1).toArray 0) :: news) → Q (.ref D) { s with heap := h' })
    (hs : subscripted slice false (.ref t) (.ref s.heap.objs.size) = operate [.ref s.heap.objs.size, .ref t] (getItem (.ref t) (.ref s.heap.objs.size)))
    (hg : ∀ r, letTemporaryGo value (.ref t) r = pure ()) :
    wpAny (model prog w) A (subscriptTail value slice (.ref t) (.ref s.heap.objs.size)) Q E { s with heap := s.heap.push { cls := .type "slice", data := .fields #[.int 1 u, .none, .none] } } :=
  slice_tuple_from (a := 1) F N ⟨_, (N _ hm).1, rfl, _, rfl⟩ (Nat.le_refl _) (by rw [List.size_toArray]; exact h1) (fun h' F' N' => h _ h' F' N') hs hg (by rw [List.size_toArray, sizeLine_eq]; omega)
theorem zip_stop {prog : Program} {w : World} {A : Around} {E : Value → Shared → Prop} {s : Shared} {v : Value} {vs : List Value} {Q : Value → Shared → Prop} (h : Stop (wpAny (model prog w) A (call v vs) Q E s)) : wpAny (model prog w) A (call v vs) Q E s := h
theorem is_joined (w : World) (kk : Addr) (vs : List Value) (k0 : Nat) (es : List Ev) (hes : EvsAre vs es) (h1 : 1 ≤ es.length) (hlen : es.length ≤ 3000) (hok : ∀ i a b, es[i]? = some a → es[i + 1]? = some b → okPair a b = true) :
    PureP w 4 194 [.ref kk] (fun news => (kk, tupOf vs.toArray k0) ∈ news) (fun _ => .bool true) := by
  k_with_none
  k_with "mine ktr_room" => (first | exact room0 hd | exact roomD hd rfl)
  k_with "mine ktr_units" => (exact roomU hu rfl)
  k_with "mine mine:use" => (
  (case k1 => k_asm)
  (case k2 => k_asm)
  (case k3 => k_asm)
  (case k4 => k_asm)
  (case k5 => k_asm)
  (case kK => first | exact rfl | assumption)
  (case kd => ktr_room)
  (case ku => ktr_units)
  intro _ _ _ _ _
  (try dsimp only)
  (try k_fold))
  k_with "mine exec While" => (k_here; refine while_stop ?_)
  k_with "mine pyIter str" => (k_here; refine iter_stop ?_)
  k_with "mine pyIter ref" => (k_here; refine iter_stop ?_)
  k_with "mine exec For Name Name cons nil" => (k_here; (with_unfolding_all refine' For_invVF ‹Fr _ _ _ _› ?k1 ?k2 ?_; (case k1 => exact rfl); (case k2 => exact rfl); k_whole))
  k_with "mine TurnN" => (dsimp only [TurnN])
  k_with "mine WPost" => (dsimp only [WPost])
  k_with "mine binaryOp Add str str" => ((with_reducible show wpAny _ _ (binaryOp Operator.Add (Value.str (SL _) _) (Value.str (SL _) _)) _ _ _); refine add_SL (by (try simp only [List.length_append, pre_len, List.length_cons, List.length_nil]); omega) ?_; intro _ _; (try dsimp only))
  k_with "mine call builtin:len" => ((with_reducible show wpAny _ _ (call _ [Value.str (SL _) _]) _ _ _); refine len_SL (by (try simp only [List.length_append, pre_len, List.length_cons, List.length_nil]); omega) ?_; (try simp only [List.length_cons, List.length_nil]))
  k_with "mine subscriptTail" => ((with_reducible show wpAny _ _ (subscriptTail _ _ (Value.str (SL (_ :: _)) _) (Value.int 0 _)) _ _ _); refine item_SL (j := 0) (by (try simp only [List.length_append, pre_len, List.length_cons, List.length_nil]); omega) rfl rfl ?_ (by with_unfolding_all rfl) (by intro _; with_unfolding_all rfl))
  k_with "mine subscriptTail" => ((with_reducible show wpAny _ _ (subscriptTail _ _ (Value.str (SL (_ :: _ :: _)) _) (Value.int 1 _)) _ _ _); refine item_SL (j := 1) (by (try simp only [List.length_append, pre_len, List.length_cons, List.length_nil]); omega) rfl rfl ?_ (by with_unfolding_all rfl) (by intro _; with_unfolding_all rfl))
  k_with "mine k_upd" => first | exact Upd.head (by assumption) | exact Upd.tail (Ne.symm (by assumption)) (Upd.head (by assumption)) | exact Upd.tail (by assumption) (Upd.head (by assumption))
  k_with "mine k_updF" => exact UpdF.head (by assumption)
  k_with "mine k_mem" => assumption
  k_with "mine k_all" => assumption
  k_with "mine subscriptTail Name Slice ref ref" => (k_here; k_dflt (refine' slice_tup1 (s := ⟨_, _, _, _, _⟩) ?k1 ?k2 ?k3 ?k4 ?k5 ?_ ?k6 ?k7; (case k1 => k_asm); (case k2 => k_asm); (case k3 => first | assumption | k_mem); (case k4 => omega); (case k5 => omega); (case k6 => with_unfolding_all rfl); (case k7 => (intro _; with_unfolding_all rfl))); intro _ _ _ _; (try dsimp only); (try k_sweep))
  k_with "mine call type:zip" => (k_here; refine zip_stop ?_)
  k_with "mine call ref" => (k_here; (with_reducible show wpAny _ _ (call (Value.ref 135) [Value.int _ _]) _ _ _); k_dflt (refine' Pure.use (has_meta_int _ _ _) ?k1 ?k2 ?k3 ?k4 ?k5 ?kK ?kd ?ku ?_; walk_at "mine:use"))
  k_with "mine call ref" => (k_here; (with_reducible show wpAny _ _ (call (Value.ref 135) [Value.str _ _]) _ _ _); k_dflt (refine' Pure.use (has_meta_str _ _ _) ?k1 ?k2 ?k3 ?k4 ?k5 ?kK ?kd ?ku ?_; walk_at "mine:use"))
  k_with "mine call ref" => (k_here; (with_reducible show wpAny _ _ (call (Value.ref 22) [Value.int _ _]) _ _ _); k_dflt (refine' Pure.use (is_sign_int _ _ _) ?k1 ?k2 ?k3 ?k4 ?k5 ?kK ?kd ?ku ?_; walk_at "mine:use"))
  k_with "mine call ref" => (k_here; (with_reducible show wpAny _ _ (call (Value.ref 22) [Value.str _ _]) _ _ _); k_dflt (refine' Pure.use (is_sign_str _ _ _) ?k1 ?k2 ?k3 ?k4 ?k5 ?kK ?kd ?ku ?_; walk_at "mine:use"))
  unfold PureP; k_fill; intro p loose mean mg mb dp un gd cn cs a ccd cl outer A₀ base h₀ L m news s Q E B F X N T hk hd hu hP hret; refine wpAny_call ?_
  k_dflt ktr_enter
  have hvl := hes.len
  k_steps
  refine zip_tt_for (xs := vs.toArray) (ys := (vs.drop 1).toArray) (by rfl) (by k_asm) (by k_asm) (.tail _ hP) (.head _) (fun _ => True) trivial ?_ ?_
  · intro i x y m₁ h tk own hx hy _ hm F₁ N₁
    have hx' : vs[i]? = some x := by simpa using hx
    have hy' : vs[i + 1]? = some y := by
      have : (vs.drop 1)[i]? = some y := by simpa using hy
      rw [List.getElem?_drop, Nat.add_comm] at this; exact this
    obtain ⟨a', ha, hva⟩ := hes.get hx'
    obtain ⟨b', hb, hvb⟩ := hes.get hy'
    have hp := hok i a' b' ha hb
    cases hva with
    | i n t =>
      cases hvb with
      | i n' t' =>
        k_steps
        · exact ⟨_, _, _, rfl, by k_asm, by k_asm, fun z h1 h2 => (if_neg h2).trans ((if_neg h1).trans (hm z h1 h2)), trivial⟩
        · exfalso
          rename n = 27 => hn
          rename hasMeta n' = false => hm'
          rw [okPair, escE, signE, metaE, hm', hn] at hp
          exact absurd hp (by decide)
        · exact ⟨_, _, _, rfl, by k_asm, by k_asm, fun z h1 h2 => (if_neg h2).trans ((if_neg h1).trans (hm z h1 h2)), trivial⟩
      | s l' t' =>
        k_steps
        all_goals exact ⟨_, _, _, rfl, by k_asm, by k_asm, fun z h1 h2 => (if_neg h2).trans ((if_neg h1).trans (hm z h1 h2)), trivial⟩
    | s l t =>
      k_steps
      all_goals exact ⟨_, _, _, rfl, by k_asm, by k_asm, fun z h1 h2 => (if_neg h2).trans ((if_neg h1).trans (hm z h1 h2)), trivial⟩
  · intro m₁ h tk _ hm F₁ N₁
    k_steps
    exact hret 0 _ _ (by k_asm) (by refine' cb_drop ?cbN ?cbS; (case cbN => assumption); (case cbS => exact fun _ hp => .tail _ hp))
open LCg
section
variable {prog : Program} {w : World} {A : Around} {E : Value → Shared → Prop} {h₀ : Heap} {L : Addr} {m : Str → Option Value} {env : Env}
/-- a comprehension over pairs whose test and element leave the heap -/
theorem block_Z {ct elt iter : Expr} {xa xb : Str} {pa pb tp : Pos} {kk : Nat} {scope : Scope} {cl : List (Str × Addr)} {pos : Pos} {s₂ : Shared} {I : Addr} {fp wr : List Addr} {n : Nat} {Pt : Nat → Array Value → Prop} {St : Nat → Heap → Prop} {Mid : Nat → Addr → Heap → Prop} {P2 : Nat → Value → Value → Prop} {news : Led}
    {RR : Value → Addr → Result → Shared → Prop} (J : Nat → List Value → Prop)
    (W : WalksT prog w A I fp wr n Pt St Mid) (h2 : ∀ i vals, Pt i vals → ∃ v0 v1, vals = #[v0, v1] ∧ P2 i v0 v1) (hh : A.handled = none) (hsz : n ≤ sizeLine)
    (hcell : ∀ y ∈ scope.names, y.2 ≠ .cell) (hkind : scope.kind = .function) (hxa : scope.names.lookup xa = some .local) (hxb : scope.names.lookup xb = some .local) (hab : xa ≠ xb)
    (hst : St 0 s₂.heap) (hfp : ∀ b ∈ fp, b < s₂.heap.objs.size) (F : Fr h₀ L s₂.heap m) (N : News h₀ L s₂.heap news) (hLw : L ∉ wr) (hwr : ∀ b ∈ wr, h₀.get? b = none) (hnw : ∀ p ∈ news, p.1 ∉ wr) (h0 : J 0 [])
    (turn : ∀ i v0 v1 ys C oC m₂ h tk (E' : Value → Shared → Prop), i < n → P2 i v0 v1 → J i ys → NsObj oC m₂ → m₂ xa = some v0 → m₂ xb = some v1 → Fr h₀ L h m → News h₀ L h ((C, oC) :: news) →
      wpAny (model prog w) A (isTrue ct (compEnvC scope cl C env) (eval ct (compEnvC scope cl C env))) (fun ok s' => (∃ tk', s' = { s₂ with heap := h, toks := tk' }) ∧ if ok = true then
        wpAny (model prog w) A (eval elt (compEnvC scope cl C env)) (fun y s'' => (∃ tk', s'' = { s₂ with heap := h, toks := tk' }) ∧ J (i + 1) (ys ++ [y])) E' s' else J (i + 1) ys) E' { s₂ with heap := h, toks := tk })
    (hRR : ∀ D C h tk m' ys, Fr h₀ L h m → News h₀ L h ((D, lst ys) :: news) → (∀ p ∈ news, p.1 ≠ D) → h.Ns C m' → h₀.get? C = none → C ≠ L → C ≠ D → (∀ p ∈ news, p.1 ≠ C) → J n ys → RR (.ref D) C (.ok .next) { s₂ with heap := h, toks := tk }) :
    wpAny (model prog w) A (newList []) (fun acc s₃ => wpAny (model prog w) A (newFunctionEnv scope env.globals cl [] env.qual none .none (some env)) (fun cenv s₄ =>
      codeAny (model prog w) A (.compStart (.ListComp elt [⟨.Tuple [.Name xa pa, .Name xb pb] kk tp, iter, [ct], 0⟩] scope pos) 0 (.ref I) acc { cenv with scope := relabel scope env }) (RR acc cenv.locals) s₄) E s₃) E s₂ := by
  refine wpAny_newObj_type (wpAny_newFunctionEnv hcell (by intro y hy; simp at hy) (fun h₁ hns₁ hsb₁ => ?_) hkind)
  dsimp only at hns₁ hsb₁ ⊢
  generalize hH2 : s₂.heap.push { cls := .type "list", dict := none, data := .seq ([] : List Value).toArray } = H2 at hns₁ hsb₁ ⊢
  have hC : H2.objs.size = s₂.heap.objs.size + 1 := by rw [← hH2, Heap.size_push]
  have hDC : s₂.heap.objs.size ≠ H2.objs.size := by rw [hC]; exact Nat.ne_of_lt (Nat.lt_succ_self _)
  have below : ∀ b, b < s₂.heap.objs.size → b ≠ H2.objs.size ∧ b ≠ s₂.heap.objs.size := fun b hb => ⟨by rw [hC]; exact Nat.ne_of_lt (Nat.lt_succ_of_lt hb), Nat.ne_of_lt hb⟩
  have hDf : s₂.heap.objs.size ∉ fp := fun hm => Nat.lt_irrefl _ (hfp _ hm)
  have hCf : H2.objs.size ∉ fp := fun hm => by have := hfp _ hm; rw [hC] at this; exact Nat.lt_irrefl _ (Nat.lt_of_succ_lt this)
  have hDw : s₂.heap.objs.size ∉ wr := fun hm => hDf (W.sub _ hm)
  have hCw : H2.objs.size ∉ wr := fun hm => hCf (W.sub _ hm)
  have old : ∀ b o, s₂.heap.get? b = some o → h₁.get? b = some o := fun b o e => hsb₁.extBut b o (below b (Heap.lt_size e)).1 (Heap.get?_push_of_some _ (hH2 ▸ Heap.get?_push_of_some _ e))
  have hacc : h₁.get? s₂.heap.objs.size = some (lst []) := hsb₁.extBut _ _ hDC (Heap.get?_push_of_some _ (hH2 ▸ Heap.get?_push_size _ rfl))
  have hst₁ : St 0 h₁ := W.frame _ _ _ hst fun b _ o e => old b o e
  have fresh : ∀ a, s₂.heap.objs.size ≤ a → s₂.heap.get? a = none := fun a ha => by
    cases e : s₂.heap.get? a with
    | none => rfl
    | some o' => exact absurd (Heap.lt_size e) (Nat.not_lt.mpr ha)
  have fresh₀ : ∀ a, s₂.heap.objs.size ≤ a → h₀.get? a = none := fun a ha => by
    cases e : h₀.get? a with
    | none => rfl
    | some o' => have := F.keep a o' e; rw [fresh a ha] at this; cases this
  have hD₀ : h₀.get? s₂.heap.objs.size = none := fresh₀ _ (Nat.le_refl _)
  have hC₀ : h₀.get? H2.objs.size = none := fresh₀ _ (by rw [hC]; exact Nat.le_succ _)
  have hLlt : L < s₂.heap.objs.size := F.ns.lt
  have hDL : s₂.heap.objs.size ≠ L := Ne.symm (below L hLlt).2
  have hCL : H2.objs.size ≠ L := Ne.symm (below L hLlt).1
  have offD : ∀ p ∈ news, p.1 ≠ s₂.heap.objs.size := fun p hp => (below _ (Heap.lt_size (N p hp).1)).2
  have offC : ∀ p ∈ news, p.1 ≠ H2.objs.size := fun p hp => (below _ (Heap.lt_size (N p hp).1)).1
  have step : ∀ (h h' : Heap), (∀ b o, b ∉ wr → h.get? b = some o → h'.get? b = some o) → Fr h₀ L h m → News h₀ L h news → Fr h₀ L h' m ∧ News h₀ L h' news := fun h h' hk F₁ N₁ =>
    ⟨⟨F₁.ns.at' fun o e => hk L o hLw e, fun b o e => hk b o (fun hm => by rw [hwr b hm] at e; cases e) (F₁.keep b o e), F₁.above⟩, fun p hp => ⟨hk _ _ (hnw p hp) (N₁ p hp).1, (N₁ p hp).2⟩⟩
  have loop : ∀ s₃ : Shared, s₃ = { s₂ with heap := h₁, toks := s₂.toks + ([] : List (Str × Value)).length } →
      codeAny (model prog w) A (.compLoop (.ListComp elt [⟨.Tuple [.Name xa pa, .Name xb pb] kk tp, iter, [ct], 0⟩] scope pos) 0 (.ref I) (.ref s₂.heap.objs.size) (compEnvC scope cl H2.objs.size env))
        (RR (.ref s₂.heap.objs.size) H2.objs.size) s₃ := by
    rintro s₃ rfl
    refine kct_loop
      (fun k s' => ∃ h' tk i ys m', s' = { s₂ with heap := h', toks := tk } ∧ i ≤ n ∧ k = n + 1 - i ∧ ys.length ≤ i ∧ St i h' ∧ Fr h₀ L h' m ∧ h'.Ns H2.objs.size m' ∧ h'.get? s₂.heap.objs.size = some (lst ys) ∧ News h₀ L h' news ∧ J i ys) ?_ (n + 1)
      (exI5 h₁ _ 0 [] _ ⟨rfl, Nat.zero_le _, rfl, Nat.le_refl _, hst₁, F.keeps old, hns₁, hacc, fun p hp => ⟨old _ _ (N p hp).1, (N p hp).2⟩, h0⟩)
    rintro k s' ⟨h', tk, i, ys, m', rfl, hi, rfl, hyl, hst', F', hn', hD', N', hJ⟩
    by_cases hlt : i < n
    · refine W.item i _ _ _ hlt hst' fun T vals h₂ tk₂ hPt _ hT hMid hk₂ => ?_
      obtain ⟨v0, v1, rfl, hP2⟩ := h2 i vals hPt
      refine W.go _ kk tp i T _ _ _ hMid fun h₃ hst₃ hk₃ => ?_
      have ht₃ : h₃.IsTuple T #[v0, v1] := hT.at fun o e => hk₃ T o (W.apart i T h₂ hMid) e
      refine wpAny_assign_Tuple hh ht₃ rfl rfl fun h₄ hx₄ => ?_
      replace hx₄ : Heap.ExtBut h₃.objs.size h₃ h₄ := hx₄
      have up₄ : ∀ b o, b ∉ wr → h'.get? b = some o → h₄.get? b = some o := fun b o hb x => hx₄ b o (Nat.ne_of_lt (Heap.lt_size (hk₃ b o hb (hk₂ b o hb x)))) (hk₃ b o hb (hk₂ b o hb x))
      have up₃₄ : ∀ b o, h₃.get? b = some o → h₄.get? b = some o := fun b o x => hx₄ b o (Nat.ne_of_lt (Heap.lt_size x)) x
      obtain ⟨F₄, N₄⟩ := step h' h₄ up₄ F' N'
      show wpAny _ A (do holding [v1] (assign (.Name xa pa) (compEnvC scope cl H2.objs.size env) v0); do holding [] (assign (.Name xb pb) (compEnvC scope cl H2.objs.size env) v1); pure ()) _ _ _
      refine wpAny_bind (wpAny_holding (wpAny_assign_Name (wpAny_storeName_local (lookup_relabel_local hxa) (hn'.at' fun o e => up₄ _ o hCw e) (fun h₅ hn₅ hs₅ => ?_) (by simp [compEnvC, relabel, hkind]))))
      refine wpAny_bind (wpAny_holding (wpAny_assign_Name (wpAny_storeName_local (lookup_relabel_local hxb) hn₅ (fun h₆ hn₆ hs₆ => wpAny_pure ?_) (by simp [compEnvC, relabel, hkind]))))
      replace hs₅ : Heap.SameBut H2.objs.size h₄ h₅ := hs₅
      replace hs₆ : Heap.SameBut H2.objs.size h₅ h₆ := hs₆
      have up₆ : ∀ b o, b ≠ H2.objs.size → h₄.get? b = some o → h₆.get? b = some o := fun b o hb e => hs₆.extBut b o hb (hs₅.extBut b o hb e)
      have F₆ : Fr h₀ L h₆ m := (F₄.change hs₅ hCL hC₀).change hs₆ hCL hC₀
      have N₆ : News h₀ L h₆ news := fun p hp => ⟨up₆ _ _ (offC p hp) (N₄ p hp).1, (N₄ p hp).2⟩
      have hst₆ : St (i + 1) h₆ := W.frame _ _ _ hst₃ fun b hb o e => up₆ b o (fun q => hCf (q ▸ hb)) (up₃₄ b o e)
      have hD₆ : h₆.get? s₂.heap.objs.size = some (lst ys) := up₆ _ _ hDC (up₄ _ _ hDw hD')
      obtain ⟨oC, heC, hoC⟩ := ns_obj hn₆
      refine wpAny_mono (turn i v0 v1 ys H2.objs.size oC _ h₆ _ _ hlt hP2 hJ hoC (by simp [hab]) (by simp) F₆ fun p hp => ?_) (fun ok s₇ h₇ => ?_) fun _ _ e => e
      · rcases List.mem_cons.mp hp with rfl | hp
        · exact ⟨heC, hCL, hC₀⟩
        · exact N₆ p hp
      obtain ⟨⟨tk₇, rfl⟩, h₇⟩ := h₇
      cases ok with
      | true =>
        simp only [if_true] at h₇ ⊢
        refine wpAny_mono h₇ (fun y s₈ h₈ => ?_) fun _ _ e => e
        obtain ⟨⟨tk₈, rfl⟩, hJ'⟩ := h₈
        refine append_at (hsz := by show ys.toArray.size ≤ sizeLine; rw [List.size_toArray]; exact Nat.le_trans (Nat.le_trans hyl hi) hsz) hD₆ fun h₉ hs₉ hD₉ => ?_
        refine ⟨n + 1 - (i + 1), by omega, exI5 h₉ tk₈ (i + 1) (ys ++ [y]) _ ⟨rfl, hlt, rfl, by rw [List.length_append, List.length_singleton]; exact Nat.succ_le_succ hyl, W.frame _ _ _ hst₆ fun b hb o e => hs₉.extBut b o (fun q => hDf (q ▸ hb)) e, F₆.change hs₉ hDL hD₀, hn₆.sameBut hs₉ (Ne.symm hDC), hD₉.trans (congrArg some (lst_snoc ys y)), fun p hp => ⟨hs₉.extBut _ _ (offD p hp) (N₆ p hp).1, (N₆ p hp).2⟩, hJ'⟩⟩
      | false =>
        simp only [Bool.false_eq_true, if_false] at h₇ ⊢
        exact ⟨n + 1 - (i + 1), by omega, exI5 h₆ tk₇ (i + 1) ys _ ⟨rfl, hlt, rfl, Nat.le_succ_of_le hyl, hst₆, F₆, hn₆, hD₆, N₆, h₇⟩⟩
    · obtain rfl : i = n := Nat.le_antisymm hi (Nat.not_lt.mp hlt)
      refine W.done _ _ _ hst' fun h₂ tk₂ hk₂ => ?_
      obtain ⟨F₂, N₂⟩ := step h' h₂ hk₂ F' N'
      refine hRR _ _ h₂ tk₂ _ ys F₂ (fun p hp => ?_) offD (hn'.at' fun o e => hk₂ _ o hCw e) hC₀ hCL (Ne.symm hDC) offC hJ
      rcases List.mem_cons.mp hp with rfl | hp
      · exact ⟨hk₂ _ _ hDw hD', hDL, hD₀⟩
      · exact N₂ p hp
  exact codeAny_compStart_list (loop _ rfl) (W.self 0 _ _ _ hst₁ (loop _ rfl))

/-- the turns of such a comprehension -/
noncomputable def ZTurns (prog : Program) (w : World) (A : Around) (h₀ : Heap) (L : Addr) (m : Str → Option Value) (env : Env) (ct elt : Expr) (xa xb : Str) (scope : Scope) (cl : List (Str × Addr)) (news : Led) (n : Nat) (P2 : Nat → Value → Value → Prop) (J : Nat → List Value → Prop) (s₂ : Shared) : Prop :=
  ∀ i v0 v1 ys C oC m₂ h tk (E' : Value → Shared → Prop), i < n → P2 i v0 v1 → J i ys → NsObj oC m₂ → m₂ xa = some v0 → m₂ xb = some v1 → Fr h₀ L h m → News h₀ L h ((C, oC) :: news) →
      wpAny (model prog w) A (isTrue ct (compEnvC scope cl C env) (eval ct (compEnvC scope cl C env))) (fun ok s' => (∃ tk', s' = { s₂ with heap := h, toks := tk' }) ∧ if ok = true then
        wpAny (model prog w) A (eval elt (compEnvC scope cl C env)) (fun y s'' => (∃ tk', s'' = { s₂ with heap := h, toks := tk' }) ∧ J (i + 1) (ys ++ [y])) E' s' else J (i + 1) ys) E' { s₂ with heap := h, toks := tk }
noncomputable def SrcZ (prog : Program) (w : World) (A : Around) (h₀ : Heap) (L : Addr) (m : Str → Option Value) (env : Env) (ct elt : Expr) (xa xb : Str) (scope : Scope) (cl : List (Str × Addr)) (Q : Value → Shared → Prop) (xv : Value) (s₁ : Shared) : Prop :=
  ∃ (I : Addr) (fp wr : List Addr) (n : Nat) (Pt : Nat → Array Value → Prop) (St : Nat → Heap → Prop) (Mid : Nat → Addr → Heap → Prop) (P2 : Nat → Value → Value → Prop) (news : Led) (J : Nat → List Value → Prop),
    xv = .ref I ∧ WalksT prog w A I fp wr n Pt St Mid ∧ (∀ i vals, Pt i vals → ∃ v0 v1, vals = #[v0, v1] ∧ P2 i v0 v1) ∧ A.handled = none ∧ n ≤ sizeLine ∧ St 0 s₁.heap ∧ (∀ b ∈ fp, b < s₁.heap.objs.size) ∧ Fr h₀ L s₁.heap m ∧ News h₀ L s₁.heap news ∧ L ∉ wr ∧ (∀ b ∈ wr, h₀.get? b = none) ∧ (∀ p ∈ news, p.1 ∉ wr) ∧ J 0 [] ∧
    ZTurns prog w A h₀ L m env ct elt xa xb scope cl news n P2 J s₁ ∧
    ∀ D h tk ys, Fr h₀ L h m → News h₀ L h ((D, lst ys) :: news) → J n ys → Q (.ref D) { s₁ with heap := h, toks := tk }
theorem ListComp_Z {s : Shared} {ct elt iter : Expr} {xa xb : Str} {pa pb tp : Pos} {kk : Nat} {scope : Scope} {cl : List (Str × Addr)} {pos : Pos} {Q : Value → Shared → Prop} (_F₀ : Fr h₀ L s.heap m)
    (hclos : closureFor scope env = pure cl) (hcell : ∀ y ∈ scope.names, y.2 ≠ .cell) (hkind : scope.kind = .function)
    (hnames : ∀ y ∈ scope.names, y.2 = .local → scope.names.lookup y.1 = some .local) (hxa : scope.names.lookup xa = some .local) (hxb : scope.names.lookup xb = some .local) (hab : xa ≠ xb)
    (h : wpAny (model prog w) A (eval iter env) (SrcZ prog w A h₀ L m env ct elt xa xb scope cl Q) E s)
    (hs : ∀ x, foldedSetIterable iter env x = pure x := by intro _; rfl) :
    wpAny (model prog w) A (eval (.ListComp elt [⟨.Tuple [.Name xa pa, .Name xb pb] kk tp, iter, [ct], 0⟩] scope pos) env) Q E s := by
  rw [eval_ListComp]
  refine wpAny_comprehension_free (use := none) rfl hs hclos hkind hnames (wpAny_mono h (fun xv s₁ h₁ => ?_) fun _ _ e => e)
  obtain ⟨I, fp, wr, n, Pt, St, Mid, P2, news, J, rfl, W, h2, hh, hsz, hst, hfp, F, N, hLw, hwr, hnw, h0, turn, fin⟩ := h₁
  refine W.self 0 _ _ _ hst (block_Z J W h2 hh hsz hcell hkind hxa hxb hab hst hfp F N hLw hwr hnw h0 turn ?_)
  intro D C h' tk m' ys F' N' offD hn hC₀ hCL hCD offC hJ
  refine ⟨m', hn, fun h'' hs'' => fin D h'' tk ys (F'.change hs'' hCL hC₀) (fun p hp => ?_) hJ⟩
  refine ⟨hs''.extBut _ _ ?_ (N' p hp).1, (N' p hp).2⟩
  rcases List.mem_cons.mp hp with rfl | hp
  · exact Ne.symm hCD
  · exact offC p hp

/-- .. for letter, bit in zip(text, a tuple of the top) .. -/
theorem zip_st_src {s : Shared} {ct elt : Expr} {xa xb : Str} {scope : Scope} {cl : List (Str × Addr)} {Q : Value → Shared → Prop} {x : Str} {t : Tok} {l2 : Addr} {ys2 : Array Value} {news : Led} (J : Nat → List Value → Prop)
    (hh : A.handled = none) (hx : x.cps.all (· < 128) = true) (hsz : min x.cps.size ys2.size ≤ sizeLine) (F : Fr h₀ L s.heap m) (N : News h₀ L s.heap news) (ht : h₀.IsTuple l2 ys2) (h0 : J 0 [])
    (turn : ZTurns prog w A h₀ L m env ct elt xa xb scope cl news (min x.cps.size ys2.size) (fun i v0 v1 => (∃ c u, x.cps[i]? = some c ∧ v0 = .str ⟨#[c]⟩ u) ∧ ys2[i]? = some v1) J s)
    (fin : ∀ D h tk ys, Fr h₀ L h m → News h₀ L h ((D, lst ys) :: news) → J (min x.cps.size ys2.size) ys → Q (.ref D) { s with heap := h, toks := tk }) :
    wpAny (model prog w) A (call (.type "zip") [.str x t, .ref l2]) (SrcZ prog w A h₀ L m env ct elt xa xb scope cl Q) E s := by
  have t2 : s.heap.IsTuple l2 ys2 := ht.at fun o e => F.keep _ o e
  obtain ⟨o2, ho2, _⟩ := id ht
  have q2 : l2 < s.heap.objs.size := Heap.lt_size (F.keep _ _ ho2)
  have hLs : L < s.heap.objs.size := F.ns.lt
  have hab : h₀.objs.size ≤ L := F.above
  refine call_zip_new (starts_ascii x t hx) (starts_tuple l2 ys2) rfl rfl trivial (t2.at fun o e => Heap.get?_push_of_some _ e) fun h' hz hTI hTO hi1 hi2 hk => ?_
  have D := zapart_new s.heap.objs.size [] [l2] (fun b hb => nomatch hb) (fun b hb => (List.mem_singleton.mp hb) ▸ q2)
  have D1 := Draws.strAscii (prog := prog) (w := w) (A := A.in1) hh s.heap.objs.size x t
  have D2 := drawsTuple (prog := prog) (w := w) (A := A.in1) hh (s.heap.objs.size + 1) l2 (Nat.ne_of_lt (Nat.lt_succ_of_lt q2)) ys2
  have old : ∀ p ∈ news, @LT.lt Nat _ p.1 s.heap.objs.size := fun p hp => Heap.lt_size (N p hp).1
  refine exI10 _ _ _ _ _ _ _ _ news J ⟨rfl, walksZip D D1 D2, ?_, hh, hsz, ⟨hz, hTI, ⟨_, _, hTO⟩, ⟨_, hi1, rfl, rfl⟩, ⟨⟨_, hi2, rfl, rfl⟩, t2.at fun o e => hk _ _ e⟩⟩, ?_, F.keeps hk, fun p hp => ⟨hk _ _ (N p hp).1, (N p hp).2⟩, ?_, ?_, ?_, h0, turn, fin⟩
  · rintro i vals ⟨x, y, hx, hy, rfl⟩
    exact ⟨x, y, rfl, hx, hy⟩
  · intro b hb
    simp only [List.mem_cons, List.not_mem_nil, or_false, List.mem_append] at hb
    rcases hb with e | e | e | e | (e | e)
    · rw [e]; exact Heap.lt_size hz
    · rw [e]; exact Heap.lt_size hTI
    · rw [e]; exact Heap.lt_size hTO
    · rw [e]; exact Heap.lt_size hi1
    · rw [e]; exact Heap.lt_size hi2
    · rw [e]; exact Heap.lt_size (hk _ _ (F.keep _ _ ho2))
  · intro hm
    simp only [List.mem_cons, List.not_mem_nil, or_false] at hm
    have up : ∀ k, L ≠ s.heap.objs.size + k := fun k e => Nat.ne_of_lt (Nat.lt_of_lt_of_le hLs (Nat.le_add_right _ k)) e
    rcases hm with e | e | e | e
    · exact up 4 e
    · exact up 3 e
    · exact up 0 e
    · exact up 1 e
  · intro b hb
    simp only [List.mem_cons, List.not_mem_nil, or_false] at hb
    have nw : ∀ k, h₀.get? (s.heap.objs.size + k) = none := fun k => Heap.get?_none_of_le (Nat.le_trans hab (Nat.le_trans (Nat.le_of_lt hLs) (Nat.le_add_right _ k)))
    rcases hb with rfl | rfl | rfl | rfl
    · exact nw 4
    · exact nw 3
    · exact nw 0
    · exact nw 1
  · intro p hp hm
    have hq1 := old p hp
    simp only [List.mem_cons, List.not_mem_nil, or_false] at hm
    have dn : ∀ k, p.1 ≠ s.heap.objs.size + k := fun k e => Nat.ne_of_lt (Nat.lt_of_lt_of_le hq1 (Nat.le_add_right _ k)) e
    rcases hm with e | e | e | e
    · exact dn 4 e
    · exact dn 3 e
    · exact dn 0 e
    · exact dn 1 e
end
open LCg
noncomputable def bitL (e : Int) : List Nat := letters6.filter (fun c => Builtin.bitAnd e (bitOf c) != 0)
theorem bitL_len (e : Int) : (bitL e).length ≤ 6 := List.length_filter_le _ letters6
noncomputable def bitsIts : Array Value := #[Value.int 4194304 191, Value.int 67108864 207, Value.int 16777216 199, Value.int 134217728 211, Value.int 33554432 203, Value.int 8388608 195]
theorem bits_at {i c : Nat} {y : Value} (hc : letters6[i]? = some c) (hy : bitsIts[i]? = some y) : ∃ tk, y = .int (bitOf c) tk := by
  match i with
  | 0 => simp [letters6] at hc; simp [bitsIts] at hy; subst hc hy; exact ⟨_, rfl⟩
  | 1 => simp [letters6] at hc; simp [bitsIts] at hy; subst hc hy; exact ⟨_, rfl⟩
  | 2 => simp [letters6] at hc; simp [bitsIts] at hy; subst hc hy; exact ⟨_, rfl⟩
  | 3 => simp [letters6] at hc; simp [bitsIts] at hy; subst hc hy; exact ⟨_, rfl⟩
  | 4 => simp [letters6] at hc; simp [bitsIts] at hy; subst hc hy; exact ⟨_, rfl⟩
  | 5 => simp [letters6] at hc; simp [bitsIts] at hy; subst hc hy; exact ⟨_, rfl⟩
  | i + 6 => simp [letters6] at hc
theorem bit_letters (w : World) (e : Int) (t : Tok) : Pure w 1 60 [.int e t] (fun t => .str (SL (bitL e)) t) := by
  k_with_none
  k_with "mine ktr_room" => (first | exact room0 hd | exact roomD hd rfl)
  k_with "mine ktr_units" => (exact roomU hu rfl)
  k_with "mine mine:use" => (
  (case k1 => k_asm)
  (case k2 => k_asm)
  (case k3 => k_asm)
  (case k4 => k_asm)
  (case k5 => k_asm)
  (case kK => first | exact rfl | assumption)
  (case kd => ktr_room)
  (case ku => ktr_units)
  intro _ _ _ _ _
  (try dsimp only)
  (try k_fold))
  k_with "mine mine:enterC" => (refine' code_defC ?k1 ?k2 ?k3 ?k4 ?k5 ?kA ?kF ?kK ?k6 ?k7 ?k8 ?k9 ?kB ?kD ?_ ?c2 ?c3 ?c4; (case kA => exact rfl); (case kF => exact rfl); (case kK => assumption); (case k1 => k_asm); (case k2 => k_asm); (case k3 => k_asm); (case k4 => k_asm); (case k5 => k_asm); (case k6 => k_is); (case k7 => k_is); (case k8 => ktr_room); (case k9 => exact BindsTo.of_eq rfl); (case kB => exact rfl); (case kD => decide +kernel); (case c2 => exact rfl); (case c3 => exact rfl); (case c4 => exact rfl); k_whole; intro _ _ _ _ _ _ _ N' Y' _ _ _ l1; (try k_lt l1); k_cells Y'; (try simp only [List.cons_append, List.nil_append] at N'); (try (revert l1; intro _)); (try (revert N'; intro _)); (try dsimp only); (try k_fold))
  k_with "mine call type:zip" => (k_here; refine zip_stop ?_)
  k_with "mine eval ListComp" => (k_here; k_dflt (refine ListComp_Z (by k_asm) (by with_unfolding_all rfl) (by decide) (by rfl) (by decide) (by rfl) (by rfl) (by decide) ?_))
  unfold Pure; k_fill; intro p loose mean mg mb dp un gd cn cs a ccd cl outer A₀ base h₀ L m news s Q E B F X N T hk hd hu hret; refine wpAny_call ?_
  k_dflt walk_at "mine:enterC"
  k_steps
  rename (Frag.In (Mine.hd.heap_39 w.params) _) => XX
  have hbits : Heap.IsTuple _ 15 bitsIts := ⟨_, XX 15 { cls := .type "tuple", data := .seq bitsIts } (by k_dflt k_is), rfl, _, rfl⟩
  refine zip_st_src (ys2 := bitsIts) (fun i ys => StrsAre ys (((letters6.take i).filter (fun c => Builtin.bitAnd e (bitOf c) != 0)).map fun c => SL [c])) (by rfl) (by decide +kernel) (by decide +kernel) (by k_asm) (by k_asm) hbits .nil ?_ ?_
  · rintro i v0 v1 ys C oC m₂ h tk E' hi ⟨⟨c, u, hc, rfl⟩, hy⟩ hys hC ha hb F₁ N₁
    have hc' : letters6[i]? = some c := by
      rw [SL_letters] at hc
      simpa [SL] using hc
    obtain ⟨tk1, rfl⟩ := bits_at hc' hy
    k_steps
    · rename Builtin.bitAnd e (bitOf c) ≠ 0 => hm
      show StrsAre _ _
      rw [filt_take hc', List.map_append, if_pos (by simpa using hm)]
      exact strs_snoc hys (SL [c]) u
    · rename Builtin.bitAnd e (bitOf c) = 0 => hm
      show StrsAre _ _
      rw [filt_take hc', List.map_append, if_neg (by simpa using hm)]
      simpa using hys
  · intro D h tk ys F₁ N₁ hys
    have hys' : StrsAre ys ((bitL e).map fun c => SL [c]) := hys
    have hlen := bitL_len e
    k_steps
    refine join_listC (News.isList (by k_asm) (.head _)) (by simpa using hys') (by decide) (by rw [sum_ones, List.length_map]; omega) ?_
    intro t2 k2
    rw [joinOnes]
    (try dsimp only)
    k_steps
    exact hret _ _ _ (by k_asm) (by refine' cb_drop ?cbN ?cbS; (case cbN => assumption); (case cbS => exact fun _ hp => .tail _ (.tail _ hp)))
noncomputable def modsOf (i : Int) : List Nat := ordL ((bitL i ++ (if isCtl (codeOf i) = true then [67] else [])) ++ (if isGreat (codeOf i) = true then [83] else []))
theorem add_C {prog : Program} {w : World} {A : Around} {E : Value → Shared → Prop} {s : Shared} {a : List Nat} {t u : Tok} {Q : Value → Shared → Prop} (hsz : a.length ≤ 1000) (h : ∀ t' tk, Q (.str (SL (a ++ [67])) t') { s with toks := tk }) :
    wpAny (model prog w) A (binaryOp .Add (.str (SL a) t) (.str (Str.ofString "C") u)) Q E s := by
  rw [show Str.ofString "C" = SL [67] from by decide +kernel]
  exact add_SL (by simp only [List.length_cons, List.length_nil]; omega) h
theorem add_S {prog : Program} {w : World} {A : Around} {E : Value → Shared → Prop} {s : Shared} {a : List Nat} {t u : Tok} {Q : Value → Shared → Prop} (hsz : a.length ≤ 1000) (h : ∀ t' tk, Q (.str (SL (a ++ [83])) t') { s with toks := tk }) :
    wpAny (model prog w) A (binaryOp .Add (.str (SL a) t) (.str (Str.ofString "S") u)) Q E s := by
  rw [show Str.ofString "S" = SL [83] from by decide +kernel]
  exact add_SL (by simp only [List.length_cons, List.length_nil]; omega) h
theorem great_ctl {c : Int} (h : isCtl c = true) : isGreat c = false := by
  simp only [isCtl, decide_eq_true_eq] at h
  simp only [isGreat, Bool.and_eq_false_iff, decide_eq_false_iff_not]; omega
theorem cb_retSL {h₀ h' : Heap} {L : Addr} {m : Str → Option Value} {news : Led} {s : Shared} {Q : Value → Shared → Prop} {t : Tok} {tk' : Nat} {x y : List Nat} (hret : ∀ (t : Tok) (h' : Heap) (tk' : Nat), Fr h₀ L h' m → News h₀ L h' news → Q (.str (SL x) t) { s with heap := h', toks := tk' }) (e : y = x) (F : Fr h₀ L h' m) (N : News h₀ L h' news) : Q (.str (SL y) t) { s with heap := h', toks := tk' } := by
  subst e
  exact hret t h' tk' F N
theorem modifiers_of_int (w : World) (i : Int) (t : Tok) : Pure w 3 121 [.int i t] (fun t => .str (SL (modsOf i)) t) := by
  k_with "mine call ref" => (k_here; (with_reducible show wpAny _ _ (call (Value.ref 60) [Value.int _ _]) _ _ _); k_dflt (refine' Pure.use (bit_letters _ _ _) ?k1 ?k2 ?k3 ?k4 ?k5 ?kK ?kd ?ku ?_; walk_at "mine:use"))
  k_with "mine call ref" => (k_here; (with_reducible show wpAny _ _ (call (Value.ref 41) [Value.str _ _]) _ _ _); k_dflt (refine' Pure.use (ordered _ _ _) ?k1 ?k2 ?k3 ?k4 ?k5 ?kK ?kd ?ku ?_; walk_at "mine:use"))
  k_with "mine call ref" => (k_here; (with_reducible show wpAny _ _ (call (Value.ref 22) [Value.int _ _]) _ _ _); k_dflt (refine' Pure.use (is_sign_int _ _ _) ?k1 ?k2 ?k3 ?k4 ?k5 ?kK ?kd ?ku ?_; walk_at "mine:use"))
  k_with "mine call ref" => (k_here; (with_reducible show wpAny _ _ (call (Value.ref 22) [Value.str _ _]) _ _ _); k_dflt (refine' Pure.use (is_sign_str _ _ _) ?k1 ?k2 ?k3 ?k4 ?k5 ?kK ?kd ?ku ?_; walk_at "mine:use"))
  k_with "mine call ref" => (k_here; (with_reducible show wpAny _ _ (call (Value.ref 48) [Value.int _ _]) _ _ _); k_dflt (refine' Pure.use (code_of _ _ _) ?k1 ?k2 ?k3 ?k4 ?k5 ?kK ?kd ?ku ?_; walk_at "mine:use"))
  k_with "mine call ref" => (k_here; (with_reducible show wpAny _ _ (call (Value.ref 114) [Value.int _ _]) _ _ _); k_dflt (refine' Pure.use (is_control_code _ _ _) ?k1 ?k2 ?k3 ?k4 ?k5 ?kK ?kd ?ku ?_; walk_at "mine:use"))
  k_with "mine call ref" => (k_here; (with_reducible show wpAny _ _ (call (Value.ref 86) [Value.int _ _]) _ _ _); k_dflt (refine' Pure.use (is_great _ _ _) ?k1 ?k2 ?k3 ?k4 ?k5 ?kK ?kd ?ku ?_; walk_at "mine:use"))
  k_with "mine binaryOp Add str str" => ((with_reducible show wpAny _ _ (binaryOp Operator.Add (Value.str (SL _) _) (Value.str (SL _) _)) _ _ _); refine add_SL (by (try simp only [List.length_append, pre_len, List.length_cons, List.length_nil]); omega) ?_; intro _ _; (try dsimp only))
  k_with "mine binaryOp Add str str" => ((with_reducible show wpAny _ _ (binaryOp Operator.Add (Value.str (SL _) _) (Value.str (Str.ofString "C") _)) _ _ _); refine add_C (by (try simp only [List.length_append, List.length_cons, List.length_nil]); omega) ?_; intro _ _; (try dsimp only))
  k_with "mine binaryOp Add str str" => ((with_reducible show wpAny _ _ (binaryOp Operator.Add (Value.str (SL _) _) (Value.str (Str.ofString "S") _)) _ _ _); refine add_S (by (try simp only [List.length_append, List.length_cons, List.length_nil]); omega) ?_; intro _ _; (try dsimp only))
  unfold Pure; k_fill; intro p loose mean mg mb dp un gd cn cs a ccd cl outer A₀ base h₀ L m news s Q E B F X N T hk hd hu hret; refine wpAny_call ?_
  k_dflt ktr_enter
  have hl := bitL_len i
  k_steps
  all_goals (refine cb_retSL (Q := Q) hret ?_ (by k_asm) (by k_asm); unfold modsOf)
  · rename isCtl (codeOf i) = true => h1
    rename isGreat (codeOf i) = true => h2
    rw [great_ctl h1] at h2; cases h2
  · rename isCtl (codeOf i) = true => h1
    rw [h1, great_ctl h1]; simp
  · rename isCtl (codeOf i) = false => h1
    rename isGreat (codeOf i) = true => h2
    rw [h1, h2]; simp
  · rename isCtl (codeOf i) = false => h1
    rename isGreat (codeOf i) = false => h2
    rw [h1, h2]; simp
noncomputable abbrev deckOb (il : Addr) (n : Int) (t : Tok) (c : Nat) : Obj := listOf [Value.ref il, Value.int n t].toArray c
/-- a call that draws from the deck at dk: at most d draws; the deck's count is turned, all else of the ledger stays -/
noncomputable def Deck (w : World) (k : Nat) (f : Addr) (vs : List Value) (dk il : Addr) (ob : Obj) (d : Int) (P : Led → Prop) (R : Value → Prop) : Prop :=
  ∀ (p : Program) (loose : List Str) (mean : ExcName → Option Value) (mg mb : Str → Option Value)
    (dp un : Nat) (gd : Option (List Code)) (cn : Str) (cs : Scope) (a : Addr) (ccd : Value) (cl : List (Str × Addr)) (outer : List Env) (A₀ : Around) (base h₀ : Heap) (L : Addr) (m : Str → Option Value) (rest : Led) (n : Int) (t : Tok) (c : Nat) (s : Shared)
    (Q E : Value → Shared → Prop),
    Below A₀ base outer h₀ → Fr h₀ L s.heap m → Frag.In (Mine.hd.heap_39 w.params) h₀ → News h₀ L s.heap ((dk, deckOb il n t c) :: rest) → Top p loose mean mg mb h₀ → cs.kind = .function → dp + k < recursionLimit → un + 8 * k < cLine →
    (il, ob) ∈ rest → (∀ p ∈ rest, p.1 ≠ dk) → 0 ≤ n → n + d ≤ 900 → P rest →
    (∀ (v : Value) (n' : Int) (t' : Tok) (c' : Nat) (h' : Heap) (tk' : Nat), R v → n ≤ n' → n' ≤ n + d → Fr h₀ L h' m → News h₀ L h' ((dk, deckOb il n' t' c') :: rest) → Q v { s with heap := h', toks := tk' }) →
    wpAny (model PySem.Challenge.rw_np0024_01.row.prog w) (ktrTop dp un gd cn cs L a ccd cl outer) (call (.ref f) vs) Q E s
theorem Deck.use {w : World} {k : Nat} {f : Addr} {vs : List Value} {dk il : Addr} {ob : Obj} {d : Int} {P : Led → Prop} {R : Value → Prop} (C : Deck w k f vs dk il ob d P R)
    {p : Program} {loose : List Str} {mean : ExcName → Option Value} {mg mb : Str → Option Value}
    {dp un : Nat} {gd : Option (List Code)} {cn : Str} {cs : Scope} {a : Addr} {ccd : Value} {cl : List (Str × Addr)} {outer : List Env} {A₀ : Around} {base h₀ : Heap} {L : Addr} {m : Str → Option Value} {news : Led} {g : Obj → Led} {n : Int} {t : Tok} {c : Nat} {s : Shared}
    {Q E : Value → Shared → Prop}
    (B : Below A₀ base outer h₀) (F : Fr h₀ L s.heap m) (X : Frag.In (Mine.hd.heap_39 w.params) h₀) (N : News h₀ L s.heap news) (T : Top p loose mean mg mb h₀) (hk : cs.kind = .function) (hd : dp + k < recursionLimit) (hu : un + 8 * k < cLine)
    (U : UpdF dk (deckOb il n t c) news g) (hil : (il, ob) ∈ news) (hne : il ≠ dk) (h0 : 0 ≤ n) (h9 : n + d ≤ 900) (hP : ∀ rest, (∀ p ∈ news, p.1 ≠ dk → p ∈ rest) → P rest)
    (ret : ∀ (v : Value) (n' : Int) (t' : Tok) (c' : Nat) (h' : Heap) (tk' : Nat), R v → n ≤ n' → n' ≤ n + d → Fr h₀ L h' m → News h₀ L h' (g (deckOb il n' t' c')) → Q v { s with heap := h', toks := tk' }) :
    wpAny (model PySem.Challenge.rw_np0024_01.row.prog w) (ktrTop dp un gd cn cs L a ccd cl outer) (call (.ref f) vs) Q E s := by
  obtain ⟨pre, post, rfl, hg, h1, h2⟩ := U.split
  have hin : ∀ p ∈ pre ++ (dk, deckOb il n t c) :: post, p.1 ≠ dk → p ∈ pre ++ post := fun p hp hq => by
    rcases List.mem_append.mp hp with hp | hp
    · exact List.mem_append_left _ hp
    · rcases List.mem_cons.mp hp with rfl | hp
      · exact absurd rfl hq
      · exact List.mem_append_right _ hp
  refine C p loose mean mg mb dp un gd cn cs a ccd cl outer A₀ base h₀ L m (pre ++ post) n t c s Q E B F X (fun p hp => N p ?_) T hk hd hu (hin _ hil hne) ?_ h0 h9 (hP _ hin) fun v n' t' c' h' tk' hR hn1 hn2 F' N' => ret v n' t' c' h' tk' hR hn1 hn2 F' ?_
  · rcases List.mem_cons.mp hp with rfl | hp
    · exact List.mem_append_right _ (.head _)
    · rcases List.mem_append.mp hp with hp | hp
      · exact List.mem_append_left _ hp
      · exact List.mem_append_right _ (.tail _ hp)
  · intro p hp
    rcases List.mem_append.mp hp with hp | hp
    · exact h1 p hp
    · exact h2 p hp
  · rw [hg]
    intro p hp
    rcases List.mem_append.mp hp with hp | hp
    · exact N' p (.tail _ (List.mem_append_left _ hp))
    · rcases List.mem_cons.mp hp with rfl | hp
      · exact N' _ (.head _)
      · exact N' p (.tail _ (List.mem_append_right _ hp))
theorem law_draw (w : World) (dk il : Addr) (many : Int) (tm : Tok) (c2 : Nat) (vs : List Value) (ns : List Int) (hI : IntsAre vs ns) (hlen : ns.length ≤ 50) (hm0 : 0 < many) (hm1 : many < 1000) :
    Deck w 1 163 [.ref dk, .int many tm] dk il (listOf vs.toArray c2) 1 (fun _ => True) (fun v => ∃ r t, v = .int r t ∧ 0 ≤ r ∧ r < many) := by
  k_with_none
  k_with "mine ktr_room" => (first | exact room0 hd | exact roomD hd rfl)
  k_with "mine ktr_units" => (exact roomU hu rfl)
  k_with "mine k_upd" => first | exact Upd.head (by assumption) | exact Upd.tail (Ne.symm (by assumption)) (Upd.head (by assumption)) | exact Upd.tail (by assumption) (Upd.head (by assumption))
  k_with "mine k_updF" => exact UpdF.head (by assumption)
  k_with "mine k_mem" => assumption
  k_with "mine k_all" => assumption
  unfold Deck
  k_fill
  intro p loose mean mg mb dp un gd cn cs a ccd cl outer A₀ base h₀ L m rest n t c s Q E B F X N₀ T hk hd hu hil hoff₀ hn0 hn1 _ hret
  have N : News h₀ L s.heap ((dk, deckOb il n t c) :: (il, listOf vs.toArray c2) :: rest) := fun p hp => by
    rcases List.mem_cons.mp hp with rfl | hp
    · exact N₀ _ (.head _)
    · rcases List.mem_cons.mp hp with rfl | hp
      · exact N₀ _ (.tail _ hil)
      · exact N₀ _ (.tail _ hp)
  have hoff : ∀ p ∈ (il, listOf vs.toArray c2) :: rest, p.1 ≠ dk := fun p hp => by
    rcases List.mem_cons.mp hp with rfl | hp
    · exact hoff₀ _ hil
    · exact hoff₀ _ hp
  clear N₀
  refine wpAny_call ?_
  k_dflt ktr_enter
  k_steps
  · have hmod := fdiv_fmod_facts (ns.getD (n + 1 - 1).toNat 0) many
    refine hret _ (n + 1) _ _ _ _ ⟨_, _, rfl, ?_, ?_⟩ (by omega) (by omega) (by k_asm) (by refine' cb_drop ?cbN ?cbS; (case cbN => assumption); (case cbS => exact kcj_skip1))
    · exact Int.fmod_nonneg_of_pos _ hm0
    · exact Int.fmod_lt_of_pos _ hm0
  · refine hret _ (n + 1) _ _ _ _ ⟨_, _, rfl, ?_, ?_⟩ (by omega) (by omega) (by k_asm) (by refine' cb_drop ?cbN ?cbS; (case cbN => assumption); (case cbS => exact kcj_skip1))
    · exact Int.fmod_nonneg_of_pos _ hm0
    · exact Int.fmod_lt_of_pos _ hm0
/-- Deck.use, its answer taken apart -/
theorem Deck.useB {α β : Type} {V : α → β → Value} {P2 P3 : α → β → Prop} {w : World} {k : Nat} {f : Addr} {vs : List Value} {dk il : Addr} {ob : Obj} {d : Int} {P : Led → Prop} (C : Deck w k f vs dk il ob d P (fun v => ∃ x y, v = V x y ∧ P2 x y ∧ P3 x y))
    {p : Program} {loose : List Str} {mean : ExcName → Option Value} {mg mb : Str → Option Value}
    {dp un : Nat} {gd : Option (List Code)} {cn : Str} {cs : Scope} {a : Addr} {ccd : Value} {cl : List (Str × Addr)} {outer : List Env} {A₀ : Around} {base h₀ : Heap} {L : Addr} {m : Str → Option Value} {news : Led} {g : Obj → Led} {n : Int} {t : Tok} {c : Nat} {s : Shared}
    {Q E : Value → Shared → Prop}
    (B : Below A₀ base outer h₀) (F : Fr h₀ L s.heap m) (X : Frag.In (Mine.hd.heap_39 w.params) h₀) (N : News h₀ L s.heap news) (T : Top p loose mean mg mb h₀) (hk : cs.kind = .function) (hd : dp + k < recursionLimit) (hu : un + 8 * k < cLine)
    (U : UpdF dk (deckOb il n t c) news g) (hil : (il, ob) ∈ news) (hne : il ≠ dk) (h0 : 0 ≤ n) (h9 : n + d ≤ 900) (hP : ∀ rest, (∀ p ∈ news, p.1 ≠ dk → p ∈ rest) → P rest)
    (ret : ∀ (n' : Int) (t' : Tok) (c' : Nat) (h' : Heap) (tk' : Nat) (x : α) (y : β), P2 x y → P3 x y → n ≤ n' → n' ≤ n + d → Fr h₀ L h' m → News h₀ L h' (g (deckOb il n' t' c')) → Q (V x y) { s with heap := h', toks := tk' }) :
    wpAny (model PySem.Challenge.rw_np0024_01.row.prog w) (ktrTop dp un gd cn cs L a ccd cl outer) (call (.ref f) vs) Q E s := by
  refine Deck.use C B F X N T hk hd hu U hil hne h0 h9 hP ?_
  rintro v n' t' c' h' tk' ⟨x, y, rfl, h2, h3⟩
  exact ret n' t' c' h' tk' x y h2 h3
theorem Deck.useE {α : Type} {P1 : Value → α → Prop} {P2 : α → Prop} {w : World} {k : Nat} {f : Addr} {vs : List Value} {dk il : Addr} {ob : Obj} {d : Int} {P : Led → Prop} (C : Deck w k f vs dk il ob d P (fun v => ∃ x, P1 v x ∧ P2 x))
    {p : Program} {loose : List Str} {mean : ExcName → Option Value} {mg mb : Str → Option Value}
    {dp un : Nat} {gd : Option (List Code)} {cn : Str} {cs : Scope} {a : Addr} {ccd : Value} {cl : List (Str × Addr)} {outer : List Env} {A₀ : Around} {base h₀ : Heap} {L : Addr} {m : Str → Option Value} {news : Led} {g : Obj → Led} {n : Int} {t : Tok} {c : Nat} {s : Shared}
    {Q E : Value → Shared → Prop}
    (B : Below A₀ base outer h₀) (F : Fr h₀ L s.heap m) (X : Frag.In (Mine.hd.heap_39 w.params) h₀) (N : News h₀ L s.heap news) (T : Top p loose mean mg mb h₀) (hk : cs.kind = .function) (hd : dp + k < recursionLimit) (hu : un + 8 * k < cLine)
    (U : UpdF dk (deckOb il n t c) news g) (hil : (il, ob) ∈ news) (hne : il ≠ dk) (h0 : 0 ≤ n) (h9 : n + d ≤ 900) (hP : ∀ rest, (∀ p ∈ news, p.1 ≠ dk → p ∈ rest) → P rest)
    (ret : ∀ (v : Value) (n' : Int) (t' : Tok) (c' : Nat) (h' : Heap) (tk' : Nat) (x : α), P1 v x → P2 x → n ≤ n' → n' ≤ n + d → Fr h₀ L h' m → News h₀ L h' (g (deckOb il n' t' c')) → Q v { s with heap := h', toks := tk' }) :
    wpAny (model PySem.Challenge.rw_np0024_01.row.prog w) (ktrTop dp un gd cn cs L a ccd cl outer) (call (.ref f) vs) Q E s := by
  refine Deck.use C B F X N T hk hd hu U hil hne h0 h9 hP ?_
  rintro v n' t' c' h' tk' ⟨x, h1, h2⟩
  exact ret v n' t' c' h' tk' x h1 h2
theorem NewP.useB {α β : Type} {V : α → β → Obj} {P1 : α → β → Prop} {w : World} {k : Nat} {f : Addr} {vs : List Value} {P : Led → Prop} (C : NewP w k f vs P (fun o => ∃ x y, o = V x y ∧ P1 x y))
    {p : Program} {loose : List Str} {mean : ExcName → Option Value} {mg mb : Str → Option Value}
    {dp un : Nat} {gd : Option (List Code)} {cn : Str} {cs : Scope} {a : Addr} {ccd : Value} {cl : List (Str × Addr)} {outer : List Env} {A₀ : Around} {base h₀ : Heap} {L : Addr} {m : Str → Option Value} {news : List (Addr × Obj)} {s : Shared}
    {Q E : Value → Shared → Prop}
    (B : Below A₀ base outer h₀) (F : Fr h₀ L s.heap m) (X : Frag.In (Mine.hd.heap_39 w.params) h₀) (N : News h₀ L s.heap news) (T : Top p loose mean mg mb h₀) (hk : cs.kind = .function) (hd : dp + k < recursionLimit) (hu : un + 8 * k < cLine) (hP : P news)
    (ret : ∀ (b : Addr) (h' : Heap) (tk' : Nat) (x : α) (y : β), P1 x y → (∀ p ∈ news, p.1 < b) → Fr h₀ L h' m → News h₀ L h' ((b, V x y) :: news) → Q (.ref b) { s with heap := h', toks := tk' }) :
    wpAny (model PySem.Challenge.rw_np0024_01.row.prog w) (ktrTop dp un gd cn cs L a ccd cl outer) (call (.ref f) vs) Q E s := by
  refine NewP.use C B F X N T hk hd hu hP ?_
  rintro b o h' tk' ⟨x, y, rfl, h1⟩
  exact ret b h' tk' x y h1
theorem SrcS.mk {A : Around} {h₀ : Heap} {L : Addr} {m : Str → Option Value} {Rest : Str → Shared → List (Addr × Obj) → Prop} {y : Str} {t : Tok} {s₁ : Shared} {news : Led} (hh : A.handled = none) (F : Fr h₀ L s₁.heap m) (N : News h₀ L s₁.heap news)
    (hsz : y.cps.size ≤ sizeLine) (ha : y.cps.all (· < 128) = true) (h : ∀ g : Heap, Rest y { s₁ with heap := g } news) : SrcS A h₀ L m Rest (.str y t) s₁ := by
  refine ⟨y, t, news, rfl, hh, F, N, hsz, ha, ?_⟩
  rintro s₂ ⟨g, rfl⟩
  exact h g
open LCg LCt
theorem item_in {prog : Program} {w : World} {A : Around} {E : Value → Shared → Prop} {s : Shared} {h₀ : Heap} {L : Addr} {news : Led} {value slice : Expr} {l : Addr} {its : List Value} {k : Nat} {r : Int} {u : Tok} {Q : Value → Shared → Prop}
    (N : News h₀ L s.heap news) (hm : (l, listOf its.toArray k) ∈ news) (h0 : 0 ≤ r) (h1 : r < (its.length : Int)) (hz : its.length < 1000) (h : ∀ v, v ∈ its → Q v s)
    (hs : subscripted slice false (.ref l) (.int r u) = operate [.ref l, .int r u] (getItem (.ref l) (.int r u))) :
    wpAny (model prog w) A (subscriptTail value slice (.ref l) (.int r u)) Q E s := by
  have hl := News.isList N hm
  have hx : its[r.toNat]? = some (its[r.toNat]'(by omega)) := List.getElem?_eq_getElem _
  exact tail_any hl.typeIs slot_list_getitem.lookup (wpAny_getItem_list hl h0 (by omega) (by simp) (h _ (List.mem_of_getElem? hx))) hs
theorem law_pick (w : World) (dk il it : Addr) (c2 : Nat) (vs : List Value) (ns : List Int) (hI : IntsAre vs ns) (hlen : ns.length ≤ 50) (its : List Value) (k0 : Nat) (hi0 : 0 < its.length) (hi1 : its.length < 1000) (hit : it ≠ dk) :
    Deck w 2 170 [.ref dk, .ref it] dk il (listOf vs.toArray c2) 1 (fun rest => (it, listOf its.toArray k0) ∈ rest) (fun v => v ∈ its) := by
  k_with_none
  k_with "mine ktr_room" => (first | exact room0 hd | exact roomD hd rfl)
  k_with "mine ktr_units" => (exact roomU hu rfl)
  k_with "mine k_upd" => first | exact Upd.head (by assumption) | exact Upd.tail (Ne.symm (by assumption)) (Upd.head (by assumption)) | exact Upd.tail (by assumption) (Upd.head (by assumption))
  k_with "mine k_updF" => exact UpdF.head (by assumption)
  k_with "mine k_mem" => assumption
  k_with "mine k_all" => assumption
  k_with "mine call ref" => (k_here; (with_reducible show wpAny _ _ (call (Value.ref 163) [Value.ref _, Value.int _ _]) _ _ _); k_dflt (refine' Deck.useB (law_draw _ _ _ _ _ _ _ _ (by assumption) (by first | assumption | exact List.length_take_le _ _) ?kp ?kq) ?k1 ?k2 ?k3 ?k4 ?k5 ?kK ?kd ?ku ?kU ?kil ?kne ?k0 ?k9 ?kP ?_; walk_at "mine:deck"; (intro _ _ _ _ _ _ _ _ _ _ _ _ N9; (try dsimp only at N9); (try (revert N9; intro _)); (try dsimp only); (try k_fold))))
  k_with "mine mine:deck" => (
  (case k1 => k_asm)
  (case k2 => k_asm)
  (case k3 => k_asm)
  (case k4 => k_asm)
  (case k5 => k_asm)
  (case kK => first | exact rfl | assumption)
  (case kd => ktr_room)
  (case ku => ktr_units)
  (case kU => k_updF)
  (case kil => first | assumption | k_mem)
  (case kne => first | assumption | exact Ne.symm (by assumption) | k_ne)
  (case k0 => omega)
  (case k9 => omega)
  (case kP => walk_at "mine:deckP")
  (case kp => walk_at "mine:many")
  (case kq => walk_at "mine:many")
  (try (case kr => k_ne)))
  k_with "mine mine:many" => first | decide | omega
  k_with "mine mine:deckP" => (intro _ _; trivial)
  k_with "mine subscriptTail" => (k_here; (with_reducible show wpAny _ _ (subscriptTail _ _ (Value.ref _) (Value.int _ _)) _ _ _); k_dflt (refine' item_in ?k1 ?k2 ?k3 ?k4 ?k5 ?_ ?k6; (case k1 => k_asm); (case k2 => k_mem); (case k3 => assumption); (case k4 => assumption); (case k5 => assumption); (case k6 => with_unfolding_all rfl); intro _ _; (try dsimp only); (try k_fold)))
  unfold Deck
  k_fill
  intro p loose mean mg mb dp un gd cn cs a ccd cl outer A₀ base h₀ L m rest n t c s Q E B F X N₀ T hk hd hu hil hoff₀ hn0 hn1 hP hret
  have N : News h₀ L s.heap ((dk, deckOb il n t c) :: (it, listOf its.toArray k0) :: rest) := fun p hp => by
    rcases List.mem_cons.mp hp with rfl | hp
    · exact N₀ _ (.head _)
    · rcases List.mem_cons.mp hp with rfl | hp
      · exact N₀ _ (.tail _ hP)
      · exact N₀ _ (.tail _ hp)
  have hoff : ∀ p ∈ (it, listOf its.toArray k0) :: rest, p.1 ≠ dk := fun p hp => by
    rcases List.mem_cons.mp hp with rfl | hp
    · exact hit
    · exact hoff₀ _ hp
  clear N₀
  refine wpAny_call ?_
  k_dflt ktr_enter
  have hs : its.toArray.size = its.length := by simp
  have hil2 : (il, listOf vs.toArray c2) ∈ (dk, deckOb il n t c) :: (it, listOf its.toArray k0) :: rest := .tail _ (.tail _ hil)
  have hne : il ≠ dk := hoff₀ _ hil
  k_steps
  exact hret _ _ _ _ _ _ (by assumption) (by assumption) (by assumption) (by k_asm) (by refine' cb_drop ?cbN ?cbS; (case cbN => assumption); (case cbS => exact kcj_skip1))
open LCg LCt
open PySem.Spec PyProof.V
noncomputable def dEv : Ev → PyData
  | .i n => .int n
  | .s l => .str (SL l)
theorem dEv_reads {h : Heap} {v : Value} {e : Ev} (hv : EvIs v e) : Reads h v (dEv e) [] := by
  cases hv with
  | i n t => exact .int n t
  | s l t => exact .str (SL l) t
theorem dEv_all {h : Heap} {vs : List Value} {es : List Ev} (hv : EvsAre vs es) : ReadsAll h vs (es.map dEv) [] := by
  induction hv with
  | nil => exact .nil
  | cons h1 _ ih =>
    have := ReadsAll.cons (dEv_reads (h := h) h1) ih
    simpa using this
/-- all names are plain texts -/
noncomputable def AscE (es : List Ev) : Prop := ∀ l, Ev.s l ∈ es → ∀ c ∈ l, c < 128
theorem dEv_lay (es : List Ev) (h : AscE es) : PyData.canLayAll0 (es.map dEv) = true := by
  induction es with
  | nil => rfl
  | cons e r ih =>
    have ih := ih (fun l hl => h l (.tail _ hl))
    cases e with
    | i n => simp [PyData.canLayAll0, PyData.canLay0, dEv, ih]
    | s l =>
      have h1 : PyData.strOk (SL l) = true := by
        simp only [PyData.strOk, SL, List.all_toArray, List.all_eq_true, decide_eq_true_eq]
        intro c hc
        have := h l (.head _) c hc
        omega
      simp [PyData.canLayAll0, PyData.canLay0, dEv, ih, h1]
theorem dEv_depth (es : List Ev) : PyData.depthAll (es.map dEv) = 0 := by
  induction es with
  | nil => rfl
  | cons e r ih => cases e <;> simp [PyData.depthAll, PyData.depth, dEv, ih]
theorem dEv_shapedL (es : List Ev) (h : AscE es) : SeqAt.shaped (.list (es.map dEv)) = true := by
  simp [SeqAt.shaped, PyData.canLay0, PyData.depth, dEv_lay es h, dEv_depth]
theorem dEv_shapedT (es : List Ev) (h : AscE es) : SeqAt.shaped (.tuple (es.map dEv)) = true := by
  simp [SeqAt.shaped, PyData.canLay0, PyData.depth, dEv_lay es h, dEv_depth]
theorem dEv_eqvAll : ∀ es fs : List Ev, PyData.eqvAll (es.map dEv) (fs.map dEv) = decide (es = fs)
  | [], [] => by simp [PyData.eqvAll]
  | [], _ :: _ => by simp [PyData.eqvAll]
  | _ :: _, [] => by simp [PyData.eqvAll]
  | a :: r, b :: t => by
    have hab : PyData.eqv (dEv a) (dEv b) = decide (a = b) := by
      cases a <;> cases b <;> simp only [dEv, PyData.eqv]
      · rename_i n k; by_cases h : n = k <;> simp [h]
      · simp
      · simp
      · rename_i n k
        by_cases h : n = k
        · simp [h]
        · have h2 : SL n ≠ SL k := fun e => h (SL_inj e)
          simp [h, h2]
    simp only [List.map_cons, PyData.eqvAll, dEv_eqvAll r t, hab]
    by_cases h : a = b <;> by_cases h' : r = t <;> simp [h, h']
section
variable {prog : Program} {w : World} {A : Around} {E : Value → Shared → Prop} {s : Shared} {h₀ : Heap} {L : Addr} {m : Str → Option Value} {news : Led} {a b : Addr} {vs us : List Value} {es fs : List Ev} {k j : Nat} {Q : Value → Shared → Prop}
theorem ne_evL (N : News h₀ L s.heap news) (ma : (a, listOf vs.toArray k) ∈ news) (mb : (b, listOf us.toArray j) ∈ news) (ha : EvsAre vs es) (hb : EvsAre us fs) (ea : AscE es) (eb : AscE fs) (hu : A.units + 64 < cLine)
    (h : Q (.bool (!decide (es = fs))) s) : wpAny (model prog w) A (compareOp .NotEq (.ref a) (.ref b)) Q E s :=
  ne_dataH (reads_list_at (N.get ma) rfl rfl (dEv_all ha)) (reads_list_at (N.get mb) rfl rfl (dEv_all hb)) (dEv_shapedL _ ea) (dEv_shapedL _ eb) hu (by simp only [PyData.eqv]; rw [dEv_eqvAll]; exact h)
theorem ne_evT (N : News h₀ L s.heap news) (ma : (a, tupOf vs.toArray k) ∈ news) (mb : (b, tupOf us.toArray j) ∈ news) (ha : EvsAre vs es) (hb : EvsAre us fs) (ea : AscE es) (eb : AscE fs) (hu : A.units + 64 < cLine)
    (h : Q (.bool (!decide (es = fs))) s) : wpAny (model prog w) A (compareOp .NotEq (.ref a) (.ref b)) Q E s :=
  ne_dataH (reads_tuple_at (N.get ma) rfl rfl (dEv_all ha)) (reads_tuple_at (N.get mb) rfl rfl (dEv_all hb)) (dEv_shapedT _ ea) (dEv_shapedT _ eb) hu (by simp only [PyData.eqv]; rw [dEv_eqvAll]; exact h)
/-- a list of a text's signs -/
theorem list_SL {x : List Nat} {t : Tok} (hh : A.handled = none) (F : Fr h₀ L s.heap m) (N : News h₀ L s.heap news) (hx : x.length ≤ 1000)
    (h : ∀ D vs k h' tk, Fr h₀ L h' m → News h₀ L h' ((D, listOf (List.toArray vs) k) :: news) → (∀ p ∈ news, p.1 < D) → EvsAre vs (x.map fun c => Ev.s [c]) → Q (.ref D) { s with heap := h', toks := tk }) :
    wpAny (model prog w) A (call (.type "list") [.str (SL x) t]) Q E s := by
  refine list_strD hh F N (fun h' tk ys F' N' hk hnew hl hp hc => ?_) (by rw [SL_len, sizeLine_eq]; omega)
  obtain ⟨⟨k, hk'⟩, hne⟩ := hp
  have hD : @Ne Nat s.heap.objs.size L := fun e => absurd F.ns.lt (e ▸ Nat.lt_irrefl _)
  refine h s.heap.objs.size ys k h' tk F' (fun p hp => ?_) (fun p hp => Heap.lt_size (N p hp).1) ?_
  · rcases List.mem_cons.mp hp with rfl | hp
    · exact ⟨hk', hD, hnew⟩
    · exact N' p hp
  · have hs : (signs (SL x)).map PyData.str = (x.map fun c => Ev.s [c]).map dEv := by
      simp [signs, SL, dEv]
    rw [hs] at hc
    clear hs hk hl hk'
    generalize (x.map fun c => Ev.s [c]) = es at hc
    have key : ∀ (ys : List Value) (ds : List PyData), CarriedAll ys ds → ∀ es : List Ev, ds = es.map dEv → EvsAre ys es := by
      intro ys ds hc
      induction hc with
      | nil => intro es e; cases es with
        | nil => exact .nil
        | cons a r => cases e
      | cons h1 _ ih =>
        intro es e
        cases es with
        | nil => cases e
        | cons a r =>
          rw [List.map_cons, List.cons.injEq] at e
          refine .cons ?_ (ih r e.2)
          have e1 := e.1
          subst e1
          cases a with
          | i n => cases h1; exact .i _ _
          | s l => cases h1; exact .s _ _
    exact key ys _ hc es rfl
theorem add_L {k j : Nat} (F : Fr h₀ L s.heap m) (N : News h₀ L s.heap news) (ma : (a, listOf vs.toArray k) ∈ news) (mb : (b, listOf us.toArray j) ∈ news)
    (hz : vs.length + us.length ≤ 100000) (h : ∀ D h', Fr h₀ L h' m → News h₀ L h' ((D, listOf (vs ++ us).toArray 0) :: news) → (∀ p ∈ news, p.1 < D) → Q (.ref D) { s with heap := h' }) :
    wpAny (model prog w) A (binaryOp .Add (.ref a) (.ref b)) Q E s :=
  kmk_add_lit F N (News.isList N ma) (News.isList N mb) rfl (fun D h' F' N' l => h D h' F' (by simpa using N') l) (by simp only [sizeLine_eq]; simpa using (by omega))
theorem cut_mid (y : Value) (q : List Value) : ∀ p : List Value, kl_cut (p ++ y :: q) p.length = some (p, y, q)
  | [] => rfl
  | x :: p => by
    show (match kl_cut (p ++ y :: q) p.length with | some (p, z, r) => some (x :: p, z, r) | none => none) = _
    rw [cut_mid y q p]
theorem pop_L {news' : Led} {p q : List Value} {y : Value} {k : Nat} {i : Int} {u : Tok} (F : Fr h₀ L s.heap m) (N : News h₀ L s.heap news) (hi : i = (p.length : Int)) (hz : p.length + q.length ≤ 1000)
    (U : Upd a (listOf (p ++ y :: q).toArray k) (listOf (p ++ q).toArray (k + 1)) news news')
    (h : ∀ h', Fr h₀ L h' m → News h₀ L h' news' → Q y { s with heap := h' }) : wpAny (model prog w) A (call (.builtin "list.pop") [.ref a, .int i u]) Q E s := by
  subst hi
  refine kl_popAt (k := p.length) (p := p) (q := q) (y := y) F N ?_ ?_ ?_ U ?_ h
  · unfold Builtin.List.listFitsIndex
    simp; omega
  · unfold seqIndex?
    simp
    omega
  · exact cut_mid y q p
  · simp [sizeLine_eq]; omega
theorem upd_of (o o' : Obj) {d : Addr} {post : Led} (h2 : ∀ p ∈ post, p.1 ≠ d) : ∀ pre : Led, (∀ p ∈ pre, p.1 ≠ d) → Upd d o o' (pre ++ (d, o) :: post) (pre ++ (d, o') :: post)
  | [], _ => .head h2
  | p :: pre, h => .tail (h p (.head _)) (upd_of o o' h2 pre fun q hq => h q (.tail _ hq))
theorem evs_split : ∀ {vs : List Value} {es : List Ev} {r : Nat}, EvsAre vs es → r < es.length → ∃ p y q ep e eq, vs = p ++ y :: q ∧ es = ep ++ e :: eq ∧ p.length = r ∧ EvIs y e ∧ EvsAre p ep ∧ EvsAre q eq
  | _, _, r, .nil, h => absurd h (Nat.not_lt_zero _)
  | _, _, 0, .cons h1 h2, _ => ⟨[], _, _, [], _, _, rfl, rfl, rfl, h1, .nil, h2⟩
  | _, _, r + 1, .cons h1 h2, h => by
    obtain ⟨p, y, q, ep, e, eq, rfl, rfl, rfl, a, b, c⟩ := evs_split h2 (Nat.lt_of_succ_lt_succ h)
    exact ⟨_ :: p, y, q, _ :: ep, e, eq, rfl, rfl, rfl, a, .cons h1 b, c⟩
theorem map_split {l : List Nat} {ep eq : List Ev} {e : Ev} (h : l.map (fun c => Ev.s [c]) = ep ++ e :: eq) : ∃ lp c lq, l = lp ++ c :: lq ∧ ep = lp.map (fun c => Ev.s [c]) ∧ e = .s [c] ∧ eq = lq.map (fun c => Ev.s [c]) := by
  induction ep generalizing l with
  | nil =>
    cases l with
    | nil => cases h
    | cons c r => rw [List.map_cons, List.nil_append, List.cons.injEq] at h; exact ⟨[], c, r, rfl, rfl, h.1.symm, h.2.symm⟩
  | cons a ep ih =>
    cases l with
    | nil => cases h
    | cons c r =>
      rw [List.map_cons, List.cons_append, List.cons.injEq] at h
      obtain ⟨lp, d, lq, h1, h2, h3, h4⟩ := ih h.2
      exact ⟨c :: lp, d, lq, by rw [h1]; rfl, by rw [h2, ← h.1]; rfl, h3, h4⟩
theorem pop_SL {l : List Nat} {g : Obj → Led} {r : Int} {u : Tok} (F : Fr h₀ L s.heap m) (N : News h₀ L s.heap news) (hv : EvsAre vs (l.map fun c => Ev.s [c])) (h0 : 0 ≤ r) (h1 : r < (l.length : Int)) (hz : l.length ≤ 1000)
    (U : UpdF a (listOf vs.toArray k) news g)
    (h : ∀ (c : Nat) (t : Tok) (ws : List Value) (l' : List Nat) (h' : Heap), (∀ d, d ∈ l ↔ d = c ∨ d ∈ l') → l'.length + 1 = l.length → EvsAre ws (l'.map fun c => Ev.s [c]) → Fr h₀ L h' m → News h₀ L h' (g (listOf ws.toArray (k + 1))) → Q (.str (SL [c]) t) { s with heap := h' }) :
    wpAny (model prog w) A (call (.builtin "list.pop") [.ref a, .int r u]) Q E s := by
  obtain ⟨p, y, q, ep, e, eq, h2, h3, h4, h5, h6, h7⟩ := evs_split hv (r := r.toNat) (by rw [List.length_map]; omega)
  obtain ⟨lp, c, lq, rfl, rfl, rfl, rfl⟩ := map_split h3
  subst h2
  obtain ⟨pre, post, rfl, hg, ha, hb⟩ := U.split
  cases h5 with
  | s _ t =>
    have hp := h6.len
    have hq := h7.len
    simp only [List.length_map] at hp hq
    simp only [List.length_append, List.length_cons] at h1 hz
    refine pop_L F N (by omega) (by omega) (upd_of _ _ hb pre ha) fun h' F' N' => ?_
    refine h c t (p ++ q) (lp ++ lq) h' (fun d => ?_) ?_ ?_ F' (by rw [hg]; exact N')
    · simp only [List.mem_append, List.mem_cons]
      constructor
      · rintro (h | h | h)
        · exact .inr (.inl h)
        · exact .inl h
        · exact .inr (.inr h)
      · rintro (h | h | h)
        · exact .inr (.inl h)
        · exact .inl h
        · exact .inr (.inr h)
    · simp only [List.length_append, List.length_cons]; omega
    · rw [List.map_append]; exact h6.app h7
theorem len_L {n : Nat} (N : News h₀ L s.heap news) (ma : (a, listOf vs.toArray k) ∈ news) (hl : vs.length = n) (hz : n ≤ 16000) (h : ∀ t tk, Q (.int (n : Int) t) { s with toks := tk }) :
    wpAny (model prog w) A (call (.builtin "len") [.ref a]) Q E s := by
  subst hl
  exact kun_lenL (News.isList N ma) (by simp) (by omega) (h _ _)
end
open LCg LCt
theorem letters_asc {x : List Nat} (ha : ∀ c ∈ x, c ∈ letters6) : (SL x).cps.all (· < 128) = true := by
  rw [SL, List.all_toArray, List.all_eq_true]
  intro c hc
  rcases letters_cases (ha c hc) with rfl | rfl | rfl | rfl | rfl | rfl <;> rfl
theorem SL_size (x : List Nat) : (SL x).cps.size = x.length := by simp [SL]
theorem led_sub5 {a b c d e : Addr × Obj} {R : Led} : ∀ p ∈ b :: e :: R, p ∈ a :: b :: c :: d :: e :: R := fun p hp => by
  rcases List.mem_cons.mp hp with rfl | hp
  · exact .tail _ (.head _)
  · exact .tail _ (.tail _ (.tail _ (.tail _ hp)))
theorem law_mixed (w : World) (dk il : Addr) (c2 : Nat) (vs : List Value) (ns : List Int) (hI : IntsAre vs ns) (hlen : ns.length ≤ 50) (x : List Nat) (tx : Tok) (hx : x.length ≤ 6) (ha : ∀ c ∈ x, c ∈ letters6) :
    Deck w 12 175 [.ref dk, .str (SL x) tx] dk il (listOf vs.toArray c2) 18 (fun _ => True) (fun v => ∃ l t, v = .str (SL l) t ∧ (∀ c, c ∈ l ↔ c ∈ x) ∧ l.length ≤ 12) := by
  k_with_none
  k_with "mine ktr_room" => (first | exact room0 hd | exact roomD hd rfl)
  k_with "mine ktr_units" => (exact roomU hu rfl)
  k_with "mine k_upd" => first | exact Upd.head (by assumption) | exact Upd.tail (Ne.symm (by assumption)) (Upd.head (by assumption)) | exact Upd.tail (by assumption) (Upd.head (by assumption))
  k_with "mine k_updF" => exact UpdF.head (by assumption)
  k_with "mine k_mem" => assumption
  k_with "mine k_all" => assumption
  k_with "mine call ref" => (k_here; (with_reducible show wpAny _ _ (call (Value.ref 163) [Value.ref _, Value.int _ _]) _ _ _); k_dflt (refine' Deck.useB (law_draw _ _ _ _ _ _ _ _ (by assumption) (by first | assumption | exact List.length_take_le _ _) ?kp ?kq) ?k1 ?k2 ?k3 ?k4 ?k5 ?kK ?kd ?ku ?kU ?kil ?kne ?k0 ?k9 ?kP ?_; walk_at "mine:deck"; (intro _ _ _ _ _ _ _ _ _ _ _ _ N9; (try dsimp only at N9); (try (revert N9; intro _)); (try dsimp only); (try k_fold))))
  k_with "mine mine:deck" => (
  (case k1 => k_asm)
  (case k2 => k_asm)
  (case k3 => k_asm)
  (case k4 => k_asm)
  (case k5 => k_asm)
  (case kK => first | exact rfl | assumption)
  (case kd => ktr_room)
  (case ku => ktr_units)
  (case kU => k_updF)
  (case kil => first | assumption | k_mem)
  (case kne => first | assumption | exact Ne.symm (by assumption) | k_ne)
  (case k0 => omega)
  (case k9 => omega)
  (case kP => walk_at "mine:deckP")
  (case kp => walk_at "mine:many")
  (case kq => walk_at "mine:many")
  (try (case kr => k_ne)))
  k_with "mine mine:many" => first | decide | omega
  k_with "mine mine:deckP" => (intro _ _; trivial)
  k_with "mine mine:enterC" => (refine' code_defC ?k1 ?k2 ?k3 ?k4 ?k5 ?kA ?kF ?kK ?k6 ?k7 ?k8 ?k9 ?kB ?kD ?_ ?c2 ?c3 ?c4; (case kA => exact rfl); (case kF => exact rfl); (case kK => assumption); (case k1 => k_asm); (case k2 => k_asm); (case k3 => k_asm); (case k4 => k_asm); (case k5 => k_asm); (case k6 => k_is); (case k7 => k_is); (case k8 => ktr_room); (case k9 => exact BindsTo.of_eq rfl); (case kB => exact rfl); (case kD => decide +kernel); (case c2 => exact rfl); (case c3 => exact rfl); (case c4 => exact rfl); k_whole; intro _ _ _ _ _ _ _ N' Y' _ _ _ l1; (try k_lt l1); k_cells Y'; (try simp only [List.cons_append, List.nil_append] at N'); (try (revert l1; intro _)); (try (revert N'; intro _)); (try dsimp only); (try k_fold))
  k_with "mine eval ListComp" => (k_here; k_dflt (refine ListComp_ST (F₀ := by k_asm) (by with_unfolding_all rfl) (by decide) (by rfl) (by decide) (by rfl) ?_))
  k_with "mine exec While" => (k_here; refine while_stop ?_)
  k_with "mine pyIter str" => (k_here; refine iter_stop ?_)
  k_with "mine pyIter ref" => (k_here; refine iter_stop ?_)
  k_with "mine exec For Name Name cons nil" => (k_here; (with_unfolding_all refine' For_invVF ‹Fr _ _ _ _› ?k1 ?k2 ?_; (case k1 => exact rfl); (case k2 => exact rfl); k_whole))
  k_with "mine TurnN" => (dsimp only [TurnN])
  k_with "mine WPost" => (dsimp only [WPost])
  k_with "mine call type:list" => (k_here; (with_reducible show wpAny _ _ (call (Value.type _) [Value.str (SL _) _]) _ _ _); k_dflt (refine' list_SL ?k1 ?k2 ?k3 ?k4 ?_; (case k1 => exact rfl); (case k2 => k_asm); (case k3 => k_asm); (case k4 => omega)); intro _ _ _ _ _ _ _ l1 _; (try k_lt l1); (try (revert l1; intro _)); (try dsimp only); (try k_sweep))
  k_with "mine binaryOp Add ref ref" => (k_here; (with_reducible show wpAny _ _ (binaryOp _ (Value.ref _) (Value.ref _)) _ _ _); k_dflt (refine' add_L ?k1 ?k2 ?k3 ?k4 ?k5 ?_; (case k1 => k_asm); (case k2 => k_asm); (case k3 => k_mem); (case k4 => k_mem); (case k5 => walk_at "mine:room")); intro _ _ _ _ l1; (try k_lt l1); (try (revert l1; intro _)); (try dsimp only); (try k_sweep))
  k_with "mine mine:room" => ((try simp only [List.length_append, List.length_cons, List.length_nil]); omega)
  k_with "mine mine:evs" => first | assumption | exact EvsAre.nil
  k_with "mine mine:asc" => first | assumption | exact fun _ h => by cases h
  k_with "mine compareOp NotEq ref ref" => (k_here; (with_reducible show wpAny _ _ (compareOp _ (Value.ref _) (Value.ref _)) _ _ _); k_dflt (refine' ne_evL ?k1 ?k2 ?k3 ?k4 ?k5 ?k6 ?k7 ?k8 ?_; (case k1 => k_asm); (case k2 => k_mem); (case k3 => k_mem); (case k4 => walk_at "mine:evs"); (case k5 => walk_at "mine:evs"); (case k6 => walk_at "mine:asc"); (case k7 => walk_at "mine:asc"); (case k8 => first | units_room | ktr_units)); (try dsimp only))
  k_with "mine call builtin:len" => (k_here; (with_reducible show wpAny _ _ (call (Value.builtin "len") [Value.ref _]) _ _ _); k_dflt (refine' len_L ?k1 ?k2 ?k3 ?k4 ?_; (case k1 => k_asm); (case k2 => k_mem); (case k3 => assumption); (case k4 => omega)); intro _ _; (try dsimp only))
  k_with "mine call builtin:list.pop" => (k_here; (with_reducible show wpAny _ _ (call (Value.builtin _) [Value.ref _, Value.int _ _]) _ _ _); k_dflt (refine' pop_SL ?k1 ?k2 ?k3 ?k4 ?k5 ?k6 ?k7 ?_; (case k1 => k_asm); (case k2 => k_asm); (case k7 => k_updF); (case k3 => assumption); (case k4 => assumption); (case k5 => first | assumption | (simp only [List.length_cons]; omega)); (case k6 => first | omega | (simp only [List.length_cons]; omega))); intro _ _ _ _ _ _ _ _ _ N'; (try dsimp only at N'); (try (revert N'; intro _)); (try dsimp only))
  k_with "mine binaryOp Add str str" => ((with_reducible show wpAny _ _ (binaryOp Operator.Add (Value.str (SL _) _) (Value.str (SL _) _)) _ _ _); refine add_SL (by (try simp only [List.length_append, pre_len, List.length_cons, List.length_nil]); omega) ?_; intro _ _; (try dsimp only))
  unfold Deck
  k_fill
  intro p loose mean mg mb dp un gd cn cs a ccd cl outer A₀ base h₀ L m rest n t c s Q E B F X N T hk hd hu hil hoff hn0 hn1 hP hret
  refine wpAny_call ?_
  k_dflt walk_at "mine:enterC"
  have hne : il ≠ dk := hoff _ hil
  k_steps
  rename (_ < _ ∧ dk < _ ∧ AllLt _ rest) => lD
  rename_i D₁ vs₁ k₁ h₁ tk₁ F₁ N₁ hev₁
  obtain ⟨lD1, lD2, lD3⟩ := lD
  have hvl : vs₁.length = x.length := by simpa using hev₁.len
  refine SrcS.mk rfl (by k_asm) (by k_asm) (by rw [SL_size, sizeLine_eq]; omega) (letters_asc ha) ?_
  intro g
  rw [SL_size]
  refine restT_inv (fun i ys nw => ∃ n' t' c' sel, nw = (D₁, listOf vs₁.toArray k₁) :: (_, _) :: (dk, deckOb il n' t' c') :: rest ∧ n ≤ n' ∧ n' ≤ n + i ∧ EvsAre ys (List.map (fun c => Ev.s [c]) sel) ∧ sel.length ≤ i ∧ ∀ c ∈ sel, c ∈ x) ?_ ?_ x.length 0 [] _ rfl (exI4 _ _ _ [] ⟨rfl, Int.le_refl _, by omega, .nil, Nat.le_refl _, fun _ h => by cases h⟩)
  · intro i ys nw v I oI C oC D m₂ h tk E' hi
    apply elB4_5
    intro n' t' c' sel hn1 hn2 hys hsl hsel
    apply elC2_1
    intro ch u hc hC hx F₁ N₁ off ne
    have hoI := off.2.2.1.1
    have hoC := off.2.2.1.2.1
    have hoD := off.2.2.1.2.2
    k_steps
    · refine LCg.CompEnd.intro (by k_asm) (by k_asm) _ (fun _ h => h) (by exact off) trivial (exI4 _ _ _ (sel ++ [ch]) ⟨rfl, by omega, by omega, ?_, ?_, ?_⟩)
      · rw [List.map_append]; exact hys.snoc (.s _ _)
      · rw [List.length_append, List.length_cons, List.length_nil]; omega
      · intro c hc2
        rcases List.mem_append.mp hc2 with h | h
        · exact hsel c h
        · rcases List.mem_singleton.mp h with rfl
          exact List.mem_of_getElem? (by simpa [SL] using hc)
    · exact LCg.CompEnd.intro (by k_asm) (by k_asm) _ (fun _ h => h) (by exact off) trivial (exI4 _ _ _ sel ⟨rfl, by omega, by omega, hys, by omega, hsel⟩)
  · intro ys nw
    apply elB4_5
    intro n' t' c' sel hn1 hn2 hys hsl hsel
    have hyl : ys.length = sel.length := by simpa using hys.len
    k_steps
    rename_i Dc hA tA oA Ds hB lB Dt hC lC hD hE hF FA NA
    have hDs : ∀ p ∈ rest, p.1 ≠ Ds := fun p hp => Nat.ne_of_lt (ktn_ltOf lB.2.2.2.2 p hp)
    have NB := cb_drop NA (led_sub5)
    refine while_by (σ := List Nat × List Nat) (fun c => c.1.length) (fun c m nw => ∃ ws kk n' t' c' t1, nw = (Ds, listOf (List.toArray ws) kk) :: (_, _) :: (dk, deckOb il n' t' c') :: rest ∧ m (Str.ofString "rest") = some (.ref Ds) ∧ m (Str.ofString "found") = some (.str (SL c.2) t1) ∧ EvsAre ws (c.1.map fun c => Ev.s [c]) ∧ n ≤ n' ∧ n' ≤ n + 6 + c.2.length ∧ c.1.length + c.2.length ≤ 12 ∧ ∀ d, (d ∈ c.1 ∨ d ∈ c.2) ↔ d ∈ x)
      (by passes_own) FA NB (x ++ sel, []) (exI6 _ _ _ _ _ _ ⟨rfl, rfl, by rw [SL_nil]; rfl, by rw [List.map_append]; exact hev₁.app hys, by omega, by simp only [List.length_nil]; omega, by simp only [List.length_append, List.length_nil]; omega, fun d => by simp only [List.mem_append, List.not_mem_nil, or_false]; exact ⟨fun h => h.elim id (hsel d), .inl⟩⟩) ?_
    rintro ⟨rem, fnd⟩ m₁ nw h tk
    apply elB6_7
    intro ws kk n' t' c' t1 hr hf hws hn1 hn2 hlen hmem F1 N1
    have F2 := fr_two (by decide) hr hf F1
    clear F1
    dsimp only at F2 hlen hws hmem hn2
    have hasc : AscE (rem.map fun c => Ev.s [c]) := by
      intro l hl c hc
      obtain ⟨d, hd, e⟩ := List.mem_map.mp hl
      cases e
      rcases List.mem_singleton.mp hc with rfl
      rcases letters_cases (ha c ((hmem c).mp (.inl hd))) with rfl | rfl | rfl | rfl | rfl | rfl <;> decide
    have hwl : ws.length = rem.length := by simpa using hws.len
    cases rem with
    | nil =>
      k_steps
      exact hret _ _ _ _ _ _ ⟨fnd, t1, rfl, fun d => by simpa using hmem d, by simp only [List.length_nil] at hlen; omega⟩ (by omega) (by simp only [List.length_nil] at hlen; omega) (by k_asm) (by refine' cb_drop ?cbN ?cbS; (case cbN => assumption); (case cbS => exact fun p hp => .tail _ (.tail _ (.tail _ hp))))
    | cons e r =>
      rw [List.length_cons] at hwl hlen
      k_steps
      · rename decide (List.map _ (e :: r) = []) = true => hd0
        simp at hd0
      · rename ∀ d, d ∈ e :: r ↔ _ => hl1
        rename _ + 1 = (e :: r).length => hl2
        rename EvsAre _ (List.map _ _) => hl3
        rw [List.length_cons] at hl2
        refine WEnd.intro (_, _) _ (by k_asm) (by refine' cb_drop ?cbN ?cbS; (case cbN => assumption); (case cbS => exact fun p hp => .tail _ hp)) ?_ (exI6 _ _ _ _ _ _ ⟨rfl, rfl, rfl, hl3, by omega, ?_, ?_, ?_⟩)
        · dsimp only
          rw [List.length_cons]
          omega
        · dsimp only
          rw [List.length_append, List.length_cons, List.length_nil]; omega
        · dsimp only
          rw [List.length_append, List.length_cons, List.length_nil]; omega
        · intro d
          have h1 := hl1 d
          have h2 := hmem d
          dsimp only at h2 ⊢
          rw [← h2, h1]
          simp only [List.mem_append, List.mem_cons, List.not_mem_nil, or_false]
          constructor
          · rintro (h | h | h)
            · exact .inl (.inr h)
            · exact .inr h
            · exact .inl (.inl h)
          · rintro ((h | h) | h)
            · exact .inr (.inr h)
            · exact .inl h
            · exact .inr (.inl h)
open LCg LCt
noncomputable def apartI (n : Int) : Int := if n < 32 then (if 0 < n ∧ n < 27 then n + 96 else n + 64) else if 65 ≤ n ∧ n ≤ 90 then n + 32 else n
noncomputable def ownI (n : Int) : List Nat := if n < 32 then [67] else if 65 ≤ n ∧ n ≤ 90 then [83] else []
theorem SL_C : Str.ofString "C" = SL [67] := by decide +kernel
theorem SL_S : Str.ofString "S" = SL [83] := by decide +kernel
theorem tup_endI {n n' : Int} {x y : Str} {t1 t2 : Tok} (h1 : n = n') (h2 : x = y) : ∃ u1 u2, tup2 (.int n t1) (.str x t2) = tup2 (.int n' u1) (.str y u2) := ⟨t1, t2, by rw [h1, h2]⟩
theorem tup_endS {n n' : Str} {x y : Str} {t1 t2 : Tok} (h1 : n = n') (h2 : x = y) : ∃ u1 u2, tup2 (.str n t1) (.str x t2) = tup2 (.str n' u1) (.str y u2) := ⟨t1, t2, by rw [h1, h2]⟩
theorem ret_tupI {h₀ h' : Heap} {L : Addr} {m : Str → Option Value} {news : Led} {s : Shared} {Q : Value → Shared → Prop} {b : Addr} {tk' : Nat} {n n' : Int} {x y : Str} {t1 t2 : Tok}
    (hret : ∀ (b : Addr) (o : Obj) (h' : Heap) (tk' : Nat), (∃ u1 u2, o = tup2 (.int n' u1) (.str y u2)) → (∀ p ∈ news, p.1 < b) → Fr h₀ L h' m → News h₀ L h' ((b, o) :: news) → Q (.ref b) { s with heap := h', toks := tk' })
    (F : Fr h₀ L h' m) (N : News h₀ L h' ((b, tup2 (.int n t1) (.str x t2)) :: news)) (l : ∀ p ∈ news, p.1 < b) (h1 : n = n') (h2 : x = y) : Q (.ref b) { s with heap := h', toks := tk' } :=
  hret b _ h' tk' (tup_endI h1 h2) l F N
theorem law_apart_str (w : World) (x : List Nat) (t : Tok) : New w 2 182 [.str (SL x) t] (fun o => ∃ t1 t2, o = tup2 (.str (SL x) t1) (.str (SL []) t2)) := by
  k_with_none
  k_with "mine ktr_room" => (first | exact room0 hd | exact roomD hd rfl)
  k_with "mine ktr_units" => (exact roomU hu rfl)
  unfold New; k_fill; intro p loose mean mg mb dp un gd cn cs a ccd cl outer A₀ base h₀ L m news s Q E B F X N T hk hd hu hret; refine wpAny_call ?_
  k_dflt ktr_enter
  k_steps
  refine' hret _ _ _ _ ?hO ?hL ?hF ?hN
  case hF => k_asm
  case hN => k_asm
  case hL => assumption
  exact tup_endS rfl SL_nil
theorem law_apart_int (w : World) (n : Int) (t : Tok) : New w 2 182 [.int n t] (fun o => ∃ t1 t2, o = tup2 (.int (apartI n) t1) (.str (SL (ownI n)) t2)) := by
  unfold New; k_fill; intro p loose mean mg mb dp un gd cn cs a ccd cl outer A₀ base h₀ L m news s Q E B F X N T hk hd hu hret; refine wpAny_call ?_
  k_dflt ktr_enter
  k_steps
  all_goals refine ret_tupI (Q := Q) hret (by k_asm) (by k_asm) (by assumption) ?_ ?_
  all_goals simp only [apartI, ownI, ← SL_C, ← SL_S, ← SL_nil]
  all_goals (repeat' split) <;> first | rfl | omega
noncomputable def makeE : Ev → List Nat → Ev
  | .i n, x => .i (mkInt n x)
  | .s b, x => .s (mkName b x)
noncomputable def intB : List Int := [97, 65, 122, 90, 48, 37, 64, 91, 95, 94, 32, 127, 0, 9, 27, 31, 233, 8364]
noncomputable def strB : List (List Nat) := [[102, 49], [120], [45]]
noncomputable def subs6 : List (List Nat) := letters6.foldr (fun c r => r.map (fun x => c :: x) ++ r) [[]]
theorem subs_all : ∀ x : List Nat, ordL x ∈ subs6 := by
  intro x
  have key : ∀ (l : List Nat) (p : Nat → Bool), l.filter p ∈ l.foldr (fun c r => r.map (fun x => c :: x) ++ r) [[]] := by
    intro l p
    induction l with
    | nil => exact .head _
    | cons a r ih =>
      rw [List.foldr_cons, List.filter_cons]
      split
      · exact List.mem_append_left _ (List.mem_map.mpr ⟨_, ih, rfl⟩)
      · exact List.mem_append_right _ ih
  exact key _ _
theorem ordL_ord (x : List Nat) : ordL (ordL x) = ordL x := by
  unfold ordL
  apply List.filter_congr
  intro c hc
  rw [Bool.eq_iff_iff]
  simp [hc]
theorem ordL_set {x y : List Nat} (h : ∀ c, c ∈ x ↔ c ∈ y) : ordL x = ordL y := by
  unfold ordL
  apply List.filter_congr
  intro c _
  rw [Bool.eq_iff_iff]
  simp [h c]
theorem ordL_app (x y : List Nat) : ordL (ordL x ++ y) = ordL (x ++ y) := by
  unfold ordL
  apply List.filter_congr
  intro c hc
  rw [Bool.eq_iff_iff]
  simp [hc]
theorem mkInt_ord (n : Int) (x : List Nat) : mkInt n (ordL x) = mkInt n x := by
  unfold mkInt; rw [ordL_ord]
theorem mkInt_set (n : Int) {x y : List Nat} (h : ∀ c, c ∈ x ↔ c ∈ y) : mkInt n x = mkInt n y := by
  unfold mkInt; rw [ordL_set h]
theorem mkName_set (n : List Nat) {x y : List Nat} (h : ∀ c, c ∈ x ↔ c ∈ y) : mkName n x = mkName n y := by
  unfold mkName
  rw [ordL_set (x := ordL (splitF n).1 ++ x) (y := ordL (splitF n).1 ++ y) (fun c => by rw [List.mem_append, List.mem_append, h c])]
theorem ordL_two (s x : List Nat) : ordL (s ++ ordL x) = ordL (s ++ x) := by
  unfold ordL
  apply List.filter_congr
  intro c hc
  rw [Bool.eq_iff_iff]
  simp [hc]
theorem mkName_ord (n x : List Nat) : mkName n (ordL x) = mkName n x := by
  unfold mkName
  rw [ordL_two]
noncomputable def addOkI (n : Int) : Bool := subs6.all fun x => letters6.all fun c => mkInt (mkInt n x) [c] == mkInt n (x ++ [c])
noncomputable def addOkS (n : List Nat) : Bool := subs6.all fun x => letters6.all fun c => mkName (mkName n x) [c] == mkName n (x ++ [c])
theorem addI_1 : (intB.take 6).all addOkI = true := by decide +kernel
theorem addI_2 : ((intB.drop 6).take 6).all addOkI = true := by decide +kernel
theorem addI_3 : (intB.drop 12).all addOkI = true := by decide +kernel
theorem addS_a : addOkS [102, 49] = true := by decide +kernel
theorem addS_b : addOkS [120] = true := by decide +kernel
theorem addS_c : addOkS [45] = true := by decide +kernel
theorem addS_1 : strB.all addOkS = true := by
  show (addOkS [102, 49] && (addOkS [120] && (addOkS [45] && true))) = true
  rw [addS_a, addS_b, addS_c]
  rfl
theorem three_all {f : Int → Bool} (h1 : (intB.take 6).all f = true) (h2 : ((intB.drop 6).take 6).all f = true) (h3 : (intB.drop 12).all f = true) {n : Int} (hn : n ∈ intB) : f n = true := by
  rw [List.all_eq_true] at h1 h2 h3
  have e : intB = intB.take 6 ++ ((intB.drop 6).take 6 ++ intB.drop 12) := by decide +kernel
  rw [e] at hn
  rcases List.mem_append.mp hn with h | h
  · exact h1 n h
  · rcases List.mem_append.mp h with h | h
    · exact h2 n h
    · exact h3 n h
theorem add_int {n : Int} (hn : n ∈ intB) (x : List Nat) {c : Nat} (hc : c ∈ letters6) : mkInt (mkInt n x) [c] = mkInt n (x ++ [c]) := by
  have h := three_all addI_1 addI_2 addI_3 hn
  unfold addOkI at h
  rw [List.all_eq_true] at h
  have h2 := h _ (subs_all x)
  rw [List.all_eq_true] at h2
  have h3 := eq_of_beq (h2 c hc)
  rw [mkInt_ord, ← mkInt_ord n (ordL x ++ [c]), ordL_app, mkInt_ord] at h3
  exact h3
theorem add_name {n : List Nat} (hn : n ∈ strB) (x : List Nat) {c : Nat} (hc : c ∈ letters6) : mkName (mkName n x) [c] = mkName n (x ++ [c]) := by
  have h0 := addS_1
  rw [List.all_eq_true] at h0
  have h := h0 n hn
  unfold addOkS at h
  rw [List.all_eq_true] at h
  have h2 := h _ (subs_all x)
  rw [List.all_eq_true] at h2
  have h3 := eq_of_beq (h2 c hc)
  rw [mkName_ord, ← mkName_ord n (ordL x ++ [c]), ordL_app, mkName_ord] at h3
  exact h3
noncomputable def okI (n : Int) : Bool := subs6.all fun x => decide (0 ≤ mkInt n x) && decide (mkInt n x < 268435456) && (baseOf (mkInt n x) == apartI n) && (modsOf (mkInt n x) == ordL (x ++ ownI n)) && (hasMeta (mkInt n x) == x.contains 77)
noncomputable def okS (n : List Nat) : Bool := subs6.all fun x => (!(mkName n x).isEmpty) && decide ((mkName n x).length ≤ 1000) && (mkName n x).all (fun c => decide (c < 128)) && ((splitF (mkName n x)).2 == n) && (ordL (splitF (mkName n x)).1 == ordL x) && (mkName n [] == n)
theorem okI_1 : (intB.take 6).all okI = true := by decide +kernel
theorem okI_2 : ((intB.drop 6).take 6).all okI = true := by decide +kernel
theorem okI_3 : (intB.drop 12).all okI = true := by decide +kernel
theorem okS_1 : strB.all okS = true := by decide +kernel
theorem mkInt_nil (n : Int) : mkInt n [] = n := rfl
theorem ok_int {n : Int} (hn : n ∈ intB) (x : List Nat) (hx : ordL x = x) : 0 ≤ mkInt n x ∧ mkInt n x < 268435456 ∧ baseOf (mkInt n x) = apartI n ∧ modsOf (mkInt n x) = ordL (x ++ ownI n) ∧ hasMeta (mkInt n x) = x.contains 77 := by
  have h := three_all okI_1 okI_2 okI_3 hn
  unfold okI at h
  rw [List.all_eq_true] at h
  have h2 := h _ (subs_all x)
  rw [hx] at h2
  simp only [Bool.and_eq_true, decide_eq_true_eq, beq_iff_eq] at h2
  exact ⟨h2.1.1.1.1, h2.1.1.1.2, h2.1.1.2, h2.1.2, h2.2⟩
theorem ok_name {n : List Nat} (hn : n ∈ strB) (x : List Nat) (hx : ordL x = x) : mkName n x ≠ [] ∧ (mkName n x).length ≤ 1000 ∧ (∀ c ∈ mkName n x, c < 128) ∧ (splitF (mkName n x)).2 = n ∧ ordL (splitF (mkName n x)).1 = ordL x ∧ mkName n [] = n := by
  have h0 := okS_1
  rw [List.all_eq_true] at h0
  have h := h0 n hn
  unfold okS at h
  rw [List.all_eq_true] at h
  have h2 := h _ (subs_all x)
  rw [hx] at h2
  simp only [Bool.and_eq_true, decide_eq_true_eq, beq_iff_eq, List.all_eq_true, Bool.not_eq_true'] at h2
  refine ⟨?_, h2.1.1.1.1.2, h2.1.1.1.2, h2.1.1.2, ?_, h2.2⟩
  · intro e
    rw [e] at h2
    simp at h2
  · rw [h2.1.2, hx]
open LCg LCt
noncomputable def goodE : Ev → Prop
  | .i n => 0 ≤ n ∧ n < 268435456
  | .s l => ∀ c ∈ l, c < 128
noncomputable def isBase (v : Value) : Prop := (∃ n t, v = .int n t ∧ n ∈ intB) ∨ ∃ l t, v = .str (SL l) t ∧ l ∈ strB
theorem base_int {n : Int} {t : Tok} (h : n ∈ intB) : isBase (.int n t) := .inl ⟨n, t, rfl, h⟩
theorem base_str {x : Str} {t : Tok} (l : List Nat) (e : x = SL l) (h : l ∈ strB) : isBase (.str x t) := .inr ⟨l, t, by rw [e], h⟩
theorem is_base {v : Value} {t1 t2 t3 t4 t5 t6 t7 t8 t9 t10 t11 t12 t13 t14 t15 t16 t17 t18 t19 t20 t21 : Tok} (h : v ∈ [Value.int 97 t1, Value.int 65 t2, Value.int 122 t3, Value.int 90 t4, Value.int 48 t5, Value.int 37 t6, Value.int 64 t7, Value.int 91 t8, Value.int 95 t9, Value.int 94 t10, Value.int 32 t11, Value.int 127 t12, Value.int 0 t13, Value.int 9 t14, Value.int 27 t15, Value.int 31 t16, Value.int 233 t17, Value.int 8364 t18, Value.str (Str.ofString "f1") t19, Value.str (Str.ofString "x") t20, Value.str (Str.ofString "-") t21]) : isBase v := by
  have key : ∀ v ∈ [Value.int 97 t1, Value.int 65 t2, Value.int 122 t3, Value.int 90 t4, Value.int 48 t5, Value.int 37 t6, Value.int 64 t7, Value.int 91 t8, Value.int 95 t9, Value.int 94 t10, Value.int 32 t11, Value.int 127 t12, Value.int 0 t13, Value.int 9 t14, Value.int 27 t15, Value.int 31 t16, Value.int 233 t17, Value.int 8364 t18, Value.str (Str.ofString "f1") t19, Value.str (Str.ofString "x") t20, Value.str (Str.ofString "-") t21], isBase v := by
    refine List.forall_mem_cons.mpr ⟨base_int (by decide), ?_⟩
    refine List.forall_mem_cons.mpr ⟨base_int (by decide), ?_⟩
    refine List.forall_mem_cons.mpr ⟨base_int (by decide), ?_⟩
    refine List.forall_mem_cons.mpr ⟨base_int (by decide), ?_⟩
    refine List.forall_mem_cons.mpr ⟨base_int (by decide), ?_⟩
    refine List.forall_mem_cons.mpr ⟨base_int (by decide), ?_⟩
    refine List.forall_mem_cons.mpr ⟨base_int (by decide), ?_⟩
    refine List.forall_mem_cons.mpr ⟨base_int (by decide), ?_⟩
    refine List.forall_mem_cons.mpr ⟨base_int (by decide), ?_⟩
    refine List.forall_mem_cons.mpr ⟨base_int (by decide), ?_⟩
    refine List.forall_mem_cons.mpr ⟨base_int (by decide), ?_⟩
    refine List.forall_mem_cons.mpr ⟨base_int (by decide), ?_⟩
    refine List.forall_mem_cons.mpr ⟨base_int (by decide), ?_⟩
    refine List.forall_mem_cons.mpr ⟨base_int (by decide), ?_⟩
    refine List.forall_mem_cons.mpr ⟨base_int (by decide), ?_⟩
    refine List.forall_mem_cons.mpr ⟨base_int (by decide), ?_⟩
    refine List.forall_mem_cons.mpr ⟨base_int (by decide), ?_⟩
    refine List.forall_mem_cons.mpr ⟨base_int (by decide), ?_⟩
    refine List.forall_mem_cons.mpr ⟨base_str [102, 49] (by decide +kernel) (by decide), ?_⟩
    refine List.forall_mem_cons.mpr ⟨base_str [120] (by decide +kernel) (by decide), ?_⟩
    refine List.forall_mem_cons.mpr ⟨base_str [45] (by decide +kernel) (by decide), ?_⟩
    exact List.forall_mem_nil _
  exact key v h
theorem sub_subs {x : List Nat} (h : x.Sublist letters6) : x ∈ subs6 := by
  have key : ∀ (l x : List Nat), x.Sublist l → x ∈ l.foldr (fun c r => r.map (fun x => c :: x) ++ r) [[]] := by
    intro l x h
    induction h with
    | slnil => exact .head _
    | cons a _ ih => exact List.mem_append_right _ ih
    | cons_cons a _ ih => exact List.mem_append_left _ (List.mem_map.mpr ⟨_, ih, rfl⟩)
  exact key _ _ h
theorem subs_ord : (subs6.all fun x => ordL x == x) = true := by decide +kernel
theorem sub_ord {x : List Nat} (h : x.Sublist letters6) : ordL x = x := by
  have h0 := subs_ord
  rw [List.all_eq_true] at h0
  exact eq_of_beq (h0 x (sub_subs h))
theorem all_ne1 {L : Addr} {rest : Led} (h : AllLt L rest) : ∀ p ∈ rest, p.1 ≠ L + 1 := fun p hp => Nat.ne_of_lt (Nat.lt_succ_of_lt (ktn_ltOf h p hp))
theorem all_ne2 {L : Addr} {rest : Led} (h : AllLt L rest) : ∀ p ∈ rest, p.1 ≠ L + 1 + 1 := fun p hp => Nat.ne_of_lt (Nat.lt_succ_of_lt (Nat.lt_succ_of_lt (ktn_ltOf h p hp)))
theorem all_ne3 {L : Addr} {rest : Led} (h : AllLt L rest) : ∀ p ∈ rest, p.1 ≠ L + 1 + 1 + 1 := fun p hp => Nat.ne_of_lt (Nat.lt_succ_of_lt (Nat.lt_succ_of_lt (Nat.lt_succ_of_lt (ktn_ltOf h p hp))))
theorem fr_three {h₀ h : Heap} {L : Addr} {m : Str → Option Value} {x y z : Str} {vx vy vz : Value} (hx : m x = some vx) (hy : m y = some vy) (hz : m z = some vz) (F : Fr h₀ L h m) :
    Fr h₀ L h (fun u => if u = x then some vx else if u = y then some vy else if u = z then some vz else m u) := by
  have e : (fun u => if u = x then some vx else if u = y then some vy else if u = z then some vz else m u) = m := by
    funext u
    by_cases h1 : u = x
    · simp [h1, hx]
    · by_cases h2 : u = y
      · subst h2; simp [h1, hy]
      · by_cases h3 : u = z
        · subst h3; simp [h1, h2, hz]
        · simp [h1, h2, h3]
  rw [e]; exact F
theorem SL_M : Str.ofString "M" = SL [77] := by decide +kernel
theorem has_M (x : List Nat) : (Builtin.Str.occurrences (SL x) (Str.ofString "M") 0 (SL x).length 1).isEmpty = !x.contains 77 := by
  have key := StrLaws.found_one (SL x) 77
  rw [SL_list] at key
  rw [SL_M]
  have e : x.contains 77 = decide (77 ∈ x) := by rw [Bool.eq_iff_iff]; simp
  rw [e, ← key, Bool.not_not]
  rfl
theorem str_len {l : List Nat} (h : l ∈ strB) : l.length ≤ 2 := by
  simp only [strB, List.mem_cons, List.not_mem_nil, or_false] at h
  rcases h with rfl | rfl | rfl <;> decide
theorem law_made (w : World) (dk il : Addr) (c2 : Nat) (vs : List Value) (ns : List Int) (hI : IntsAre vs ns) (hlen : ns.length ≤ 50) :
    Deck w 20 187 [.ref dk] dk il (listOf vs.toArray c2) 43 (fun _ => True) (fun v => ∃ e, EvIs v e ∧ goodE e) := by
  k_with_none
  k_with "mine ktr_room" => (first | exact room0 hd | exact roomD hd rfl)
  k_with "mine ktr_units" => (exact roomU hu rfl)
  k_with "mine mine:use" => (
  (case k1 => k_asm)
  (case k2 => k_asm)
  (case k3 => k_asm)
  (case k4 => k_asm)
  (case k5 => k_asm)
  (case kK => first | exact rfl | assumption)
  (case kd => ktr_room)
  (case ku => ktr_units)
  intro _ _ _ _ _
  (try dsimp only)
  (try k_fold))
  k_with "mine k_upd" => first | exact Upd.head (by assumption) | exact Upd.tail (Ne.symm (by assumption)) (Upd.head (by assumption)) | exact Upd.tail (by assumption) (Upd.head (by assumption))
  k_with "mine k_updF" => exact UpdF.head (by assumption)
  k_with "mine k_mem" => assumption
  k_with "mine k_all" => assumption
  k_with "mine call ref" => (k_here; (with_reducible show wpAny _ _ (call (Value.ref 163) [Value.ref _, Value.int _ _]) _ _ _); k_dflt (refine' Deck.useB (law_draw _ _ _ _ _ _ _ _ (by assumption) (by first | assumption | exact List.length_take_le _ _) ?kp ?kq) ?k1 ?k2 ?k3 ?k4 ?k5 ?kK ?kd ?ku ?kU ?kil ?kne ?k0 ?k9 ?kP ?_; walk_at "mine:deck"; (intro _ _ _ _ _ _ _ _ _ _ _ _ N9; (try dsimp only at N9); (try (revert N9; intro _)); (try dsimp only); (try k_fold))))
  k_with "mine mine:deck" => (
  (case k1 => k_asm)
  (case k2 => k_asm)
  (case k3 => k_asm)
  (case k4 => k_asm)
  (case k5 => k_asm)
  (case kK => first | exact rfl | assumption)
  (case kd => ktr_room)
  (case ku => ktr_units)
  (case kU => k_updF)
  (case kil => first | assumption | k_mem)
  (case kne => first | assumption | exact Ne.symm (by assumption) | k_ne)
  (case k0 => omega)
  (case k9 => omega)
  (case kP => walk_at "mine:deckP")
  (case kp => walk_at "mine:many")
  (case kq => walk_at "mine:many")
  (try (case kr => k_ne)))
  k_with "mine mine:many" => first | decide | omega
  k_with "mine mine:deckP" => (intro _ _; trivial)
  k_with "mine mine:enterC" => (refine' code_defC ?k1 ?k2 ?k3 ?k4 ?k5 ?kA ?kF ?kK ?k6 ?k7 ?k8 ?k9 ?kB ?kD ?_ ?c2 ?c3 ?c4; (case kA => exact rfl); (case kF => exact rfl); (case kK => assumption); (case k1 => k_asm); (case k2 => k_asm); (case k3 => k_asm); (case k4 => k_asm); (case k5 => k_asm); (case k6 => k_is); (case k7 => k_is); (case k8 => ktr_room); (case k9 => exact BindsTo.of_eq rfl); (case kB => exact rfl); (case kD => decide +kernel); (case c2 => exact rfl); (case c3 => exact rfl); (case c4 => exact rfl); k_whole; intro _ _ _ _ _ _ _ N' Y' _ _ _ l1; (try k_lt l1); k_cells Y'; (try simp only [List.cons_append, List.nil_append] at N'); (try (revert l1; intro _)); (try (revert N'; intro _)); (try dsimp only); (try k_fold))
  k_with "mine eval ListComp" => (k_here; k_dflt (refine ListComp_ST (F₀ := by k_asm) (by with_unfolding_all rfl) (by decide) (by rfl) (by decide) (by rfl) ?_))
  k_with "mine exec While" => (k_here; refine while_stop ?_)
  k_with "mine pyIter str" => (k_here; refine iter_stop ?_)
  k_with "mine pyIter ref" => (k_here; refine iter_stop ?_)
  k_with "mine exec For Name Name cons nil" => (k_here; (with_unfolding_all refine' For_invVF ‹Fr _ _ _ _› ?k1 ?k2 ?_; (case k1 => exact rfl); (case k2 => exact rfl); k_whole))
  k_with "mine TurnN" => (dsimp only [TurnN])
  k_with "mine WPost" => (dsimp only [WPost])
  k_with "mine call type:list" => (k_here; (with_reducible show wpAny _ _ (call (Value.type _) [Value.str (SL _) _]) _ _ _); k_dflt (refine' list_SL ?k1 ?k2 ?k3 ?k4 ?_; (case k1 => exact rfl); (case k2 => k_asm); (case k3 => k_asm); (case k4 => omega)); intro _ _ _ _ _ _ _ l1 _; (try k_lt l1); (try (revert l1; intro _)); (try dsimp only); (try k_sweep))
  k_with "mine binaryOp Add ref ref" => (k_here; (with_reducible show wpAny _ _ (binaryOp _ (Value.ref _) (Value.ref _)) _ _ _); k_dflt (refine' add_L ?k1 ?k2 ?k3 ?k4 ?k5 ?_; (case k1 => k_asm); (case k2 => k_asm); (case k3 => k_mem); (case k4 => k_mem); (case k5 => walk_at "mine:room")); intro _ _ _ _ l1; (try k_lt l1); (try (revert l1; intro _)); (try dsimp only); (try k_sweep))
  k_with "mine mine:room" => ((try simp only [List.length_append, List.length_cons, List.length_nil]); omega)
  k_with "mine mine:evs" => first | assumption | exact EvsAre.nil
  k_with "mine mine:asc" => first | assumption | exact fun _ h => by cases h
  k_with "mine compareOp NotEq ref ref" => (k_here; (with_reducible show wpAny _ _ (compareOp _ (Value.ref _) (Value.ref _)) _ _ _); k_dflt (refine' ne_evL ?k1 ?k2 ?k3 ?k4 ?k5 ?k6 ?k7 ?k8 ?_; (case k1 => k_asm); (case k2 => k_mem); (case k3 => k_mem); (case k4 => walk_at "mine:evs"); (case k5 => walk_at "mine:evs"); (case k6 => walk_at "mine:asc"); (case k7 => walk_at "mine:asc"); (case k8 => first | units_room | ktr_units)); (try dsimp only))
  k_with "mine call builtin:len" => (k_here; (with_reducible show wpAny _ _ (call (Value.builtin "len") [Value.ref _]) _ _ _); k_dflt (refine' len_L ?k1 ?k2 ?k3 ?k4 ?_; (case k1 => k_asm); (case k2 => k_mem); (case k3 => assumption); (case k4 => omega)); intro _ _; (try dsimp only))
  k_with "mine call builtin:list.pop" => (k_here; (with_reducible show wpAny _ _ (call (Value.builtin _) [Value.ref _, Value.int _ _]) _ _ _); k_dflt (refine' pop_SL ?k1 ?k2 ?k3 ?k4 ?k5 ?k6 ?k7 ?_; (case k1 => k_asm); (case k2 => k_asm); (case k7 => k_updF); (case k3 => assumption); (case k4 => assumption); (case k5 => first | assumption | (simp only [List.length_cons]; omega)); (case k6 => first | omega | (simp only [List.length_cons]; omega))); intro _ _ _ _ _ _ _ _ _ N'; (try dsimp only at N'); (try (revert N'; intro _)); (try dsimp only))
  k_with "mine binaryOp Add str str" => ((with_reducible show wpAny _ _ (binaryOp Operator.Add (Value.str (SL _) _) (Value.str (SL _) _)) _ _ _); refine add_SL (by (try simp only [List.length_append, pre_len, List.length_cons, List.length_nil]); omega) ?_; intro _ _; (try dsimp only))
  k_with "mine call ref" => (k_here; (with_reducible show wpAny _ _ (call (Value.ref 170) [Value.ref _, Value.ref _]) _ _ _); k_dflt (refine' Deck.use (law_pick _ _ _ _ _ _ _ (by assumption) (by assumption) _ _ ?kp ?kq ?kr) ?k1 ?k2 ?k3 ?k4 ?k5 ?kK ?kd ?ku ?kU ?kil ?kne ?k0 ?k9 ?kP ?_; walk_at "mine:deck"; (intro _ _ _ _ _ _ _ _ _ _ N9; (try dsimp only at N9); (try (revert N9; intro _)); (try dsimp only); (try k_fold))))
  k_with "mine call ref" => (k_here; (with_reducible show wpAny _ _ (call (Value.ref 175) [Value.ref _, Value.str (SL _) _]) _ _ _); k_dflt (refine' Deck.useB (law_mixed _ _ _ _ _ _ (by assumption) (by assumption) _ _ ?kp ?kq) ?k1 ?k2 ?k3 ?k4 ?k5 ?kK ?kd ?ku ?kU ?kil ?kne ?k0 ?k9 ?kP ?_; walk_at "mine:deck"; (intro _ _ _ _ _ _ _ _ _ _ _ _ N9; (try dsimp only at N9); (try (revert N9; intro _)); (try dsimp only); (try k_fold))))
  k_with "mine mine:deckP" => (intro _ h9; exact h9 _ (by k_mem) (by k_ne))
  k_with "mine mine:many" => first | assumption | (simp only [List.length_cons, List.length_nil]; omega)
  k_with "mine call ref" => (k_here; (with_reducible show wpAny _ _ (call (Value.ref 107) [Value.int _ _, Value.str _ _]) _ _ _); k_dflt (refine' Pure.use (make_event_int _ _ _ _ _) ?k1 ?k2 ?k3 ?k4 ?k5 ?kK ?kd ?ku ?_; walk_at "mine:use"))
  k_with "mine call ref" => (k_here; (with_reducible show wpAny _ _ (call (Value.ref 107) [Value.str _ _, Value.str _ _]) _ _ _); k_dflt (refine' Pure.use (make_event_str _ _ _ _ _ (by first | assumption | omega | (simp only [List.length_cons, List.length_nil]; omega)) (by first | assumption | omega | (simp only [List.length_cons, List.length_nil]; omega))) ?k1 ?k2 ?k3 ?k4 ?k5 ?kK ?kd ?ku ?_; walk_at "mine:use"))
  k_with "mine call ref" => (k_here; (with_reducible show wpAny _ _ (call (Value.ref 29) [Value.int _ _]) _ _ _); k_dflt (refine' Pure.use (is_event_int _ _ _) ?k1 ?k2 ?k3 ?k4 ?k5 ?kK ?kd ?ku ?_; walk_at "mine:use"))
  k_with "mine call ref" => (k_here; (with_reducible show wpAny _ _ (call (Value.ref 29) [Value.str _ _]) _ _ _); k_dflt (refine' Pure.use (is_event_str _ _ _) ?k1 ?k2 ?k3 ?k4 ?k5 ?kK ?kd ?ku ?_; walk_at "mine:use"))
  k_with "mine call ref" => (k_here; (with_reducible show wpAny _ _ (call (Value.ref 29) [Value.bool _]) _ _ _); k_dflt (refine' Pure.use (is_event_bool _ _) ?k1 ?k2 ?k3 ?k4 ?k5 ?kK ?kd ?ku ?_; walk_at "mine:use"))
  k_with "mine call ref" => (k_here; (with_reducible show wpAny _ _ (call (Value.ref 29) [Value.none]) _ _ _); k_dflt (refine' Pure.use (is_event_none _) ?k1 ?k2 ?k3 ?k4 ?k5 ?kK ?kd ?ku ?_; walk_at "mine:use"))
  k_with "mine call ref" => (k_here; (with_reducible show wpAny _ _ (call (Value.ref 128) [Value.int _ _]) _ _ _); k_dflt (refine' Pure.use (base_of_int _ _ _) ?k1 ?k2 ?k3 ?k4 ?k5 ?kK ?kd ?ku ?_; walk_at "mine:use"))
  k_with "mine call ref" => (k_here; (with_reducible show wpAny _ _ (call (Value.ref 128) [Value.str _ _]) _ _ _); k_dflt (refine' Pure.use (base_of_str _ _ _ (by assumption)) ?k1 ?k2 ?k3 ?k4 ?k5 ?kK ?kd ?ku ?_; walk_at "mine:use"))
  k_with "mine call ref" => (k_here; (with_reducible show wpAny _ _ (call (Value.ref 121) [Value.int _ _]) _ _ _); k_dflt (refine' Pure.use (modifiers_of_int _ _ _) ?k1 ?k2 ?k3 ?k4 ?k5 ?kK ?kd ?ku ?_; walk_at "mine:use"))
  k_with "mine call ref" => (k_here; (with_reducible show wpAny _ _ (call (Value.ref 121) [Value.str _ _]) _ _ _); k_dflt (refine' Pure.use (modifiers_of_str _ _ _ (by assumption)) ?k1 ?k2 ?k3 ?k4 ?k5 ?kK ?kd ?ku ?_; walk_at "mine:use"))
  k_with "mine call ref" => (k_here; (with_reducible show wpAny _ _ (call (Value.ref 135) [Value.int _ _]) _ _ _); k_dflt (refine' Pure.use (has_meta_int _ _ _) ?k1 ?k2 ?k3 ?k4 ?k5 ?kK ?kd ?ku ?_; walk_at "mine:use"))
  k_with "mine call ref" => (k_here; (with_reducible show wpAny _ _ (call (Value.ref 135) [Value.str _ _]) _ _ _); k_dflt (refine' Pure.use (has_meta_str _ _ _) ?k1 ?k2 ?k3 ?k4 ?k5 ?kK ?kd ?ku ?_; walk_at "mine:use"))
  k_with "mine call ref" => (k_here; (with_reducible show wpAny _ _ (call (Value.ref 182) [Value.int _ _]) _ _ _); k_dflt (refine' New.useB (law_apart_int _ _ _) ?k1 ?k2 ?k3 ?k4 ?k5 ?kK ?kd ?ku ?_; (case k1 => k_asm); (case k2 => k_asm); (case k3 => k_asm); (case k4 => k_asm); (case k5 => k_asm); (case kK => first | exact rfl | assumption); (case kd => ktr_room); (case ku => ktr_units); intro _ _ _ _ _ l9 _ _; (try k_lt l9); (try (revert l9; intro _)); (try dsimp only); (try k_fold)))
  k_with "mine call ref" => (k_here; (with_reducible show wpAny _ _ (call (Value.ref 182) [Value.str _ _]) _ _ _); k_dflt (refine' New.useB (law_apart_str _ _ _) ?k1 ?k2 ?k3 ?k4 ?k5 ?kK ?kd ?ku ?_; (case k1 => k_asm); (case k2 => k_asm); (case k3 => k_asm); (case k4 => k_asm); (case k5 => k_asm); (case kK => first | exact rfl | assumption); (case kd => ktr_room); (case ku => ktr_units); intro _ _ _ _ _ l9 _ _; (try k_lt l9); (try (revert l9; intro _)); (try dsimp only); (try k_fold)))
  unfold Deck
  k_fill
  intro p loose mean mg mb dp un gd cn cs a ccd cl outer A₀ base h₀ L m rest n t c s Q E B F X N T hk hd hu hil hoff hn0 hn1 hP hret
  refine wpAny_call ?_
  k_dflt walk_at "mine:enterC"
  have hne : il ≠ dk := hoff _ hil
  rename (_ < _ ∧ AllLt _ rest) => lL
  have hr1 := all_ne1 lL.2
  have hr2 := all_ne2 lL.2
  have hr3 := all_ne3 lL.2
  k_steps
  rename_i l8 h7 l1_ v8 n8 t8 c8 h9_ tk9_ hvp hn8 hn9 h8 F8 N8
  replace hvp := is_base hvp
  refine SrcS.mk rfl (by k_asm) (cb_drop N8 (fun _ hp => .tail _ hp)) (by decide +kernel) (by decide +kernel) ?_
  intro g
  refine restT_inv (fun i ys nw => ∃ n' t' c' sel, nw = (_, _) :: (_, _) :: (_, _) :: (dk, deckOb il n' t' c') :: rest ∧ n ≤ n' ∧ n' ≤ n + 1 + i ∧ StrsAre ys (List.map (fun c => SL [c]) sel) ∧ List.Sublist sel (letters6.take i)) ?_ ?_ 6 0 [] _ rfl (exI4 _ _ _ [] ⟨rfl, by omega, by omega, .nil, List.Sublist.refl _⟩)
  · intro i ys nw v I oI C oC D m₂ h tk E' hi
    apply elB4_4
    intro n' t' c' sel hn1 hn2 hys hsel
    apply elC2_1
    intro ch u hc hC hx F₁ N₁ off ne
    have hoI := off.2.2.2.1.1
    have hoC := off.2.2.2.1.2.1
    have hoD := off.2.2.2.1.2.2
    have hc' : letters6[i]? = some ch := by
      rw [SL_letters] at hc
      simpa [SL] using hc
    have e9 : letters6.take (i + 1) = letters6.take i ++ [ch] := by rw [List.take_add_one, hc']; rfl
    k_steps
    · refine LCg.CompEnd.intro (by k_asm) (by k_asm) _ (fun _ h => h) (by exact off) trivial (exI4 _ _ _ (sel ++ [ch]) ⟨rfl, by omega, by omega, ?_, ?_⟩)
      · rw [List.map_append]; exact strs_snoc hys (SL [ch]) u
      · rw [e9]; exact List.Sublist.append hsel (List.Sublist.refl _)
    · refine LCg.CompEnd.intro (by k_asm) (by k_asm) _ (fun _ h => h) (by exact off) trivial (exI4 _ _ _ sel ⟨rfl, by omega, by omega, hys, ?_⟩)
      rw [e9]; exact hsel.trans (List.sublist_append_left _ _)
  · intro ys nw
    apply elB4_4
    intro n' t' c' x hn1 hn2 hys hsel
    have hsel6 : x.Sublist letters6 := hsel
    have hx6 : x.length ≤ 6 := hsel6.length_le
    have hxs : ∀ c ∈ x, c ∈ letters6 := fun c hc => hsel6.subset hc
    have hxo := sub_ord hsel6
    clear hsel
    k_steps
    refine join_listC (News.isList (by k_asm) (.head _)) (by simpa using hys) (by decide) (by rw [sum_ones, List.length_map]; omega) ?_
    intro t2 k2
    rw [joinOnes]
    (try dsimp only)
    rename_i D8 h8 tk8 F8 N8 o8
    have N9 := cb_drop N8 (fun _ hp => .tail _ hp)
    clear N8
    rcases hvp with ⟨nB, tB, rfl, hB⟩ | ⟨lB, tB, rfl, hB⟩
    · k_steps
      rename_i n9 t9 c9 h9 tk9 lm2 tm2 hm3 hm4 hn3 hn4 F9 N9
      revert hm3
      rename (∀ c, c ∈ _ ↔ c ∈ x) => hm1
      intro hm3
      have N10 := cb_drop N9 (fun _ hp => .tail _ hp)
      clear N9
      have hsz : (SL lm2).cps.size = lm2.length := by simp [SL]
      refine iter_str_by (fun k m nw => ∃ te ts, nw = (_, _) :: (_, _) :: (_, _) :: (dk, deckOb il n9 t9 c9) :: rest ∧ m (Str.ofString "base") = some (.int nB tB) ∧ m (Str.ofString "event") = some (.int (mkInt nB x) te) ∧ m (Str.ofString "single") = some (.int (mkInt nB (lm2.take k)) ts)) (letters_asc fun c hc => hxs c ((hm3 c).mp hc)) (by rfl) F9 N10 (exI2 _ _ ⟨rfl, rfl, by rw [← mkInt_set nB hm1]; rfl, rfl⟩) ?_ ?_
      · intro k ch u m₁ nw h tk oI hlt hc
        apply elB2_3
        intro te ts hb he hs hoff F₁ N₁
        have hc' : lm2[k]? = some ch := by simpa [SL] using hc
        have hcl : ch ∈ letters6 := hxs _ ((hm3 _).mp (List.mem_of_getElem? hc'))
        have F₂ := fr_three (x := Str.ofString "base") (y := Str.ofString "event") (z := Str.ofString "single") ((if_neg (by decide)).trans hb) ((if_neg (by decide)).trans he) ((if_neg (by decide)).trans hs) F₁
        clear F₁
        have e9 : mkInt (mkInt nB (lm2.take k)) [ch] = mkInt nB (lm2.take (k + 1)) := by
          rw [add_int hB _ hcl, List.take_add_one, hc']; rfl
        k_steps
        exact TurnE.intro _ (by k_asm) (by k_asm) hoff (exI2 _ _ ⟨rfl, rfl, rfl, by rw [← e9]; rfl⟩)
      · intro m₁ nw h tk
        apply elB2_3
        intro te ts hb he hs F₁ N₁
        rw [hsz, List.take_length, mkInt_set nB hm3] at hs
        have F₂ := fr_three (x := Str.ofString "base") (y := Str.ofString "event") (z := Str.ofString "single") hb he hs F₁
        clear F₁
        have f := ok_int hB x hxo
        have f1 := f.1
        have f2 := f.2.1
        have f3 := f.2.2.1
        have f4 := f.2.2.2.1
        have f5 := f.2.2.2.2
        clear f
        have how : (ownI nB).length ≤ 1 := by unfold ownI; split <;> (try split) <;> decide
        k_steps
        refine SrcS.mk rfl (by k_asm) (by k_asm) (by decide +kernel) (by decide +kernel) ?_
        intro g
        refine restT_pure (fun i ys => StrsAre ys (((letters6.take i).filter (fun c => (x ++ ownI nB).contains c)).map fun c => SL [c])) ?_ ?_ .nil
        · intro i ys v I oI C oC D m₂ h tk E' hi hys
          apply elC2_1
          intro c u hc hC hx F₁ N₁ off ne
          have hc' : letters6[i]? = some c := by
            rw [SL_letters] at hc
            simpa [SL] using hc
          have key := StrLaws.found_one (SL (x ++ ownI nB)) c
          rw [SL_list] at key
          k_steps
          · refine LCg.CompEnd.intro (by k_asm) (by k_asm) _ (fun _ h => h) off trivial ⟨rfl, ?_⟩
            have hm : (x ++ ownI nB).contains c = false := by simp_all
            rw [filt_take hc', List.map_append, hm]
            simpa using hys
          · refine LCg.CompEnd.intro (by k_asm) (by k_asm) _ (fun _ h => h) off trivial ⟨rfl, ?_⟩
            have hm : (x ++ ownI nB).contains c = true := by simp_all
            rw [filt_take hc', List.map_append, hm]
            exact strs_snoc hys (SL [c]) u
        · intro ys hys
          have hys' : StrsAre ys ((ordL (x ++ ownI nB)).map fun c => SL [c]) := hys
          have hlen := ordL_len (x ++ ownI nB)
          k_steps
          refine join_listC (News.isList (by k_asm) (.head _)) (by simpa using hys') (by decide) (by rw [sum_ones, List.length_map]; omega) ?_
          intro t2 k2
          rw [joinOnes]
          (try dsimp only)
          have hM := has_M x
          k_steps
          · exact absurd rfl (by assumption)
          · exact absurd f3 (by assumption)
          · rename (SL (modsOf (mkInt nB x)) != _) = true => hz
            rw [f4] at hz
            simp at hz
          · rename (hasMeta (mkInt nB x) != _) = true => hz
            rw [f5, hM] at hz
            simp at hz
          · exact hret _ n9 _ _ _ _ ⟨.i (mkInt nB x), .i _ _, f1, f2⟩ (by omega) (by omega) (by k_asm) (by refine' cb_drop ?cbN ?cbS; (case cbN => assumption); (case cbS => exact fun _ hp => .tail _ (.tail _ (.tail _ (.tail _ (.tail _ hp))))))
    · have hlB : lB.length ≤ 1000 := Nat.le_trans (str_len hB) (by decide)
      k_steps
      rename_i n9 t9 c9 h9 tk9 lm2 tm2 hm3 hm4 hn3 hn4 F9 N9
      revert hm3
      rename (∀ c, c ∈ _ ↔ c ∈ x) => hm1
      intro hm3
      have N10 := cb_drop N9 (fun _ hp => .tail _ hp)
      clear N9
      have hsz : (SL lm2).cps.size = lm2.length := by simp [SL]
      refine iter_str_by (fun k m nw => ∃ te ts, nw = (_, _) :: (_, _) :: (_, _) :: (dk, deckOb il n9 t9 c9) :: rest ∧ m (Str.ofString "base") = some (.str (SL lB) tB) ∧ m (Str.ofString "event") = some (.str (SL (mkName lB x)) te) ∧ m (Str.ofString "single") = some (.str (SL (mkName lB (lm2.take k))) ts)) (letters_asc fun c hc => hxs c ((hm3 c).mp hc)) (by rfl) F9 N10 (exI2 _ _ ⟨rfl, rfl, by rw [← mkName_set lB hm1]; rfl, by rw [List.take_zero, (ok_name hB [] rfl).2.2.2.2.2]; rfl⟩) ?_ ?_
      · intro k ch u m₁ nw h tk oI hlt hc
        apply elB2_3
        intro te ts hb he hs hoff F₁ N₁
        have hc' : lm2[k]? = some ch := by simpa [SL] using hc
        have hcl : ch ∈ letters6 := hxs _ ((hm3 _).mp (List.mem_of_getElem? hc'))
        have F₂ := fr_three (x := Str.ofString "base") (y := Str.ofString "event") (z := Str.ofString "single") ((if_neg (by decide)).trans hb) ((if_neg (by decide)).trans he) ((if_neg (by decide)).trans hs) F₁
        clear F₁
        have e9 : mkName (mkName lB (lm2.take k)) [ch] = mkName lB (lm2.take (k + 1)) := by
          rw [add_name hB _ hcl, List.take_add_one, hc']; rfl
        have hl9 : (mkName lB (lm2.take k)).length ≤ 1000 := by
          have h1 := mkName_len lB (lm2.take k)
          have h2 : lB.length ≤ 2 := str_len hB
          omega
        k_steps
        exact TurnE.intro _ (by k_asm) (by k_asm) hoff (exI2 _ _ ⟨rfl, rfl, rfl, by rw [← e9]; rfl⟩)
      · intro m₁ nw h tk
        apply elB2_3
        intro te ts hb he hs F₁ N₁
        rw [hsz, List.take_length, mkName_set lB hm3] at hs
        have F₂ := fr_three (x := Str.ofString "base") (y := Str.ofString "event") (z := Str.ofString "single") hb he hs F₁
        clear F₁
        have f := ok_name hB x hxo
        have f3 := f.2.2.1
        have f4 := f.2.2.2.1
        have f5 := f.2.2.2.2.1
        have f1 := f.1
        have f2 := f.2.1
        clear f
        k_steps
        refine SrcS.mk rfl (by k_asm) (by k_asm) (by decide +kernel) (by decide +kernel) ?_
        intro g
        refine restT_pure (fun i ys => StrsAre ys (((letters6.take i).filter (fun c => (x ++ []).contains c)).map fun c => SL [c])) ?_ ?_ .nil
        · intro i ys v I oI C oC D m₂ h tk E' hi hys
          apply elC2_1
          intro c u hc hC hx F₁ N₁ off ne
          have hc' : letters6[i]? = some c := by
            rw [SL_letters] at hc
            simpa [SL] using hc
          have key := StrLaws.found_one (SL (x ++ [])) c
          rw [SL_list] at key
          k_steps
          · refine LCg.CompEnd.intro (by k_asm) (by k_asm) _ (fun _ h => h) off trivial ⟨rfl, ?_⟩
            have hm : (x ++ []).contains c = false := by simp_all
            rw [filt_take hc', List.map_append, hm]
            simpa using hys
          · refine LCg.CompEnd.intro (by k_asm) (by k_asm) _ (fun _ h => h) off trivial ⟨rfl, ?_⟩
            have hm : (x ++ []).contains c = true := by simp_all
            rw [filt_take hc', List.map_append, hm]
            exact strs_snoc hys (SL [c]) u
        · intro ys hys
          have hys' : StrsAre ys ((ordL (x ++ [])).map fun c => SL [c]) := hys
          have hlen := ordL_len (x ++ [])
          rw [List.append_nil] at hlen
          k_steps
          refine join_listC (News.isList (by k_asm) (.head _)) (by simpa using hys') (by decide) (by rw [sum_ones, List.length_map]; omega) ?_
          intro t2 k2
          rw [joinOnes]
          (try dsimp only)
          k_steps
          · rename (SL (mkName lB x) != _) = true => hz
            simp at hz
          · rename (SL (splitF (mkName lB x)).2 != _) = true => hz
            rw [f4] at hz
            simp at hz
          · rename (SL (ordL (splitF (mkName lB x)).1) != _) = true => hz
            rw [f5] at hz
            simp at hz
          · exact hret _ n9 _ _ _ _ ⟨.s (mkName lB x), .s _ _, f3⟩ (by omega) (by omega) (by k_asm) (by refine' cb_drop ?cbN ?cbS; (case cbN => assumption); (case cbS => exact fun _ hp => .tail _ (.tail _ (.tail _ (.tail _ (.tail _ hp))))))
open LCg LCt
open PySem.Spec
section
variable {prog : Program} {w : World} {A : Around} {E : Value → Shared → Prop} {s : Shared} {h₀ : Heap} {L : Addr} {m : Str → Option Value} {env : Env}
noncomputable def SrcT (A : Around) (h₀ : Heap) (L : Addr) (m : Str → Option Value) (Rest : Addr → Array Value → Nat → Shared → Led → Prop) (xv : Value) (s₁ : Shared) : Prop :=
  ∃ l its k news, xv = .ref l ∧ A.handled = none ∧ Fr h₀ L s₁.heap m ∧ News h₀ L s₁.heap news ∧ (l, tupOf its k) ∈ news ∧ its.size ≤ sizeLine ∧ ∀ s₂ : Shared, (∃ h, s₂ = { s₁ with heap := h }) → Rest l its k s₂ news
theorem SrcT.mk {Rest : Addr → Array Value → Nat → Shared → Led → Prop} {l : Addr} {its : Array Value} {k : Nat} {s₁ : Shared} {news : Led} (hh : A.handled = none) (F : Fr h₀ L s₁.heap m) (N : News h₀ L s₁.heap news) (hl : (l, tupOf its k) ∈ news)
    (hsz : its.size ≤ sizeLine) (h : ∀ g : Heap, Rest l its k { s₁ with heap := g } news) : SrcT A h₀ L m Rest (.ref l) s₁ := by
  refine ⟨l, its, k, news, rfl, hh, F, N, hl, hsz, ?_⟩
  rintro s₂ ⟨g, rfl⟩
  exact h g
theorem ListComp_TT {ct elt iter : Expr} {x : Str} {px : Pos} {scope : Scope} {cl : List (Str × Addr)} {pos : Pos} {Q : Value → Shared → Prop} (F₀ : Fr h₀ L s.heap m)
    (hclos : closureFor scope env = pure cl) (hcell : ∀ y ∈ scope.names, y.2 ≠ .cell) (hkind : scope.kind = .function)
    (hnames : ∀ y ∈ scope.names, y.2 = .local → scope.names.lookup y.1 = some .local) (hx : scope.names.lookup x = some .local)
    (h : wpAny (model prog w) A (eval iter env) (SrcT A h₀ L m (fun l its k s₂ news => CompRestT prog w A h₀ L m env ct elt x scope cl s₂ (fun nw => (l, tupOf its k) ∈ nw) (fun i v => its[i]? = some v) (FinE h₀ L m s₂ Q) its.size 0 [] news)) E s)
    (hs : ∀ x, foldedSetIterable iter env x = pure x := by intro _; rfl) :
    wpAny (model prog w) A (eval (.ListComp elt [⟨.Name x px, iter, [ct], 0⟩] scope pos) env) Q E s := by
  rw [eval_ListComp]
  refine wpAny_comprehension_free (use := none) rfl hs hclos hkind hnames (wpAny_mono h (fun xv s₁ h₁ => ?_) fun _ _ e => e)
  obtain ⟨l, its, k, news, rfl, hh, F, N, hm, hsz, R⟩ := h₁
  have hmem := N _ hm
  have hls : s₁.heap.IsTuple l its := ⟨_, hmem.1, rfl, k, rfl⟩
  have hlt : l < s₁.heap.objs.size := Heap.lt_size hmem.1
  refine wpAny_pyIter_tuple hls ?_
  have up : ∀ b o, s₁.heap.get? b = some o → (s₁.heap.push { cls := .type "tuple_iterator", data := .fields #[.ref l, .int 0 0] }).get? b = some o := fun b o e => Heap.get?_push_of_some _ e
  refine block_T (Walks.tuple hh s₁.heap.objs.size l (Nat.ne_of_lt hlt) its) hsz (fun i h st => by obtain ⟨o, e, _⟩ := st.1; exact ⟨o, e⟩) ?_ hcell hkind hx ⟨⟨_, Heap.get?_push_size _ rfl, rfl, rfl⟩, hls.at fun o e => Heap.get?_push_of_some _ e⟩ (fun b hb => ?_)
    (F.push _) (fun p hp => ⟨Heap.get?_push_of_some _ (N p hp).1, (N p hp).2⟩) (Nat.ne_of_lt F.ns.lt) (next_is_new F) (fun p hp => Nat.ne_of_lt (Heap.lt_size (N p hp).1)) hm (R _ ⟨_, rfl⟩) ?_
  · rintro i h h' o nw ⟨⟨o', q, r⟩, ht⟩ e e' _ hN hS
    rw [e] at q; cases q
    exact ⟨⟨o, e', r⟩, ⟨_, (hN _ hS).1, rfl, k, rfl⟩⟩
  · show b < (s₁.heap.push _).objs.size
    rw [Heap.size_push]
    rcases List.mem_cons.mp hb with e | hb
    · rw [e]; exact Nat.lt_succ_self _
    · rw [List.mem_singleton.mp hb]; exact Nat.lt_succ_of_lt hlt
  · intro D C h tk m' ys news' F' N' o1 hn hC₀ hD₀ hCL hDL hCD offC fin
    refine ⟨m', hn, fun h'' hs'' => fin D h'' tk (F'.change hs'' hCL hC₀) (fun p hp => ?_) o1⟩
    refine ⟨hs''.extBut _ _ ?_ (N' p hp).1, (N' p hp).2⟩
    rcases List.mem_cons.mp hp with rfl | hp
    · exact Ne.symm hCD
    · exact offC p hp
theorem ListComp_TU {elt iter : Expr} {x : Str} {px : Pos} {scope : Scope} {cl : List (Str × Addr)} {pos : Pos} {Q : Value → Shared → Prop} (F₀ : Fr h₀ L s.heap m)
    (hclos : closureFor scope env = pure cl) (hcell : ∀ y ∈ scope.names, y.2 ≠ .cell) (hkind : scope.kind = .function)
    (hnames : ∀ y ∈ scope.names, y.2 = .local → scope.names.lookup y.1 = some .local) (hx : scope.names.lookup x = some .local)
    (h : wpAny (model prog w) A (eval iter env) (SrcT A h₀ L m (fun l its k s₂ news => CompRest prog w A h₀ L m env elt x scope cl s₂ (fun nw => (l, tupOf its k) ∈ nw) (fun i v => its[i]? = some v) (FinE h₀ L m s₂ Q) its.size 0 [] news)) E s)
    (hs : ∀ x, foldedSetIterable iter env x = pure x := by intro _; rfl) :
    wpAny (model prog w) A (eval (.ListComp elt [⟨.Name x px, iter, [], 0⟩] scope pos) env) Q E s := by
  rw [eval_ListComp]
  refine wpAny_comprehension_free (use := none) rfl hs hclos hkind hnames (wpAny_mono h (fun xv s₁ h₁ => ?_) fun _ _ e => e)
  obtain ⟨l, its, k, news, rfl, hh, F, N, hm, hsz, R⟩ := h₁
  have hmem := N _ hm
  have hls : s₁.heap.IsTuple l its := ⟨_, hmem.1, rfl, k, rfl⟩
  have hlt : l < s₁.heap.objs.size := Heap.lt_size hmem.1
  refine wpAny_pyIter_tuple hls ?_
  refine block_U (Walks.tuple hh s₁.heap.objs.size l (Nat.ne_of_lt hlt) its) hsz (fun i h st => by obtain ⟨o, e, _⟩ := st.1; exact ⟨o, e⟩) ?_ hcell hkind hx ⟨⟨_, Heap.get?_push_size _ rfl, rfl, rfl⟩, hls.at fun o e => Heap.get?_push_of_some _ e⟩ (fun b hb => ?_)
    (F.push _) (fun p hp => ⟨Heap.get?_push_of_some _ (N p hp).1, (N p hp).2⟩) (Nat.ne_of_lt F.ns.lt) (next_is_new F) (fun p hp => Nat.ne_of_lt (Heap.lt_size (N p hp).1)) hm (R _ ⟨_, rfl⟩) ?_
  · rintro i h h' o nw ⟨⟨o', q, r⟩, ht⟩ e e' _ hN hS
    rw [e] at q; cases q
    exact ⟨⟨o, e', r⟩, ⟨_, (hN _ hS).1, rfl, k, rfl⟩⟩
  · show b < (s₁.heap.push _).objs.size
    rw [Heap.size_push]
    rcases List.mem_cons.mp hb with e | hb
    · rw [e]; exact Nat.lt_succ_self _
    · rw [List.mem_singleton.mp hb]; exact Nat.lt_succ_of_lt hlt
  · intro D C h tk m' ys news' F' N' o1 hn hC₀ hD₀ hCL hDL hCD offC fin
    refine ⟨m', hn, fun h'' hs'' => fin D h'' tk (F'.change hs'' hCL hC₀) (fun p hp => ?_) o1⟩
    refine ⟨hs''.extBut _ _ ?_ (N' p hp).1, (N' p hp).2⟩
    rcases List.mem_cons.mp hp with rfl | hp
    · exact Ne.symm hCD
    · exact offC p hp
end
theorem hasMeta_good {n : Int} (h0 : 0 ≤ n) (h1 : n < 268435456) : hasMeta n = decide (134217728 ≤ n) := by
  obtain ⟨k, rfl⟩ := Int.eq_ofNat_of_zero_le h0
  have e : Builtin.bitAnd (k : Int) 134217728 = ((k &&& 2 ^ 27 : Nat) : Int) := by
    unfold Builtin.bitAnd
    have h2 : decide (0 ≤ (k : Int)) = true := decide_eq_true (by omega)
    have h3 : decide (0 ≤ (134217728 : Int)) = true := rfl
    rw [h2, h3]
    rfl
  have e2 : k &&& 2 ^ 27 = if k.testBit 27 = true then 2 ^ 27 else 0 := by
    apply Nat.eq_of_testBit_eq
    intro i
    rw [Nat.testBit_and, Nat.testBit_two_pow]
    by_cases h : 27 = i
    · subst h
      cases hb : k.testBit 27
      · rw [if_neg Bool.false_ne_true, Nat.zero_testBit]; rfl
      · rw [if_pos rfl, Nat.testBit_two_pow]; rfl
    · rw [decide_eq_false h, Bool.and_false]
      cases hb : k.testBit 27
      · rw [if_neg Bool.false_ne_true, Nat.zero_testBit]
      · rw [if_pos rfl, Nat.testBit_two_pow, decide_eq_false h]
  unfold hasMeta
  rw [e, e2, Nat.testBit_eq_decide_div_mod_eq]
  by_cases h : k / 2 ^ 27 % 2 = 1
  · rw [decide_eq_true h, if_pos rfl, decide_eq_true (by omega)]
    rfl
  · rw [decide_eq_false h, if_neg Bool.false_ne_true, decide_eq_false (by omega)]
    rfl
theorem meta_27 : metaE (.i 27) = false := by decide +kernel
theorem less_none {e : Ev} (h : metaE e = false) : lessE e = e := by
  cases e with
  | i n => show (if hasMeta n = true then _ else _) = _; rw [show hasMeta n = false from h]; rfl
  | s l => rfl
theorem spread1_none {e : Ev} (h : metaE e = false) : spread1 e = [e] := by
  unfold spread1
  rw [h, less_none h]; rfl
theorem meta_less {e : Ev} (h : goodE e) : metaE (lessE e) = false := by
  cases e with
  | i n =>
    obtain ⟨h0, h1⟩ := h
    show metaE (if hasMeta n = true then .i (n - 134217728) else .i n) = false
    cases hm : hasMeta n with
    | true =>
      rw [hasMeta_good h0 h1] at hm
      have hm2 : 134217728 ≤ n := of_decide_eq_true hm
      rw [if_pos rfl]
      show hasMeta (n - 134217728) = false
      rw [hasMeta_good (by omega) (by omega)]
      exact decide_eq_false (by omega)
    | false => rw [if_neg (by decide)]; exact hm
  | s l => rfl
theorem spread_cons (e : Ev) (es : List Ev) : spreadF (e :: es) = spread1 e ++ spreadF es := rfl
theorem spread_no {es : List Ev} (h : ∀ e ∈ es, goodE e) : ∀ e ∈ spreadF es, metaE e = false := by
  induction es with
  | nil => intro e he; cases he
  | cons a r ih =>
    intro e he
    rw [spread_cons] at he
    rcases List.mem_append.mp he with he | he
    · unfold spread1 at he
      split at he
      · rcases List.mem_cons.mp he with rfl | he
        · exact meta_27
        · rcases List.mem_singleton.mp he with rfl
          exact meta_less (h a (.head _))
      · rcases List.mem_singleton.mp he with rfl
        exact meta_less (h a (.head _))
    · exact ih (fun e he => h e (.tail _ he)) e he
theorem spread_id {es : List Ev} (h : ∀ e ∈ es, metaE e = false) : spreadF es = es := by
  induction es with
  | nil => rfl
  | cons a r ih => rw [spread_cons, spread1_none (h a (.head _)), ih fun e he => h e (.tail _ he)]; rfl
theorem spread_two {es : List Ev} (h : ∀ e ∈ es, goodE e) : spreadF (spreadF es) = spreadF es := spread_id (spread_no h)
theorem spread_app (a b : List Ev) : spreadF (a ++ b) = spreadF a ++ spreadF b := by simp [spreadF]
noncomputable def okChain (l : List Ev) : Prop := ∀ i a b, l[i]? = some a → l[i + 1]? = some b → okPair a b = true
theorem okChain_snoc {l : List Ev} {x : Ev} (h : okChain l) (hx : ∀ a, l.getLast? = some a → okPair a x = true) : okChain (l ++ [x]) := by
  intro i a b ha hb
  by_cases h1 : i + 1 < l.length
  · rw [List.getElem?_append_left (by omega)] at ha
    rw [List.getElem?_append_left h1] at hb
    exact h i a b ha hb
  · by_cases h2 : i + 1 = l.length
    · rw [List.getElem?_append_left (by omega)] at ha
      rw [List.getElem?_append_right (by omega)] at hb
      have hb' : b = x := by
        have e0 : i + 1 - l.length = 0 := by omega
        rw [e0] at hb
        simpa using hb.symm
      subst hb'
      refine hx a ?_
      rw [List.getLast?_eq_getElem?]
      have e0 : l.length - 1 = i := by omega
      rw [e0]; exact ha
    · rw [List.getElem?_append_right (by omega)] at hb
      have e0 : i + 1 - l.length = (i - l.length) + 1 := by omega
      rw [e0] at hb
      simp at hb
/-- what joining keeps -/
structure JInv (es : List Ev) (st : List Ev × Bool) : Prop where
  fix : joinSt st.1 = (st.1, false)
  chain : okChain st.1
  last : ∀ a, st.1.getLast? = some a → escE a = false
  spr : spreadF st.1 ++ (if st.2 = true then [.i 27] else []) = spreadF es
theorem esc_not {a : Ev} (h : escE a = false) (x : Ev) : okPair a x = true := by unfold okPair; rw [h]; rfl
theorem getLast_snoc (l : List Ev) (x a : Ev) (h : (l ++ [x]).getLast? = some a) : a = x := by simpa using h.symm
theorem join_inv {es : List Ev} (h : ∀ e ∈ es, goodE e) : JInv es (joinSt es) := by
  have key : ∀ (es : List Ev) (done : List Ev), (∀ e ∈ es, goodE e) → JInv done (joinSt done) → JInv (done ++ es) (joinSt (done ++ es)) := by
    intro es
    induction es with
    | nil => intro done _ hd; rw [List.append_nil]; exact hd
    | cons e r ih =>
      intro done hg hd
      have e0 : done ++ e :: r = (done ++ [e]) ++ r := by simp
      rw [e0]
      refine ih _ (fun x hx => hg x (.tail _ hx)) ?_
      have hge := hg e (.head _)
      rw [joinSt_snoc]
      generalize joinSt done = st at hd
      obtain ⟨out, op⟩ := st
      obtain ⟨f1, f2, f3, f4⟩ := hd
      dsimp only at f1 f2 f3 f4
      have hsnoc : ∀ x, escE x = false → joinSt (out ++ [x]) = (out ++ [x], false) := fun x hx => by
        rw [joinSt_snoc, f1]
        unfold jstep
        simp [hx]
      cases op with
      | false =>
        replace f4 : spreadF out ++ [] = spreadF done := f4
        rw [List.append_nil] at f4
        cases hesc : escE e with
        | true =>
          have es1 : jstep (out, false) e = (out, true) := by unfold jstep; simp [hesc]
          rw [es1]
          refine ⟨f1, f2, f3, ?_⟩
          have e27 : e = .i 27 := by
            cases e with
            | i n => simp only [escE, beq_iff_eq] at hesc; rw [hesc]
            | s l => cases hesc
          rw [e27, spreadF_snoc, ← f4, spread1_none meta_27]; rfl
        | false =>
          have es1 : jstep (out, false) e = (out ++ [e], false) := by unfold jstep; simp [hesc]
          rw [es1]
          refine ⟨hsnoc e hesc, okChain_snoc f2 fun a ha => esc_not (f3 a ha) e, fun a ha => ?_, ?_⟩
          · rw [getLast_snoc _ _ _ ha]; exact hesc
          · show spreadF (out ++ [e]) ++ [] = _
            rw [spreadF_snoc, spreadF_snoc, ← f4, List.append_nil]
      | true =>
        rw [if_pos rfl] at f4
        cases hsg : (signE e && !metaE e) with
        | true =>
          have es1 : jstep (out, true) e = (out ++ [plusE e], false) := by unfold jstep; simp [hsg]
          rw [es1]
          cases e with
          | s l => cases hsg
          | i n =>
            obtain ⟨g0, g1⟩ := hge
            have hm : hasMeta n = false := by simpa [signE, metaE] using hsg
            rw [hasMeta_good g0 g1] at hm
            have hm2 : ¬ 134217728 ≤ n := of_decide_eq_false hm
            have hpe : escE (plusE (.i n)) = false := by
              show (n + 134217728 == 27) = false
              exact beq_eq_false_iff_ne.mpr (by omega)
            have hpm : hasMeta (n + 134217728) = true := by
              rw [hasMeta_good (by omega) (by omega)]; exact decide_eq_true (by omega)
            refine ⟨hsnoc _ hpe, okChain_snoc f2 fun a ha => esc_not (f3 a ha) _, fun a ha => ?_, ?_⟩
            · rw [getLast_snoc _ _ _ ha]; exact hpe
            · have hsp : spread1 (plusE (.i n)) = [.i 27, .i n] := by
                show (if hasMeta (n + 134217728) = true then [Ev.i 27, if hasMeta (n + 134217728) = true then Ev.i (n + 134217728 - 134217728) else Ev.i (n + 134217728)] else _) = _
                rw [hpm, if_pos rfl, if_pos rfl]
                rw [show n + 134217728 - 134217728 = n by omega]
              have hsn : spread1 (.i n) = [.i n] := spread1_none (by show hasMeta n = false; rw [hasMeta_good g0 g1]; exact hm)
              show spreadF (out ++ [plusE (.i n)]) ++ [] = _
              rw [spreadF_snoc, spreadF_snoc, hsp, hsn, ← f4, List.append_nil, List.append_assoc]
              rfl
        | false =>
          have hesc : escE e = false := by
            cases hh : escE e with
            | false => rfl
            | true =>
              have e27 : e = .i 27 := by
                cases e with
                | i n => simp only [escE, beq_iff_eq] at hh; rw [hh]
                | s l => cases hh
              rw [e27] at hsg
              exact absurd hsg (by decide +kernel)
          have es1 : jstep (out, true) e = (out ++ [.i 27, e], false) := by unfold jstep; simp [hsg, hesc]
          rw [es1]
          have ea : out ++ [.i 27, e] = (out ++ [.i 27]) ++ [e] := by simp
          have h27 : joinSt (out ++ [.i 27]) = (out, true) := by
            rw [joinSt_snoc, f1]; unfold jstep; simp [escE]
          refine ⟨?_, ?_, fun a ha => ?_, ?_⟩
          · show joinSt (out ++ [.i 27, e]) = _
            rw [ea, joinSt_snoc, h27, es1, ea]
          · show okChain (out ++ [.i 27, e])
            rw [ea]
            refine okChain_snoc (okChain_snoc f2 fun a ha => esc_not (f3 a ha) _) fun a ha => ?_
            rw [getLast_snoc _ _ _ ha]
            unfold okPair
            rw [show escE (Ev.i 27) = true from rfl, Bool.true_and, hsg]; rfl
          · have ha' : (out ++ [Ev.i 27] ++ [e]).getLast? = some a := by rw [← ea]; exact ha
            rw [getLast_snoc _ _ _ ha']; exact hesc
          · show spreadF (out ++ [.i 27, e]) ++ [] = _
            rw [ea, spreadF_snoc, spreadF_snoc, spreadF_snoc, ← f4, spread1_none meta_27, List.append_nil]
  have := key es [] h ⟨rfl, fun i a b ha => by simp [joinSt] at ha, fun a ha => by simp [joinSt] at ha, rfl⟩
  simpa using this
theorem joined_two {es : List Ev} (h : ∀ e ∈ es, goodE e) : joinedF (joinedF es) = joinedF es := by
  obtain ⟨f1, f2, f3, f4⟩ := join_inv h
  unfold joinedF
  generalize joinSt es = st at *
  obtain ⟨out, op⟩ := st
  dsimp only at *
  cases op with
  | false =>
    show (if (joinSt out).2 = true then (joinSt out).1 ++ [.i 27] else (joinSt out).1) = out
    rw [f1]; rfl
  | true =>
    show (if (joinSt (out ++ [.i 27])).2 = true then (joinSt (out ++ [.i 27])).1 ++ [.i 27] else (joinSt (out ++ [.i 27])).1) = out ++ [.i 27]
    have h27 : joinSt (out ++ [.i 27]) = (out, true) := by
      rw [joinSt_snoc, f1]; unfold jstep; simp [escE]
    rw [h27]; rfl
theorem joined_ok {es : List Ev} (h : ∀ e ∈ es, goodE e) : okChain (joinedF es) := by
  obtain ⟨f1, f2, f3, f4⟩ := join_inv h
  unfold joinedF
  split
  · exact okChain_snoc f2 fun a ha => esc_not (f3 a ha) _
  · exact f2
theorem spread_joined {es : List Ev} (h : ∀ e ∈ es, goodE e) : spreadF (joinedF es) = spreadF es := by
  obtain ⟨f1, f2, f3, f4⟩ := join_inv h
  unfold joinedF
  split
  · rename_i hop
    rw [hop, if_pos rfl] at f4
    rw [spreadF_snoc, spread1_none meta_27, f4]
  · rename_i hop
    rw [if_neg hop, List.append_nil] at f4
    exact f4
theorem spread_len1 (es : List Ev) : es.length ≤ (spreadF es).length := by
  induction es with
  | nil => exact Nat.le_refl _
  | cons a r ih =>
    have h1 : 1 ≤ (spread1 a).length := by unfold spread1; split <;> simp
    rw [spread_cons, List.length_append, List.length_cons]; omega
theorem joined_pos {es : List Ev} (h : ∀ e ∈ es, goodE e) (h1 : 1 ≤ es.length) : 1 ≤ (joinedF es).length := by
  have h2 := spread_len1 es
  have h3 := spreadF_len (joinedF es)
  rw [spread_joined h] at h3
  omega
theorem spread_names {es : List Ev} {l : List Nat} (h : Ev.s l ∈ spreadF es) : Ev.s l ∈ es := by
  induction es with
  | nil => cases h
  | cons a r ih =>
    rw [spread_cons] at h
    rcases List.mem_append.mp h with h | h
    · cases a with
      | i n =>
        unfold spread1 at h
        have hl : ∃ k, lessE (.i n) = .i k := by
          show ∃ k, (if hasMeta n = true then Ev.i (n - 134217728) else .i n) = .i k
          split
          · exact ⟨_, rfl⟩
          · exact ⟨_, rfl⟩
        obtain ⟨k, hk⟩ := hl
        rw [hk] at h
        split at h <;> simp at h
      | s x =>
        rw [spread1_none rfl] at h
        rw [List.mem_singleton.mp h]; exact .head _
    · exact .tail _ (ih h)
theorem names_spread {es : List Ev} {l : List Nat} (h : Ev.s l ∈ es) : Ev.s l ∈ spreadF es := by
  unfold spreadF
  exact List.mem_flatten.mpr ⟨_, List.mem_map.mpr ⟨_, h, rfl⟩, by rw [spread1_none rfl]; exact .head _⟩
theorem good_asc {es : List Ev} (h : ∀ e ∈ es, goodE e) : AscE es := fun l hl => h _ hl
theorem spread_asc {es : List Ev} (h : AscE es) : AscE (spreadF es) := fun l hl => h l (spread_names hl)
theorem joined_asc {es : List Ev} (h : ∀ e ∈ es, goodE e) : AscE (joinedF es) := fun l hl => by
  have h1 := names_spread hl
  rw [spread_joined h] at h1
  exact good_asc h l (spread_names h1)
open LCg LCt
section
variable {prog : Program} {w : World} {A : Around} {E : Value → Shared → Prop} {s : Shared} {h₀ : Heap} {L : Addr} {m : Str → Option Value} {env : Env}
/-- a comprehension over a tuple of the ledger, bound to a local name at once -/
theorem Assign_TU {elt iter : Expr} {x y : Str} {px py : Pos} {scope : Scope} {cl : List (Str × Addr)} {pos spos : Pos} {Q : Flow → Shared → Prop} (F₀ : Fr h₀ L s.heap m) (hLe : env.locals = L)
    (hsw : swapsWith (.ListComp elt [⟨.Name x px, iter, [], 0⟩] scope pos) (some (.Name y py)) spos.line env = pure true)
    (hclos : closureFor scope env = pure cl) (hcell : ∀ z ∈ scope.names, z.2 ≠ .cell) (hkind : scope.kind = .function)
    (hnames : ∀ z ∈ scope.names, z.2 = .local → scope.names.lookup z.1 = some .local) (hx : scope.names.lookup x = some .local)
    (hy : env.kindOf y = some .local) (hp : (env.scope.kind == .class || (env.scope.kind == .module && env.locals != env.globals)) = false)
    (h : wpAny (model prog w) A (eval iter env) (SrcT A h₀ L m (fun l its k s₂ news => CompRest prog w A h₀ L m env elt x scope cl s₂ (fun nw => (l, tupOf its k) ∈ nw) (fun i v => its[i]? = some v) (FinA h₀ L m s₂ y Q) its.size 0 [] news)) E s)
    (hs : ∀ x, foldedSetIterable iter env x = pure x := by intro _; rfl) :
    wpAny (model prog w) A (exec (.Assign [.Name y py] (.ListComp elt [⟨.Name x px, iter, [], 0⟩] scope pos) spos) env) Q E s := by
  subst hLe
  rw [exec_Assign_Name_used _ _ _ _ hsw]
  refine wpAny_bind (wpAny_standAt (wpAny_bind ?_))
  show wpAny _ A (do let _ ← comprehension (.ListComp elt [⟨.Name x px, iter, [], 0⟩] scope pos) scope env _ (newList []) false (eval iter env) (some (assign (.Name y py) env))) _ _ s
  refine wpAny_bind (wpAny_mono (wpAny_comprehension_free (use := some (assign (.Name y py) env)) (Q := fun _ s' => Q .next s') rfl hs hclos hkind hnames
    (wpAny_mono h (fun xv s₁ h₁ => ?_) fun _ _ e => e)) (fun _ s' hq => wpAny_pure (wpAny_pure hq)) fun _ _ e => e)
  obtain ⟨l, its, k, news, rfl, hh, F, N, hm, hsz, R⟩ := h₁
  have hmem := N _ hm
  have hls : s₁.heap.IsTuple l its := ⟨_, hmem.1, rfl, k, rfl⟩
  have hlt : l < s₁.heap.objs.size := Heap.lt_size hmem.1
  refine wpAny_pyIter_tuple hls ?_
  refine block_U (Walks.tuple hh s₁.heap.objs.size l (Nat.ne_of_lt hlt) its) hsz (fun i h st => by obtain ⟨o, e, _⟩ := st.1; exact ⟨o, e⟩) ?_ hcell hkind hx ⟨⟨_, Heap.get?_push_size _ rfl, rfl, rfl⟩, hls.at fun o e => Heap.get?_push_of_some _ e⟩ (fun b hb => ?_)
    (F.push _) (fun p hp => ⟨Heap.get?_push_of_some _ (N p hp).1, (N p hp).2⟩) (Nat.ne_of_lt F.ns.lt) (next_is_new F) (fun p hp => Nat.ne_of_lt (Heap.lt_size (N p hp).1)) hm (R _ ⟨_, rfl⟩) ?_
  · rintro i h h' o nw ⟨⟨o', q, r⟩, ht⟩ e e' _ hN hS
    rw [e] at q; cases q
    exact ⟨⟨o, e', r⟩, ⟨_, (hN _ hS).1, rfl, k, rfl⟩⟩
  · show b < (s₁.heap.push _).objs.size
    rw [Heap.size_push]
    rcases List.mem_cons.mp hb with e | hb
    · rw [e]; exact Nat.lt_succ_self _
    · rw [List.mem_singleton.mp hb]; exact Nat.lt_succ_of_lt hlt
  · intro D C h' tk m' ys news' F' N' o1 hn hC₀ hD₀ hCL hDL hCD offC fin
    have hL₀ : h₀.get? env.locals = none := Heap.get?_none_of_le F'.above
    show wpAny _ A (assign (.Name y py) env (.ref D)) _ _ _
    refine wpAny_assign_Name (wpAny_storeName_local hy F'.ns (fun h₂ hn₂ hs₂ => ?_) hp)
    have F₂ : Fr h₀ env.locals h₂ (fun z => if z = y then some (.ref D) else m z) := ⟨hn₂, fun b o e => hs₂.extBut b o (fun q => by rw [q, hL₀] at e; cases e) (F'.keep b o e), F'.above⟩
    refine ⟨m', hn.sameBut hs₂ hCL, fun h'' hs'' => fin D h'' _ (F₂.change hs'' hCL hC₀) (fun p hp => ?_) o1⟩
    refine ⟨hs''.extBut _ _ ?_ (hs₂.extBut _ _ (N' p hp).2.1 (N' p hp).1), (N' p hp).2⟩
    rcases List.mem_cons.mp hp with rfl | hp
    · exact Ne.symm hCD
    · exact offC p hp
end
open LCg LCt
theorem is_none_ev {prog : Program} {w : World} {A : Around} {E : Value → Shared → Prop} {s : Shared} {v : Value} {e : Ev} {Q : Value → Shared → Prop} (hv : EvIs v e) (h : Q (.bool false) s) : wpAny (model prog w) A (compareOp .Is v .none) Q E s := by
  cases hv <;> exact wpAny_is_other (by rfl) (by intro x; cases x) h
theorem led_turn {i d x1 x2 x3 k a b c : Addr × Obj} : ∀ p ∈ i :: d :: a :: b :: c :: [], p ∈ d :: x1 :: x2 :: x3 :: i :: k :: a :: b :: c :: [] := fun p hp => by
  rcases List.mem_cons.mp hp with rfl | hp
  · exact .tail _ (.tail _ (.tail _ (.tail _ (.head _))))
  · rcases List.mem_cons.mp hp with rfl | hp
    · exact .head _
    · exact .tail _ (.tail _ (.tail _ (.tail _ (.tail _ (.tail _ hp)))))
theorem call_stop {prog : Program} {w : World} {A : Around} {E : Value → Shared → Prop} {s : Shared} {v : Value} {vs : List Value} {Q : Value → Shared → Prop} (h : Stop (wpAny (model prog w) A (call v vs) Q E s)) : wpAny (model prog w) A (call v vs) Q E s := h
theorem seq_list {its : Array Value} {k : Nat} : SeqOb (listOf its k) its := Or.inl ⟨k, rfl⟩
theorem seq_tup {its : Array Value} {k : Nat} : SeqOb (tupOf its k) its := Or.inr ⟨k, rfl⟩
theorem spread_good {es : List Ev} (h : ∀ e ∈ es, goodE e) : ∀ e ∈ spreadF es, goodE e := by
  intro e he
  cases e with
  | s l => exact h _ (spread_names he)
  | i n =>
    have hl : ∀ a ∈ es, ∀ n, Ev.i n ∈ spread1 a → 0 ≤ n ∧ n < 268435456 := by
      intro a ha n hn
      cases a with
      | s l => rw [spread1_none rfl] at hn; cases List.mem_singleton.mp hn
      | i k =>
        obtain ⟨g0, g1⟩ := h _ ha
        unfold spread1 at hn
        show 0 ≤ n ∧ n < 268435456
        cases hm : hasMeta k with
        | true =>
          rw [hasMeta_good g0 g1] at hm
          have hm2 : 134217728 ≤ k := of_decide_eq_true hm
          have hm3 : hasMeta k = true := by rw [hasMeta_good g0 g1]; exact hm
          have e1 : lessE (.i k) = .i (k - 134217728) := by show (if hasMeta k = true then _ else _) = _; rw [hm3]; rfl
          rw [show metaE (.i k) = true from hm3, if_pos rfl, e1] at hn
          rcases List.mem_cons.mp hn with e | hn
          · cases e; exact ⟨by decide, by decide⟩
          · cases List.mem_singleton.mp hn; exact ⟨by omega, by omega⟩
        | false =>
          have e1 : lessE (.i k) = .i k := less_none hm
          rw [show metaE (.i k) = false from hm, if_neg Bool.false_ne_true, e1] at hn
          cases List.mem_singleton.mp hn; exact ⟨g0, g1⟩
    unfold spreadF at he
    obtain ⟨x, hx, hx2⟩ := List.mem_flatten.mp he
    obtain ⟨a, ha, rfl⟩ := List.mem_map.mp hx
    exact hl a ha n hx2
theorem small_r (r : Int) (h0 : 0 ≤ r) (h1 : r < 6) : Builtin.Range.small 0 (1 + r) 1 = true := by
  have h : r = 0 ∨ r = 1 ∨ r = 2 ∨ r = 3 ∨ r = 4 ∨ r = 5 := by omega
  rcases h with rfl | rfl | rfl | rfl | rfl | rfl <;> decide +kernel
theorem size_r (r : Int) (h0 : 0 ≤ r) (h1 : r < 6) : Builtin.Range.rangeSize 0 (1 + r) 1 = ((1 + r).toNat : Int) := by
  have h : r = 0 ∨ r = 1 ∨ r = 2 ∨ r = 3 ∨ r = 4 ∨ r = 5 := by omega
  rcases h with rfl | rfl | rfl | rfl | rfl | rfl <;> decide +kernel
noncomputable abbrev toldA (t1 t2 t3 t4 t5 : Tok) : Array Value := #[Value.bool true, Value.int (-1) t1, Value.str (Str.ofString "") t2, Value.int (2 ^ Int.toNat 28) t3, Value.int (2 ^ Int.toNat 28 - 1) t4, Value.str (Str.ofString "f1") t5, Value.none]
theorem told_size {t1 t2 t3 t4 t5 : Tok} : (toldA t1 t2 t3 t4 t5).size ≤ sizeLine := by
  rw [sizeLine_eq]
  exact (by decide : (7 : Nat) ≤ 16777216)
theorem told_cases {t1 t2 t3 t4 t5 : Tok} {i : Nat} {v : Value} (h : (toldA t1 t2 t3 t4 t5)[i]? = some v) :
    (i = 0 ∧ v = .bool true) ∨ (i = 1 ∧ v = .int (-1) t1) ∨ (i = 2 ∧ v = .str (SL []) t2) ∨ (i = 3 ∧ v = .int 268435456 t3) ∨ (i = 4 ∧ v = .int 268435455 t4) ∨ (i = 5 ∧ v = .str (SL [102, 49]) t5) ∨ (i = 6 ∧ v = .none) := by
  have e1 : Str.ofString "" = SL [] := by decide +kernel
  have e2 : Str.ofString "f1" = SL [102, 49] := by decide +kernel
  have e3 : (2 : Int) ^ Int.toNat 28 = 268435456 := by decide +kernel
  unfold toldA at h
  rw [e1, e2, e3] at h
  match i, h with
  | 0, h => exact .inl ⟨rfl, (Option.some.inj h).symm⟩
  | 1, h => exact .inr (.inl ⟨rfl, (Option.some.inj h).symm⟩)
  | 2, h => exact .inr (.inr (.inl ⟨rfl, (Option.some.inj h).symm⟩))
  | 3, h => exact .inr (.inr (.inr (.inl ⟨rfl, (Option.some.inj h).symm⟩)))
  | 4, h => exact .inr (.inr (.inr (.inr (.inl ⟨rfl, (Option.some.inj h).symm⟩))))
  | 5, h => exact .inr (.inr (.inr (.inr (.inr (.inl ⟨rfl, (Option.some.inj h).symm⟩)))))
  | 6, h => exact .inr (.inr (.inr (.inr (.inr (.inr ⟨rfl, (Option.some.inj h).symm⟩)))))
  | n + 7, h =>
    rw [Array.getElem?_eq_none (by simp)] at h
    cases h
noncomputable def toldB : List Bool := [false, false, false, false, true, true, false]
theorem told_event {t1 t2 t3 t4 t5 : Tok} {i : Nat} {v : Value} (h : (toldA t1 t2 t3 t4 t5)[i]? = some v) : ∃ b, toldB[i]? = some b ∧ ∀ w, Pure w 1 29 [v] (fun _ => .bool b) := by
  rcases told_cases h with ⟨rfl, rfl⟩ | ⟨rfl, rfl⟩ | ⟨rfl, rfl⟩ | ⟨rfl, rfl⟩ | ⟨rfl, rfl⟩ | ⟨rfl, rfl⟩ | ⟨rfl, rfl⟩
  · exact ⟨false, rfl, fun w => is_event_bool w true⟩
  · exact ⟨false, rfl, fun w => is_event_int w (-1) t1⟩
  · exact ⟨false, rfl, fun w => is_event_str w [] t2⟩
  · exact ⟨false, rfl, fun w => is_event_int w 268435456 t3⟩
  · exact ⟨true, rfl, fun w => is_event_int w 268435455 t4⟩
  · exact ⟨true, rfl, fun w => is_event_str w [102, 49] t5⟩
  · exact ⟨false, rfl, fun w => is_event_none w⟩
theorem news_head {h₀ h : Heap} {L a : Addr} {o : Obj} {l : Led} (N : News h₀ L h ((a, o) :: l)) : News h₀ L h [(a, o)] := fun p hp => N p (by rw [List.mem_singleton.mp hp]; exact .head _)
theorem law_holds : PySem.Challenge.rw_np0024_01.Holds := by
  k_with_none
  k_with "mine ktr_room" => (first | exact room0 hd | exact roomD hd rfl)
  k_with "mine ktr_units" => (exact roomU hu rfl)
  k_with "mine mine:use" => (
  (case k1 => k_asm)
  (case k2 => k_asm)
  (case k3 => k_asm)
  (case k4 => k_asm)
  (case k5 => k_asm)
  (case kK => first | exact rfl | assumption)
  (case kd => ktr_room)
  (case ku => ktr_units)
  intro _ _ _ _ _
  (try dsimp only)
  (try k_fold))
  k_with "mine k_upd" => first | exact Upd.head (by assumption) | exact Upd.tail (Ne.symm (by assumption)) (Upd.head (by assumption)) | exact Upd.tail (by assumption) (Upd.head (by assumption))
  k_with "mine k_updF" => exact UpdF.head (by assumption)
  k_with "mine k_mem" => assumption
  k_with "mine k_all" => assumption
  k_with "mine call ref" => (k_here; (with_reducible show wpAny _ _ (call (Value.ref 163) [Value.ref _, Value.int _ _]) _ _ _); k_dflt (refine' Deck.useB (law_draw _ _ _ _ _ _ _ _ (by assumption) (by first | assumption | exact List.length_take_le _ _) ?kp ?kq) ?k1 ?k2 ?k3 ?k4 ?k5 ?kK ?kd ?ku ?kU ?kil ?kne ?k0 ?k9 ?kP ?_; walk_at "mine:deck"; (intro _ _ _ _ _ _ _ _ _ _ _ _ N9; (try dsimp only at N9); (try (revert N9; intro _)); (try dsimp only); (try k_fold))))
  k_with "mine mine:deck" => (
  (case k1 => k_asm)
  (case k2 => k_asm)
  (case k3 => k_asm)
  (case k4 => k_asm)
  (case k5 => k_asm)
  (case kK => first | exact rfl | assumption)
  (case kd => ktr_room)
  (case ku => ktr_units)
  (case kU => k_updF)
  (case kil => first | assumption | k_mem)
  (case kne => first | assumption | exact Ne.symm (by assumption) | k_ne)
  (case k0 => omega)
  (case k9 => omega)
  (case kP => walk_at "mine:deckP")
  (case kp => walk_at "mine:many")
  (case kq => walk_at "mine:many")
  (try (case kr => k_ne)))
  k_with "mine mine:many" => first | decide | omega
  k_with "mine mine:deckP" => (intro _ _; trivial)
  k_with "mine mine:enterC" => (refine' code_defC ?k1 ?k2 ?k3 ?k4 ?k5 ?kA ?kF ?kK ?k6 ?k7 ?k8 ?k9 ?kB ?kD ?_ ?c2 ?c3 ?c4; (case kA => exact rfl); (case kF => exact rfl); (case kK => assumption); (case k1 => k_asm); (case k2 => k_asm); (case k3 => k_asm); (case k4 => k_asm); (case k5 => k_asm); (case k6 => k_is); (case k7 => k_is); (case k8 => ktr_room); (case k9 => exact BindsTo.of_eq rfl); (case kB => exact rfl); (case kD => decide +kernel); (case c2 => exact rfl); (case c3 => exact rfl); (case c4 => exact rfl); k_whole; intro _ _ _ _ _ _ _ N' Y' _ _ _ l1; (try k_lt l1); k_cells Y'; (try simp only [List.cons_append, List.nil_append] at N'); (try (revert l1; intro _)); (try (revert N'; intro _)); (try dsimp only); (try k_fold))
  k_with "mine exec While" => (k_here; refine while_stop ?_)
  k_with "mine pyIter str" => (k_here; refine iter_stop ?_)
  k_with "mine pyIter ref" => (k_here; refine iter_stop ?_)
  k_with "mine exec For Name Name cons nil" => (k_here; (with_unfolding_all refine' For_invVF ‹Fr _ _ _ _› ?k1 ?k2 ?_; (case k1 => exact rfl); (case k2 => exact rfl); k_whole))
  k_with "mine TurnN" => (dsimp only [TurnN])
  k_with "mine WPost" => (dsimp only [WPost])
  k_with "mine call type:list" => (k_here; (with_reducible show wpAny _ _ (call (Value.type _) [Value.str (SL _) _]) _ _ _); k_dflt (refine' list_SL ?k1 ?k2 ?k3 ?k4 ?_; (case k1 => exact rfl); (case k2 => k_asm); (case k3 => k_asm); (case k4 => omega)); intro _ _ _ _ _ _ _ l1 _; (try k_lt l1); (try (revert l1; intro _)); (try dsimp only); (try k_sweep))
  k_with "mine binaryOp Add ref ref" => (k_here; (with_reducible show wpAny _ _ (binaryOp _ (Value.ref _) (Value.ref _)) _ _ _); k_dflt (refine' add_L ?k1 ?k2 ?k3 ?k4 ?k5 ?_; (case k1 => k_asm); (case k2 => k_asm); (case k3 => k_mem); (case k4 => k_mem); (case k5 => walk_at "mine:room")); intro _ _ _ _ l1; (try k_lt l1); (try (revert l1; intro _)); (try dsimp only); (try k_sweep))
  k_with "mine mine:room" => ((try simp only [List.length_append, List.length_cons, List.length_nil]); omega)
  k_with "mine mine:evs" => first | assumption | exact EvsAre.nil
  k_with "mine mine:asc" => first | assumption | exact fun _ h => by cases h
  k_with "mine compareOp NotEq ref ref" => (k_here; (with_reducible show wpAny _ _ (compareOp _ (Value.ref _) (Value.ref _)) _ _ _); k_dflt (refine' ne_evL ?k1 ?k2 ?k3 ?k4 ?k5 ?k6 ?k7 ?k8 ?_; (case k1 => k_asm); (case k2 => k_mem); (case k3 => k_mem); (case k4 => walk_at "mine:evs"); (case k5 => walk_at "mine:evs"); (case k6 => walk_at "mine:asc"); (case k7 => walk_at "mine:asc"); (case k8 => first | units_room | ktr_units)); (try dsimp only))
  k_with "mine call builtin:len" => (k_here; (with_reducible show wpAny _ _ (call (Value.builtin "len") [Value.ref _]) _ _ _); k_dflt (refine' len_L ?k1 ?k2 ?k3 ?k4 ?_; (case k1 => k_asm); (case k2 => k_mem); (case k3 => assumption); (case k4 => omega)); intro _ _; (try dsimp only))
  k_with "mine call builtin:list.pop" => (k_here; (with_reducible show wpAny _ _ (call (Value.builtin _) [Value.ref _, Value.int _ _]) _ _ _); k_dflt (refine' pop_SL ?k1 ?k2 ?k3 ?k4 ?k5 ?k6 ?k7 ?_; (case k1 => k_asm); (case k2 => k_asm); (case k7 => k_updF); (case k3 => assumption); (case k4 => assumption); (case k5 => first | assumption | (simp only [List.length_cons]; omega)); (case k6 => first | omega | (simp only [List.length_cons]; omega))); intro _ _ _ _ _ _ _ _ _ N'; (try dsimp only at N'); (try (revert N'; intro _)); (try dsimp only))
  k_with "mine call ref" => (k_here; (with_reducible show wpAny _ _ (call (Value.ref 187) [Value.ref _]) _ _ _); k_dflt (refine' Deck.useE (law_made _ _ _ _ _ _ (by assumption) (by first | assumption | exact List.length_take_le _ _)) ?k1 ?k2 ?k3 ?k4 ?k5 ?kK ?kd ?ku ?kU ?kil ?kne ?k0 ?k9 ?kP ?_; walk_at "mine:deck0"; (intro _ _ _ _ _ _ _ _ _ _ _ N9; (try dsimp only at N9); (try (revert N9; intro _)); (try dsimp only); (try k_fold))))
  k_with "mine mine:deck0" => (
  (case k1 => k_asm)
  (case k2 => k_asm)
  (case k3 => k_asm)
  (case k4 => k_asm)
  (case k5 => k_asm)
  (case kK => first | exact rfl | assumption)
  (case kd => ktr_room)
  (case ku => ktr_units)
  (case kU => k_updF)
  (case kil => first | assumption | k_mem)
  (case kne => first | assumption | exact Ne.symm (by assumption) | k_ne)
  (case k0 => omega)
  (case k9 => omega)
  (case kP => (intro _ _; trivial)))
  k_with "mine eval ListComp" => (k_here; (with_reducible show wpAny _ _ (eval (PySem.Expr.ListComp _ [⟨_, _, [_], _⟩] _ _) _) _ _ _); k_dflt (refine ListComp_TT (F₀ := by k_asm) (by with_unfolding_all rfl) (by decide) (by rfl) (by decide) (by rfl) ?_))
  k_with "mine eval ListComp" => (k_here; (with_reducible show wpAny _ _ (eval (PySem.Expr.ListComp _ [⟨_, _, [], _⟩] _ _) _) _ _ _); k_dflt (refine ListComp_TU (F₀ := by k_asm) (by with_unfolding_all rfl) (by decide) (by rfl) (by decide) (by rfl) ?_))
  k_with "mine compareOp NotEq ref ref" => (k_here; (with_reducible show wpAny _ _ (compareOp _ (Value.ref _) (Value.ref _)) _ _ _); k_dflt (refine' ne_evT ?k1 ?k2 ?k3 ?k4 ?k5 ?k6 ?k7 ?k8 ?_; (case k1 => k_asm); (case k2 => k_mem); (case k3 => k_mem); (case k4 => assumption); (case k5 => assumption); (case k6 => assumption); (case k7 => assumption); (case k8 => first | units_room | ktr_units)); (try dsimp only))
  k_with "mine call ref" => (k_here; (with_reducible show wpAny _ _ (call (Value.ref 194) [Value.ref _]) _ _ _); k_dflt (refine' PureP.use (is_joined _ _ _ _ _ ?ka ?kb ?kc ?ke) ?k1 ?k2 ?k3 ?k4 ?k5 ?kK ?kd ?ku ?kP ?_; (case k1 => k_asm); (case k2 => k_asm); (case k3 => k_asm); (case k4 => k_asm); (case k5 => k_asm); (case kK => first | exact rfl | assumption); (case kd => ktr_room); (case ku => ktr_units); (case kP => k_mem); (case ka => assumption); (case kb => assumption); (case kc => omega); (case ke => assumption); (intro _ _ _ _ _; (try dsimp only); (try k_fold))))
  k_with "mine call ref" => (k_here; (with_reducible show wpAny _ _ (call (Value.ref 135) [Value.int _ _]) _ _ _); k_dflt (refine' Pure.use (has_meta_int _ _ _) ?k1 ?k2 ?k3 ?k4 ?k5 ?kK ?kd ?ku ?_; walk_at "mine:use"))
  k_with "mine call ref" => (k_here; (with_reducible show wpAny _ _ (call (Value.ref 135) [Value.str _ _]) _ _ _); k_dflt (refine' Pure.use (has_meta_str _ _ _) ?k1 ?k2 ?k3 ?k4 ?k5 ?kK ?kd ?ku ?_; walk_at "mine:use"))
  k_with "mine call ref" => (k_here; (with_reducible show wpAny _ _ (call (Value.ref 149) [Value.ref _]) _ _ _); k_dflt (refine' NewP.useB (spread_meta _ _ _ _ _ ?ka ?kb ?kc) ?k1 ?k2 ?k3 ?k4 ?k5 ?kK ?kd ?ku ?kP ?_; (case k1 => k_asm); (case k2 => k_asm); (case k3 => k_asm); (case k4 => k_asm); (case k5 => k_asm); (case kK => first | exact rfl | assumption); (case kd => ktr_room); (case ku => ktr_units); (case kP => k_mem); (case ka => first | exact seq_list | exact seq_tup); (case kb => assumption); (case kc => first | assumption | omega); (intro _ _ _ _ _ _ l9 _ _; (try k_lt l9); (try (revert l9; intro _)); (try dsimp only); (try k_fold))))
  k_with "mine call ref" => (k_here; (with_reducible show wpAny _ _ (call (Value.ref 156) [Value.ref _]) _ _ _); k_dflt (refine' NewP.useB (joined_meta _ _ _ _ _ ?ka ?kb ?kc) ?k1 ?k2 ?k3 ?k4 ?k5 ?kK ?kd ?ku ?kP ?_; (case k1 => k_asm); (case k2 => k_asm); (case k3 => k_asm); (case k4 => k_asm); (case k5 => k_asm); (case kK => first | exact rfl | assumption); (case kd => ktr_room); (case ku => ktr_units); (case kP => k_mem); (case ka => first | exact seq_list | exact seq_tup); (case kb => assumption); (case kc => first | assumption | omega); (intro _ _ _ _ _ _ l9 _ _; (try k_lt l9); (try (revert l9; intro _)); (try dsimp only); (try k_fold))))
  k_with "mine call ref" => (k_here; (with_reducible show wpAny _ _ (call (Value.ref 29) [_]) _ _ _); k_dflt (refine' Pure.use (hP _) ?k1 ?k2 ?k3 ?k4 ?k5 ?kK ?kd ?ku ?_; walk_at "mine:use"))
  k_with "mine compareOp Is" => ((with_reducible show wpAny _ _ (compareOp CmpOp.Is _ Value.none) _ _ _); refine is_none_ev (by assumption) ?_; (try dsimp only))
  k_with "mine exec Assign cons ListComp" => (k_here; (with_reducible show wpAny _ _ (exec (Stmt.Assign [PySem.Expr.Name _ _] (PySem.Expr.ListComp _ [⟨_, _, [], _⟩] _ _) _) _) _ _ _); k_dflt (refine Assign_TU (F₀ := by k_asm) (by rfl) (by with_unfolding_all rfl) (by with_unfolding_all rfl) (by decide) (by rfl) (by decide) (by rfl) (by rfl) (by rfl) ?_))
  refine Mine.hd ?_
  w_strict (k_go0; (all_goals try k_fold); k_steps; skip)
  rename_i Ds cs hs1 ls1 Di ws hs2 hI hC hL ls2 dk hs3 ls3 kk hs4 ls4 DT hs5 ls5 hs6 hs7 hs8 lF NF n9 t9 c9 h9 tk9 r tr hr0 hr1 hn1 hn2 F9 N9 hh tkk t1 u1 v1 hR FA NA hKeep
  have NB := cb_drop NA (fun _ hp => .tail _ hp)
  clear NA N9 NF lF F9
  refine iter_range_by (n := (1 + r).toNat) (fun i m nw => ∃ kk vs kc es n' t' c', nw = (kk, listOf (List.toArray vs) kc) :: (dk, deckOb Di n' t' c') :: (Di, listOf ws.toArray 0) :: (Ds, _) :: [] ∧ @LT.lt Nat _ dk kk ∧ @LT.lt Nat _ Di kk ∧ @LT.lt Nat _ Ds kk ∧ m (Str.ofString "deck") = some (.ref dk) ∧ m (Str.ofString "keys") = some (.ref kk) ∧ EvsAre vs es ∧ (∀ e ∈ es, goodE e) ∧ es.length ≤ 2 * i ∧ i ≤ es.length ∧ 0 ≤ n' ∧ n' ≤ 1 + 44 * i) (by rfl) hR (small_r r hr0 hr1) (size_r r hr0 hr1) FA NB (exI7 kk [] 0 [] n9 t9 c9 ⟨rfl, by omega, by omega, by omega, rfl, rfl, .nil, List.forall_mem_nil _, by simp, by simp, by omega, by omega⟩) ?_ ?_
  · intro i u m₁ nw h tk oI hlt hi
    apply elB7_11
    intro kk' vs kc es n' t' c' hlt1 hlt2 hlt3 hd hk hes hgood hl1 hl2 hn3 hn4 hoff F₁ N₁
    have hi5 : i ≤ 5 := by omega
    clear hi
    have F₂ := fr_two (x := Str.ofString "deck") (y := Str.ofString "keys") (by decide) ((if_neg (by decide)).trans hd) ((if_neg (by decide)).trans hk) F₁
    clear F₁
    have ho1 : @Ne Nat kk' _ := hoff _ (.head _)
    have ho2 : @Ne Nat dk _ := hoff _ (.tail _ (.head _))
    have ho3 : @Ne Nat Di _ := hoff _ (.tail _ (.tail _ (.head _)))
    have ho4 : @Ne Nat Ds _ := hoff _ (.tail _ (.tail _ (.tail _ (.head _))))
    dsimp only at ho1 ho2 ho3 ho4
    have ho5 := Ne.symm ho2
    have hvl := hes.len
    k_steps
    · refine TurnE.intro _ (by k_asm) (by refine' cb_drop ?cbN ?cbS; (case cbN => assumption); (case cbS => exact led_turn)) ?_ (exI7 _ _ _ (es ++ [.i 27] ++ [_]) _ _ _ ⟨rfl, ?_, ?_, ?_, rfl, rfl, (hes.snoc (.i 27 _)).snoc (by assumption), ?_, ?_, ?_, ?_, ?_⟩)
      · intro p hp
        simp only [List.mem_cons, List.not_mem_nil, or_false] at hp
        rcases hp with rfl | rfl | rfl | rfl
        all_goals (show @Ne Nat _ _; first | assumption | exact Ne.symm (by assumption) | omega)
      · omega
      · omega
      · omega
      · intro e he
        rcases List.mem_append.mp he with he | he
        · rcases List.mem_append.mp he with he | he
          · exact hgood e he
          · rw [List.mem_singleton.mp he]; exact ⟨by decide, by decide⟩
        · rw [List.mem_singleton.mp he]; assumption
      · simp only [List.length_append, List.length_cons, List.length_nil]; omega
      · simp only [List.length_append, List.length_cons, List.length_nil]; omega
      · omega
      · omega
    · refine TurnE.intro _ (by k_asm) (by refine' cb_drop ?cbN ?cbS; (case cbN => assumption); (case cbS => exact led_turn)) ?_ (exI7 _ _ _ (es ++ [] ++ [_]) _ _ _ ⟨rfl, ?_, ?_, ?_, rfl, rfl, (hes.app .nil).snoc (by assumption), ?_, ?_, ?_, ?_, ?_⟩)
      · intro p hp
        simp only [List.mem_cons, List.not_mem_nil, or_false] at hp
        rcases hp with rfl | rfl | rfl | rfl
        all_goals (show @Ne Nat _ _; first | assumption | exact Ne.symm (by assumption) | omega)
      · omega
      · omega
      · omega
      · intro e he
        rw [List.append_nil] at he
        rcases List.mem_append.mp he with he | he
        · exact hgood e he
        · rw [List.mem_singleton.mp he]; assumption
      · simp only [List.length_append, List.length_cons, List.length_nil]; omega
      · simp only [List.length_append, List.length_cons, List.length_nil]; omega
      · omega
      · omega
  · intro m₁ nw h tk
    apply elB7_11
    intro kk' vs kc es n' t' c' hlt1 hlt2 hlt3 hd hk hes hgood hl1 hl2 hn3 hn4 F₁ N₁
    have F₂ := fr_two (x := Str.ofString "deck") (y := Str.ofString "keys") (by decide) hd hk F₁
    clear F₁
    have hl3 : 1 ≤ es.length := by omega
    have hl4 : es.length ≤ 12 := by omega
    have g1 := spread_two hgood
    have g2 := joined_two hgood
    have g3 := spread_joined hgood
    have hA1 : AscE (spreadF es) := spread_asc (good_asc hgood)
    have hA2 : AscE (joinedF es) := joined_asc hgood
    have hA3 : AscE (spreadF (spreadF es)) := by rw [g1]; exact hA1
    have hA4 : AscE (joinedF (joinedF es)) := by rw [g2]; exact hA2
    have hA5 : AscE (spreadF (joinedF es)) := by rw [g3]; exact hA1
    have hA6 : AscE (joinedF (spreadF es)) := joined_asc (spread_good hgood)
    have hA7 : AscE (joinedF (spreadF (joinedF es))) := by rw [g3]; exact hA6
    have hn1' := spreadF_len es
    have hn2' := joinedF_len es
    have hn3' := spreadF_len (joinedF es)
    have hpos := joined_pos hgood hl3
    have hok : ∀ i a b, (joinedF es)[i]? = some a → (joinedF es)[i + 1]? = some b → okPair a b = true := joined_ok hgood
    k_steps
    rename_i bS hS tS vsS kS heS lS bJ hJ tJ vsJ kJ heJ lJ bT hT lT h1_ h2_ h3_ FJ NJ
    have hlS := heS.len
    refine SrcT.mk (its := vsS.toArray) (k := kS) (by rfl) (by k_asm) (cb_drop NJ (fun _ hp => .tail _ hp)) (.tail _ (.head _)) (by rw [List.size_toArray, sizeLine_eq]; omega) ?_
    intro g
    refine restT_pure (fun i ys => ys = []) ?_ ?_ rfl
    · rintro i ys v I oI C oC D m₂ h tk E' hi rfl hv hC hx F₁ N₁ off ne
      obtain ⟨e, he, hve⟩ := heS.get (by simpa using hv)
      have hno := spread_no hgood e (List.mem_of_getElem? he)
      cases hve with
      | i n t =>
        have hno2 : hasMeta n = false := hno
        k_steps
        exact LCg.CompEnd.intro (by k_asm) (by k_asm) _ (fun _ h => h) (by exact off) (.tail _ (.head _)) ⟨rfl, rfl⟩
      | s l t =>
        k_steps
        exact LCg.CompEnd.intro (by k_asm) (by k_asm) _ (fun _ h => h) (by exact off) (.tail _ (.head _)) ⟨rfl, rfl⟩
    · rintro ys rfl
      k_steps
      rename_i DT hT FT NT lT2
      obtain ⟨t1, t2, t3, t4, t5, NT2⟩ : ∃ t1 t2 t3 t4 t5, News _ _ _ [(DT, tupOf (toldA t1 t2 t3 t4 t5) 0)] := ⟨_, _, _, _, _, news_head NT⟩
      clear NT lT2
      refine SrcT.mk (by rfl) (by k_asm) NT2 (.head _) told_size ?_
      intro g
      refine rest_pure (fun i ys => ys = (toldB.take i).map Value.bool) ?_ ?_ rfl
      · rintro i ys v I oI C oC D m₂ h tk E' hi rfl hv hC hx F₁ N₁ off ne
        have hg := told_event hv
        revert hg
        apply elA1_2
        intro b hb hP
        k_steps
        exact LCg.CompEnd.intro (by k_asm) (by k_asm) _ (fun _ h => h) (by exact off) (.head _) ⟨rfl, by rw [List.take_add_one, hb, List.map_append]; rfl⟩
      · rintro ys rfl
        k_steps
end Mine
theorem PySem.Challenge.cw_np0024_01_holds : PySem.Challenge.rw_np0024_01.Holds := by
  exact Mine.law_holds
