import PyProof.Rows.All
import Wide.All
import OpenK.AllK
import Wide.FinOn
import Lean
import PySem.Challenge.RW_pq0917_01
set_option Elab.async false
set_option maxRecDepth 100000
set_option linter.unusedSimpArgs false
set_option linter.unusedVariables false
namespace Lw
theorem exE1 {α1 : Sort _} {p : α1 → Prop} {G : Prop} (h : ∃ x1, p x1) (k : ∀ x1, p x1 → G) : G := h.elim k
theorem exE2 {α1 : Sort _} {α2 : Sort _} {p : α1 → α2 → Prop} {G : Prop} (h : ∃ x1 x2, p x1 x2) (k : ∀ x1 x2, p x1 x2 → G) : G := h.elim fun x1 h => exE1 h (k x1)
theorem exE3 {α1 : Sort _} {α2 : Sort _} {α3 : Sort _} {p : α1 → α2 → α3 → Prop} {G : Prop} (h : ∃ x1 x2 x3, p x1 x2 x3) (k : ∀ x1 x2 x3, p x1 x2 x3 → G) : G := h.elim fun x1 h => exE2 h (k x1)
theorem exE4 {α1 : Sort _} {α2 : Sort _} {α3 : Sort _} {α4 : Sort _} {p : α1 → α2 → α3 → α4 → Prop} {G : Prop} (h : ∃ x1 x2 x3 x4, p x1 x2 x3 x4) (k : ∀ x1 x2 x3 x4, p x1 x2 x3 x4 → G) : G := h.elim fun x1 h => exE3 h (k x1)
theorem exE5 {α1 : Sort _} {α2 : Sort _} {α3 : Sort _} {α4 : Sort _} {α5 : Sort _} {p : α1 → α2 → α3 → α4 → α5 → Prop} {G : Prop} (h : ∃ x1 x2 x3 x4 x5, p x1 x2 x3 x4 x5) (k : ∀ x1 x2 x3 x4 x5, p x1 x2 x3 x4 x5 → G) : G := h.elim fun x1 h => exE4 h (k x1)
theorem exE6 {α1 : Sort _} {α2 : Sort _} {α3 : Sort _} {α4 : Sort _} {α5 : Sort _} {α6 : Sort _} {p : α1 → α2 → α3 → α4 → α5 → α6 → Prop} {G : Prop} (h : ∃ x1 x2 x3 x4 x5 x6, p x1 x2 x3 x4 x5 x6) (k : ∀ x1 x2 x3 x4 x5 x6, p x1 x2 x3 x4 x5 x6 → G) : G := h.elim fun x1 h => exE5 h (k x1)
theorem exE7 {α1 : Sort _} {α2 : Sort _} {α3 : Sort _} {α4 : Sort _} {α5 : Sort _} {α6 : Sort _} {α7 : Sort _} {p : α1 → α2 → α3 → α4 → α5 → α6 → α7 → Prop} {G : Prop} (h : ∃ x1 x2 x3 x4 x5 x6 x7, p x1 x2 x3 x4 x5 x6 x7) (k : ∀ x1 x2 x3 x4 x5 x6 x7, p x1 x2 x3 x4 x5 x6 x7 → G) : G := h.elim fun x1 h => exE6 h (k x1)
theorem exE8 {α1 : Sort _} {α2 : Sort _} {α3 : Sort _} {α4 : Sort _} {α5 : Sort _} {α6 : Sort _} {α7 : Sort _} {α8 : Sort _} {p : α1 → α2 → α3 → α4 → α5 → α6 → α7 → α8 → Prop} {G : Prop} (h : ∃ x1 x2 x3 x4 x5 x6 x7 x8, p x1 x2 x3 x4 x5 x6 x7 x8) (k : ∀ x1 x2 x3 x4 x5 x6 x7 x8, p x1 x2 x3 x4 x5 x6 x7 x8 → G) : G := h.elim fun x1 h => exE7 h (k x1)
theorem exE9 {α1 : Sort _} {α2 : Sort _} {α3 : Sort _} {α4 : Sort _} {α5 : Sort _} {α6 : Sort _} {α7 : Sort _} {α8 : Sort _} {α9 : Sort _} {p : α1 → α2 → α3 → α4 → α5 → α6 → α7 → α8 → α9 → Prop} {G : Prop} (h : ∃ x1 x2 x3 x4 x5 x6 x7 x8 x9, p x1 x2 x3 x4 x5 x6 x7 x8 x9) (k : ∀ x1 x2 x3 x4 x5 x6 x7 x8 x9, p x1 x2 x3 x4 x5 x6 x7 x8 x9 → G) : G := h.elim fun x1 h => exE8 h (k x1)
theorem exE10 {α1 : Sort _} {α2 : Sort _} {α3 : Sort _} {α4 : Sort _} {α5 : Sort _} {α6 : Sort _} {α7 : Sort _} {α8 : Sort _} {α9 : Sort _} {α10 : Sort _} {p : α1 → α2 → α3 → α4 → α5 → α6 → α7 → α8 → α9 → α10 → Prop} {G : Prop} (h : ∃ x1 x2 x3 x4 x5 x6 x7 x8 x9 x10, p x1 x2 x3 x4 x5 x6 x7 x8 x9 x10) (k : ∀ x1 x2 x3 x4 x5 x6 x7 x8 x9 x10, p x1 x2 x3 x4 x5 x6 x7 x8 x9 x10 → G) : G := h.elim fun x1 h => exE9 h (k x1)
theorem exE11 {α1 : Sort _} {α2 : Sort _} {α3 : Sort _} {α4 : Sort _} {α5 : Sort _} {α6 : Sort _} {α7 : Sort _} {α8 : Sort _} {α9 : Sort _} {α10 : Sort _} {α11 : Sort _} {p : α1 → α2 → α3 → α4 → α5 → α6 → α7 → α8 → α9 → α10 → α11 → Prop} {G : Prop} (h : ∃ x1 x2 x3 x4 x5 x6 x7 x8 x9 x10 x11, p x1 x2 x3 x4 x5 x6 x7 x8 x9 x10 x11) (k : ∀ x1 x2 x3 x4 x5 x6 x7 x8 x9 x10 x11, p x1 x2 x3 x4 x5 x6 x7 x8 x9 x10 x11 → G) : G := h.elim fun x1 h => exE10 h (k x1)
theorem exE12 {α1 : Sort _} {α2 : Sort _} {α3 : Sort _} {α4 : Sort _} {α5 : Sort _} {α6 : Sort _} {α7 : Sort _} {α8 : Sort _} {α9 : Sort _} {α10 : Sort _} {α11 : Sort _} {α12 : Sort _} {p : α1 → α2 → α3 → α4 → α5 → α6 → α7 → α8 → α9 → α10 → α11 → α12 → Prop} {G : Prop} (h : ∃ x1 x2 x3 x4 x5 x6 x7 x8 x9 x10 x11 x12, p x1 x2 x3 x4 x5 x6 x7 x8 x9 x10 x11 x12) (k : ∀ x1 x2 x3 x4 x5 x6 x7 x8 x9 x10 x11 x12, p x1 x2 x3 x4 x5 x6 x7 x8 x9 x10 x11 x12 → G) : G := h.elim fun x1 h => exE11 h (k x1)
theorem anE2 {a1 a2 G : Prop} (h : a1 ∧ a2) (k : a1 → a2 → G) : G := k h.1 h.2
theorem anE3 {a1 a2 a3 G : Prop} (h : a1 ∧ a2 ∧ a3) (k : a1 → a2 → a3 → G) : G := anE2 h.2 (k h.1)
theorem anE4 {a1 a2 a3 a4 G : Prop} (h : a1 ∧ a2 ∧ a3 ∧ a4) (k : a1 → a2 → a3 → a4 → G) : G := anE3 h.2 (k h.1)
theorem anE5 {a1 a2 a3 a4 a5 G : Prop} (h : a1 ∧ a2 ∧ a3 ∧ a4 ∧ a5) (k : a1 → a2 → a3 → a4 → a5 → G) : G := anE4 h.2 (k h.1)
theorem anE6 {a1 a2 a3 a4 a5 a6 G : Prop} (h : a1 ∧ a2 ∧ a3 ∧ a4 ∧ a5 ∧ a6) (k : a1 → a2 → a3 → a4 → a5 → a6 → G) : G := anE5 h.2 (k h.1)
theorem anE7 {a1 a2 a3 a4 a5 a6 a7 G : Prop} (h : a1 ∧ a2 ∧ a3 ∧ a4 ∧ a5 ∧ a6 ∧ a7) (k : a1 → a2 → a3 → a4 → a5 → a6 → a7 → G) : G := anE6 h.2 (k h.1)
theorem anE8 {a1 a2 a3 a4 a5 a6 a7 a8 G : Prop} (h : a1 ∧ a2 ∧ a3 ∧ a4 ∧ a5 ∧ a6 ∧ a7 ∧ a8) (k : a1 → a2 → a3 → a4 → a5 → a6 → a7 → a8 → G) : G := anE7 h.2 (k h.1)
theorem anE9 {a1 a2 a3 a4 a5 a6 a7 a8 a9 G : Prop} (h : a1 ∧ a2 ∧ a3 ∧ a4 ∧ a5 ∧ a6 ∧ a7 ∧ a8 ∧ a9) (k : a1 → a2 → a3 → a4 → a5 → a6 → a7 → a8 → a9 → G) : G := anE8 h.2 (k h.1)
theorem anE10 {a1 a2 a3 a4 a5 a6 a7 a8 a9 a10 G : Prop} (h : a1 ∧ a2 ∧ a3 ∧ a4 ∧ a5 ∧ a6 ∧ a7 ∧ a8 ∧ a9 ∧ a10) (k : a1 → a2 → a3 → a4 → a5 → a6 → a7 → a8 → a9 → a10 → G) : G := anE9 h.2 (k h.1)
theorem q1 {a m k : Nat} (h : a < m) (h' : m ≤ k) : a < k := Nat.lt_of_lt_of_le h h'
theorem q2 {a m k : Nat} (h : a ≤ m) (h' : m < k) : a < k := Nat.lt_of_le_of_lt h h'
theorem q3 {a m k : Nat} (h : a < m) (h' : m ≤ k) : a ≤ k := Nat.le_of_lt (Nat.lt_of_lt_of_le h h')
theorem q4 {a m k : Nat} (h : a ≤ m) (h' : m ≤ k) : a ≤ k := Nat.le_trans h h'
theorem q5 {a m k : Nat} (h : m < k) (h' : a ≤ m) : a < k := Nat.lt_of_le_of_lt h' h
theorem q6 {a m k : Nat} (h : m ≤ k) (h' : a < m) : a < k := Nat.lt_of_lt_of_le h' h
theorem q7 {a m k : Nat} (h : a + m ≤ k) (h' : 0 < m) : a < k := Nat.lt_of_lt_of_le (Nat.lt_add_of_pos_right h') h
theorem q8 {a m k : Nat} (h : a + m ≤ k) : a ≤ k := Nat.le_trans (Nat.le_add_right a m) h
theorem q9 {a m k : Nat} (h : m ≤ k) (h' : a < m) : ¬ k = a := fun e => Nat.lt_irrefl k (Nat.lt_of_lt_of_le (e ▸ h') h)
theorem q10 {a m k : Nat} (h : k < m) (h' : m ≤ a) : ¬ k = a := fun e => Nat.lt_irrefl k (Nat.lt_of_lt_of_le h (e ▸ h'))
theorem q11 {a k : Nat} (h : a ≤ k) : ¬ k < a := Nat.not_lt.mpr h
theorem q12 {a i j : Nat} (h : i < j) : a + i < a + j := Nat.add_lt_add_left h a
theorem q13 {a i j : Nat} (h : i ≤ j) : a + i ≤ a + j := Nat.add_le_add_left h a
theorem q14 {a i : Nat} (h : 0 < i) : a < a + i := Nat.lt_add_of_pos_right h
theorem q15 {a i : Nat} : a ≤ a + i := Nat.le_add_right a i
theorem q16 {a b m : Nat} (h : a = m) (h' : b < m) : b < a := h ▸ h'
theorem q17 {a m k : Nat} (h : a + (m + 1) = k) : a < k := h ▸ Nat.lt_add_of_pos_right (Nat.succ_pos m)
theorem i1 {k : Int} (h : 0 ≤ k) (n : Nat) : max 0 (min k n) = ((min k.toNat n : Nat) : Int) := by
  obtain ⟨m, rfl⟩ := Int.eq_ofNat_of_zero_le h
  rw [Int.toNat_natCast]
  rcases Nat.le_total m n with h | h
  · rw [Nat.min_eq_left h, Int.min_eq_left (Int.ofNat_le.mpr h), Int.max_eq_right (Int.natCast_nonneg _)]
  · rw [Nat.min_eq_right h, Int.min_eq_right (Int.ofNat_le.mpr h), Int.max_eq_right (Int.natCast_nonneg _)]
theorem i2 {a n : Nat} (e : a = n) : (-1 + (n : Int)).toNat = a - 1 := by
  subst e
  rw [Int.add_comm]; exact Int.toNat_sub a 1
theorem i4 {n : Nat} (h : 0 < n) : -(n : Int) ≤ -1 := Int.neg_le_neg (Int.ofNat_lt.mpr h)
theorem i5 {a n : Nat} (h : a - 1 < n) : 0 < n := Nat.lt_of_le_of_lt (Nat.zero_le _) h
theorem i6 {m N : Nat} (h : m < N) : N = N - 1 + 1 := (Nat.succ_pred_eq_of_pos (Nat.lt_of_le_of_lt (Nat.zero_le m) h)).symm
theorem i7 {a b c : Nat} (h : ¬a = b + c) (h' : ¬a < b) : ¬c = a - b := fun e => h (by rw [e, Nat.add_sub_cancel' (Nat.not_lt.mp h')])
theorem i8 {j n L : Nat} (h : ¬j = n + L) (h' : ¬j - n < L) (h2 : ¬ j < n) : L + 1 ≤ j - n := Nat.lt_of_le_of_ne (Nat.not_lt.mp h') fun e => h (by rw [e, Nat.add_sub_cancel' (Nat.not_lt.mp h2)])
theorem i9 {i n : Nat} (h : ¬i < n) (h' : i - n < 1) : i = n := Nat.le_antisymm (Nat.le_of_sub_eq_zero (Nat.lt_one_iff.mp h')) (Nat.not_lt.mp h)
theorem iA {a b : Nat} (h : a ≤ b) (k : Nat) : a ≤ b + k := Nat.le_trans h (Nat.le_add_right b k)
theorem iBk {k : Int} {n : Nat} (h : 0 ≤ k ∧ k < 1000) (h' : k.toNat < n) : k < n := (Int.toNat_lt h.1).mp h'
theorem iC {n : Int} (h : 0 ≤ n) : (if 0 < n then n - 0 else 0) = ((n.toNat : Nat) : Int) - ((0 : Nat) : Int) := by
  rw [Int.toNat_of_nonneg h]
  split
  · rfl
  · rename_i q
    rw [Int.le_antisymm (Int.not_lt.mp q) h]; rfl
end Lw
local macro_rules
  | `(tactic| obtain ⟨$ps,*⟩ := $e:term) => do
    let ps := ps.getElems
    let n := ps.size
    if n < 2 then Lean.Macro.throwUnsupported
    let mut ys : Array Lean.Ident := #[]
    let mut cx : Array (Option (Lean.TSyntax `Lean.Parser.Tactic.rcasesPatLo)) := #[]
    for p in ps do
      match p with
      | `(Lean.Parser.Tactic.rcasesPatLo| $x:ident) =>
        if x.getId == `rfl then
          ys := ys.push (Lean.mkIdent (← Lean.Macro.addMacroScope `y)); cx := cx.push (some p)
        else ys := ys.push x; cx := cx.push none
      | _ => ys := ys.push (Lean.mkIdent (← Lean.Macro.addMacroScope (.num `y ys.size))); cx := cx.push (some p)
    let mut alt ← `(tactic| rcases $e:term with ⟨$ps,*⟩)
    let hn := Lean.mkIdent (← Lean.Macro.addMacroScope `hh)
    for kind in [true, false] do
      for d in [0:n - 1] do
        let i := d + 1
        if i ≤ 12 then
          let lem := Lean.mkIdent (.str `_root_.Lw ((if kind then "exE" else "anE") ++ toString (if kind then i else i + 1)))
          let last := i + 1 == n
          let hb := if last then ys[i]! else hn
          let bs := (ys.extract 0 i).push hb
          let mut t ← `(tactic| refine $lem $e fun $bs* => ?_)
          if e.raw.isIdent && !(bs.any fun b => b.getId == e.raw.getId) then
            let ei : Lean.Ident := ⟨e.raw⟩
            t ← `(tactic| ($t; try clear $ei))
          let r := ps.extract i n
          let early := r.any fun p => ((toString p.raw).splitOn "|").length > 1
          if !last && !early then
            t ← `(tactic| $t <;> obtain ⟨$r,*⟩ := $hn:ident)
          for q in [0:(if last then n else i)] do
            if let some p := cx[q]! then
              let y := ys[q]!
              t ← `(tactic| $t <;> rcases $y:ident with $p)
          if !last && early then
            t ← `(tactic| $t <;> obtain ⟨$r,*⟩ := $hn:ident)
          alt ← `(tactic| first | ($t:tactic) | ($alt:tactic))
    return alt
  | `(tactic| omega) => do
    let mut t ← `(tactic| lia)
    for i in [1:18] do
      let n := Lean.mkIdent (.str `_root_.Lw ("q" ++ toString (18 - i)))
      t ← `(tactic| first | (with_reducible apply $n <;> first | assumption | decide) | $t:tactic)
    return t
set_option genInjectivity false
set_option genSizeOf false
section SA0
namespace Lw
open PySem PySem.Calls PyProof.Rows PySem.W
noncomputable def nmL:List String:=[
  "told", "kind", "value", "is_exec", "access", "number", "things", "is_global", "level", "most",
  "entries", "body", "start", "many", "kept", "begun", "point", "matrix", "path", "clip",
  "colour", "width", "cap", "join", "miter", "dash", "dash_offset", "flatness", "is_adjusted", "is_overprint",
  "font", "operands", "dicts", "frames", "saves", "gstates", "text", "row", "files", "word",
  "system", "vm", "used", "note", "limits", "journal", "made", "freed", "used_global", "last_body",
  "last_save", "memory", "gs", "near", "fonts", "now", "states", "thing", "content", "integer",
  "null", "array", "dict", "gstate", "packed", "string", "item", "state", "drop"]
noncomputable def nm (k:Nat):Str:=Str.ofString (nmL.getD k "")
noncomputable abbrev nmN:Nat:=69
noncomputable def btL:List (List UInt8):=[
  [105,110,118,97,108,105,100,97,99,99,101,115,115],[97],[98],
  [86,77,101,114,114,111,114],[114,97,110,103,101,99,104,101,99,107],
  [108,105,109,105,116,99,104,101,99,107],[105,110,118,97,108,105,100,114,101,115,116,111,114,101]]
noncomputable def bt (k:Nat):List UInt8:=btL.getD k []
noncomputable abbrev btN:Nat:=7
theorem ui {i j:Nat} (hi:i<btN) (hj:j<btN) (h:bt i=bt j):i=j:=by
  have key:∀ i,i<7→∀ j,j<7→bt i=bt j→i=j:=by decide
  exact key i hi j hj h
theorem uj:(List.range 69).all (fun i=>(List.range 69).all fun j=>i==j||!((nm i).cps.toList==(nm j).cps.toList))=true:=by decide +kernel
theorem kz {i j:Nat} (hi:i<nmN) (hj:j<nmN) (h:nm i=nm j):i=j:=by
  have h1:=List.all_eq_true.mp uj i (List.mem_range.mpr hi)
  have h2:=List.all_eq_true.mp h1 j (List.mem_range.mpr hj)
  rcases Bool.or_eq_true_iff.mp h2 with h3 | h3
  · exact beq_iff_eq.mp h3
  · rw [h] at h3
    simp at h3
inductive AV where
  | none | bool (b:Bool) | int (i:Int) | str (k:Nat) | byt (k:Nat) | ref (i:Nat) | ext (a:Nat)
  deriving DecidableEq,Inhabited
inductive AO where
  | list (xs:List AV)
  | tup (xs:List AV)
  | inst (C:Addr) (d:Nat)
  | sdict (kvs:List (Nat×AV))
  | bdict (kvs:List (Nat×AV))
  | idict (kvs:List (Int×AV))
  | junk
  deriving Inhabited
set_option genInjectivity true in
structure St where
  next:Nat
  get:Nat→Option AO
namespace St
noncomputable def set (σ:St) (i:Nat) (o:AO):St:={ σ with get:=fun j=>if j=i then some o else σ.get j }
noncomputable def push (σ:St) (o:AO):St:=⟨σ.next+1,fun j=>if j=σ.next then some o else σ.get j⟩
theorem get_set (σ:St) (i:Nat) (o:AO) (j:Nat):(σ.set i o).get j=if j=i then some o else σ.get j:=rfl
theorem get_push (σ:St) (o:AO) (j:Nat):(σ.push o).get j=if j=σ.next then some o else σ.get j:=rfl
end St
theorem ob {α β:Type} {o:Option α} {f:α→Option β} {z:β} (h:o.bind f=some z):∃ x,o=some x∧f x=some z:=Option.bind_eq_some_iff.mp h
theorem wk {β:Type} {p:Prop} [Decidable p] {o:Option β} {z:β} (h:(if p then o else Option.none)=some z):p∧o=some z:=by
  by_cases q:p
  · rw [if_pos q] at h; exact ⟨q,h⟩
  · rw [if_neg q] at h; cases h
namespace AV
noncomputable def gI (a:AV):Option Int:=match a with | .int i=>some i | _=>Option.none
noncomputable def gB (a:AV):Option Bool:=match a with | .bool i=>some i | _=>Option.none
noncomputable def gS (a:AV):Option Nat:=match a with | .str i=>some i | _=>Option.none
noncomputable def gR (a:AV):Option Nat:=match a with | .ref i=>some i | _=>Option.none
end AV
theorem rL {a:AV} {i:Int} (h:a.gI=some i):a=.int i:=by cases a <;> cases h; rfl
theorem Bi {a:AV} {i:Bool} (h:a.gB=some i):a=.bool i:=by cases a <;> cases h; rfl
theorem Bj {a:AV} {i:Nat} (h:a.gS=some i):a=.str i:=by cases a <;> cases h; rfl
theorem rM {a:AV} {i:Nat} (h:a.gR=some i):a=.ref i:=by cases a <;> cases h; rfl
namespace AO
noncomputable def gL (a:AO):Option (List AV):=match a with | .list i=>some i | _=>Option.none
noncomputable def gBD (a:AO):Option (List (Nat×AV)):=match a with | .bdict i=>some i | _=>Option.none
end AO
namespace St
noncomputable def gL (σ:St) (i:Nat):Option (List AV):=(σ.get i).bind AO.gL
noncomputable def gBD (σ:St) (i:Nat):Option (List (Nat×AV)):=(σ.get i).bind AO.gBD
end St
section
variable {σ:St} {i:Nat} {xs:List AV} {kvs:List (Nat×AV)} {ivs:List (Int×AV)}
theorem AD {α:Type} {g:AO→Option α} {m:α→AO} (k:∀ o x,g o=some x→o=m x) {x:α} (h:(σ.get i).bind g=some x):σ.get i=some (m x):=by
  obtain ⟨o,h1,h2⟩:=ob h
  rw [h1,k o x h2]
theorem o7 (h:σ.gL i=some xs):σ.get i=some (.list xs):=AD (fun o x h=>by cases o <;> cases h; rfl) h
theorem vv (h:σ.gBD i=some kvs):σ.get i=some (.bdict kvs):=AD (fun o x h=>by cases o <;> cases h; rfl) h
end
inductive F2 {α β:Type} (R:α→β→Prop):List α→List β→Prop where
  | nil:F2 R [] []
  | cons {a b as bs}:R a b→F2 R as bs→F2 R (a::as) (b::bs)
namespace F2
variable {α β:Type} {R R':α→β→Prop}
theorem length {as:List α} {bs:List β} (h:F2 R as bs):as.length=bs.length:=by
  induction h with
  | nil=>rfl
  | cons _ _ ih=>simp [ih]
theorem mono {as:List α} {bs:List β} (h:F2 R as bs) (k:∀ a b,R a b→R' a b):F2 R' as bs:=by
  induction h with
  | nil=>exact .nil
  | cons h _ ih=>exact .cons (k _ _ h) ih
theorem get {as:List α} {bs:List β} (h:F2 R as bs):∀ {i:Nat} {a:α},as[i]?=some a→∃ b,bs[i]?=some b∧R a b:=by
  induction h with
  | nil=>intro i a e; simp at e
  | cons h _ ih =>
    intro i a e
    cases i with
    | zero=>simp at e; subst e; exact ⟨_,rfl,h⟩
    | succ i=>exact ih (by simpa using e)
theorem getNone {as:List α} {bs:List β} (h:F2 R as bs) {i:Nat} (e:as[i]?=Option.none):bs[i]?=Option.none:=by
  have:=h.length
  rw [List.getElem?_eq_none_iff] at e ⊢
  omega
theorem set {as:List α} {bs:List β} (h:F2 R as bs):∀ {i:Nat} {a:α} {b:β},R a b→F2 R (as.set i a) (bs.set i b):=by
  induction h with
  | nil=>intro i a b _; exact .nil
  | cons h t ih =>
    intro i a b r
    cases i with
    | zero=>exact .cons r t
    | succ i=>exact .cons h (ih r)
theorem append {as as':List α} {bs bs':List β} (h:F2 R as bs) (h':F2 R as' bs'):F2 R (as++as') (bs++bs'):=by
  induction h with
  | nil=>exact h'
  | cons h _ ih=>exact .cons h ih
theorem snoc {as:List α} {bs:List β} {a:α} {b:β} (h:F2 R as bs) (r:R a b):F2 R (as++[a]) (bs++[b]):=h.append (.cons r .nil)
theorem take {as:List α} {bs:List β} (h:F2 R as bs) (n:Nat):F2 R (as.take n) (bs.take n):=by
  induction h generalizing n with
  | nil=>simp; exact .nil
  | cons h _ ih=>cases n with
    | zero=>exact .nil
    | succ n=>exact .cons h (ih n)
theorem drop {as:List α} {bs:List β} (h:F2 R as bs) (n:Nat):F2 R (as.drop n) (bs.drop n):=by
  induction h generalizing n with
  | nil=>simp; exact .nil
  | cons h t ih=>cases n with
    | zero=>exact .cons h t
    | succ n=>exact ih n
theorem replicate {a:α} {b:β} (r:R a b) (n:Nat):F2 R (List.replicate n a) (List.replicate n b):=by
  induction n with
  | zero=>exact .nil
  | succ n ih=>exact .cons r ih
end F2
noncomputable def VRel (n:Nat) (ρ:Nat→Addr):AV→Value→Prop
  | .none,v=>v=.none
  | .bool b,v=>v=.bool b
  | .int i,v=>∃ t,v=.int i t
  | .str k,v=>k<nmN∧∃ t,v=.str (nm k) t
  | .byt k,v=>k<btN∧∃ t,v=.bytes (bt k).toArray t
  | .ref i,v=>i<n∧v=.ref (ρ i)
  | .ext a,v=>v=.ref a
noncomputable abbrev VRels (n:Nat) (ρ:Nat→Addr) (as:List AV) (vs:List Value):Prop:=F2 (VRel n ρ) as vs
theorem VRel.up {n n':Nat} {ρ ρ':Nat→Addr} (hn:n≤n') (he:∀ i,i<n→ρ' i=ρ i):∀ {a:AV} {v:Value},VRel n ρ a v→VRel n' ρ' a v
  | .none,_,h=>h
  | .bool _,_,h=>h
  | .int _,_,h=>h
  | .str _,_,h=>h
  | .byt _,_,h=>h
  | .ref i,_,h=>⟨Nat.lt_of_lt_of_le h.1 hn,by rw [he i h.1]; exact h.2⟩
  | .ext _,_,h=>h
section
variable (prog:Program) (w:World)
noncomputable def DRel {κ K:Type} [DecidableEq K] (knd:KeyKind prog w K) (dec:κ→K) (n:Nat) (ρ:Nat→Addr) (kvs:List (κ×AV)) (o:Obj):Prop :=
  ∃ ps:List (K×Value),o.IsDictOf knd ps∧F2 (fun (a:κ×AV) (b:K×Value)=>b.1=dec a.1∧VRel n ρ a.2 b.2) kvs ps
noncomputable def ORel (n:Nat) (ρ:Nat→Addr):AO→Obj→Prop
  | .list xs,o=>∃ vs k,o=⟨.type "list",Option.none,.seq (List.toArray vs) k,#[]⟩∧VRels n ρ xs vs
  | .tup xs,o=>∃ vs k,o=⟨.type "tuple",Option.none,.seq (List.toArray vs) k,#[]⟩∧VRels n ρ xs vs
  | .inst C d,o=>o.cls=.ref C∧o.dict=some (ρ d)∧d<n∧notCls o=true
  | .sdict kvs,o=>DRel prog w (strKind prog w) nm n ρ kvs o∧∀ p∈kvs,p.1<nmN
  | .bdict kvs,o=>DRel prog w (bytesKind prog w) bt n ρ kvs o∧∀ p∈kvs,p.1<btN
  | .idict kvs,o=>DRel prog w (intKind prog w) id n ρ kvs o
  | .junk,_=>True
theorem DRel.up {κ K:Type} [DecidableEq K] {knd:KeyKind prog w K} {dec:κ→K} {n n':Nat} {ρ ρ':Nat→Addr} {kvs:List (κ×AV)} {o:Obj} (hn:n≤n') (he:∀ i,i<n→ρ' i=ρ i)
    (h:DRel prog w knd dec n ρ kvs o):DRel prog w knd dec n' ρ' kvs o :=
  let ⟨ps,h1,h2⟩:=h; ⟨ps,h1,h2.mono fun _ _ r=>⟨r.1,r.2.up hn he⟩⟩
theorem ORel.up {n n':Nat} {ρ ρ':Nat→Addr} (hn:n≤n') (he:∀ i,i<n→ρ' i=ρ i):∀ {a:AO} {o:Obj},ORel prog w n ρ a o→ORel prog w n' ρ' a o
  | .list _,_,⟨vs,k,e,r⟩=>⟨vs,k,e,r.mono fun _ _ r=>r.up hn he⟩
  | .tup _,_,⟨vs,k,e,r⟩=>⟨vs,k,e,r.mono fun _ _ r=>r.up hn he⟩
  | .inst _ d,_,⟨h1,h2,h3,h4⟩=>⟨h1,by rw [h2,he d h3],Nat.lt_of_lt_of_le h3 hn,h4⟩
  | .sdict _,_,h=>⟨h.1.up _ _ hn he,h.2⟩
  | .bdict _,_,h=>⟨h.1.up _ _ hn he,h.2⟩
  | .idict _,_,h=>DRel.up _ _ hn he h
  | .junk,_,_=>trivial
end
noncomputable def isD (o:Obj):Bool:=match o.data with
  | .dict ..=>true
  | _=>false
theorem xt {o:Obj} {es n} (h:o.data=.dict es n):isD o=true:=by unfold isD; rw [h]
theorem rN {o:Obj} (h:∀ es n,o.data≠.dict es n):isD o=false:=by
  unfold isD
  split
  · rename_i q; exact absurd q (h _ _)
  · rfl
noncomputable def Same (o o':Obj):Prop:=o'.cls=o.cls∧(isD o=true→∃ sl,o'={ o with slots:=sl })∧(isD o=false→isD o'=false∧(o.cls≠.type "traceback" → o'=o))
theorem Same.refl (o:Obj):Same o o:=⟨rfl,fun _=>⟨o.slots,rfl⟩,fun h=>⟨h,fun _=>rfl⟩⟩
theorem Same.trans {o o' o'':Obj} (x:Same o o') (y:Same o' o''):Same o o'':=by
  obtain ⟨x1,x2,x3⟩:=x
  obtain ⟨y1,y2,y3⟩:=y
  refine ⟨y1.trans x1,fun h=>?_,fun h=>?_⟩
  · obtain ⟨sl,e⟩:=x2 h
    obtain ⟨sl',e'⟩:=y2 (by rw [e]; exact h)
    exact ⟨sl',by rw [e',e]⟩
  · obtain ⟨a,e⟩:=x3 h
    obtain ⟨b,e'⟩:=y3 a
    exact ⟨b,fun ht=>by rw [e' (by rw [x1]; exact ht),e ht]⟩
theorem Same.eq {o o':Obj} (x:Same o o') (h:∀ es n,o.data≠.dict es n) (ht:o.cls≠.type "traceback"):o'=o:=(x.2.2 (rN h)).2 ht
theorem Same.dict {o o':Obj} (x:Same o o') {es n} (h:o.data=.dict es n):o'.data=.dict es n:=by
  obtain ⟨sl,e⟩:=x.2.1 (xt h)
  rw [e]; exact h
structure Cx where
  prog:Program
  w:World
  K:Frag
  base:Heap
  p:Program
  loose:List Str
  mg:Str→Option Value
  mb:Str→Option Value
structure Cx.Ok (c:Cx):Prop where
  X:c.K.In c.base
  T:TopRead c.p c.loose c.mg c.mb c.base
  sys:sysModules<c.base.objs.size
structure Rel (c:Cx) (ρ:Nat→Addr) (σ:St) (h:Heap):Prop where
  inj:∀ i j,i<σ.next→j<σ.next→ρ i=ρ j→i=j
  keep:∀ b o,c.base.get? b=some o→h.get? b=some o
  new:∀ i,i<σ.next→c.base.objs.size≤ρ i
  obj:∀ i,i<σ.next→∃ a,σ.get i=some a∧∃ o,h.get? (ρ i)=some o∧ORel c.prog c.w σ.next ρ a o
  dom:∀ i a,σ.get i=some a→i<σ.next
theorem Rel.at {c:Cx} {ρ:Nat→Addr} {σ:St} {h:Heap} (R:Rel c ρ σ h) {i:Nat} {a:AO} (e:σ.get i=some a):i<σ.next∧∃ o,h.get? (ρ i)=some o∧ORel c.prog c.w σ.next ρ a o:=by
  have hi:=R.dom i a e
  obtain ⟨a',e',o,ho,r⟩:=R.obj i hi
  obtain rfl:a=a':=Option.some.inj (e.symm.trans e')
  exact ⟨hi,o,ho,r⟩
noncomputable def Own (ρ:Nat→Addr) (σ:St) (a:Addr):Prop:=∃ i,i<σ.next∧ρ i=a
structure Go (c:Cx) (ex:Option Addr) (ρ:Nat→Addr) (σ:St) (s:Shared) (ρ':Nat→Addr) (σ':St) (s':Shared):Prop where
  rel:Rel c ρ' σ' s'.heap
  ext:∀ i,i<σ.next→ρ' i=ρ i
  le:σ.next≤σ'.next
  fresh:∀ i,σ.next≤i→i<σ'.next→s.heap.get? (ρ' i)=none
  keep:∀ a o,s.heap.get? a=some o→ex≠some a→¬ Own ρ σ a→∃ o',s'.heap.get? a=some o'∧Same o o'
  live:∀ a o,s.heap.get? a=some o→∃ o',s'.heap.get? a=some o'
  rest:s'.gens=s.gens∧s'.drawn=s.drawn∧s'.os=s.os
theorem Go.refl {c:Cx} {ex:Option Addr} {ρ:Nat→Addr} {σ:St} {s:Shared} (R:Rel c ρ σ s.heap):Go c ex ρ σ s ρ σ s :=
  ⟨R,fun _ _=>rfl,Nat.le_refl _,fun _ h1 h2=>absurd h1 (Nat.not_le.mpr h2),fun _ o e _ _=>⟨o,e,.refl o⟩,fun _ o e=>⟨o,e⟩,rfl,rfl,rfl⟩
theorem kA {c:Cx} {ex:Option Addr} {ρ ρ':Nat→Addr} {σ σ':St} {s s':Shared} (g:Go c ex ρ σ s ρ' σ' s') {a:Addr} {o:Obj} (ha:s.heap.get? a=some o) (h:¬ Own ρ σ a):¬ Own ρ' σ' a:=by
  rintro ⟨i,hi,rfl⟩
  rcases Nat.lt_or_ge i σ.next with q | q
  · exact h ⟨i,q,(g.ext i q).symm⟩
  · have:=g.fresh i q hi
    rw [ha] at this
    cases this
theorem Go.trans {c:Cx} {ex:Option Addr} {ρ ρ₁ ρ₂:Nat→Addr} {σ σ₁ σ₂:St} {s s₁ s₂:Shared} (x:Go c ex ρ σ s ρ₁ σ₁ s₁) (y:Go c ex ρ₁ σ₁ s₁ ρ₂ σ₂ s₂):Go c ex ρ σ s ρ₂ σ₂ s₂ where
  rel:=y.rel
  ext:=fun i hi=>(y.ext i (Nat.lt_of_lt_of_le hi x.le)).trans (x.ext i hi)
  le:=Nat.le_trans x.le y.le
  fresh:=fun i h1 h2=>by
    rcases Nat.lt_or_ge i σ₁.next with h | h
    · rw [y.ext i h]; exact x.fresh i h1 h
    · cases q:s.heap.get? (ρ₂ i) with
      | none=>rfl
      | some o =>
        obtain ⟨o',e'⟩:=x.live _ o q
        have:=y.fresh i h h2
        rw [e'] at this
        cases this
  keep:=fun a o e he hn=>by
    obtain ⟨o₁,e₁,m₁⟩:=x.keep a o e he hn
    obtain ⟨o₂,e₂,m₂⟩:=y.keep a o₁ e₁ he (kA x e hn)
    exact ⟨o₂,e₂,m₁.trans m₂⟩
  live:=fun a o e=>let ⟨o₁,e₁⟩:=x.live a o e; y.live a o₁ e₁
  rest:=⟨y.rest.1.trans x.rest.1,y.rest.2.1.trans x.rest.2.1,y.rest.2.2.trans x.rest.2.2⟩
theorem Go.none {c:Cx} {ex:Option Addr} {ρ ρ':Nat→Addr} {σ σ':St} {s s':Shared} (x:Go c Option.none ρ σ s ρ' σ' s'):Go c ex ρ σ s ρ' σ' s' :=
  { x with keep:=fun a o e _ hn=>x.keep a o e (by simp) hn }
theorem Go.up {c:Cx} {ex:Option Addr} {ρ ρ':Nat→Addr} {σ σ':St} {s s':Shared} (x:Go c ex ρ σ s ρ' σ' s') {a:AV} {v:Value} (h:VRel σ.next ρ a v):VRel σ'.next ρ' a v:=h.up x.le x.ext
theorem Go.ups {c:Cx} {ex:Option Addr} {ρ ρ':Nat→Addr} {σ σ':St} {s s':Shared} (x:Go c ex ρ σ s ρ' σ' s') {a:List AV} {v:List Value} (h:VRels σ.next ρ a v):VRels σ'.next ρ' a v:=h.mono fun _ _ r=>x.up r
end Lw
end SA0
section SA1
namespace Lw
open PySem PySem.Calls PyProof.Rows PySem.W
inductive Res (α:Type) where
  | ok (a:α)
  | exc (i:Nat)
noncomputable abbrev Loc:=Nat→Option AV
noncomputable abbrev M (α:Type):=Loc→St→Option (Res α×Loc×St)
noncomputable def ret {α:Type} (a:α):M α:=fun l σ=>some (.ok a,l,σ)
noncomputable def au {α β:Type} (f:M α) (g:α→M β):M β:=fun l σ=>match f l σ with
  | some (.ok a,l',σ')=>g a l' σ'
  | some (.exc i,l',σ')=>some (.exc i,l',σ')
  | none=>none
noncomputable abbrev Fn:=List AV→St→Option (Res AV×St)
theorem bX {α β:Type} {f:M α} {g:α→M β} {l:Loc} {σ:St} {r:Res β} {l':Loc} {σ':St} (h:au f g l σ=some (r,l',σ')) :
    (∃ a l₁ σ₁,f l σ=some (.ok a,l₁,σ₁)∧g a l₁ σ₁=some (r,l',σ'))∨(∃ i,f l σ=some (.exc i,l',σ')∧r=.exc i):=by
  unfold au at h
  split at h
  · rename_i a l₁ σ₁ e; exact .inl ⟨a,l₁,σ₁,e,h⟩
  · rename_i i l₁ σ₁ e; cases h; exact .inr ⟨i,e,rfl⟩
  · cases h
structure Fd where
  A₀:Around
  fenv:Env
  env:Env
  L:Addr
  names:List Str
  outer:List Env
  below:List Env
  b:Nat
  hd:Option Value:=none
  top:Bool:=true
noncomputable def Fd.A (fd:Fd):Around:={ fd.A₀.deeper fd.fenv with handled:=fd.hd }
noncomputable def RoomN (A:Around) (b:Nat):Prop:=A.handled=none∧A.depth+20 * b≤900∧A.units+100 * b≤9000
noncomputable def Ea (names:List Str) (L:Addr) (n:Nat) (ρ:Nat→Addr) (loc:Loc) (h:Heap):Prop :=
  ∃ m,h.Ns L m∧∀ k x a,names[k]?=some x→loc k=some a→∃ v,m x=some v∧VRel n ρ a v
noncomputable def Stk (c:Cx) (ρ:Nat→Addr) (σ:St) (outer:List Env) (h:Heap):Prop :=
  ∀ env∈outer,env.scope.kind≠.module∧∃ L o es n,env.frame=some L∧c.base.objs.size≤L∧¬ Own ρ σ L∧h.get? L=some o∧o.data=.dict es n
theorem Heap.Ns.lt {h:Heap} {L:Addr} {m:Str→Option Value} (x:h.Ns L m):L<h.objs.size:=let ⟨_,_,_,ho,_⟩:=x; Heap.lt_size ho
theorem Heap.Ns.same {h h':Heap} {L:Addr} {m:Str→Option Value} (x:h.Ns L m) (k:∀ o,h.get? L=some o→∃ o',h'.get? L=some o'∧Same o o'):h'.Ns L m:=by
  obtain ⟨o,es,ep,ho,hd,r⟩:=x
  obtain ⟨o',ho',s⟩:=k o ho
  exact ⟨o',es,ep,ho',s.dict hd,r⟩
theorem Stk.step {c:Cx} {ex:Option Addr} {ρ ρ':Nat→Addr} {σ σ':St} {s s':Shared} {outer:List Env} (x:Stk c ρ σ outer s.heap) (g:Go c ex ρ σ s ρ' σ' s')
    (hx:∀ env∈outer,∀ L,env.frame=some L→ex≠some L):Stk c ρ' σ' outer s'.heap:=by
  intro env he
  obtain ⟨hk,L,o,es,n,hf,hl,hn,ho,hd⟩:=x env he
  obtain ⟨o',ho',sm⟩:=g.keep L o ho (hx env he L hf) hn
  exact ⟨hk,L,o',es,n,hf,hl,kA g ho hn,ho',sm.dict hd⟩
structure Inv (c:Cx) (fd:Fd) (ρ:Nat→Addr) (loc:Loc) (σ:St) (s:Shared):Prop where
  rel:Rel c ρ σ s.heap
  fr:Ea fd.names fd.L σ.next ρ loc s.heap
  off:¬ Own ρ σ fd.L
  low:c.base.objs.size≤fd.L
  stk:Stk c ρ σ fd.below s.heap
  apart:∀ env∈fd.below,∀ L,env.frame=some L→fd.L≠L
theorem Inv.lt {c:Cx} {fd:Fd} {ρ:Nat→Addr} {loc:Loc} {σ:St} {s:Shared} (I:Inv c fd ρ loc σ s):fd.L<s.heap.objs.size:=let ⟨_,hn,_⟩:=I.fr; Heap.Ns.lt hn
theorem Inv.step {c:Cx} {fd:Fd} {ρ ρ':Nat→Addr} {loc:Loc} {σ σ':St} {s s':Shared} (I:Inv c fd ρ loc σ s) (g:Go c none ρ σ s ρ' σ' s'):Inv c fd ρ' loc σ' s' where
  rel:=g.rel
  fr:=by
    obtain ⟨m,hn,hl⟩:=I.fr
    refine ⟨m,Heap.Ns.same hn fun o ho=>g.keep _ o ho (by simp) I.off,fun k x a h1 h2=>?_⟩
    obtain ⟨v,hv,r⟩:=hl k x a h1 h2
    exact ⟨v,hv,g.up r⟩
  off:=let ⟨_,⟨_,_,_,ho,_⟩,_⟩:=I.fr; kA g ho I.off
  low:=I.low
  stk:=I.stk.step g (by simp)
  apart:=I.apart
noncomputable def Flies (c:Cx) (L:Option Addr) (ρ:Nat→Addr) (σ:St) (i:Nat) (h:Heap):Prop :=
  i<σ.next∧∃ oe vs,h.get? (ρ i)=some oe∧oe.data=.fields vs∧1<vs.size ∧
    (vs[1]?=some .none∨∃ T oT ts fl,vs[1]?=some (.ref T)∧c.base.objs.size≤T∧¬ Own ρ σ T∧h.get? T=some oT∧oT.cls=.type "traceback" ∧ oT.data=.fields ts∧ts[3]?=some fl∧(fl=.none∨∃ a,L=some a∧fl=rawInt a))
theorem Flies.some {c:Cx} {L:Option Addr} {ρ:Nat→Addr} {σ:St} {i:Nat} {h:Heap} (F:Flies c none ρ σ i h):Flies c L ρ σ i h:=by
  obtain ⟨hi,oe,vs,a1,a2,a3,a4⟩:=F
  refine ⟨hi,oe,vs,a1,a2,a3,a4.imp id fun ⟨T,oT,ts,fl,b1,b2,b3,b4,b5,b6,b7,b8⟩=>⟨T,oT,ts,fl,b1,b2,b3,b4,b5,b6,b7,.inl ?_⟩⟩
  rcases b8 with h | h0q
  · exact h
  · obtain ⟨_,h,_⟩:=h0q
    cases h
noncomputable def Ends (c:Cx) (fd:Fd) {α β:Type} (RV:Nat→(Nat→Addr)→α→β→Prop) (ρ:Nat→Addr) (σ:St) (s:Shared) (r:Res α) (loc':Loc) (σ':St) (Q:β→Shared→Prop) (E:Value→Shared→Prop):Prop:=match r with
  | .ok a=>∀ ρ' s' b,Go c (some fd.L) ρ σ s ρ' σ' s'→Inv c fd ρ' loc' σ' s'→RV σ'.next ρ' a b→Q b s'
  | .exc i=>∀ ρ' s',Go c (some fd.L) ρ σ s ρ' σ' s'→Inv c fd ρ' loc' σ' s'→Flies c (some fd.L) ρ' σ' i s'.heap→E (.ref (ρ' i)) s'
theorem Ends.after {c:Cx} {fd:Fd} {α β:Type} {RV:Nat→(Nat→Addr)→α→β→Prop} {ρ ρ₁:Nat→Addr} {σ σ₁:St} {s s₁:Shared} {r:Res α} {loc':Loc} {σ':St} {Q:β→Shared→Prop} {E:Value→Shared→Prop}
    (h:Ends c fd RV ρ σ s r loc' σ' Q E) (g:Go c (some fd.L) ρ σ s ρ₁ σ₁ s₁):Ends c fd RV ρ₁ σ₁ s₁ r loc' σ' Q E:=by
  cases r with
  | ok a=>exact fun ρ' s' b g'=>h ρ' s' b (g.trans g')
  | exc i=>exact fun ρ' s' g'=>h ρ' s' (g.trans g')
theorem Ends.of {c:Cx} {fd:Fd} {α β:Type} {RV:Nat→(Nat→Addr)→α→β→Prop} {ρ:Nat→Addr} {σ σ1 σ':St} {s:Shared} {x r:Res α} {l loc':Loc} {Q:β→Shared→Prop} {E:Value→Shared→Prop} (hE:Ends c fd RV ρ σ s r loc' σ' Q E) (h:some (x,l,σ1)=some (r,loc',σ')):Ends c fd RV ρ σ s x l σ1 Q E:=by
  cases h; exact hE
structure SE (c:Cx) (fd:Fd) {α β:Type} (RV:Nat→(Nat→Addr)→α→β→Prop) (f:M α) (t:Sem β):Prop where
  go:∀ ρ loc σ s,Inv c fd ρ loc σ s→∀ r loc' σ',f loc σ=some (r,loc',σ')→∀ Q E,Ends c fd RV ρ σ s r loc' σ' Q E→wpAny (model c.prog c.w) fd.A t Q E s
section
variable {c:Cx} {fd:Fd} {α β γ δ:Type} {RV:Nat→(Nat→Addr)→α→β→Prop} {RV':Nat→(Nat→Addr)→γ→δ→Prop}
theorem SE.use {f:M α} {g:α→M γ} {t:Sem β} (h:SE c fd RV f t) {ρ:Nat→Addr} {loc:Loc} {σ:St} {s:Shared} (I:Inv c fd ρ loc σ s) {r:Res γ} {loc':Loc} {σ':St} (hf:au f g loc σ=some (r,loc',σ'))
    {Q':δ→Shared→Prop} {E:Value→Shared→Prop} (hE:Ends c fd RV' ρ σ s r loc' σ' Q' E) {Q:β→Shared→Prop}
    (k:∀ a l₁ σ₁ ρ₁ s₁ b,g a l₁ σ₁=some (r,loc',σ')→Go c (some fd.L) ρ σ s ρ₁ σ₁ s₁→Inv c fd ρ₁ l₁ σ₁ s₁→RV σ₁.next ρ₁ a b→Ends c fd RV' ρ₁ σ₁ s₁ r loc' σ' Q' E→Q b s₁) :
    wpAny (model c.prog c.w) fd.A t Q E s:=by
  rcases bX hf with h0q | h0q
  · obtain ⟨a,l₁,σ₁,e,hg⟩:=h0q
    exact h.1 ρ loc σ s I _ _ _ e Q E fun ρ₁ s₁ b g I₁ rv=>k a l₁ σ₁ ρ₁ s₁ b hg g I₁ rv (hE.after g)
  · obtain ⟨i,e,rfl⟩:=h0q
    exact h.1 ρ loc σ s I _ _ _ e Q E fun ρ₁ s₁ g I₁ fl=>hE ρ₁ s₁ g I₁ fl
theorem Ends.here {ρ:Nat→Addr} {loc:Loc} {σ:St} {s:Shared} {a:α} {b:β} {Q:β→Shared→Prop} {E:Value→Shared→Prop} (I:Inv c fd ρ loc σ s) (hE:Ends c fd RV ρ σ s (.ok a) loc σ Q E) (rv:RV σ.next ρ a b):Q b s :=
  hE ρ s b (.refl I.rel) I rv
theorem dn {ex:Option Addr} {ρ:Nat→Addr} {σ:St} {s:Shared} (R:Rel c ρ σ s.heap) (t:Nat):Go c ex ρ σ s ρ σ { s with toks:=t } :=
  ⟨R,fun _ _=>rfl,Nat.le_refl _,fun _ h1 h2=>absurd h1 (Nat.not_le.mpr h2),fun _ o e _ _=>⟨o,e,.refl o⟩,fun _ o e=>⟨o,e⟩,rfl,rfl,rfl⟩
theorem iH {ex:Option Addr} {ρ:Nat→Addr} {σ:St} {s:Shared} {h':Heap} (R:Rel c ρ σ s.heap) (t:Nat) (k:∀ b o,s.heap.get? b=some o→h'.get? b=some o):Go c ex ρ σ s ρ σ { s with heap:=h',toks:=t } where
  rel:=⟨R.inj,fun b o' e=>k _ _ (R.keep b o' e),R.new,fun i hi=>let ⟨a,e,o',h2,h3⟩:=R.obj i hi; ⟨a,e,o',k _ _ h2,h3⟩,R.dom⟩
  ext:=fun _ _=>rfl
  le:=Nat.le_refl _
  fresh:=fun _ h1 h2=>absurd h1 (Nat.not_le.mpr h2)
  keep:=fun _ o' e _ _=>⟨o',k _ _ e,.refl _⟩
  live:=fun _ o' e=>⟨o',k _ _ e⟩
  rest:=⟨rfl,rfl,rfl⟩
theorem nf {ex:Option Addr} {ρ:Nat→Addr} {σ:St} {s:Shared} (R:Rel c ρ σ s.heap) (o:Obj) (t:Nat):Go c ex ρ σ s ρ σ { s with heap:=s.heap.push o,toks:=t } :=
  iH R t fun _ _ e=>Heap.get?_push_of_some _ e
noncomputable def ins (ρ:Nat→Addr) (n:Nat) (a:Addr):Nat→Addr:=fun i=>if i=n then a else ρ i
theorem bK (ρ:Nat→Addr) (n:Nat) (a:Addr):ins ρ n a n=a:=if_pos rfl
theorem cr {ρ:Nat→Addr} {n:Nat} {a:Addr} {i:Nat} (h:i<n):ins ρ n a i=ρ i:=if_neg (Nat.ne_of_lt h)
theorem get?_size (h:Heap):h.get? h.objs.size=none:=by
  cases q:h.get? h.objs.size with
  | none=>rfl
  | some o=>exact absurd (Heap.lt_size q) (Nat.lt_irrefl _)
theorem lJ {ex:Option Addr} {ρ:Nat→Addr} {σ:St} {s:Shared} (R:Rel c ρ σ s.heap) {h':Heap} {x:Addr} {o:Obj} {a:AO} (t:Nat) (hx:s.heap.get? x=none) (hb:c.base.objs.size≤x)
    (k:∀ b o,s.heap.get? b=some o→h'.get? b=some o) (hn:h'.get? x=some o) (ho:ORel c.prog c.w (σ.next+1) (ins ρ σ.next x) a o) :
    Go c ex ρ σ s (ins ρ σ.next x) (σ.push a) { s with heap:=h',toks:=t } where
  rel:={
    inj:=fun i j hi hj e=>by
      have hi:i<σ.next+1:=hi
      have hj:j<σ.next+1:=hj
      have old:∀ j,j<σ.next→x≠ρ j:=fun j hj q=>by
        obtain ⟨_,_,o',h2,_⟩:=R.obj j hj
        rw [← q,hx] at h2
        cases h2
      by_cases h1:i=σ.next
      · by_cases h2:j=σ.next
        · rw [h1,h2]
        · subst h1
          rw [bK,cr (by omega)] at e
          exact absurd e (old j (by omega))
      · by_cases h2:j=σ.next
        · subst h2
          rw [bK,cr (by omega)] at e
          exact absurd e.symm (old i (by omega))
        · rw [cr (by omega),cr (by omega)] at e
          exact R.inj i j (by omega) (by omega) e
    keep:=fun b o' e=>k _ _ (R.keep b o' e)
    new:=fun i hi=>by
      by_cases h:i=σ.next
      · subst h; rw [bK]; exact hb
      · rw [cr (by have:i<σ.next+1:=hi; omega)]; exact R.new i (by have:i<σ.next+1:=hi; omega)
    obj:=fun i hi=>by
      have hi:i<σ.next+1:=hi
      rw [St.get_push]
      by_cases h:i=σ.next
      · subst h
        rw [if_pos rfl,bK]
        exact ⟨a,rfl,o,hn,ho⟩
      · rw [if_neg h]
        obtain ⟨a',e',o',h2,h3⟩:=R.obj i (by omega)
        rw [cr (by omega)]
        exact ⟨a',e',o',k _ _ h2,h3.up _ _ (Nat.le_succ _) fun j hj=>cr hj⟩
    dom:=fun i a' e=>by
      rw [St.get_push] at e
      split at e
      · rename_i q; rw [q]; exact Nat.lt_succ_self _
      · exact Nat.lt_succ_of_lt (R.dom i a' e) }
  ext:=fun i hi=>cr hi
  le:=Nat.le_succ _
  fresh:=fun i h1 h2=>by
    have h2:i<σ.next+1:=h2
    obtain rfl:i=σ.next:=by omega
    rw [bK]; exact hx
  keep:=fun _ o' e _ _=>⟨o',k _ _ e,.refl _⟩
  live:=fun _ o' e=>⟨o',k _ _ e⟩
  rest:=⟨rfl,rfl,rfl⟩
theorem kG {ex:Option Addr} {ρ:Nat→Addr} {σ:St} {s:Shared} (R:Rel c ρ σ s.heap) (hb:c.base.objs.size≤s.heap.objs.size) {o:Obj} {a:AO} (t:Nat) (hf:o.isFreed=false) (ho:ORel c.prog c.w (σ.next+1) (ins ρ σ.next s.heap.objs.size) a o) :
    Go c ex ρ σ s (ins ρ σ.next s.heap.objs.size) (σ.push a) { s with heap:=s.heap.push o,toks:=t } :=
  lJ R t (get?_size _) hb (fun _ _ e=>Heap.get?_push_of_some _ e) (Heap.get?_push_size _ hf) ho
theorem rO {ρ:Nat→Addr} {σ:St} {s:Shared} (R:Rel c ρ σ s.heap) {h':Heap} {ex:Option Addr} {i:Nat} {o:Obj} {a:AO} (t:Nat) (hi:i<σ.next)
    (k:∀ b o,b≠ρ i→s.heap.get? b=some o→ex≠some b→h'.get? b=some o) (kx:∀ b o,ex=some b→s.heap.get? b=some o→¬ Own ρ σ b∧c.base.objs.size≤b∧∃ o',h'.get? b=some o')
    (hn:h'.get? (ρ i)=some o) (ho:ORel c.prog c.w σ.next ρ a o) :
    Go c ex ρ σ s ρ (σ.set i a) { s with heap:=h',toks:=t } where
  rel:={
    inj:=R.inj
    keep:=fun b o' e=>k b o' (fun q=>absurd (Heap.lt_size e) (by have:=R.new i hi; rw [← q] at this; exact Nat.not_lt.mpr this)) (R.keep b o' e) fun q=>absurd (Heap.lt_size e) (Nat.not_lt.mpr (kx b o' q (R.keep b o' e)).2.1)
    new:=R.new
    obj:=fun j hj=>by
      rw [St.get_set]
      by_cases h:j=i
      · subst h; rw [if_pos rfl]; exact ⟨a,rfl,o,hn,ho⟩
      · rw [if_neg h]
        obtain ⟨a',e',o',h2,h3⟩:=R.obj j hj
        exact ⟨a',e',o',k _ _ (fun q=>h (R.inj j i hj hi q)) h2 fun q=>(kx _ _ q h2).1 ⟨j,hj,rfl⟩,h3⟩
    dom:=fun j a' e=>by
      rw [St.get_set] at e
      split at e
      · rename_i q; rw [q]; exact hi
      · exact R.dom j a' e }
  ext:=fun _ _=>rfl
  le:=Nat.le_refl _
  fresh:=fun _ h1 h2=>absurd h1 (Nat.not_le.mpr h2)
  keep:=fun b o' e he hw=>⟨o',k b o' (fun q=>hw ⟨i,hi,q.symm⟩) e he,.refl _⟩
  live:=fun b o' e=>by
    by_cases q:b=ρ i
    · rw [q]; exact ⟨o,hn⟩
    · by_cases z:ex=some b
      · exact (kx b o' z e).2.2
      · exact ⟨o',k b o' q e z⟩
  rest:=⟨rfl,rfl,rfl⟩
theorem eT {ρ:Nat→Addr} {σ:St} {s:Shared} (R:Rel c ρ σ s.heap) {h':Heap} {i:Nat} {o:Obj} {a:AO} (t:Nat) (hi:i<σ.next) (hs:Heap.SameBut (ρ i) s.heap h')
    (hn:h'.get? (ρ i)=some o) (ho:ORel c.prog c.w σ.next ρ a o):Go c none ρ σ s ρ (σ.set i a) { s with heap:=h',toks:=t } :=
  rO R t hi (fun b _ hb e _=>(hs.2 b hb).trans e) (fun _ _ q=>by cases q) hn ho
end
end Lw
end SA1
section SA2
namespace Lw
open PySem PySem.Calls PyProof.Rows PySem.W
inductive AF where
  | next
  | ret (a:AV)
noncomputable def dz (n:Nat) (ρ:Nat→Addr):AF→Flow→Prop
  | .next,f=>f=.next
  | .ret a,f=>∃ v,f=.ret v∧VRel n ρ a v
noncomputable def gb {α:Type} (_:Nat) (_:Nat→Addr) (a b:α):Prop:=a=b
structure Good (c:Cx) (fd:Fd):Prop where
  ok:c.Ok
  kind:fd.env.scope.kind=.function
  glob:fd.env.globals=mainGlobals
  blt:fd.env.builtins=builtinsNs
  loc:fd.env.locals=fd.L
  fk:fd.fenv.scope.kind≠.module
  how:(fd.top=true∧fd.env=fd.fenv∧fd.fenv.frame=some fd.L∧fd.below=fd.outer)∨(fd.top=false∧fd.below=fd.fenv::fd.outer)
  frames:fd.A₀.frames=some fd.outer
  room:RoomN fd.A₀ (fd.b+1)
theorem Good.depth {c:Cx} {fd:Fd} (G:Good c fd):fd.A.depth+20 * fd.b≤890:=by
  have:=G.room.2.1
  show fd.A₀.depth+1+20 * fd.b≤890
  omega
theorem Good.units {c:Cx} {fd:Fd} (G:Good c fd):fd.A.units+100 * fd.b≤8950:=by
  have:=G.room.2.2
  show fd.A₀.units+3+100 * fd.b≤8950
  omega
theorem Good.plain {c:Cx} {fd:Fd} (G:Good c fd):(fd.env.scope.kind==.class||(fd.env.scope.kind==.module&&fd.env.locals != fd.env.globals))=false:=by
  rw [G.kind]; rfl
theorem Inv.frame {c:Cx} {fd:Fd} {ρ:Nat→Addr} {loc:Loc} {σ:St} {s:Shared} (I:Inv c fd ρ loc σ s) :
    ∃ m,Fr c.base fd.L s.heap m∧∀ k x a,fd.names[k]?=some x→loc k=some a→∃ v,m x=some v∧VRel σ.next ρ a v :=
  let ⟨m,hn,hl⟩:=I.fr; ⟨m,⟨hn,I.rel.keep,I.low⟩,hl⟩
theorem Inv.big {c:Cx} {fd:Fd} {ρ:Nat→Addr} {loc:Loc} {σ:St} {s:Shared} (I:Inv c fd ρ loc σ s):c.base.objs.size≤s.heap.objs.size:=Nat.le_of_lt (Nat.lt_of_le_of_lt I.low I.lt)
theorem Inv.toks {c:Cx} {fd:Fd} {ρ:Nat→Addr} {loc:Loc} {σ:St} {s:Shared} (I:Inv c fd ρ loc σ s) (t:Nat):Inv c fd ρ loc σ { s with toks:=t }:=I.step (dn I.rel t)
noncomputable def ac (k:Nat):M AV:=fun l σ=>match l k with
  | some a=>some (.ok a,l,σ)
  | none=>none
noncomputable def bU (k:Nat) (a:AV):M Unit:=fun l σ=>some (.ok (),(fun j=>if j=k then some a else l j),σ)
section
variable {c:Cx} {fd:Fd}
theorem ij (G:Good c fd) {k:Nat} {x:Str} {pos:Pos} (hx:fd.names[k]?=some x) (hl:fd.env.kindOf x=some .local) (hd:(x==("__debug__" : Str))=false) :
    SE c fd VRel (ac k) (eval (.Name x pos) fd.env):=by
  refine ⟨fun ρ loc σ s I r loc' σ' hf Q E hE=>?_⟩
  unfold ac at hf
  split at hf
  · rename_i a ha
    have hE:=hE.of hf
    obtain ⟨m,F,hm⟩:=I.frame
    obtain ⟨v,hv,rv⟩:=hm k x a hx ha
    exact wpAny_Name (wpAny_loadName_local (env:=fd.env) G.kind hl (by rw [G.loc]; exact F.ns) hv (Ends.here I hE rv)) hd
  · cases hf
theorem jz (G:Good c fd) {x:Str} {pos:Pos} {v:Value} {a:AV} (e:nsIn c.K mainGlobals x=some (some v)) (ha:VRel 0 id a v) (hx:fd.env.kindOf x=some .globalImplicit) (hd:(x==("__debug__" : Str))=false) :
    SE c fd VRel (ret a) (eval (.Name x pos) fd.env):=by
  refine ⟨fun ρ loc σ s I r loc' σ' hf Q E hE=>?_⟩
  have hE:=hE.of hf
  obtain ⟨m,F,hm⟩:=I.frame
  exact nameG_K F G.ok.X G.ok.T e (Ends.here I hE (ha.up (Nat.zero_le _) fun i hi=>absurd hi (Nat.not_lt_zero _))) G.glob G.kind hx hd
theorem cM {k pos}:SE c fd VRel (ret AV.none) (eval (.Constant .none k pos) fd.env):=by
  refine ⟨fun ρ loc σ s I r loc' σ' hf Q E hE=>?_⟩
  have hE:=hE.of hf
  exact wpAny_Constant_none (Ends.here I hE rfl)
theorem cZ {b k pos}:SE c fd VRel (ret (AV.bool b)) (eval (.Constant (.bool b) k pos) fd.env):=by
  refine ⟨fun ρ loc σ s I r loc' σ' hf Q E hE=>?_⟩
  have hE:=hE.of hf
  exact wpAny_Constant_bool (Ends.here I hE rfl)
theorem aI {i k pos}:SE c fd VRel (ret (AV.int i)) (eval (.Constant (.int i) k pos) fd.env):=by
  refine ⟨fun ρ loc σ s I r loc' σ' hf Q E hE=>?_⟩
  have hE:=hE.of hf
  exact wpAny_Constant_int (hE ρ _ _ (dn I.rel _) (I.toks _) ⟨_,rfl⟩)
theorem aK {x:Str} {j k pos} (hj:j<nmN) (e:x=nm j):SE c fd VRel (ret (AV.str j)) (eval (.Constant (.str x) k pos) fd.env):=by
  refine ⟨fun ρ loc σ s I r loc' σ' hf Q E hE=>?_⟩
  have hE:=hE.of hf
  subst e
  exact wpAny_Constant_str (hE ρ _ _ (dn I.rel _) (I.toks _) ⟨hj,_,rfl⟩)
theorem mD {x:List UInt8} {j k pos} (hj:j<btN) (e:x=bt j):SE c fd VRel (ret (AV.byt j)) (eval (.Constant (.bytes x) k pos) fd.env):=by
  refine ⟨fun ρ loc σ s I r loc' σ' hf Q E hE=>?_⟩
  have hE:=hE.of hf
  subst e
  show wpAny _ _ (mkTextBytes (bt j).toArray) _ _ _
  exact wpAny_mkTextBytes (hE ρ _ _ (dn I.rel _) (I.toks _) ⟨hj,_,rfl⟩)
theorem zf {ρ:Nat→Addr} {loc:Loc} {σ:St} {s:Shared} {h':Heap} {k:Nat} {x:Str} {a:AV} {v:Value} {m:Str→Option Value} {t:Nat} (I:Inv c fd ρ loc σ s) (hm:∀ k x a,fd.names[k]?=some x→loc k=some a→∃ v,m x=some v∧VRel σ.next ρ a v)
    (hx:fd.names[k]?=some x) (hnd:fd.names.Nodup) (rv:VRel σ.next ρ a v) (hn:h'.Ns fd.L (fun y=>if y=x then some v else m y)) (hs:Heap.SameBut fd.L s.heap h') :
    Go c (some fd.L) ρ σ s ρ σ { s with heap:=h',toks:=t }∧Inv c fd ρ (fun j=>if j=k then some a else loc j) σ { s with heap:=h',toks:=t }:=by
  have k1:∀ b o,b≠fd.L→s.heap.get? b=some o→h'.get? b=some o:=fun b o hb e=>(hs.2 b hb).trans e
  have own:∀ i,i<σ.next→ρ i≠fd.L:=fun i hi q=>I.off ⟨i,hi,q⟩
  have R:Rel c ρ σ h':=⟨I.rel.inj,fun b o e=>k1 b o (fun q=>absurd (Heap.lt_size e) (by rw [q]; exact Nat.not_lt.mpr I.low)) (I.rel.keep b o e),I.rel.new,
    fun i hi=>let ⟨a,e,o,h2,h3⟩:=I.rel.obj i hi; ⟨a,e,o,k1 _ _ (own i hi) h2,h3⟩,I.rel.dom⟩
  have g:Go c (some fd.L) ρ σ s ρ σ { s with heap:=h',toks:=t }:=⟨R,fun _ _=>rfl,Nat.le_refl _,fun _ h1 h2=>absurd h1 (Nat.not_le.mpr h2),fun b o e he _=>⟨o,k1 b o (fun q=>he (by rw [q])) e,.refl _⟩,
    fun b o e=>by
      by_cases q:b=fd.L
      · subst q; obtain ⟨o',_,_,ho',_⟩:=hn; exact ⟨o',ho'⟩
      · exact ⟨o,k1 b o q e⟩,rfl,rfl,rfl⟩
  refine ⟨g,R,⟨_,hn,fun j y b hj hb=>?_⟩,I.off,I.low,I.stk.step g fun env he L' hf q=>I.apart env he L' hf (Option.some.inj q),I.apart⟩
  have hb:(if j=k then some a else loc j)=some b:=hb
  by_cases q:j=k
  · subst q
    obtain rfl:x=y:=Option.some.inj (hx.symm.trans hj)
    rw [if_pos rfl] at hb
    cases hb
    exact ⟨v,if_pos rfl,rv⟩
  · rw [if_neg q] at hb
    obtain ⟨u,hu,ru⟩:=hm j y b hj hb
    refine ⟨u,?_,ru⟩
    rw [if_neg]
    · exact hu
    · intro z
      subst z
      obtain ⟨lj,ej⟩:=List.getElem?_eq_some_iff.mp hj
      obtain ⟨lk,ek⟩:=List.getElem?_eq_some_iff.mp hx
      exact q ((List.getElem_inj hnd).mp (ej.trans ek.symm))
theorem gy (G:Good c fd) {k:Nat} {x:Str} (hx:fd.names[k]?=some x) (hnd:fd.names.Nodup) (hl:fd.env.kindOf x=some .local) {ρ:Nat→Addr} {loc:Loc} {σ:St} {s:Shared} (I:Inv c fd ρ loc σ s) {a:AV} {v:Value} (rv:VRel σ.next ρ a v)
    {Q:Unit→Shared→Prop} {E:Value→Shared→Prop} (h:∀ s',Go c (some fd.L) ρ σ s ρ σ s'→Inv c fd ρ (fun j=>if j=k then some a else loc j) σ s'→Q () s'):wpAny (model c.prog c.w) fd.A (storeName fd.env x v) Q E s:=by
  obtain ⟨m,F,hm⟩:=I.frame
  refine wpAny_storeName_local hl (by rw [G.loc]; exact F.ns) (fun h' hn hs=>?_) G.plain
  rw [G.loc] at hn hs
  obtain ⟨g,I'⟩:=zf I hm hx hnd rv hn hs
  exact h _ g I'
noncomputable def bn (f:M AV) (k:Nat):M AF:=au f fun a=>au (bU k a) fun _=>ret .next
theorem bG (G:Good c fd) {f:M AV} {k:Nat} {x:Str} {value:Expr} {pos' pos:Pos} (h:SE c fd VRel f (eval value fd.env)) (hx:fd.names[k]?=some x) (hnd:fd.names.Nodup) (hl:fd.env.kindOf x=some .local)
    (hs:swapsWith value (some (.Name x pos')) pos.line fd.env=pure false):SE c fd dz (bn f k) (exec (.Assign [.Name x pos'] value pos) fd.env):=by
  refine ⟨fun ρ loc σ s I r loc' σ' hf Q E hE=>?_⟩
  refine wpAny_Assign_Name (h.use I hf hE fun a l₁ σ₁ ρ₁ s₁ v hg g I₁ rv hE₁=>?_) hs
  have hE₁:=hE₁.of hg
  exact gy G hx hnd hl I₁ rv fun s' g' I'=>hE₁ _ _ _ g' I' rfl
noncomputable def bS {α:Type} (f:M α):M AF:=au f fun _=>ret .next
noncomputable def cu (f:M AV):M AF:=au f fun a=>ret (.ret a)
theorem aP {f:M AV} {e:Expr} {pos:Pos} (h:SE c fd VRel f (eval e fd.env)):SE c fd dz (cu f) (exec (.Return (some e) pos) fd.env):=by
  refine ⟨fun ρ loc σ s I r loc' σ' hf Q E hE=>?_⟩
  refine wpAny_Return_some (h.use I hf hE fun a l₁ σ₁ ρ₁ s₁ v hg g I₁ rv hE₁=>?_)
  have hE₁:=hE₁.of hg
  exact Ends.here I₁ hE₁ ⟨v,rfl,rv⟩
theorem uk {pos:Pos}:SE c fd dz (ret (.ret .none)) (exec (.Return none pos) fd.env):=by
  refine ⟨fun ρ loc σ s I r loc' σ' hf Q E hE=>?_⟩
  have hE:=hE.of hf
  exact wpAny_Return_none (Ends.here I hE ⟨_,rfl,rfl⟩)
noncomputable def ay (f g:M AF):M AF:=au f fun x=>match x with
  | .next=>g
  | .ret a=>ret (.ret a)
theorem cj:SE c fd dz (ret .next) (execs [] fd.env):=by
  refine ⟨fun ρ loc σ s I r loc' σ' hf Q E hE=>?_⟩
  have hE:=hE.of hf
  exact wpAny_execs_nil (Ends.here I hE rfl)
theorem ai {f g:M AF} {st:Stmt} {rest:List Stmt} (h:SE c fd dz f (exec st fd.env)) (h':SE c fd dz g (execs rest fd.env)):SE c fd dz (ay f g) (execs (st::rest) fd.env):=by
  refine ⟨fun ρ loc σ s I r loc' σ' hf Q E hE=>?_⟩
  refine wpAny_execs_cons (h.use I hf hE fun a l₁ σ₁ ρ₁ s₁ v hg g I₁ rv hE₁=>?_)
  cases a with
  | next =>
    cases rv
    exact h'.1 _ _ _ _ I₁ _ _ _ hg _ _ hE₁
  | ret a =>
    obtain ⟨u,rfl,ru⟩:=rv
    have hE₁:=hE₁.of hg
    exact Ends.here I₁ hE₁ ⟨u,rfl,ru⟩
theorem ar {f:M AF} {st:Stmt} (h:SE c fd dz f (exec st fd.env)):SE c fd dz f (execs [st] fd.env):=by
  have e:f=ay f (ret .next):=by
    funext l σ
    show _=au f _ l σ
    unfold au
    cases q:f l σ with
    | none=>rfl
    | some p =>
      obtain ⟨r,l',σ'⟩:=p
      rcases r with (_ | a) | i <;> rfl
  rw [e]
  exact ai h cj
noncomputable def ifX (t:M Bool) (f g:M AF):M AF:=au t fun b=>if b then f else g
theorem bY {t:M Bool} {f g:M AF} {test:Expr} {body orelse:List Stmt} {pos:Pos} (ht:SE c fd gb t (isTrue test fd.env (eval test fd.env))) (hf:SE c fd dz f (execs body fd.env)) (hg:SE c fd dz g (execs orelse fd.env)) :
    SE c fd dz (ifX t f g) (exec (.If test body orelse pos) fd.env):=by
  refine ⟨fun ρ loc σ s I r loc' σ' hh Q E hE=>?_⟩
  refine wpAny_If (ht.use I hh hE fun a l₁ σ₁ ρ₁ s₁ v hg' g I₁ rv hE₁=>?_)
  cases rv
  cases a with
  | true=>exact hf.1 _ _ _ _ I₁ _ _ _ hg' _ _ hE₁
  | false=>exact hg.1 _ _ _ _ I₁ _ _ _ hg' _ _ hE₁
end
end Lw
end SA2
section SA3
namespace Lw
open PySem PySem.Calls PyProof.Rows PySem.W
noncomputable def allN (base:Heap) (L:Addr) (h:Heap):List (Addr×Obj):=(List.range h.objs.size).filterMap fun a=>match h.get? a with
  | some o=>if a=L∨(base.get? a).isSome=true then none else some (a,o)
  | none=>none
theorem mem_allN {base h:Heap} {L a:Addr} {o:Obj}:(a,o)∈allN base L h ↔ h.get? a=some o∧a≠L∧base.get? a=none:=by
  unfold allN
  rw [List.mem_filterMap]
  constructor
  · rintro ⟨b,_,e⟩
    split at e
    · rename_i o' q
      split at e
      · cases e
      · rename_i z
        cases e
        simp only [not_or,Bool.not_eq_true,Option.isSome_eq_false_iff,Option.isNone_iff_eq_none] at z
        exact ⟨q,z.1,z.2⟩
    · cases e
  · rintro ⟨e,h1,h2⟩
    refine ⟨a,List.mem_range.mpr (Heap.lt_size e),?_⟩
    rw [e]
    simp [h1,h2]
theorem ik {α:Type} (f:Nat→Option (Nat×α)) (hf:∀ a p,f a=some p→p.1=a):∀ l:List Nat,l.Nodup→((l.filterMap f).map (·.1)).Nodup
  | [],_=>List.nodup_nil
  | a::l,h=>by
    rw [List.nodup_cons] at h
    rw [List.filterMap_cons]
    split
    · exact ik f hf l h.2
    · rename_i p hp
      rw [List.map_cons,List.nodup_cons]
      refine ⟨fun hm=>?_,ik f hf l h.2⟩
      obtain ⟨q,hq,e⟩:=List.mem_map.mp hm
      obtain ⟨b,hb,eb⟩:=List.mem_filterMap.mp hq
      have h1:=hf _ _ hp
      have h2:=hf _ _ eb
      rw [h1,h2] at e
      exact h.1 (e▸hb)
theorem ul (base:Heap) (L:Addr) (h:Heap):((allN base L h).map (·.1)).Nodup:=by
  refine ik _ (fun a p e=>?_) _ List.nodup_range
  split at e
  · split at e
    · cases e
    · cases e; rfl
  · cases e
theorem lK (base:Heap) (L:Addr) (h:Heap):News base L h (allN base L h):=fun p hp=>mem_allN.mp hp
theorem xu {D:Addr} {o o':Obj}:∀ {l:List (Addr×Obj)},(l.map (·.1)).Nodup→(D,o)∈l→∃ l',Upd D o o' l l'∧(D,o')∈l'∧∀ p∈l,p.1≠D→p∈l'
  | [],_,h=>by cases h
  | q::l,hn,h=>by
    rw [List.map_cons,List.nodup_cons] at hn
    rcases List.mem_cons.mp h with e | h
    · subst e
      have off:∀ p∈l,p.1≠D:=fun p hp e=>hn.1 (List.mem_map.mpr ⟨p,hp,e⟩)
      refine ⟨(D,o')::l,.head off,List.mem_cons_self,fun p hp ne=>?_⟩
      rcases List.mem_cons.mp hp with rfl | hp
      · exact absurd rfl ne
      · exact List.mem_cons_of_mem _ hp
    · obtain ⟨l',u,m1,m2⟩:=xu (o':=o') hn.2 h
      have ne:q.1≠D:=fun e=>hn.1 (by rw [e]; exact List.mem_map_of_mem (f:=(·.1)) h)
      refine ⟨q::l',.tail ne u,List.mem_cons_of_mem _ m1,fun p hp ne'=>?_⟩
      rcases List.mem_cons.mp hp with rfl | hp
      · exact List.mem_cons_self
      · exact List.mem_cons_of_mem _ (m2 p hp ne')
section
variable {c:Cx} {fd:Fd}
theorem Inv.turn {ρ:Nat→Addr} {loc:Loc} {σ:St} {s:Shared} (I:Inv c fd ρ loc σ s) {m:Str→Option Value} (hm:∀ k x a,fd.names[k]?=some x→loc k=some a→∃ v,m x=some v∧VRel σ.next ρ a v)
    {i:Nat} (hi:i<σ.next) {o':Obj} {a:AO} {h':Heap} {l':List (Addr×Obj)} (t:Nat) (m1:(ρ i,o')∈l') (m2:∀ p∈allN c.base fd.L s.heap,p.1≠ρ i→p∈l')
    (F':Fr c.base fd.L h' m) (N':News c.base fd.L h' l') (ho:ORel c.prog c.w σ.next ρ a o') :
    Go c (some fd.L) ρ σ s ρ (σ.set i a) { s with heap:=h',toks:=t }∧Inv c fd ρ loc (σ.set i a) { s with heap:=h',toks:=t }:=by
  have g:Go c (some fd.L) ρ σ s ρ (σ.set i a) { s with heap:=h',toks:=t }:=by
    refine rO I.rel t hi (fun b o hb e hx=>?_) (fun b o e _=>?_) (N' _ m1).1 ho
    · cases q:c.base.get? b with
      | some ob =>
        have:=I.rel.keep b ob q
        rw [e] at this
        cases this
        exact F'.keep b o q
      | none=>exact (N' _ (m2 (b,o) (mem_allN.mpr ⟨e,fun z=>hx (by rw [z]),q⟩) hb)).1
    · cases e
      obtain ⟨o,_,_,h1,_⟩:=F'.ns
      exact ⟨I.off,I.low,o,h1⟩
  exact ⟨g,g.rel,⟨m,F'.ns,hm⟩,I.off,I.low,I.stk.step g fun env he L' hf q=>I.apart env he L' hf (Option.some.inj q),I.apart⟩
theorem Inv.upd {ρ:Nat→Addr} {loc:Loc} {σ:St} {s:Shared} (I:Inv c fd ρ loc σ s) {i:Nat} (hi:i<σ.next) {o:Obj} (ho:s.heap.get? (ρ i)=some o) (o':Obj) :
    ∃ l',Upd (ρ i) o o' (allN c.base fd.L s.heap) l'∧(ρ i,o')∈l'∧∀ p∈allN c.base fd.L s.heap,p.1≠ρ i→p∈l':=by
  refine xu (ul _ _ _) (mem_allN.mpr ⟨ho,fun q=>I.off ⟨i,hi,q⟩,?_⟩)
  cases q:c.base.get? (ρ i) with
  | none=>rfl
  | some ob=>exact absurd (Heap.lt_size q) (Nat.not_lt.mpr (I.rel.new i hi))
theorem um {prog:Program} {w:World} {K:Type} [DecidableEq K] {knd:KeyKind prog w K} {o:Obj} {ps:List (K×Value)} (h:o.IsDictOf knd ps) :
    ∃ es n,o=dictOf es n∧PySem.KeysOf knd es.toArray∧Pairs knd es ps∧(ps.map (·.1)).Nodup:=by
  obtain ⟨es,ep,⟨h1,h2,h3⟩,hd,hk,hp,hn⟩:=h
  obtain ⟨oc,od,oda,osl⟩:=o
  dsimp only at h1 h2 h3 hd
  subst h1 h2 h3 hd
  exact ⟨es.toList,ep,rfl,hk,hp,hn⟩
noncomputable def look {κ:Type} [DecidableEq κ] (kvs:List (κ×AV)) (k:κ):Option AV:=(kvs.find? fun p=>p.1=k).map (·.2)
noncomputable def store {κ:Type} [DecidableEq κ] (kvs:List (κ×AV)) (k:κ) (a:AV):List (κ×AV) :=
  if kvs.any (fun p=>p.1=k) then kvs.map (fun p=>if p.1=k then (p.1,a) else p) else kvs++[(k,a)]
theorem kH {κ K:Type} [DecidableEq κ] [DecidableEq K] {dec:κ→K} {n:Nat} {ρ:Nat→Addr} {P:κ→Prop} (hi:∀ a b,P a→P b→dec a=dec b→a=b) {kvs:List (κ×AV)} {ps:List (K×Value)}
    (h:F2 (fun (a:κ×AV) (b:K×Value)=>b.1=dec a.1∧VRel n ρ a.2 b.2) kvs ps) (hP:∀ p∈kvs,P p.1) {k:κ} (hk:P k) :
    (∀ a,look kvs k=some a→∃ v,valueAt ps (dec k)=some v∧VRel n ρ a v)∧(look kvs k=none→valueAt ps (dec k)=none):=by
  induction h with
  | nil=>exact ⟨fun a e=>by simp [look] at e,fun _=>rfl⟩
  | @cons p q kvs ps r _ ih =>
    obtain ⟨ih1,ih2⟩:=ih fun x hx=>hP x (List.mem_cons_of_mem _ hx)
    unfold look valueAt at *
    simp only [List.find?_cons]
    by_cases e:p.1=k
    · have e':q.1=dec k:=by rw [r.1,e]
      simp only [e,e',decide_true]
      exact ⟨fun a z=>by cases z; exact ⟨_,rfl,r.2⟩,fun z=>by cases z⟩
    · have e':¬ q.1=dec k:=fun z=>e (hi _ _ (hP p List.mem_cons_self) hk (r.1.symm.trans z))
      simp only [e,e',decide_false]
      exact ⟨ih1,ih2⟩
theorem lL {κ K:Type} [DecidableEq κ] [DecidableEq K] {dec:κ→K} {n:Nat} {ρ:Nat→Addr} {P:κ→Prop} (hi:∀ a b,P a→P b→dec a=dec b→a=b) {kvs:List (κ×AV)} {ps:List (K×Value)}
    (h:F2 (fun (a:κ×AV) (b:K×Value)=>b.1=dec a.1∧VRel n ρ a.2 b.2) kvs ps) (hP:∀ p∈kvs,P p.1) {k:κ} (hk:P k) {a:AV} {v:Value} (rv:VRel n ρ a v) :
    F2 (fun (a:κ×AV) (b:K×Value)=>b.1=dec a.1∧VRel n ρ a.2 b.2) (store kvs k a) (stored ps (dec k) v):=by
  have any_eq:∀ {kvs:List (κ×AV)} {ps:List (K×Value)},F2 (fun (a:κ×AV) (b:K×Value)=>b.1=dec a.1∧VRel n ρ a.2 b.2) kvs ps→(∀ p∈kvs,P p.1)→(kvs.any fun p=>p.1=k)=ps.any fun p=>p.1=dec k:=by
    intro kvs ps h
    induction h with
    | nil=>intro _; rfl
    | @cons p q kvs ps r _ ih =>
      intro hP
      rw [List.any_cons,List.any_cons,ih fun x hx=>hP x (List.mem_cons_of_mem _ hx)]
      congr 1
      by_cases e:p.1=k
      · simp [e,r.1]
      · have e':¬ q.1=dec k:=fun z=>e (hi _ _ (hP p List.mem_cons_self) hk (r.1.symm.trans z))
        simp [e,e']
  have map_eq:∀ {kvs:List (κ×AV)} {ps:List (K×Value)},F2 (fun (a:κ×AV) (b:K×Value)=>b.1=dec a.1∧VRel n ρ a.2 b.2) kvs ps→(∀ p∈kvs,P p.1) →
      F2 (fun (a:κ×AV) (b:K×Value)=>b.1=dec a.1∧VRel n ρ a.2 b.2) (kvs.map fun p=>if p.1=k then (p.1,a) else p) (ps.map fun kv=>if kv.1=dec k then (kv.1,v) else kv):=by
    intro kvs ps h
    induction h with
    | nil=>intro _; exact .nil
    | @cons p q kvs ps r _ ih =>
      intro hP
      rw [List.map_cons,List.map_cons]
      refine .cons ?_ (ih fun x hx=>hP x (List.mem_cons_of_mem _ hx))
      by_cases e:p.1=k
      · have e':q.1=dec k:=by rw [r.1,e]
        rw [if_pos e,if_pos e']; exact ⟨by rw [e',e],rv⟩
      · have e':¬ q.1=dec k:=fun z=>e (hi _ _ (hP p List.mem_cons_self) hk (r.1.symm.trans z))
        rw [if_neg e,if_neg e']; exact r
  unfold store stored
  rw [any_eq h hP]
  split
  · exact map_eq h hP
  · exact h.snoc ⟨rfl,rv⟩
theorem qR {κ:Type} [DecidableEq κ] {kvs:List (κ×AV)} {k:κ} {a:AV} {P:κ→Prop} (h:∀ p∈kvs,P p.1) (hk:P k):∀ p∈store kvs k a,P p.1:=by
  intro p hp
  unfold store at hp
  split at hp
  · obtain ⟨q,hq,e⟩:=List.mem_map.mp hp
    split at e
    · subst e; exact h q hq
    · subst e; exact h q hq
  · rcases List.mem_append.mp hp with hp | hp
    · exact h p hp
    · rw [List.mem_singleton.mp hp]; exact hk
theorem wl {κ:Type} [DecidableEq κ] (kvs:List (κ×AV)) (k:κ) (a:AV):(store kvs k a).length≤kvs.length+1:=by
  unfold store
  split
  · rw [List.length_map]; omega
  · rw [List.length_append]; exact Nat.le_refl _
theorem oR {prog:Program} {w:World} {es:List DictEntry} {ps:List (Str×Value)} (hp:Pairs (strKind prog w) es ps) (hk:PySem.KeysOf (strKind prog w) es.toArray) (x:Str):PySem.W.getL x es=some (valueAt ps x):=by
  have hf:=hp.find x
  have e:(fun d:DictEntry=>d.key.isStr x)=fun d=>Value.isStrOf x d.key:=funext fun d=>isStr_of x d.key
  have hf':(es.find? fun d=>d.key.isStr x).map (·.val)=valueAt ps x:=by rw [e]; exact hf
  unfold PySem.W.getL
  split
  · rename_i en he
    rw [he] at hf'
    rw [← hf']; rfl
  · rename_i he
    rw [he] at hf'
    rw [← hf']
    have:es.any (·.refKey)=false:=by
      rw [List.any_eq_false]
      intro d hd
      obtain ⟨k,h1,_⟩:=hk d (by simpa using hd)
      obtain ⟨t,h2⟩:=Value.isStrOf_shape h1
      unfold DictEntry.refKey
      rw [h2]
      exact fun z=>by cases z
    rw [this]; rfl
end
end Lw
end SA3
section SA4
namespace Lw
open PySem PySem.Calls PyProof.Rows PySem.W
structure PA (K:Frag) (C:Addr) (x:Str):Prop where
  hg:plainGet K C x=true
  hh:hasDictIn K C=true
  ha:∃ attr,findIn K (.ref C) x=some attr∧noGet K attr=true
  hs:findIn K (.ref C) "__setattr__" = some (some (.builtin "object.__setattr__"))
  hp:plainOver K C=true
  ht:takerIn K C x=some none
noncomputable abbrev Cls:=List Addr
noncomputable def kf (cs:Cls) (k:Nat) (a:AV):M AV:=fun l σ=>match a with
  | .ref i=>match σ.get i with
    | some (.inst C d)=>if cs.contains C then match σ.get d with
        | some (.sdict kvs)=>match look kvs k with
          | some v=>some (.ok v,l,σ)
          | none=>none
        | _=>none
      else none
    | _=>none
  | _=>none
noncomputable def kq (cs:Cls) (k:Nat) (a v:AV):M Unit:=fun l σ=>match a with
  | .ref i=>match σ.get i with
    | some (.inst C d)=>if cs.contains C then match σ.get d with
        | some (.sdict kvs)=>if kvs.length<900 then some (.ok (),l,σ.set d (.sdict (store kvs k v))) else none
        | _=>none
      else none
    | _=>none
  | _=>none
theorem nS {n:Nat} {ρ:Nat→Addr} {a:AV} {v:Value} (h:VRel n ρ a v):handedIn v=true:=by
  cases a with
  | none=>cases h; rfl
  | bool b=>cases h; rfl
  | int i=>obtain ⟨t,rfl⟩:=h; rfl
  | str k=>obtain ⟨_,t,rfl⟩:=h; rfl
  | byt k=>obtain ⟨_,t,rfl⟩:=h; rfl
  | ref i=>obtain ⟨_,rfl⟩:=h; rfl
  | ext a=>cases h; rfl
section
variable {c:Cx} {fd:Fd}
theorem Rel.inst {ρ:Nat→Addr} {σ:St} {h:Heap} (R:Rel c ρ σ h) {i d:Nat} {C:Addr} {kvs:List (Nat×AV)} (hi:σ.get i=some (.inst C d)) (hd:σ.get d=some (.sdict kvs)) :
    ∃ ox es n ps,InstAt h (ρ i) ox C (some (dictOf es n))∧ox.dict=some (ρ d)∧h.get? (ρ d)=some (dictOf es n)∧PySem.KeysOf (strKind c.prog c.w) es.toArray∧Pairs (strKind c.prog c.w) es ps∧(ps.map (·.1)).Nodup ∧
      F2 (fun (a:Nat×AV) (b:Str×Value)=>b.1=nm a.1∧VRel σ.next ρ a.2 b.2) kvs ps∧∀ p∈kvs,p.1<nmN:=by
  obtain ⟨_,ox,hx,h1,h2,_,h4⟩:=R.at hi
  obtain ⟨_,od,ho,⟨ps,hp,hr⟩,hb⟩:=R.at hd
  obtain ⟨es,n,rfl,k1,k2,k3⟩:=um hp
  exact ⟨ox,es,n,ps,⟨hx,h1,h4,by rw [h2]; exact ho⟩,h2,ho,k1,k2,k3,hr,hb⟩
theorem s8 {cs:Cls} {k:Nat} {x:Str} (G:Good c fd) (hc:∀ C∈cs,PA c.K C x) (hk:k<nmN) (ex:x=nm k) {ρ:Nat→Addr} {loc:Loc} {σ:St} {s:Shared} (I:Inv c fd ρ loc σ s) {a:AV} {v:Value} (rv:VRel σ.next ρ a v)
    {r:Res AV} {loc':Loc} {σ':St} (hf:kf cs k a loc σ=some (r,loc',σ')) {expr:Bool} {Q:Value→Shared→Prop} {E:Value→Shared→Prop} (hE:Ends c fd VRel ρ σ s r loc' σ' Q E) :
    wpAny (model c.prog c.w) fd.A (getAttr v x expr) Q E s:=by
  unfold kf at hf
  split at hf
  · rename_i i
    obtain ⟨hi,rfl⟩:=rv
    split at hf
    · rename_i C d e1
      split at hf
      · rename_i hC
        split at hf
        · rename_i kvs e2
          split at hf
          · rename_i b e3
            have hE:=hE.of hf
            obtain ⟨ox,es,n,ps,In,_,_,k1,k2,_,hr,hb⟩:=I.rel.inst e1 e2
            have P:=hc C (List.contains_iff_mem.mp hC)
            obtain ⟨attr,ha,hn⟩:=P.ha
            obtain ⟨u,hu,ru⟩:=(kH (P:=(·<nmN)) (fun a b ha hb=>kz ha hb) hr hb hk).1 b e3
            refine get_value (G.ok.X.keeps I.rel.keep) In (plainGet_of P.hg).1 (findObj_own P.hh ha hn ?_) (nS ru) (hE ρ _ u (dn I.rel _) (I.toks _) ru)
            rw [lookIn_dict,oR k2 k1,ex,hu]
          · cases hf
        · cases hf
      · cases hf
    · cases hf
  · cases hf
noncomputable def aw (cs:Cls) (k:Nat) (f:M AV):M AV:=au f (kf cs k)
theorem vw {cs:Cls} {k:Nat} {x:Str} (G:Good c fd) (hc:∀ C∈cs,PA c.K C x) (hk:k<nmN) (ex:x=nm k) {f:M AV} {e:Expr} {pos:Pos} (h:SE c fd VRel f (eval e fd.env))
    (he:eval (.Attribute e x pos) fd.env=(do
      let o ← eval e fd.env
      standAt pos.atName
      let r ← holding [o] (getAttr o x true)
      letTemporaryGo e o r
      pure r)):SE c fd VRel (aw cs k f) (eval (.Attribute e x pos) fd.env):=by
  refine ⟨fun ρ loc σ s I r loc' σ' hf Q E hE=>?_⟩
  refine Attribute_any_ (prog:=c.prog) (w:=c.w) (h.use I hf hE fun a l₁ σ₁ ρ₁ s₁ v hg g I₁ rv hE₁=>?_) he
  exact s8 G hc hk ex I₁ rv hg hE₁
theorem mE {prog:Program} {w:World} {x:Str} {v:Value} {t:Tok} {hsh:Int} (hh:hsh=(strKind prog w).hash x) {es:List DictEntry} {ps:List (Str×Value)} (h:Pairs (strKind prog w) es ps) (hn:(ps.map (·.1)).Nodup) :
    Pairs (strKind prog w) (putL x hsh (.str x t) v es) (stored ps x v):=by
  induction h with
  | nil=>exact .cons (strKind_is prog w x t) rfl .nil
  | @cons e k es ps h1 h2 hr ih =>
    have d':e.key.isStr x=decide (x=k.1):=(isStr_of x e.key).trans (KeyKind.is_eq_decide h1 x)
    rw [List.map_cons,List.nodup_cons] at hn
    unfold putL
    by_cases hq:x=k.1
    · subst hq
      rw [d',decide_eq_true rfl,if_pos rfl]
      have:stored (k::ps) k.1 v=(k.1,v)::ps:=by
        unfold stored
        rw [List.any_cons,decide_eq_true rfl,Bool.true_or,if_pos rfl,List.map_cons,if_pos rfl,map_store_of_not_mem ps _ v hn.1]
      rw [this]
      exact .cons h1 rfl hr
    · rw [d',decide_eq_false hq,if_neg Bool.false_ne_true]
      have hq':¬ k.1=x:=fun e=>hq e.symm
      have:stored (k::ps) x v=k::stored ps x v:=by
        unfold stored
        rw [List.any_cons,decide_eq_false hq',Bool.false_or]
        split
        · rw [List.map_cons,if_neg hq']
        · rfl
      rw [this]
      exact .cons h1 h2 (ih hn.2)
theorem qS {prog:Program} {w:World} {x:Str} {v:Value} {t:Tok} {hsh:Int} (hh:hsh=(strKind prog w).hash x):∀ {es:List DictEntry},PySem.KeysOf (strKind prog w) es.toArray→PySem.KeysOf (strKind prog w) (putL x hsh (.str x t) v es).toArray:=by
  intro es
  induction es with
  | nil=>intro _ e he; simp [putL] at he; subst he; exact ⟨x,strKind_is prog w x t,hh⟩
  | cons e es ih =>
    intro hk
    have h1:=hk e (by simp)
    have h2:PySem.KeysOf (strKind prog w) es.toArray:=fun e' he'=>hk e' (by simp at he' ⊢; exact .inr he')
    unfold putL
    split
    · intro e' he'
      simp at he'
      rcases he' with rfl | he'
      · exact h1
      · exact h2 e' (by simpa using he')
    · intro e' he'
      simp at he'
      rcases he' with rfl | he'
      · exact h1
      · exact ih h2 e' (by simpa using he')
theorem rP {K:Type} [DecidableEq K] {ps:List (K×Value)} (h:(ps.map (·.1)).Nodup) (k:K) (v:Value):((stored ps k v).map (·.1)).Nodup:=by
  unfold stored
  split
  · have:(ps.map fun kv=>if kv.1=k then (kv.1,v) else kv).map (·.1)=ps.map (·.1):=by
      rw [List.map_map]
      refine List.map_congr_left fun p _=>?_
      show (if p.1=k then (p.1,v) else p).1=p.1
      split <;> rfl
    rw [this]; exact h
  · rename_i hn
    rw [List.map_append,List.nodup_append]
    refine ⟨h,by simp,fun a ha b hb=>?_⟩
    simp at hb
    subst hb
    rintro rfl
    apply hn
    obtain ⟨p,hp,e⟩:=List.mem_map.mp ha
    exact List.any_eq_true.mpr ⟨p,hp,by simpa using e⟩
theorem gz (w:World) (x:Str):PyData.keyHash w.params x=hashStr w x:=rfl
theorem jm {prog:Program} {w:World} {K:Type} [DecidableEq K] {knd:KeyKind prog w K} {es:List DictEntry} {n:Nat} {ps:List (K×Value)} (h1:PySem.KeysOf knd es.toArray) (h2:Pairs knd es ps) (h3:(ps.map (·.1)).Nodup):(dictOf es n).IsDictOf knd ps :=
  ⟨es.toArray,n,⟨rfl,rfl,rfl⟩,rfl,h1,h2,h3⟩
theorem kI {cs:Cls} {k:Nat} {x:Str} (G:Good c fd) (hc:∀ C∈cs,PA c.K C x) (hk:k<nmN) (ex:x=nm k) {ρ:Nat→Addr} {loc:Loc} {σ:St} {s:Shared} (I:Inv c fd ρ loc σ s) {a b:AV} {v u:Value} (rv:VRel σ.next ρ a v) (ru:VRel σ.next ρ b u)
    {r:Res Unit} {loc':Loc} {σ':St} (hf:kq cs k a b loc σ=some (r,loc',σ')) {Q:Unit→Shared→Prop} {E:Value→Shared→Prop} (hE:Ends c fd gb ρ σ s r loc' σ' Q E) :
    wpAny (model c.prog c.w) fd.A (setAttr v x u) Q E s:=by
  unfold kq at hf
  split at hf
  · rename_i i
    obtain ⟨hi,rfl⟩:=rv
    split at hf
    · rename_i C d e1
      split at hf
      · rename_i hC
        split at hf
        · rename_i kvs e2
          split at hf
          · rename_i hz
            have hE:=hE.of hf
            obtain ⟨ox,es,n,ps,In,hod,hgd,k1,k2,k3,hr,hb⟩:=I.rel.inst e1 e2
            have P:=hc C (List.contains_iff_mem.mp hC)
            obtain ⟨m,F,hm⟩:=I.frame
            have hd:=I.rel.dom d _ e2
            subst ex
            obtain ⟨l',U,m1,m2⟩:=I.upd hd hgd (dictOf (putL (nm k) (PyData.keyHash c.w.params (nm k)) (.str (nm k) (s.toks+1)) u es) (putN (nm k) es n))
            have hlen:(putL (nm k) (PyData.keyHash c.w.params (nm k)) (.str (nm k) (s.toks+1)) u es).length≤1000:=by
              have h1:=(mE (prog:=c.prog) (t:=s.toks+1) (v:=u) (gz c.w (nm k)) k2 k3).length
              have h2:=(lL (P:=(·<nmN)) (fun a b ha hb=>kz ha hb) hr hb hk ru).length
              rw [h1,← h2]
              exact Nat.le_trans (wl kvs k b) (Nat.le_trans hz (by decide))
            refine set_dict F G.ok.X (lK _ _ _) In hod P.hs P.hp P.ht P.hh (by rw [oR k2 k1]; rfl) rfl U hlen fun h' F' N'=>?_
            obtain ⟨g,I'⟩:=I.turn hm hd (a:=.sdict (store kvs k b)) (s.toks+2) m1 m2 F' N'
              ⟨⟨_,jm (qS (gz c.w (nm k)) k1) (mE (gz c.w (nm k)) k2 k3) (rP k3 _ _),lL (P:=(·<nmN)) (fun a b ha hb=>kz ha hb) hr hb hk ru⟩,qR (P:=(·<nmN)) hb hk⟩
            exact hE ρ _ _ g I' rfl
          · cases hf
        · cases hf
      · cases hf
    · cases hf
  · cases hf
noncomputable def bg (cs:Cls) (k:Nat) (fo fv:M AV):M AF:=au fv fun v=>au fo fun o=>au (kq cs k o v) fun _=>ret .next
theorem xv {cs:Cls} {k:Nat} {x:Str} (G:Good c fd) (hc:∀ C∈cs,PA c.K C x) (hk:k<nmN) (ex:x=nm k) {fo fv:M AV} {o value:Expr} {pos' pos:Pos} (ho:SE c fd VRel fo (eval o fd.env)) (hv:SE c fd VRel fv (eval value fd.env))
    (hs:swapsWith value (some (.Attribute o x pos')) pos.line fd.env=pure false):SE c fd dz (bg cs k fo fv) (exec (.Assign [.Attribute o x pos'] value pos) fd.env):=by
  refine ⟨fun ρ loc σ s I r loc' σ' hf Q E hE=>?_⟩
  refine plainObj_wpAny_Assign_Attribute (hv.use I hf hE fun b l₁ σ₁ ρ₁ s₁ u hg g I₁ ru hE₁=>ho.use I₁ hg hE₁ fun a l₂ σ₂ ρ₂ s₂ v hg₂ g₂ I₂ rv hE₂=>?_) hs
  rcases bX hg₂ with h0q | h0q
  · obtain ⟨x,l₃,σ₃,e,hr⟩:=h0q
    have hE₂:=hE₂.of hr
    exact kI G hc hk ex I₂ rv (g₂.up ru) e (Q:=fun _=>Q .next) (fun ρ' s' _ g' I' _=>hE₂ ρ' s' _ g' I' rfl)
  · obtain ⟨j,e,rfl⟩:=h0q
    exact kI G hc hk ex I₂ rv (g₂.up ru) e (Q:=fun _=>Q .next) hE₂
end
end Lw
end SA4
section SA5
namespace Lw
open PySem PySem.Calls PyProof.Rows PySem.W
section
variable {c:Cx} {fd:Fd}
theorem Inv.made {ρ:Nat→Addr} {loc:Loc} {σ:St} {s:Shared} (I:Inv c fd ρ loc σ s) {m:Str→Option Value} (hm:∀ k x a,fd.names[k]?=some x→loc k=some a→∃ v,m x=some v∧VRel σ.next ρ a v)
    {x:Addr} (hx:s.heap.get? x=none) (hb:c.base.objs.size≤x) {o:Obj} {a:AO} {h':Heap} (t:Nat)
    (F':Fr c.base fd.L h' m) (N':News c.base fd.L h' ((x,o)::allN c.base fd.L s.heap)) (ho:ORel c.prog c.w (σ.next+1) (ins ρ σ.next x) a o) :
    Go c (some fd.L) ρ σ s (ins ρ σ.next x) (σ.push a) { s with heap:=h',toks:=t }∧Inv c fd (ins ρ σ.next x) loc (σ.push a) { s with heap:=h',toks:=t }:=by
  have kp:∀ b o,s.heap.get? b=some o→b≠fd.L→h'.get? b=some o:=fun b o e hL=>by
    cases q:c.base.get? b with
    | some ob =>
      have:=I.rel.keep b ob q
      rw [e] at this
      cases this
      exact F'.keep b o q
    | none=>exact (N' _ (List.mem_cons_of_mem _ (mem_allN.mpr ⟨e,hL,q⟩))).1
  have old:∀ j,j<σ.next→x≠ρ j:=fun j hj q=>by
    obtain ⟨_,_,o',h2,_⟩:=I.rel.obj j hj
    rw [← q,hx] at h2
    cases h2
  have R:Rel c (ins ρ σ.next x) (σ.push a) h':={
    inj:=fun i j hi hj e=>by
      have hi:i<σ.next+1:=hi
      have hj:j<σ.next+1:=hj
      by_cases h1:i=σ.next
      · by_cases h2:j=σ.next
        · rw [h1,h2]
        · subst h1
          rw [bK,cr (by omega)] at e
          exact absurd e (old j (by omega))
      · by_cases h2:j=σ.next
        · subst h2
          rw [bK,cr (by omega)] at e
          exact absurd e.symm (old i (by omega))
        · rw [cr (by omega),cr (by omega)] at e
          exact I.rel.inj i j (by omega) (by omega) e
    keep:=F'.keep
    new:=fun i hi=>by
      by_cases h:i=σ.next
      · subst h; rw [bK]; exact hb
      · rw [cr (by have:i<σ.next+1:=hi; omega)]; exact I.rel.new i (by have:i<σ.next+1:=hi; omega)
    obj:=fun i hi=>by
      have hi:i<σ.next+1:=hi
      rw [St.get_push]
      by_cases h:i=σ.next
      · subst h
        rw [if_pos rfl,bK]
        exact ⟨a,rfl,o,(N' _ List.mem_cons_self).1,ho⟩
      · rw [if_neg h]
        obtain ⟨a',e',o',h2,h3⟩:=I.rel.obj i (by omega)
        rw [cr (by omega)]
        exact ⟨a',e',o',kp _ _ h2 (fun q=>I.off ⟨i,by omega,q⟩),h3.up _ _ (Nat.le_succ _) fun j hj=>cr hj⟩
    dom:=fun i a' e=>by
      rw [St.get_push] at e
      split at e
      · rename_i q; rw [q]; exact Nat.lt_succ_self _
      · exact Nat.lt_succ_of_lt (I.rel.dom i a' e) }
  have g:Go c (some fd.L) ρ σ s (ins ρ σ.next x) (σ.push a) { s with heap:=h',toks:=t }:=⟨R,fun i hi=>cr hi,Nat.le_succ _,
    fun i h1 h2=>by
      have h2:i<σ.next+1:=h2
      obtain rfl:i=σ.next:=by omega
      rw [bK]; exact hx,
    fun b o' e hL _=>⟨o',kp b o' e (fun q=>hL (by rw [q])),.refl _⟩,
    fun b o' e=>by
      by_cases q:b=fd.L
      · subst q; obtain ⟨o,_,_,h1,_⟩:=F'.ns; exact ⟨o,h1⟩
      · exact ⟨o',kp b o' e q⟩,rfl,rfl,rfl⟩
  obtain ⟨oL,hoL⟩:∃ o,s.heap.get? fd.L=some o:=let ⟨_,⟨o,_,_,ho,_⟩,_⟩:=I.fr; ⟨o,ho⟩
  refine ⟨g,R,⟨m,F'.ns,fun k x a h1 h2=>?_⟩,kA g hoL I.off,I.low,I.stk.step g fun env he L' hf q=>I.apart env he L' hf (Option.some.inj q),I.apart⟩
  obtain ⟨v,hv,rv⟩:=hm k x a h1 h2
  exact ⟨v,hv,g.up rv⟩
noncomputable def aq:M (List AV):=ret []
noncomputable def ah (f:M AV) (g:M (List AV)):M (List AV):=au f fun a=>au g fun as=>ret (a::as)
theorem aj {pos:Pos}:SE c fd VRels aq (spliced (backTo pos (starEach [] fd.env))):=by
  refine ⟨fun ρ loc σ s I r loc' σ' hf Q E hE=>?_⟩
  have hE:=hE.of hf
  exact wpAny_items_nil (Ends.here I hE .nil)
theorem ae {f:M AV} {g:M (List AV)} {e:Expr} {rest:List Expr} {pos:Pos} (h:SE c fd VRel f (eval e fd.env)) (h':SE c fd VRels g (spliced (backTo pos (starEach rest fd.env))))
    (he:starEach (e::rest) fd.env=(false,eval e fd.env)::starEach rest fd.env):SE c fd VRels (ah f g) (spliced (backTo pos (starEach (e::rest) fd.env))):=by
  refine ⟨fun ρ loc σ s I r loc' σ' hf Q E hE=>?_⟩
  refine wpAny_items_cons (h.use I hf hE fun a l₁ σ₁ ρ₁ s₁ v hg g I₁ rv hE₁=>h'.use I₁ hg hE₁ fun as l₂ σ₂ ρ₂ s₂ vs hg₂ g₂ I₂ rvs hE₂=>?_) he
  have hE₂:=hE₂.of hg₂
  exact Ends.here I₂ hE₂ (.cons (g₂.up rv) rvs)
noncomputable def cV (o:AO):M AV:=fun l σ=>some (.ok (.ref σ.next),l,σ.push o)
noncomputable def dJ (f:M (List AV)):M AV:=au f fun as=>if as.length<1000 then cV (.list as) else fun _ _=>none
noncomputable def eH (f:M (List AV)):M AV:=au f fun as=>if as.length<1000 then cV (.tup as) else fun _ _=>none
theorem Inv.alloc {ρ:Nat→Addr} {loc:Loc} {σ:St} {s:Shared} (I:Inv c fd ρ loc σ s) {o:Obj} {a:AO} (t:Nat) (hf:o.isFreed=false) (ho:ORel c.prog c.w (σ.next+1) (ins ρ σ.next s.heap.objs.size) a o) :
    Go c none ρ σ s (ins ρ σ.next s.heap.objs.size) (σ.push a) { s with heap:=s.heap.push o,toks:=t }:=kG I.rel I.big t hf ho
theorem VRels.ins {n:Nat} {ρ:Nat→Addr} {x:Addr} {as:List AV} {vs:List Value} (h:VRels n ρ as vs):VRels (n+1) (ins ρ n x) as vs:=h.mono fun _ _ r=>r.up (Nat.le_succ _) fun _ hi=>cr hi
theorem VRel.new {n:Nat} {ρ:Nat→Addr} {x:Addr}:VRel (n+1) (Lw.ins ρ n x) (.ref n) (.ref x):=⟨Nat.lt_succ_self _,by rw [bK]⟩
theorem Ends.go {α β:Type} {RV:Nat→(Nat→Addr)→α→β→Prop} {ρ ρ':Nat→Addr} {loc:Loc} {σ σ':St} {s s':Shared} {a:α} {b:β} {Q:β→Shared→Prop} {E:Value→Shared→Prop} (I:Inv c fd ρ loc σ s) (hE:Ends c fd RV ρ σ s (.ok a) loc σ' Q E)
    (g:Go c none ρ σ s ρ' σ' s') (rv:RV σ'.next ρ' a b):Q b s':=hE ρ' s' b g.none (I.step g) rv
theorem cm {f:M (List AV)} {elts:List Expr} {pos:Pos} (h:SE c fd VRels f (spliced (backTo pos (starEach elts fd.env)))):SE c fd VRel (dJ f) (eval (.List elts pos) fd.env):=by
  refine ⟨fun ρ loc σ s I r loc' σ' hf Q E hE=>?_⟩
  refine wpAny_List (h.use I hf hE fun as l₁ σ₁ ρ₁ s₁ vs hg g I₁ rvs hE₁=>?_)
  split at hg
  · rename_i hz
    have hE₁:=hE₁.of hg
    refine ⟨by rw [← rvs.length,sizeLine_eq]; omega,?_⟩
    exact Ends.go I₁ hE₁ (I₁.alloc s₁.toks rfl ⟨vs,0,rfl,VRels.ins rvs⟩) VRel.new
  · cases hg
theorem cq {f:M (List AV)} {elts:List Expr} {k:Nat} {pos:Pos} (h:SE c fd VRels f (spliced (backTo pos (starEach elts fd.env)))):SE c fd VRel (eH f) (eval (.Tuple elts k pos) fd.env):=by
  refine ⟨fun ρ loc σ s I r loc' σ' hf Q E hE=>?_⟩
  refine wpAny_Tuple (h.use I hf hE fun as l₁ σ₁ ρ₁ s₁ vs hg g I₁ rvs hE₁=>?_)
  split at hg
  · rename_i hz
    have hE₁:=hE₁.of hg
    refine ⟨by rw [← rvs.length,sizeLine_eq]; omega,?_⟩
    exact Ends.go I₁ hE₁ (I₁.alloc s₁.toks rfl ⟨vs,0,rfl,VRels.ins rvs⟩) VRel.new
  · cases hg
noncomputable abbrev me (a:Int):Prop:=-(2 ^ 40)<a∧a<2 ^ 40
noncomputable def zg (l:Loc) (σ:St) (i j:Nat):Option (Res AV×Loc×St):=(σ.gL i).bind fun xs=>(σ.gL j).bind fun ys=>if xs.length+ys.length<1000 then some (.ok (.ref σ.next),l,σ.push (.list (xs++ys))) else none
noncomputable def Ch (l:Loc) (σ:St) (i:Nat) (n:Int):Option (Res AV×Loc×St):=(σ.gL i).bind fun xs=>xs.head?.bind fun x=>if xs=[x]∧0<n∧n<100 then some (.ok (.ref σ.next),l,σ.push (.list (List.replicate n.toNat x))) else none
noncomputable def Eb (a b:AV):M AV:=fun l σ=>match a with
  | .int x=>b.gI.bind fun y=>some (.ok (.int (x+y)),l,σ)
  | .ref i=>b.gR.bind (zg l σ i)
  | _=>none
noncomputable def Ec (a b:AV):M AV:=fun l σ=>match a with
  | .int x=>b.gI.bind fun y=>if me x∧me y then some (.ok (.int (x * y)),l,σ) else none
  | .ref i=>b.gI.bind (Ch l σ i)
  | _=>none
noncomputable def kJ (op:Operator) (a b:AV):M AV:=fun l σ=>match op with
  | .Add=>Eb a b l σ
  | .Sub=>a.gI.bind fun x=>b.gI.bind fun y=>some (.ok (.int (x - y)),l,σ)
  | .Mult=>Ec a b l σ
  | .FloorDiv=>a.gI.bind fun x=>b.gI.bind fun y=>if me x∧y=4 then some (.ok (.int (x.fdiv y)),l,σ) else none
  | .Mod=>a.gI.bind fun x=>b.gI.bind fun y=>if y=0 then none else some (.ok (.int (x.fmod y)),l,σ)
  | _=>none
noncomputable def fH (op:Operator) (f g:M AV):M AV:=au f fun a=>au g fun b=>kJ op a b
theorem Rel.list {ρ:Nat→Addr} {σ:St} {h:Heap} (R:Rel c ρ σ h) {i:Nat} {xs:List AV} (e:σ.get i=some (.list xs)) :
    i<σ.next∧∃ vs k,h.get? (ρ i)=some ⟨.type "list",none,.seq (List.toArray vs) k,#[]⟩∧VRels σ.next ρ xs vs:=by
  obtain ⟨hi,o,ho,vs,k,rfl,r⟩:=R.at e
  exact ⟨hi,vs,k,ho,r⟩
theorem Rel.tup {ρ:Nat→Addr} {σ:St} {h:Heap} (R:Rel c ρ σ h) {i:Nat} {xs:List AV} (e:σ.get i=some (.tup xs)) :
    i<σ.next∧∃ vs k,h.get? (ρ i)=some ⟨.type "tuple",none,.seq (List.toArray vs) k,#[]⟩∧VRels σ.next ρ xs vs:=by
  obtain ⟨hi,o,ho,vs,k,rfl,r⟩:=R.at e
  exact ⟨hi,vs,k,ho,r⟩
theorem bC {h:Heap} {a:Addr} {vs:List Value} {k:Nat} (ho:h.get? a=some ⟨.type "list",none,.seq (List.toArray vs) k,#[]⟩):h.IsList a vs.toArray:=⟨_,ho,rfl,k,rfl⟩
theorem Ed {a:Int} (h:me a):Builtin.divisionGoesByPylong a 4=false:=PyProof.noPylong_small (by omega)
theorem ng {n:Nat} {ρ:Nat→Addr} {a:AV} {x:Int} {v:Value} (h:a.gI=some x) (r:VRel n ρ a v):∃ t,v=.int x t:=by
  rw [rL h] at r; exact r
theorem nh {ρ:Nat→Addr} {loc:Loc} {σ:St} {s:Shared} (I:Inv c fd ρ loc σ s) {z:Int} {r:Res AV} {loc':Loc} {σ':St} (h:some (Res.ok (.int z),loc,σ)=some (r,loc',σ')) {Q:Value→Shared→Prop} {E:Value→Shared→Prop} (hE:Ends c fd VRel ρ σ s r loc' σ' Q E):Q (.int z s.toks) { s with toks:=s.toks+1 } :=
  hE.of h ρ _ _ (dn I.rel _) (I.toks _) ⟨_,rfl⟩
theorem qT {v:Value}:∀ n:Nat,(List.foldl (fun x1 x2=>x1++x2) #[] (List.replicate n #[v]))=(List.replicate n v).toArray
  | 0=>rfl
  | n+1=>by
    rw [List.replicate_succ',List.foldl_append,qT n]
    apply Array.ext'
    simp [List.replicate_succ']
theorem uo {ρ:Nat→Addr} {loc:Loc} {σ:St} {s:Shared} (I:Inv c fd ρ loc σ s) {i j:Nat} {r:Res AV} {loc':Loc} {σ':St} (hf:zg loc σ i j=some (r,loc',σ')) {Q:Value→Shared→Prop} {E:Value→Shared→Prop} (hE:Ends c fd VRel ρ σ s r loc' σ' Q E) :
    wpAny (model c.prog c.w) fd.A (binaryOp .Add (.ref (ρ i)) (.ref (ρ j))) Q E s:=by
  obtain ⟨xs,e1,h1⟩:=ob hf
  obtain ⟨ys,e2,h2⟩:=ob h1
  obtain ⟨hz,h⟩:=wk h2
  obtain ⟨_,vs,k,h1,r1⟩:=I.rel.list (o7 e1)
  obtain ⟨_,us,k',h2,r2⟩:=I.rel.list (o7 e2)
  obtain ⟨m,F,hm⟩:=I.frame
  refine add_arrays F (lK _ _ _) (bC h1) (bC h2) (fun h' F' N'=>?_) (by simp only [List.size_toArray]; rw [← r1.length,← r2.length,sizeLine_eq]; omega)
  obtain ⟨g,I'⟩:=I.made hm (get?_size _) I.big (a:=.list (xs++ys)) s.toks F' N' ⟨vs++us,0,rfl,VRels.ins (r1.append r2)⟩
  exact hE.of h _ _ _ g I' VRel.new
theorem uq {ρ:Nat→Addr} {loc:Loc} {σ:St} {s:Shared} (I:Inv c fd ρ loc σ s) {i:Nat} {n:Int} {t:Tok} {r:Res AV} {loc':Loc} {σ':St} (hf:Ch loc σ i n=some (r,loc',σ')) {Q:Value→Shared→Prop} {E:Value→Shared→Prop} (hE:Ends c fd VRel ρ σ s r loc' σ' Q E) :
    wpAny (model c.prog c.w) fd.A (binaryOp .Mult (.ref (ρ i)) (.int n t)) Q E s:=by
  obtain ⟨xs,e1,h1⟩:=ob hf
  obtain ⟨x,_,h2⟩:=ob h1
  obtain ⟨⟨hx,hz⟩,h⟩:=wk h2
  subst hx
  obtain ⟨_,vs,k,h1,r1⟩:=I.rel.list (o7 e1)
  obtain ⟨m,F,hm⟩:=I.frame
  cases r1 with
  | @cons _ v _ vs r1 r2 =>
  cases r2
  refine mul_list F (lK _ _ _) h1 (by omega) (by omega) (by show 1 * n.toNat≤2 ^ 24; omega) (fun h' F' N'=>?_)
  obtain ⟨g,I'⟩:=I.made hm (get?_size _) I.big (a:=.list (List.replicate n.toNat x)) s.toks F' N' ⟨List.replicate n.toNat v,0,by simp [qT],VRels.ins (F2.replicate r1 _)⟩
  exact hE.of h _ _ _ g I' VRel.new
theorem ur {op:Operator} {ρ:Nat→Addr} {loc:Loc} {σ:St} {s:Shared} (I:Inv c fd ρ loc σ s) {a b:AV} {v u:Value} (rv:VRel σ.next ρ a v) (ru:VRel σ.next ρ b u)
    {r:Res AV} {loc':Loc} {σ':St} (hf:kJ op a b loc σ=some (r,loc',σ')) {Q:Value→Shared→Prop} {E:Value→Shared→Prop} (hE:Ends c fd VRel ρ σ s r loc' σ' Q E) :
    wpAny (model c.prog c.w) fd.A (binaryOp op v u) Q E s:=by
  have two:∀ {k:Int→Int→Option (Res AV×Loc×St)},(a.gI.bind fun x=>b.gI.bind fun y=>k x y)=some (r,loc',σ')→(∀ x y t t',k x y=some (r,loc',σ')→v=.int x t→u=.int y t'→wpAny (model c.prog c.w) fd.A (binaryOp op v u) Q E s)→wpAny (model c.prog c.w) fd.A (binaryOp op v u) Q E s:=fun h k=>by
    obtain ⟨x,h1,h2⟩:=ob h
    obtain ⟨y,h3,h4⟩:=ob h2
    obtain ⟨t,e⟩:=ng h1 rv
    obtain ⟨t',e'⟩:=ng h3 ru
    exact k x y t t' h4 e e'
  cases op with
  | Add =>
    cases a with
    | int x =>
      obtain ⟨y,h1,h⟩:=ob hf
      obtain ⟨t,rfl⟩:=rv
      obtain ⟨t',rfl⟩:=ng h1 ru
      exact PyProof.Rows.add_int (nh I h hE)
    | ref i =>
      obtain ⟨j,h1,h2⟩:=ob hf
      rw [rM h1] at ru
      rw [rv.2,ru.2]
      exact uo I h2 hE
    | _=>exact nomatch hf
  | Sub=>exact two hf fun x y t t' h e e'=>by subst e e'; exact PyProof.Rows.sub_int (nh I h hE)
  | Mult =>
    cases a with
    | int x =>
      obtain ⟨y,h1,h⟩:=ob hf
      obtain ⟨t,rfl⟩:=rv
      obtain ⟨t',rfl⟩:=ng h1 ru
      obtain ⟨⟨hz,_⟩,h⟩:=wk h
      exact PyProof.Rows.mul_int (nh I h hE) (IntMulOk.of_left (intBits_le_64 (by omega) (by omega)))
    | ref i =>
      obtain ⟨n,h1,h2⟩:=ob hf
      obtain ⟨t,rfl⟩:=ng h1 ru
      rw [rv.2]
      exact uq I h2 hE
    | _=>exact nomatch hf
  | FloorDiv =>
    exact two hf fun x y t t' h e e'=>by
      obtain ⟨⟨h1,h2⟩,h⟩:=wk h
      subst e e' h2; exact floordiv_int (by decide) (nh I h hE) (.inl (Ed h1))
  | Mod =>
    exact two hf fun x y t t' h e e'=>by
      by_cases hz:y=0
      · rw [if_pos hz] at h; exact nomatch h
      · rw [if_neg hz] at h; subst e e'; exact mod_int' hz (nh I h hE)
  | _=>exact nomatch hf
theorem dt {op:Operator} {f g:M AV} {l r:Expr} {pos:Pos} (hl:SE c fd VRel f (eval l fd.env)) (hr:SE c fd VRel g (eval r fd.env)):SE c fd VRel (fH op f g) (eval (.BinOp l op r pos) fd.env):=by
  refine ⟨fun ρ loc σ s I r loc' σ' hf Q E hE=>?_⟩
  exact wpAny_BinOp (hl.use I hf hE fun a l₁ σ₁ ρ₁ s₁ v hg g I₁ rv hE₁=>hr.use I₁ hg hE₁ fun b l₂ σ₂ ρ₂ s₂ u hg₂ g₂ I₂ ru hE₂=>ur I₂ (g₂.up rv) ru hg₂ hE₂)
end
end Lw
end SA5
section SA6
namespace Lw
open PySem PySem.Calls PyProof.Rows PySem.W
section
variable {prog:Program} {w:World} {A:Around} {E:Value→Shared→Prop} {s:Shared} {Q:Value→Shared→Prop}
open PySem.EqNone Builtin
theorem kK (b:Array UInt8) (t:Tok):Gives («bytes.__eq__» ⟨[.bytes b t,.none],[]⟩) (.val .notImplemented):=by
  refine .of_wp fun M A E s Q hq=>?_
  show wpAny M A (isInstance .none (.type "bytes") >>= fun r=>_) _ E s
  refine wpAny_bind (wpAny_isInstance (s:=s) (show s.TypeIs .none "NoneType" from rfl) F.sub_NoneType_bytes ?_)
  show wpAny M A (do rule _; PySem.ret Value.notImplemented) _ E s
  refine wpAny_bind (wpAny_rule ?_)
  exact wpAny_pure ⟨_,rfl,hq⟩
theorem kL (b:Array UInt8) (t:Tok):Gives («bytes.__ne__» ⟨[.bytes b t,.none],[]⟩) (.val .notImplemented):=by
  refine .of_wp fun M A E s Q hq=>?_
  show wpAny M A (isInstance .none (.type "bytes") >>= fun r=>_) _ E s
  refine wpAny_bind (wpAny_isInstance (s:=s) (show s.TypeIs .none "NoneType" from rfl) F.sub_NoneType_bytes ?_)
  show wpAny M A (do rule _; PySem.ret Value.notImplemented) _ E s
  refine wpAny_bind (wpAny_rule ?_)
  exact wpAny_pure ⟨_,rfl,hq⟩
theorem kM (b:Array UInt8) (t:Tok):Gives (Builtin.«NoneType.__eq__» ⟨[.none,.bytes b t],[]⟩) (.val (Value.notImplemented)) :=
  .of_wp fun M A E s Q h=>by obtain ⟨hp,g,d,tk,os⟩:=s; wp_walk; exact ⟨_,rfl,h⟩
theorem kN (b:Array UInt8) (t:Tok):Gives (Builtin.«NoneType.__ne__» ⟨[.none,.bytes b t],[]⟩) (.val (Value.notImplemented)) :=
  .of_wp fun M A E s Q h=>by obtain ⟨hp,g,d,tk,os⟩:=s; wp_walk; exact ⟨_,rfl,h⟩
theorem qz {b:Array UInt8} {t:Tok} (h:Q (.bool false) s):wpAny (model prog w) A (compareOp .Eq (.bytes b t) .none) Q E s:=by
  show wpAny _ A (richCompare .Eq _ _) Q E s
  exact wpAny_richCompare_eq_decline (k:=false) (fun s'=>typeIs_bytes s' b t) (fun _=>rfl) (by decide) F.sub_NoneType_bytes FB.slot_bytes_eq F.slot_NoneType_eq_refl rfl
    (call_gives FB.slot_bytes_eq (typeIs_bytes s b t) FB.entry_bytes_eq (FB.args_bytes_eq_2 _ _) (kK b t)
      ⟨rfl,call_gives F.slot_NoneType_eq_refl rfl F.entry_NoneType_eq (F.args_NoneType_eq_2 _ _) (kM b t) ⟨rfl,h⟩⟩)
theorem qA {b:Array UInt8} {t:Tok} (h:Q (.bool false) s):wpAny (model prog w) A (compareOp .Eq .none (.bytes b t)) Q E s:=by
  show wpAny _ A (richCompare .Eq _ _) Q E s
  exact wpAny_richCompare_eq_decline (k:=false) (fun _=>rfl) (fun s'=>typeIs_bytes s' b t) (by decide) F.sub_bytes_NoneType F.slot_NoneType_eq FB.slot_bytes_eq rfl
    (call_gives F.slot_NoneType_eq rfl F.entry_NoneType_eq (F.args_NoneType_eq_2 _ _) (kM b t)
      ⟨rfl,call_gives FB.slot_bytes_eq (typeIs_bytes s b t) FB.entry_bytes_eq (FB.args_bytes_eq_2 _ _) (kK b t) ⟨rfl,h⟩⟩)
theorem qB {b:Array UInt8} {t:Tok} (h:Q (.bool true) s):wpAny (model prog w) A (compareOp .NotEq (.bytes b t) .none) Q E s:=by
  show wpAny _ A (richCompare .NotEq _ _) Q E s
  exact wpAny_richCompare_ne_decline (k:=false) (fun s'=>typeIs_bytes s' b t) (fun _=>rfl) (by decide) F.sub_NoneType_bytes FB.slot_bytes_ne F.slot_NoneType_ne rfl
    (call_gives FB.slot_bytes_ne (typeIs_bytes s b t) FB.entry_bytes_ne (FB.args_bytes_ne_2 _ _) (kL b t)
      ⟨rfl,call_gives F.slot_NoneType_ne rfl F.entry_NoneType_ne (F.args_NoneType_ne_2 _ _) (kN b t) ⟨rfl,h⟩⟩)
theorem qC {b:Array UInt8} {t:Tok} (h:Q (.bool true) s):wpAny (model prog w) A (compareOp .NotEq .none (.bytes b t)) Q E s:=by
  show wpAny _ A (richCompare .NotEq _ _) Q E s
  exact wpAny_richCompare_ne_decline (k:=false) (fun _=>rfl) (fun s'=>typeIs_bytes s' b t) (by decide) F.sub_bytes_NoneType F.slot_NoneType_ne FB.slot_bytes_ne rfl
    (call_gives F.slot_NoneType_ne rfl F.entry_NoneType_ne (F.args_NoneType_ne_2 _ _) (kN b t)
      ⟨rfl,call_gives FB.slot_bytes_ne (typeIs_bytes s b t) FB.entry_bytes_ne (FB.args_bytes_ne_2 _ _) (kL b t) ⟨rfl,h⟩⟩)
end
noncomputable def nT (kvs:List (Nat×AV)):Bool:=kvs.all fun p=>match p.2 with | .ref _=>true | _=>false
noncomputable def eq0 (a b:AV):Option Bool:=match a with
  | .int x=>b.gI.bind fun y=>some (x==y)
  | .bool x=>b.gB.bind fun y=>some (x==y)
  | .str x=>b.gS.bind fun y=>some (x==y)
  | .byt x=>match b with
    | .byt y=>some (x==y)
    | .none=>some false
    | _=>none
  | .none=>match b with
    | .byt _=>some false
    | .none=>some true
    | _=>none
  | _=>none
noncomputable def eqB (σ:St) (a b:AV):Option Bool:=match a with
  | .ref i=>b.gR.bind fun j=>(σ.gBD i).bind fun xs=>(σ.gBD j).bind fun ys=>if xs=ys∧nT xs=true then some true else none
  | _=>eq0 a b
noncomputable def neB (σ:St) (a b:AV):Option Bool:=match a with
  | .ref i=>b.gR.bind fun j=>(σ.gL i).bind fun xs=>(σ.gL j).bind fun ys=>match ys with
    | []=>some (!xs.isEmpty)
    | _::_=>none
  | _=>(eq0 a b).bind fun z=>some (!z)
noncomputable def isB (a b:AV):Option Bool:=match b with
  | .none=>some (a==.none)
  | .ref j=>a.gR.bind fun i=>if i=j then some true else none
  | _=>none
noncomputable def xw (f:Int→Int→Bool) (a b:AV):Option Bool:=a.gI.bind fun x=>b.gI.bind fun y=>some (f x y)
noncomputable def dk (σ:St) (op:CmpOp) (a b:AV):Option Bool:=match op with
  | .Lt=>xw (fun x y=>decide (x<y)) a b
  | .LtE=>xw (fun x y=>decide (x≤y)) a b
  | .Gt=>xw (fun x y=>decide (y<x)) a b
  | .GtE=>xw (fun x y=>decide (y≤x)) a b
  | .Eq=>eqB σ a b
  | .NotEq=>neB σ a b
  | .Is=>isB a b
  | .IsNot=>match b with
    | .none=>some (!(a==.none))
    | _=>none
  | _=>none
noncomputable def zh (op:CmpOp) (a b:AV):M AV:=fun l σ=>(dk σ op a b).bind fun z=>some (.ok (.bool z),l,σ)
noncomputable def eG (op:CmpOp) (f g:M AV):M AV:=au f fun a=>au g fun b=>zh op a b
section
variable {c:Cx} {fd:Fd}
theorem nU {ρ:Nat→Addr} {σ:St} {h:Heap} (ok:c.Ok) (R:Rel c ρ σ h) {i:Nat} (hi:i<σ.next):(ρ i==sysModules)=false:=by
  have h1:=R.new i hi
  have h2:=ok.sys
  exact beq_eq_false_iff_ne.mpr fun e=>by rw [e] at h1; exact absurd h2 (Nat.not_lt.mpr h1)
theorem AE {n:Nat} {ρ:Nat→Addr} {a:AV} {v:Value} (h:VRel n ρ a v):(v==.none)=(a==AV.none):=by
  cases a with
  | none=>cases h; rfl
  | bool b=>cases h; rfl
  | int i=>obtain ⟨t,rfl⟩:=h; rfl
  | str k=>obtain ⟨_,t,rfl⟩:=h; rfl
  | byt k=>obtain ⟨_,t,rfl⟩:=h; rfl
  | ref i=>obtain ⟨_,rfl⟩:=h; rfl
  | ext a=>cases h; rfl
theorem zi {n:Nat} {ρ:Nat→Addr} {dec:Nat→List UInt8} {kvs:List (Nat×AV)} {ps qs:List (List UInt8×Value)} (h:F2 (fun (a:Nat×AV) (b:List UInt8×Value)=>b.1=dec a.1∧VRel n ρ a.2 b.2) kvs ps)
    (h':F2 (fun (a:Nat×AV) (b:List UInt8×Value)=>b.1=dec a.1∧VRel n ρ a.2 b.2) kvs qs) (hr:nT kvs=true):ps=qs:=by
  induction h generalizing qs with
  | nil=>cases h'; rfl
  | @cons p q kvs ps r _ ih =>
    cases h' with
    | @cons _ q' _ qs r' t' =>
      unfold nT at hr
      rw [List.all_cons,Bool.and_eq_true] at hr
      rw [ih t' hr.2]
      obtain ⟨pk,pv⟩:=p
      cases pv with
      | ref i =>
        obtain ⟨q1,q2⟩:=q
        obtain ⟨r1,r2⟩:=q'
        obtain ⟨e1,_,e2⟩:=r
        obtain ⟨e3,_,e4⟩:=r'
        dsimp only at e1 e2 e3 e4
        rw [e1,e2,e3,e4]
      | _=>exact absurd hr.1 Bool.false_ne_true
theorem qU {K:Type} [DecidableEq K] {A:Around} {s:Shared} {kb:List (K×Value)}:∀ {ka:List (K×Value)},(∀ p∈ka,valueAt kb p.1=some p.2)→KeqHits A s kb ka true
  | [],_=>.nil
  | (k,v)::r,h=>by
    have:=KeqHits.hit (A:=A) (s:=s) (h (k,v) List.mem_cons_self) (PySem.SeqAt.EqAt.same v) (qU fun p hp=>h p (List.mem_cons_of_mem _ hp))
    exact this
theorem ta {K:Type} [DecidableEq K] {ps:List (K×Value)} (hn:(ps.map (·.1)).Nodup) (p:K×Value) (hp:p∈ps):valueAt ps p.1=some p.2:=by
  induction ps with
  | nil=>cases hp
  | cons q ps ih =>
    rw [List.map_cons,List.nodup_cons] at hn
    unfold valueAt
    rw [List.find?_cons]
    rcases List.mem_cons.mp hp with e | hp
    · rw [e,decide_eq_true rfl]; rfl
    · rw [decide_eq_false fun e=>hn.1 (by rw [e]; exact List.mem_map_of_mem hp)]
      exact ih hn.2 hp
theorem xx {α β:Type} [BEq α] [LawfulBEq α] [BEq β] [LawfulBEq β] {f:α→β} {x y:α} (h:f x=f y→x=y):(f x==f y)=(x==y):=by
  by_cases e:x=y
  · rw [e,beq_self_eq_true,beq_self_eq_true]
  · rw [beq_eq_false_iff_ne.mpr e,beq_eq_false_iff_ne.mpr fun z=>e (h z)]
noncomputable def lP (c:Cx) (fd:Fd) (s:Shared) (op:CmpOp) (v u:Value) (z:Bool):Prop:=∀ (Q:Value→Shared→Prop) (E:Value→Shared→Prop),Q (.bool z) s→wpAny (model c.prog c.w) fd.A (compareOp op v u) Q E s
section
variable {ρ:Nat→Addr} {n:Nat} {s:Shared} {v u:Value}
theorem zj {x y:Nat} (rv:VRel n ρ (.str x) v) (ru:VRel n ρ (.str y) u):lP c fd s .Eq v u (x==y)∧lP c fd s .NotEq v u (!(x==y)):=by
  obtain ⟨hx,t,rfl⟩:=rv
  obtain ⟨hy,t',rfl⟩:=ru
  have e:(nm x==nm y)=(x==y):=xx (kz hx hy)
  rw [← e]
  exact ⟨fun _ _ h=>PyProof.Rows.eq_str h,fun _ _ h=>PyProof.Rows.ne_str h⟩
theorem zk {x y:Nat} (rv:VRel n ρ (.byt x) v) (ru:VRel n ρ (.byt y) u):lP c fd s .Eq v u (x==y)∧lP c fd s .NotEq v u (!(x==y)):=by
  obtain ⟨hx,t,rfl⟩:=rv
  obtain ⟨hy,t',rfl⟩:=ru
  have e:(bt x==bt y)=(x==y):=xx (ui hx hy)
  rw [← e]
  exact ⟨fun _ _ h=>eq_bytes h,fun _ _ h=>ne_bytes h⟩
theorem qV {a b:AV} {z:Bool} (rv:VRel n ρ a v) (ru:VRel n ρ b u) (h:eq0 a b=some z):lP c fd s .Eq v u z∧lP c fd s .NotEq v u (!z):=by
  cases a with
  | int x =>
    obtain ⟨y,hb,e⟩:=ob h
    cases rL hb
    cases e
    obtain ⟨t,rfl⟩:=rv
    obtain ⟨t',rfl⟩:=ru
    exact ⟨fun _ _ h=>PyProof.Rows.eq_int h,fun _ _ h=>PyProof.Rows.ne_int h⟩
  | bool x =>
    obtain ⟨y,hb,e⟩:=ob h
    cases Bi hb
    cases e
    cases rv
    cases ru
    exact ⟨fun _ _ h=>PyProof.Rows.eq_bool h,fun _ _ h=>PyProof.Rows.ne_bool h⟩
  | str x =>
    obtain ⟨y,hb,e⟩:=ob h
    cases Bj hb
    cases e
    exact zj rv ru
  | byt x =>
    cases b with
    | byt y=>cases h; exact zk rv ru
    | none =>
      cases h
      obtain ⟨_,t,rfl⟩:=rv
      cases ru
      exact ⟨fun _ _ h=>qz h,fun _ _ h=>qB h⟩
    | _=>cases h
  | none =>
    cases rv
    cases b with
    | byt y =>
      cases h
      obtain ⟨_,t,rfl⟩:=ru
      exact ⟨fun _ _ h=>qA h,fun _ _ h=>qC h⟩
    | none=>cases h; cases ru; exact ⟨fun _ _ h=>PySem.EqNone.eq_none_none h,fun _ _ h=>PySem.EqNone.ne_none_none h⟩
    | _=>cases h
  | _=>cases h
end
theorem wm {ρ:Nat→Addr} {n:Nat} {s:Shared} {v u:Value} {a b:AV} {z:Bool} (rv:VRel n ρ a v) (ru:VRel n ρ b u) (h:(eq0 a b).bind (fun z=>some (!z))=some z):lP c fd s .NotEq v u z:=by
  obtain ⟨z',h',e⟩:=ob h
  cases e
  exact (qV rv ru h').2
theorem xy (G:Good c fd):fd.A.units<cLine:=by
  have h1:=G.units
  have h2:cLine=9900:=rfl
  omega
section
variable {ρ:Nat→Addr} {loc:Loc} {σ:St} {s:Shared} {v u:Value} {a b:AV} {z:Bool}
theorem zl (G:Good c fd) (I:Inv c fd ρ loc σ s) {i j:Nat} (rv:VRel σ.next ρ (.ref i) v) (ru:VRel σ.next ρ (.ref j) u) {xs:List AV} (h1:σ.gL i=some xs) (h2:σ.gL j=some []):lP c fd s .NotEq v u (!xs.isEmpty):=by
  obtain ⟨_,rfl⟩:=rv
  obtain ⟨_,rfl⟩:=ru
  obtain ⟨_,vs,k,h1,r1⟩:=I.rel.list (o7 h1)
  obtain ⟨_,us,k',h2,r2⟩:=I.rel.list (o7 h2)
  cases r2
  cases r1 with
  | nil=>exact fun _ _ h=>PySem.SeqAt.RcNeAt.lists (e:=fun _=>true) (bC h1) (bC h2) rfl (xy G) (fun j hj _=>absurd hj (Nat.not_lt_zero j)) _ _ _ _ h
  | cons r1 r1'=>exact fun _ _ h=>PySem.SeqAt.RcNeAt.lists_lengths (bC h1) (bC h2) rfl (xy G) _ _ _ _ h
theorem xz (G:Good c fd) (I:Inv c fd ρ loc σ s) {i j:Nat} (rv:VRel σ.next ρ (.ref i) v) (ru:VRel σ.next ρ (.ref j) u) {xs:List (Nat×AV)} (h1:σ.gBD i=some xs) (h2:σ.gBD j=some xs) (hz:nT xs=true):lP c fd s .Eq v u true:=by
  obtain ⟨hi,rfl⟩:=rv
  obtain ⟨hj,rfl⟩:=ru
  obtain ⟨_,o1,h1,⟨ps,p1,r1⟩,_⟩:=I.rel.at (vv h1)
  obtain ⟨_,o2,h2,⟨qs,p2,r2⟩,_⟩:=I.rel.at (vv h2)
  obtain rfl:=zi r1 r2 hz
  have nd:(ps.map (·.1)).Nodup:=let ⟨_,_,_,_,_,_,h⟩:=p1; h
  exact fun _ _ h=>keq_eq (nU G.ok I.rel hi) (nU G.ok I.rel hj) (PySem.Heap.dictOf_iff.mpr ⟨o1,h1,p1⟩) (PySem.Heap.dictOf_iff.mpr ⟨o2,h2,p2⟩) (xy G) (fun _=>qU (ta nd)) (by rw [beq_self_eq_true]; exact h)
theorem wn (rv:VRel σ.next ρ a v) (ru:VRel σ.next ρ b u) (h:isB a b=some z):lP c fd s .Is v u z:=by
  cases b with
  | none=>cases h; cases ru; exact fun _ _ h=>is_none (by rw [AE rv]; exact h)
  | ref j =>
    obtain ⟨i,ha,e⟩:=ob h
    cases rM ha
    obtain ⟨e1,e2⟩:=wk e
    cases e1
    cases e2
    obtain ⟨_,rfl⟩:=rv
    obtain ⟨_,rfl⟩:=ru
    exact fun _ _ h=>wpAny_is_ref_self h
  | _=>cases h
theorem jB {f:Int→Int→Bool} {op:CmpOp} (rv:VRel σ.next ρ a v) (ru:VRel σ.next ρ b u) (h:xw f a b=some z) (k:∀ x t y t',lP c fd s op (.int x t) (.int y t') (f x y)):lP c fd s op v u z:=by
  obtain ⟨x,ha,h⟩:=ob h
  obtain ⟨y,hb,h⟩:=ob h
  cases rL ha
  cases rL hb
  cases h
  obtain ⟨t,rfl⟩:=rv
  obtain ⟨t',rfl⟩:=ru
  exact k x t y t'
theorem wo (G:Good c fd) (I:Inv c fd ρ loc σ s) (rv:VRel σ.next ρ a v) (ru:VRel σ.next ρ b u) (h:eqB σ a b=some z):lP c fd s .Eq v u z:=by
  cases a with
  | ref i =>
    obtain ⟨j,hb,h⟩:=ob h
    obtain ⟨xs,h1,h⟩:=ob h
    obtain ⟨ys,h2,h⟩:=ob h
    obtain ⟨⟨rfl,hz⟩,e⟩:=wk h
    cases rM hb
    cases e
    exact xz G I rv ru h1 h2 hz
  | _=>exact (qV rv ru h).1
theorem wp (G:Good c fd) (I:Inv c fd ρ loc σ s) (rv:VRel σ.next ρ a v) (ru:VRel σ.next ρ b u) (h:neB σ a b=some z):lP c fd s .NotEq v u z:=by
  cases a with
  | ref i =>
    obtain ⟨j,hb,h⟩:=ob h
    obtain ⟨xs,h1,h⟩:=ob h
    obtain ⟨ys,h2,h⟩:=ob h
    cases rM hb
    cases ys with
    | nil=>cases h; exact zl G I rv ru h1 h2
    | cons _ _=>cases h
  | _ =>
    exact wm rv ru h
theorem uu (G:Good c fd) {op:CmpOp} (I:Inv c fd ρ loc σ s) (rv:VRel σ.next ρ a v) (ru:VRel σ.next ρ b u) (h:dk σ op a b=some z):lP c fd s op v u z:=by
  cases op with
  | Lt=>exact jB rv ru h fun _ _ _ _ _ _ h=>PyProof.Rows.lt_int h
  | LtE=>exact jB rv ru h fun _ _ _ _ _ _ h=>PyProof.Rows.le_int h
  | Gt=>exact jB rv ru h fun _ _ _ _ _ _ h=>PyProof.Rows.gt_int h
  | GtE=>exact jB rv ru h fun _ _ _ _ _ _ h=>PyProof.Rows.ge_int h
  | Eq=>exact wo G I rv ru h
  | NotEq=>exact wp G I rv ru h
  | Is=>exact wn rv ru h
  | IsNot =>
    cases b with
    | none=>cases h; cases ru; exact fun _ _ h=>isNot_none (by rw [AE rv]; exact h)
    | _=>cases h
  | _=>cases h
end
theorem mG (G:Good c fd) {op:CmpOp} {ρ:Nat→Addr} {loc:Loc} {σ:St} {s:Shared} (I:Inv c fd ρ loc σ s) {a b:AV} {v u:Value} (rv:VRel σ.next ρ a v) (ru:VRel σ.next ρ b u)
    {r:Res AV} {loc':Loc} {σ':St} (hf:zh op a b loc σ=some (r,loc',σ')) :
    ∃ z,r=.ok (.bool z)∧loc'=loc∧σ'=σ∧lP c fd s op v u z:=by
  obtain ⟨z,hz,e⟩:=ob hf
  cases e
  exact ⟨z,rfl,rfl,rfl,uu G I rv ru hz⟩
theorem dK (G:Good c fd) {op:CmpOp} {f g:M AV} {l r:Expr} {pos:Pos} (hl:SE c fd VRel f (eval l fd.env)) (hr:SE c fd VRel g (eval r fd.env)) (hm:behindInMarks op r=false):SE c fd VRel (eG op f g) (eval (.Compare l [op] [r] pos) fd.env):=by
  refine ⟨fun ρ loc σ s I r loc' σ' hf Q E hE=>?_⟩
  refine wpAny_Compare1 (hl.use I hf hE fun a l₁ σ₁ ρ₁ s₁ v hg g I₁ rv hE₁=>hr.use I₁ hg hE₁ fun b l₂ σ₂ ρ₂ s₂ u hg₂ g₂ I₂ ru hE₂=>?_) hm
  obtain ⟨z,rfl,rfl,rfl,h⟩:=mG G I₂ (g₂.up rv) ru hg₂
  exact h _ _ (Ends.here I₂ hE₂ rfl)
noncomputable def asB (f:M AV):M Bool:=au f fun a=>match a with
  | .bool b=>ret b
  | _=>fun _ _=>none
noncomputable def bA (op:CmpOp) (f g:M AV):M Bool:=asB (eG op f g)
theorem bN (G:Good c fd) {op:CmpOp} {f g:M AV} {l r:Expr} {pos:Pos} {whole:Sem Value} (hl:SE c fd VRel f (eval l fd.env)) (hr:SE c fd VRel g (eval r fd.env)) (hm:behindInMarks op r=false) :
    SE c fd gb (bA op f g) (isTrue (.Compare l [op] [r] pos) fd.env whole):=by
  refine ⟨fun ρ loc σ s I rr loc' σ' hf Q E hE=>?_⟩
  unfold bA asB eG at hf
  have e:∀ (f:M AV) (g:AV→M AV) (h:AV→M Bool),au (au f g) h=au f fun a=>au (g a) h:=by
    intro f g h
    funext l σ
    unfold au
    cases f l σ with
    | none=>rfl
    | some p=>obtain ⟨r,l',σ'⟩:=p; cases r <;> rfl
  rw [e] at hf
  refine wpAny_isTrue_Compare1 (hl.use I hf hE fun a l₁ σ₁ ρ₁ s₁ v hg g I₁ rv hE₁=>?_) hm
  rw [e] at hg
  refine hr.use I₁ hg hE₁ fun b l₂ σ₂ ρ₂ s₂ u hg₂ g₂ I₂ ru hE₂=>?_
  rcases bX hg₂ with h0q | h0q
  · obtain ⟨x,l₃,σ₃,e,hr⟩:=h0q
    obtain ⟨z,hz,rfl,rfl,h⟩:=mG G I₂ (g₂.up rv) ru e
    cases hz
    have hE₂:=hE₂.of hr
    exact h _ _ (wpAny_truthy_bool (Ends.here I₂ hE₂ rfl))
  · obtain ⟨j,e,rfl⟩:=h0q
    obtain ⟨z,hz,_⟩:=mG G I₂ (g₂.up rv) ru e
    cases hz
theorem bD {f:M AV} {e:Expr} (h:SE c fd VRel f (eval e fd.env)) (he:∀ whole,isTrue e fd.env whole=(do let v ← whole; standAt e.pos; holding [v] (truthy v))):SE c fd gb (asB f) (isTrue e fd.env (eval e fd.env)):=by
  refine ⟨fun ρ loc σ s I r loc' σ' hf Q E hE=>?_⟩
  refine wpAny_isTrue_value (h.use I hf hE fun a l₁ σ₁ ρ₁ s₁ v hg g I₁ rv hE₁=>?_) (he _)
  cases a with
  | bool b =>
    have hE₁:=hE₁.of hg
    cases rv
    exact wpAny_truthy_bool (Ends.here I₁ hE₁ rfl)
  | _=>cases hg
noncomputable def jC (t:M Bool):M Bool:=au t fun b=>ret (!b)
theorem kO {t:M Bool} {x:Expr} {pos:Pos} {whole:Sem Value} (h:SE c fd gb t (isTrue x fd.env (eval x fd.env))):SE c fd gb (jC t) (isTrue (.UnaryOp .Not x pos) fd.env whole):=by
  refine ⟨fun ρ loc σ s I r loc' σ' hf Q E hE=>?_⟩
  refine wpAny_isTrue_Not (h.use I hf hE fun a l₁ σ₁ ρ₁ s₁ v hg g I₁ rv hE₁=>?_)
  have hE₁:=hE₁.of hg
  cases rv
  exact Ends.here I₁ hE₁ rfl
noncomputable def fW (t u:M Bool):M Bool:=au t fun b=>if b then u else ret false
noncomputable def orT (t u:M Bool):M Bool:=au t fun b=>if b then ret true else u
theorem kP:SE c fd gb (ret true) (allTrue .And [] fd.env):=by
  refine ⟨fun ρ loc σ s I r loc' σ' hf Q E hE=>?_⟩
  have hE:=hE.of hf
  exact wpAny_allTrue_And_nil (Ends.here I hE rfl)
theorem rQ:SE c fd gb (ret false) (allTrue .Or [] fd.env):=by
  refine ⟨fun ρ loc σ s I r loc' σ' hf Q E hE=>?_⟩
  have hE:=hE.of hf
  exact wpAny_allTrue_Or_nil (Ends.here I hE rfl)
theorem dN {t u:M Bool} {x:Expr} {rest:List Expr} (h:SE c fd gb t (isTrue x fd.env (eval x fd.env))) (h':SE c fd gb u (allTrue .And rest fd.env)):SE c fd gb (fW t u) (allTrue .And (x::rest) fd.env):=by
  refine ⟨fun ρ loc σ s I r loc' σ' hf Q E hE=>?_⟩
  refine wpAny_allTrue_And_cons (h.use I hf hE fun a l₁ σ₁ ρ₁ s₁ v hg g I₁ rv hE₁=>?_)
  cases rv
  cases a with
  | true=>exact h'.1 _ _ _ _ I₁ _ _ _ hg _ _ hE₁
  | false=>cases hg; exact Ends.here I₁ hE₁ rfl
theorem iI {t u:M Bool} {x:Expr} {rest:List Expr} (h:SE c fd gb t (isTrue x fd.env (eval x fd.env))) (h':SE c fd gb u (allTrue .Or rest fd.env)):SE c fd gb (orT t u) (allTrue .Or (x::rest) fd.env):=by
  refine ⟨fun ρ loc σ s I r loc' σ' hf Q E hE=>?_⟩
  refine wpAny_allTrue_Or_cons (h.use I hf hE fun a l₁ σ₁ ρ₁ s₁ v hg g I₁ rv hE₁=>?_)
  cases rv
  cases a with
  | true=>cases hg; exact Ends.here I₁ hE₁ rfl
  | false=>exact h'.1 _ _ _ _ I₁ _ _ _ hg _ _ hE₁
theorem fw {op:BoolOp} {t:M Bool} {values:List Expr} {pos:Pos} {whole:Sem Value} (h:SE c fd gb t (allTrue op values fd.env)):SE c fd gb t (isTrue (.BoolOp op values pos) fd.env whole):=by
  refine ⟨fun ρ loc σ s I r loc' σ' hf Q E hE=>?_⟩
  exact wpAny_isTrue_BoolOp (h.1 _ _ _ _ I _ _ _ hf _ _ hE)
noncomputable def lQ (f g:M AV):M AV:=au f fun a=>match a with
  | .bool true=>g
  | .bool false=>ret (.bool false)
  | _=>fun _ _=>none
noncomputable def orE (f g:M AV):M AV:=au f fun a=>match a with
  | .bool true=>ret (.bool true)
  | .bool false=>g
  | _=>fun _ _=>none
theorem je {f:M AV} {op:BoolOp} {e:Expr} {pos:Pos} (h:SE c fd VRel f (eval e fd.env)):SE c fd VRel f (boolOp pos op (evalEach [e] fd.env)):=h
theorem jD {f g:M AV} {e e':Expr} {rest:List Expr} {pos:Pos} (h:SE c fd VRel f (eval e fd.env)) (h':SE c fd VRel g (boolOp pos .And (evalEach (e'::rest) fd.env))):SE c fd VRel (lQ f g) (boolOp pos .And (evalEach (e::e'::rest) fd.env)):=by
  refine ⟨fun ρ loc σ s I r loc' σ' hf Q E hE=>?_⟩
  show wpAny _ _ (do
    let v ← eval e fd.env
    standAt pos
    let t ← holding [v] (truthy v)
    match BoolOp.And,t with
    | .And,false | .Or,true=>pure v
    | _,_=>boolOp pos .And (evalEach (e'::rest) fd.env)) Q E s
  refine wpAny_bind (h.use I hf hE fun a l₁ σ₁ ρ₁ s₁ v hg g I₁ rv hE₁=>wpAny_bind (wpAny_standAt (wpAny_bind (wpAny_holding ?_))))
  cases a with
  | bool b =>
    cases rv
    refine wpAny_truthy_bool ?_
    cases b with
    | true=>exact h'.1 _ _ _ _ I₁ _ _ _ hg _ _ hE₁
    | false=>cases hg; exact wpAny_pure (Ends.here I₁ hE₁ rfl)
  | _=>cases hg
theorem xA {f g:M AV} {e e':Expr} {rest:List Expr} {pos:Pos} (h:SE c fd VRel f (eval e fd.env)) (h':SE c fd VRel g (boolOp pos .Or (evalEach (e'::rest) fd.env))):SE c fd VRel (orE f g) (boolOp pos .Or (evalEach (e::e'::rest) fd.env)):=by
  refine ⟨fun ρ loc σ s I r loc' σ' hf Q E hE=>?_⟩
  show wpAny _ _ (do
    let v ← eval e fd.env
    standAt pos
    let t ← holding [v] (truthy v)
    match BoolOp.Or,t with
    | .And,false | .Or,true=>pure v
    | _,_=>boolOp pos .Or (evalEach (e'::rest) fd.env)) Q E s
  refine wpAny_bind (h.use I hf hE fun a l₁ σ₁ ρ₁ s₁ v hg g I₁ rv hE₁=>wpAny_bind (wpAny_standAt (wpAny_bind (wpAny_holding ?_))))
  cases a with
  | bool b =>
    cases rv
    refine wpAny_truthy_bool ?_
    cases b with
    | true=>cases hg; exact wpAny_pure (Ends.here I₁ hE₁ rfl)
    | false=>exact h'.1 _ _ _ _ I₁ _ _ _ hg _ _ hE₁
  | _=>cases hg
theorem fp {f:M AV} {op:BoolOp} {values:List Expr} {pos:Pos} (h:SE c fd VRel f (boolOp pos op (evalEach values fd.env))):SE c fd VRel f (eval (.BoolOp op values pos) fd.env):=by
  refine ⟨fun ρ loc σ s I r loc' σ' hf Q E hE=>?_⟩
  rw [arm_eval_BoolOp]
  exact h.1 _ _ _ _ I _ _ _ hf _ _ hE
noncomputable def ifE (t:M Bool) (f g:M AV):M AV:=au t fun b=>if b then f else g
theorem gA {t:M Bool} {f g:M AV} {test body orelse:Expr} {pos:Pos} (ht:SE c fd gb t (isTrue test fd.env (eval test fd.env))) (hf:SE c fd VRel f (eval body fd.env)) (hg:SE c fd VRel g (eval orelse fd.env)) :
    SE c fd VRel (ifE t f g) (eval (.IfExp test body orelse pos) fd.env):=by
  refine ⟨fun ρ loc σ s I r loc' σ' hh Q E hE=>?_⟩
  refine wpAny_IfExp (ht.use I hh hE fun a l₁ σ₁ ρ₁ s₁ v hg' g I₁ rv hE₁=>?_)
  cases rv
  cases a with
  | true=>exact hf.1 _ _ _ _ I₁ _ _ _ hg' _ _ hE₁
  | false=>exact hg.1 _ _ _ _ I₁ _ _ _ hg' _ _ hE₁
noncomputable def o8 (f:M AV):M AV:=au f fun a=>match a with
  | .bool b=>ret (.bool (!b))
  | _=>fun _ _=>none
theorem nV {f:M AV} {x:Expr} {pos:Pos} (h:SE c fd VRel f (eval x fd.env)):SE c fd VRel (o8 f) (eval (.UnaryOp .Not x pos) fd.env):=by
  refine ⟨fun ρ loc σ s I r loc' σ' hf Q E hE=>?_⟩
  refine wpAny_UnaryOp (h.use I hf hE fun a l₁ σ₁ ρ₁ s₁ v hg g I₁ rv hE₁=>?_)
  cases a with
  | bool b =>
    have hE₁:=hE₁.of hg
    cases rv
    exact not_value (wpAny_truthy_bool (Ends.here I₁ hE₁ rfl))
  | _=>cases hg
end
end Lw
end SA6
section SA7
namespace Lw
open PySem PySem.Calls PyProof.Rows PySem.W
noncomputable def at1 (xs:List AV) (k:Int):Option AV:=if 0≤k∧k<1000 then xs[k.toNat]? else if k=-1 then xs.getLast? else none
noncomputable def gC (a b:AV):M AV:=fun l σ=>match a,b with
  | .ref i,.int k=>match σ.get i with
    | some (.list xs)=>if xs.length<2000 then (at1 xs k).map fun v=>(.ok v,l,σ) else none
    | some (.tup xs)=>if xs.length<2000 then (at1 xs k).map fun v=>(.ok v,l,σ) else none
    | some (.idict kvs)=>(look kvs k).map fun v=>(.ok v,l,σ)
    | _=>none
  | .ref i,.str k=>match σ.get i with
    | some (.sdict kvs)=>(look kvs k).map fun v=>(.ok v,l,σ)
    | _=>none
  | .ref i,.byt k=>match σ.get i with
    | some (.bdict kvs)=>(look kvs k).map fun v=>(.ok v,l,σ)
    | _=>none
  | _,_=>none
noncomputable def aO (f g:M AV):M AV:=au f fun a=>au g fun b=>gC a b
section
variable {c:Cx} {fd:Fd}
theorem vx {n:Nat} {ρ:Nat→Addr} {xs:List AV} {vs:List Value} (r:VRels n ρ xs vs) (hz:xs.length<2000) {k:Int} {a:AV} (e:at1 xs k=some a) :
    ∃ j v,seqIndex? k vs.toArray.size=some j∧vs.toArray[j]?=some v∧VRel n ρ a v∧-(2 ^ 63)≤k∧k<2 ^ 63∧((0≤k∧j=k.toNat)∨(k<0∧-(vs.toArray.size:Int)≤k∧j=(k+vs.toArray.size).toNat)):=by
  have hl:=r.length
  unfold at1 at e
  split at e
  · rename_i hk
    obtain ⟨v,hv,rv⟩:=r.get e
    obtain ⟨hlt,_⟩:=List.getElem?_eq_some_iff.mp hv
    refine ⟨k.toNat,v,?_,by simpa using hv,rv,by omega,by omega,.inl ⟨hk.1,rfl⟩⟩
    unfold seqIndex?
    have h1:¬ k<0:=Int.not_lt.mpr hk.1
    have h2:k<(vs.toArray.size:Int):=iBk hk hlt
    simp only [h1,if_false]
    rw [if_pos (by simp only [Bool.and_eq_true,decide_eq_true_eq]; exact ⟨hk.1,h2⟩)]
  · split at e
    · rename_i hk
      subst hk
      rw [List.getLast?_eq_getElem?] at e
      obtain ⟨v,hv,rv⟩:=r.get e
      obtain ⟨hlt,_⟩:=List.getElem?_eq_some_iff.mp hv
      have hsz:vs.toArray.size=vs.length:=by simp
      have hp:-(vs.toArray.size:Int)≤-1:=i4 (i5 hlt)
      refine ⟨xs.length - 1,v,?_,by simpa using hv,rv,by decide,by decide,.inr ⟨by decide,hp,(i2 hl).symm⟩⟩
      unfold seqIndex?
      simp only [show ((-1:Int)<0) from by decide,if_true]
      rw [if_pos (by simp only [Bool.and_eq_true,decide_eq_true_eq]; omega)]
      exact congrArg some (i2 hl)
    · cases e
theorem o9 {κ K:Type} [DecidableEq κ] [DecidableEq K] {knd:KeyKind c.prog c.w K} {dec:κ→K} {P:κ→Prop} (hi:∀ a b,P a→P b→dec a=dec b→a=b) {ρ:Nat→Addr} {σ:St} {s:Shared} {kvs:List (κ×AV)} {o:Obj} {d:Addr}
    (ho:s.heap.get? d=some o) (hd:DRel c.prog c.w knd dec σ.next ρ kvs o) (hP:∀ p∈kvs,P p.1) {k:κ} (hk:P k) {a:AV} (e:look kvs k=some a) :
    ∃ ps,s.heap.DictOf knd d ps∧∃ v,VRel σ.next ρ a v∧valueAt ps (dec k)=some v:=by
  obtain ⟨ps,h1,h2⟩:=hd
  obtain ⟨v,hv,rv⟩:=(kH hi h2 hP hk).1 a e
  exact ⟨ps,Heap.dictOf_iff.mpr ⟨o,ho,h1⟩,v,rv,hv⟩
theorem uv {ρ:Nat→Addr} {loc:Loc} {σ:St} {s:Shared} (I:Inv c fd ρ loc σ s) {a b:AV} {v u:Value} (rv:VRel σ.next ρ a v) (ru:VRel σ.next ρ b u)
    {r:Res AV} {loc':Loc} {σ':St} (hf:gC a b loc σ=some (r,loc',σ')) {Q:Value→Shared→Prop} {E:Value→Shared→Prop} (hE:Ends c fd VRel ρ σ s r loc' σ' Q E) {value slice:Expr}
    (hs:∀ o i,subscripted slice false o i=operate [o,i] (getItem o i)) :
    wpAny (model c.prog c.w) fd.A (subscriptTail value slice v u) Q E s:=by
  unfold gC at hf
  split at hf
  · obtain ⟨hi,rfl⟩:=rv; obtain ⟨t,rfl⟩:=ru
    split at hf
    · rename_i xs e1
      split at hf
      · rename_i hz
        obtain ⟨x,ex,er⟩:=Option.map_eq_some_iff.mp hf
        cases er
        obtain ⟨_,vs,n,h1,r1⟩:=I.rel.list e1
        obtain ⟨j,y,hj,hy,ry,k1,k2,k3⟩:=vx r1 hz ex
        refine tail_any (bC h1).typeIs slot_list_getitem.lookup ?_ (hs _ _)
        rcases k3 with h0q | h0q
        · obtain ⟨k3,rfl⟩:=h0q
          exact wpAny_getItem_list (bC h1) k3 k2 hy (Ends.here I hE ry)
        · obtain ⟨k3,k4,rfl⟩:=h0q
          exact wpAny_getItem_list_neg (bC h1) k3 k4 k1 hy (Ends.here I hE ry)
      · cases hf
    · rename_i xs e1
      split at hf
      · rename_i hz
        obtain ⟨x,ex,er⟩:=Option.map_eq_some_iff.mp hf
        cases er
        obtain ⟨_,vs,n,h1,r1⟩:=I.rel.tup e1
        obtain ⟨j,y,hj,hy,ry,k1,k2,k3⟩:=vx r1 hz ex
        have ht:IsTup s.heap (ρ _) vs.toArray:=⟨_,h1,rfl,n,rfl⟩
        exact tail_any ht.typeIs slot_tuple_getitem.lookup (PyProof.Rows.getItem_tuple ht k1 k2 hj hy (Ends.here I hE ry)) (hs _ _)
      · cases hf
    · rename_i kvs e1
      obtain ⟨x,ex,er⟩:=Option.map_eq_some_iff.mp hf
      have hE:=hE.of (congrArg some er)
      obtain ⟨_,o,ho,hd⟩:=I.rel.at e1
      obtain ⟨ps,hD,y,ry,hy⟩:=o9 (P:=fun _=>True) (fun _ _ _ _ h=>h) ho hd (fun _ _=>trivial) trivial ex
      exact tail_any hD.typeIs slot_dict_getitem.lookup (wpAny_getItem_of (intKind_is _ _ _ _) hD.mapOf hy (hE ρ _ _ (dn I.rel _) (I.toks _) ry)) (hs _ _)
    · cases hf
  · obtain ⟨hi,rfl⟩:=rv; obtain ⟨hk,t,rfl⟩:=ru
    split at hf
    · rename_i kvs e1
      obtain ⟨x,ex,er⟩:=Option.map_eq_some_iff.mp hf
      have hE:=hE.of (congrArg some er)
      obtain ⟨_,o,ho,hd,hP⟩:=I.rel.at e1
      obtain ⟨ps,hD,y,ry,hy⟩:=o9 (P:=(·<nmN)) (fun _ _=>kz) ho hd hP hk ex
      exact tail_any hD.typeIs slot_dict_getitem.lookup (wpAny_getItem_of (strKind_is _ _ _ _) hD.mapOf hy (hE ρ _ _ (dn I.rel _) (I.toks _) ry)) (hs _ _)
    · cases hf
  · obtain ⟨hi,rfl⟩:=rv; obtain ⟨hk,t,rfl⟩:=ru
    split at hf
    · rename_i kvs e1
      obtain ⟨x,ex,er⟩:=Option.map_eq_some_iff.mp hf
      have hE:=hE.of (congrArg some er)
      obtain ⟨_,o,ho,hd,hP⟩:=I.rel.at e1
      obtain ⟨ps,hD,y,ry,hy⟩:=o9 (P:=(·<btN)) (fun _ _=>ui) ho hd hP hk ex
      exact tail_any hD.typeIs slot_dict_getitem.lookup (wpAny_getItem_of (bytesKind_is _ _ _ _) hD.mapOf hy (hE ρ _ _ (dn I.rel _) (I.toks _) ry)) (hs _ _)
    · cases hf
  · cases hf
theorem aG {f g:M AV} {value slice:Expr} {pos:Pos} (hv:SE c fd VRel f (eval value fd.env)) (hi:SE c fd VRel g (eval slice fd.env)) (hs:∀ o i,subscripted slice false o i=operate [o,i] (getItem o i)) :
    SE c fd VRel (aO f g) (eval (.Subscript value slice pos) fd.env):=by
  refine ⟨fun ρ loc σ s I r loc' σ' hf Q E hE=>?_⟩
  exact Subscript_ (hv.use I hf hE fun a l₁ σ₁ ρ₁ s₁ v hg g I₁ rv hE₁=>hi.use I₁ hg hE₁ fun b l₂ σ₂ ρ₂ s₂ u hg₂ g₂ I₂ ru hE₂=>uv I₂ (g₂.up rv) ru hg₂ hE₂ hs)
noncomputable def dX (a b v:AV):M Unit:=fun l σ=>match a,b with
  | .ref i,.int k=>match σ.get i with
    | some (.list xs)=>if 0≤k∧k<1000∧k<xs.length then some (.ok (),l,σ.set i (.list (xs.set k.toNat v))) else none
    | some (.idict kvs)=>if kvs.length<1000 then some (.ok (),l,σ.set i (.idict (store kvs k v))) else none
    | _=>none
  | .ref i,.str k=>match σ.get i with
    | some (.sdict kvs)=>if kvs.length<1000 then some (.ok (),l,σ.set i (.sdict (store kvs k v))) else none
    | _=>none
  | _,_=>none
noncomputable def dw (fo fi fv:M AV):M AF:=au fv fun v=>au fo fun o=>au fi fun i=>au (dX o i v) fun _=>ret .next
theorem mf {ρ:Nat→Addr} {loc:Loc} {σ:St} {s:Shared} (I:Inv c fd ρ loc σ s) {a b x:AV} {v u y:Value} (rv:VRel σ.next ρ a v) (ru:VRel σ.next ρ b u) (ry:VRel σ.next ρ x y)
    {r:Res Unit} {loc':Loc} {σ':St} (hf:dX a b x loc σ=some (r,loc',σ')) {Q:Unit→Shared→Prop} {E:Value→Shared→Prop} (hE:Ends c fd gb ρ σ s r loc' σ' Q E) :
    wpAny (model c.prog c.w) fd.A (setItem v u y) Q E s:=by
  unfold dX at hf
  split at hf
  · rename_i i k
    obtain ⟨hi,rfl⟩:=rv; obtain ⟨t,rfl⟩:=ru
    split at hf
    · rename_i xs e1
      split at hf
      · rename_i hz
        have hE:=hE.of hf
        obtain ⟨_,vs,n,h1,r1⟩:=I.rel.list e1
        have hl:=r1.length
        refine ki_setAt h1 hz.1 (by omega) (by simp; omega) ?_
        have hU:=PySem.IsL.update (show PySem.IsL s.heap (ρ i) vs.toArray n from h1) (·.setIfInBounds k.toNat y)
        refine Ends.go I hE (eT I.rel s.toks hi (Heap.SameBut.update ..) hU ?_) rfl
        exact ⟨vs.set k.toNat y,_,by rw [List.setIfInBounds_toArray],F2.set r1 ry⟩
      · cases hf
    · rename_i kvs e1
      split at hf
      · rename_i hz
        have hE:=hE.of hf
        obtain ⟨_,o,ho,ps,h1,h2⟩:=I.rel.at e1
        refine wpAny_setItem_pairs (intKind_is _ _ _ _) (Heap.dictOf_iff.mpr ⟨o,ho,h1⟩) (fun h' hD hS=>?_) (by rw [← h2.length,sizeLine_eq]; omega)
        obtain ⟨o',ho',hD'⟩:=Heap.dictOf_iff.mp hD
        exact Ends.go I hE (eT I.rel (s.toks+1) hi hS ho' ⟨_,hD',lL (P:=fun _=>True) (fun _ _ _ _ h=>h) h2 (fun _ _=>trivial) trivial ry⟩) rfl
      · cases hf
    · cases hf
  · obtain ⟨hi,rfl⟩:=rv; obtain ⟨hk,t,rfl⟩:=ru
    split at hf
    · rename_i kvs e1
      split at hf
      · rename_i hz
        have hE:=hE.of hf
        obtain ⟨_,o,ho,⟨ps,h1,h2⟩,hP⟩:=I.rel.at e1
        refine wpAny_setItem_pairs (strKind_is _ _ _ _) (Heap.dictOf_iff.mpr ⟨o,ho,h1⟩) (fun h' hD hS=>?_) (by rw [← h2.length,sizeLine_eq]; omega)
        obtain ⟨o',ho',hD'⟩:=Heap.dictOf_iff.mp hD
        exact Ends.go I hE (eT I.rel (s.toks+1) hi hS ho' ⟨⟨_,hD',lL (P:=(·<nmN)) (fun _ _=>kz) h2 hP hk ry⟩,qR (P:=(·<nmN)) hP hk⟩) rfl
      · cases hf
    · cases hf
  · cases hf
theorem eU {fo fi fv:M AV} {o i value:Expr} {pos' pos:Pos} (ho:SE c fd VRel fo (eval o fd.env)) (hi:SE c fd VRel fi (eval i fd.env)) (hv:SE c fd VRel fv (eval value fd.env))
    (hs:swapsWith value (some (.Subscript o i pos')) pos.line fd.env=pure false):SE c fd dz (dw fo fi fv) (exec (.Assign [.Subscript o i pos'] value pos) fd.env):=by
  refine ⟨fun ρ loc σ s I r loc' σ' hf Q E hE=>?_⟩
  refine wpAny_Assign_Subscript (hv.use I hf hE fun x l₁ σ₁ ρ₁ s₁ y hg g I₁ ry hE₁=>ho.use I₁ hg hE₁ fun a l₂ σ₂ ρ₂ s₂ v hg₂ g₂ I₂ rv hE₂=>hi.use I₂ hg₂ hE₂ fun b l₃ σ₃ ρ₃ s₃ u hg₃ g₃ I₃ ru hE₃=>?_) hs
  rcases bX hg₃ with h0q | h0q
  · obtain ⟨z,l₄,σ₄,e,hr⟩:=h0q
    have hE₃:=hE₃.of hr
    exact mf I₃ (g₃.up rv) ru (g₃.up (g₂.up ry)) e (Q:=fun _=>Q .next) (fun ρ' s' _ g' I' _=>hE₃ ρ' s' _ g' I' rfl)
  · obtain ⟨j,e,rfl⟩:=h0q
    exact mf I₃ (g₃.up rv) ru (g₃.up (g₂.up ry)) e (Q:=fun _=>Q .next) hE₃
noncomputable def qW (a b:AV):M AV:=fun l σ=>match a,b with
  | .ref i,.int k=>match σ.get i with
    | some (.list xs)=>if 0≤k∧xs.length<2 ^ 24 then some (.ok (.ref σ.next),l,σ.push (.list (xs.take k.toNat))) else none
    | _=>none
  | _,_=>none
noncomputable def vy (a b:AV):M AV:=fun l σ=>match a,b with
  | .ref i,.int k=>match σ.get i with
    | some (.list xs)=>if 0≤k∧xs.length<2 ^ 24 then some (.ok (.ref σ.next),l,σ.push (.list (xs.drop k.toNat))) else none
    | _=>none
  | _,_=>none
noncomputable def pb (f g:M AV):M AV:=au f fun a=>au g fun b=>qW a b
noncomputable def vz (f g:M AV):M AV:=au f fun a=>au g fun b=>vy a b
theorem oC {ρ:Nat→Addr} {loc:Loc} {σ:St} {s:Shared} (I:Inv c fd ρ loc σ s) {i:Nat} {xs ys:List AV} (e:σ.get i=some (.list xs)) (hz:xs.length<2 ^ 24) {vl vu:Value} {lo hi:Option Int} (pl:IsPart vl lo) (pu:IsPart vu hi)
    (hp:∀ vs,VRels σ.next ρ xs vs→∃ us,slicePick vs.toArray lo hi none=us.toArray∧VRels σ.next ρ ys us)
    {Q:Value→Shared→Prop} {E:Value→Shared→Prop} (hE:Ends c fd VRel ρ σ s (.ok (.ref σ.next)) loc (σ.push (.list ys)) Q E) {value:Expr} {lower upper:Option Expr} {p:Pos} :
    wpAny (model c.prog c.w) fd.A (subscriptTail value (.Slice lower upper none p) (.ref (ρ i)) (.ref s.heap.objs.size)) Q E { s with heap:=s.heap.push { cls:=.type "slice",data:=.fields #[vl,vu,.none] } }:=by
  obtain ⟨_,vs,n,h1,r1⟩:=I.rel.list e
  obtain ⟨us,hu,ru⟩:=hp vs r1
  have hl:=bC h1
  have g1:Go c none ρ σ s ρ σ { s with heap:=s.heap.push { cls:=.type "slice",data:=.fields #[vl,vu,.none] },toks:=s.toks }:=nf I.rel _ _
  have I1:=I.step g1
  refine tail_any (Heap.IsList.typeIs (s:={ s with heap:=s.heap.push { cls:=.type "slice",data:=.fields #[vl,vu,.none] } }) (hl.push _)) list_getitem_lookup
    (wpAny_getItem_list_slice (hl.push _) (Heap.IsSliceOf.new ..) pl pu .none (by simp) ?_ (by simp; rw [← r1.length,sizeLine_eq]; omega)) rfl
  rw [hu]
  have g2:=g1.trans (kG (o:={ cls:=.type "list",data:=.seq us.toArray }) (a:=.list ys) I1.rel I1.big s.toks rfl ⟨us,0,rfl,VRels.ins ru⟩)
  exact Ends.go I hE g2 VRel.new
theorem vB {f g:M AV} {value u:Expr} {p pos:Pos} (hv:SE c fd VRel f (eval value fd.env)) (hi:SE c fd VRel g (eval u fd.env)):SE c fd VRel (pb f g) (eval (.Subscript value (.Slice none (some u) none p) pos) fd.env):=by
  refine ⟨fun ρ loc σ s I r loc' σ' hf Q E hE=>?_⟩
  refine Subscript_ (hv.use I hf hE fun a l₁ σ₁ ρ₁ s₁ v hg g I₁ rv hE₁=>wpAny_Slice (evalPart_none_step (evalPart_some_step (hi.use I₁ hg hE₁ fun b l₂ σ₂ ρ₂ s₂ u hg₂ g₂ I₂ ru hE₂=>evalPart_none_step ?_))))
  unfold qW at hg₂
  split at hg₂
  · obtain ⟨t,rfl⟩:=ru
    obtain ⟨hi,rfl⟩:=g₂.up rv
    split at hg₂
    · rename_i k _ xs e1
      split at hg₂
      · rename_i hz
        have hE₂:=hE₂.of hg₂
        refine oC I₂ e1 hz.2 .none (.int _ _) (fun vs r1=>⟨vs.take k.toNat,?_,F2.take r1 _⟩) hE₂
        have e:sliceBounds none (some k) none vs.toArray.size=(((0:Nat):Int),((min k.toNat vs.toArray.size:Nat):Int),1):=by
          simp only [sliceBounds,Option.getD_none,show (1:Int) > 0 by decide,if_true,if_neg (Int.not_lt.mpr hz.1),i1 hz.1]
          rfl
        rw [kmk_pick_nat _ e,List.drop_zero,Nat.sub_zero,List.size_toArray,kmk_take_min]
      · cases hg₂
    · cases hg₂
  · cases hg₂
theorem zm {f g:M AV} {value u:Expr} {p pos:Pos} (hv:SE c fd VRel f (eval value fd.env)) (hi:SE c fd VRel g (eval u fd.env)):SE c fd VRel (vz f g) (eval (.Subscript value (.Slice (some u) none none p) pos) fd.env):=by
  refine ⟨fun ρ loc σ s I r loc' σ' hf Q E hE=>?_⟩
  refine Subscript_ (hv.use I hf hE fun a l₁ σ₁ ρ₁ s₁ v hg g I₁ rv hE₁=>wpAny_Slice (evalPart_some_step (hi.use I₁ hg hE₁ fun b l₂ σ₂ ρ₂ s₂ u hg₂ g₂ I₂ ru hE₂=>evalPart_none_step (evalPart_none_step ?_))))
  unfold vy at hg₂
  split at hg₂
  · obtain ⟨t,rfl⟩:=ru
    obtain ⟨hi,rfl⟩:=g₂.up rv
    split at hg₂
    · rename_i k _ xs e1
      split at hg₂
      · rename_i hz
        have hE₂:=hE₂.of hg₂
        refine oC I₂ e1 hz.2 (.int _ _) .none (fun vs r1=>⟨vs.drop k.toNat,?_,F2.drop r1 _⟩) hE₂
        have e:sliceBounds (some k) none none vs.toArray.size=(((min k.toNat vs.toArray.size:Nat):Int),((vs.toArray.size:Nat):Int),1):=by
          simp only [sliceBounds,Option.getD_none,show (1:Int) > 0 by decide,if_true,if_neg (Int.not_lt.mpr hz.1),i1 hz.1]
        rw [kmk_pick_nat _ e]
        show ((vs.drop (min k.toNat vs.toArray.size)).take (vs.toArray.size - min k.toNat vs.toArray.size)).toArray=_
        rw [List.size_toArray,kmk_drop_min,List.take_of_length_le (by rw [List.length_drop]; exact Nat.sub_le_sub_left (Nat.min_le_left _ _) _)]
      · cases hg₂
    · cases hg₂
  · cases hg₂
end
end Lw
end SA7
section SA8
namespace Lw
open PySem PySem.Calls PyProof.Rows PySem.W
structure Noted (l:List Env) (e:Addr) (oe:Obj) (fl:Value) (h h':Heap):Prop where
  ex:∃ T oT ts,h.objs.size≤T∧h'.get? e=some (oe.mapFields (·.setIfInBounds 1 (.ref T)))∧h'.get? T=some oT∧oT.cls=.type "traceback" ∧ oT.data=.fields ts∧ts[3]?=some fl
  keep:∀ b o,b≠e→h.get? b=some o→∃ sl,h'.get? b=some { o with slots:=sl }∧(b ∉ l.filterMap (·.frame)→{ o with slots:=sl }=o)
section
variable {M:Model} {A:Around} {E:Value→Shared→Prop} {s:Shared}
theorem qX {base:Heap} {env:Env} {outer:List Env} {L e:Addr} {oe:Obj} {vs:Array Value} {head:Value} {had:Bool} {Q:Unit→Shared→Prop}
    (hfr:A.frames=some (env::outer)) (hl:s.heap.FunFrames base (env::outer)) (hf:env.frame=some L) (he:s.heap.get? e=some oe) (hd:oe.data=.fields vs) (hsz:1<vs.size)
    (h:∀ h',Noted (env::outer) e oe (rawInt L) s.heap h'→Q () { s with heap:=h' }) :
    wpAny M A (do let a ← frameOf env; let pl ← entryPlaceOf L had; let b ← EntryCells.newEntry head a .none (rawInt L) .none pl; setField (.ref e) 1 b) Q E s:=by
  have hne:e ∉ (env::outer).filterMap (·.frame):=fun hm=>by
    obtain ⟨_,o,ho,hnf⟩:=hl.mem hm
    rw [he] at ho; cases ho; exact hnf vs hd
  refine wpAny_bind (wpAny_frameOf_fun hfr hl hf fun h₁ hs=>wpAny_bind (wpAny_entryPlaceOf fun pl hpl=>?_))
  unfold EntryCells.newEntry newFields
  refine wpAny_bind (wpAny_newObj_type ?_ (hpl.sizeOk5 _ _ _ _ _))
  have e1:h₁.get? e=some oe:=(hs.2.1 e hne).trans he
  generalize hn:({ cls:=.type "traceback",dict:=none,data:=.fields ([head,.ref L,.none,rawInt L,.none]++(if pl.isEmpty then List.replicate 6 Value.none else pl)).toArray }:Obj)=tb
  have e2:=Heap.get?_push_of_some tb e1
  have hT:h₁.objs.size≠e:=Nat.ne_of_gt (Heap.lt_size e1)
  have hd3:=Obj.data_mapFields hd (·.setIfInBounds 1 (Value.ref h₁.objs.size))
  refine wpAny_setField e2 hd hsz (h _ ⟨⟨h₁.objs.size,tb,([head,.ref L,.none,rawInt L,.none]++(if pl.isEmpty then List.replicate 6 Value.none else pl)).toArray,?_,
    Heap.get?_update_self _ e2 (Obj.isFreed_of_fields hd3),(Heap.get?_update_other _ _ (Ne.symm hT)).trans (Heap.get?_push_size h₁ (by rw [← hn]; rfl)),by rw [← hn],by rw [← hn],by first | (simp; done) | (rcases hpl with rfl | ⟨_,_,_,_,_,_,_,rfl⟩ <;> simp)⟩,fun b o hb ho=>?_⟩)
  · exact Nat.le_of_eq hs.1.symm
  · obtain ⟨sl,h2⟩:=hs.2.2 b o ho
    refine ⟨sl,(Heap.get?_update_other _ _ (Ne.symm hb)).trans (Heap.get?_push_of_some _ h2),fun hm=>?_⟩
    have:=hs.2.1 b hm
    rw [h2,ho] at this
    exact Option.some.inj this
theorem tc {o:Obj} {vs:Array Value} {i:Nat} {x:Value} (hd:o.data=.fields vs) (h:vs[i]?=some x):o.mapFields (·.setIfInBounds i x)=o:=by
  obtain ⟨oc,od,da,sl⟩:=o
  dsimp only at hd
  subst hd
  show (⟨oc,od,.fields (vs.setIfInBounds i x),sl⟩:Obj)=_
  congr 2
  apply Array.ext'
  obtain ⟨hi,e⟩:=Array.getElem?_eq_some_iff.mp h
  rw [Array.toList_setIfInBounds,← e]
  apply List.ext_getElem?
  intro j
  rw [List.getElem?_set]
  split
  · rename_i q; subst q; simp [hi]
  · rfl
end
section
variable {c:Cx} {fd:Fd}
theorem Stk.fun {ρ:Nat→Addr} {σ:St} {outer:List Env} {h:Heap} (S:Stk c ρ σ outer h):h.FunFrames c.base outer:=by
  induction outer with
  | nil=>trivial
  | cons env r ih =>
    obtain ⟨hk,L,o,es,n,hf,hb,hn,ho,hd⟩:=S env List.mem_cons_self
    refine ⟨hk,⟨L,o,hf,?_,ho,fun vs q=>by rw [hd] at q; cases q⟩,ih fun e he=>S e (List.mem_cons_of_mem _ he)⟩
    cases q:c.base.get? L with
    | none=>rfl
    | some ob=>exact absurd (Heap.lt_size q) (Nat.not_lt.mpr hb)
theorem Stk.mem {ρ:Nat→Addr} {σ:St} {outer:List Env} {h:Heap} (S:Stk c ρ σ outer h) {b:Addr} (hb:b∈outer.filterMap (·.frame)):c.base.objs.size≤b∧¬ Own ρ σ b∧∃ o es n,h.get? b=some o∧o.data=.dict es n:=by
  obtain ⟨env,he,hf⟩:=List.mem_filterMap.mp hb
  obtain ⟨_,L,o,es,n,hf',h1,h2,h3,h4⟩:=S env he
  obtain rfl:L=b:=Option.some.inj (hf'.symm.trans hf)
  exact ⟨h1,h2,o,es,n,h3,h4⟩
theorem Inv.stack {ρ:Nat→Addr} {loc:Loc} {σ:St} {s:Shared} (G:Good c fd) (I:Inv c fd ρ loc σ s):Stk c ρ σ (fd.fenv::fd.outer) s.heap:=by
  rcases G.how with h0q | h0q
  · obtain ⟨_,e1,e2,e3⟩:=h0q
    intro env he
    rcases List.mem_cons.mp he with rfl | he
    · obtain ⟨m,⟨o,es,ep,ho,hd,_⟩,_⟩:=I.fr
      exact ⟨G.fk,fd.L,o,es,ep,e2,I.low,I.off,ho,hd⟩
    · exact I.stk env (by rw [e3]; exact he)
  · obtain ⟨_,e⟩:=h0q
    have:=I.stk
    rw [e] at this
    exact this
theorem te {ρ:Nat→Addr} {σ:St} {s:Shared} {l:List Env} (R:Rel c ρ σ s.heap) (S:Stk c ρ σ l s.heap) {i:Nat} (hi:i<σ.next) {oe:Obj} {vs:Array Value} {fl:Value} {h':Heap}
    (he:s.heap.get? (ρ i)=some oe) (hd:oe.data=.fields vs) (N:Noted l (ρ i) oe fl s.heap h'):Go c none ρ σ s ρ σ { s with heap:=h' }:=by
  have kp:∀ b o,b≠ρ i→b ∉ l.filterMap (·.frame)→s.heap.get? b=some o→h'.get? b=some o:=fun b o hb hm ho=>by
    obtain ⟨sl,h1,h2⟩:=N.keep b o hb ho
    rw [h1,h2 hm]
  obtain ⟨T,oT,ts,a1,a2,a3,_,_⟩:=N.ex
  exact {
    rel:={
      inj:=R.inj
      keep:=fun b o e=>kp b o (fun q=>absurd (Heap.lt_size e) (by have:=R.new i hi; rw [← q] at this; exact Nat.not_lt.mpr this)) (fun hm=>absurd (Heap.lt_size e) (Nat.not_lt.mpr (S.mem hm).1)) (R.keep b o e)
      new:=R.new
      obj:=fun j hj=>by
        obtain ⟨a,e,o,ho,r⟩:=R.obj j hj
        by_cases q:j=i
        · subst q
          rw [he] at ho
          cases ho
          refine ⟨a,e,_,a2,?_⟩
          obtain ⟨oc,od,da,sl⟩:=oe
          dsimp only at hd
          subst hd
          cases a with
          | list xs=>obtain ⟨_,_,q,_⟩:=r; cases q
          | tup xs=>obtain ⟨_,_,q,_⟩:=r; cases q
          | inst C d=>exact r
          | sdict kvs=>obtain ⟨⟨_,⟨_,_,_,q,_⟩,_⟩,_⟩:=r; cases q
          | bdict kvs=>obtain ⟨⟨_,⟨_,_,_,q,_⟩,_⟩,_⟩:=r; cases q
          | idict kvs=>obtain ⟨_,⟨_,_,_,q,_⟩,_⟩:=r; cases q
          | junk=>exact r
        · exact ⟨a,e,o,kp _ _ (fun z=>q (R.inj j i hj hi z)) (fun hm=>(S.mem hm).2.1 ⟨j,hj,rfl⟩) ho,r⟩
      dom:=R.dom }
    ext:=fun _ _=>rfl
    le:=Nat.le_refl _
    fresh:=fun _ h1 h2=>absurd h1 (Nat.not_le.mpr h2)
    keep:=fun b o e _ hn=>by
      obtain ⟨sl,h1,h2⟩:=N.keep b o (fun q=>hn ⟨i,hi,q.symm⟩) e
      refine ⟨_,h1,rfl,fun _=>⟨sl,rfl⟩,fun hd=>⟨hd,fun _=>h2 fun hm=>?_⟩⟩
      obtain ⟨_,_,o',es,n,ho',hd'⟩:=S.mem hm
      rw [e] at ho'
      cases ho'
      rw [xt hd'] at hd
      exact nomatch hd
    live:=fun b o e=>by
      by_cases q:b=ρ i
      · subst q; exact ⟨_,a2⟩
      · obtain ⟨sl,h1,_⟩:=N.keep b o q e
        exact ⟨_,h1⟩
    rest:=⟨rfl,rfl,rfl⟩ }
noncomputable def FliesT (c:Cx) (fl:Value) (ρ:Nat→Addr) (σ:St) (i:Nat) (h:Heap):Prop :=
  i<σ.next∧∃ oe vs T oT ts,h.get? (ρ i)=some oe∧oe.data=.fields vs∧1<vs.size∧vs[1]?=some (.ref T)∧c.base.objs.size≤T∧¬ Own ρ σ T∧h.get? T=some oT∧oT.cls=.type "traceback" ∧ oT.data=.fields ts∧ts[3]?=some fl
theorem FliesT.none {ρ:Nat→Addr} {σ:St} {i:Nat} {h:Heap} {L:Option Addr} (F:FliesT c .none ρ σ i h):Flies c L ρ σ i h:=by
  obtain ⟨hi,oe,vs,T,oT,ts,a1,a2,a3,a4,a5,a6,a7,a8,a9,b1⟩:=F
  exact ⟨hi,oe,vs,a1,a2,a3,.inr ⟨T,oT,ts,_,a4,a5,a6,a7,a8,a9,b1,.inl rfl⟩⟩
theorem FliesT.here {ρ:Nat→Addr} {σ:St} {i:Nat} {h:Heap} {L:Addr} (F:FliesT c (rawInt L) ρ σ i h):Flies c (some L) ρ σ i h:=by
  obtain ⟨hi,oe,vs,T,oT,ts,a1,a2,a3,a4,a5,a6,a7,a8,a9,b1⟩:=F
  exact ⟨hi,oe,vs,a1,a2,a3,.inr ⟨T,oT,ts,_,a4,a5,a6,a7,a8,a9,b1,.inr ⟨L,rfl,rfl⟩⟩⟩
theorem oE {ρ:Nat→Addr} {σ:St} {s:Shared} {l:List Env} (R:Rel c ρ σ s.heap) (hb:c.base.objs.size≤s.heap.objs.size) {i:Nat} (hi:i<σ.next) {oe:Obj} {vs:Array Value} {fl:Value} {h':Heap}
    (hd:oe.data=.fields vs) (hsz:1<vs.size) (N:Noted l (ρ i) oe fl s.heap h'):FliesT c fl ρ σ i h':=by
  obtain ⟨T,oT,ts,a1,a2,a3,a4,a5,a6⟩:=N.ex
  refine ⟨hi,_,vs.setIfInBounds 1 (.ref T),T,oT,ts,a2,Obj.data_mapFields hd _,by simpa using hsz,by simp [hsz],Nat.le_trans hb a1,?_,a3,a4,a5,a6⟩
  rintro ⟨j,hj,q⟩
  obtain ⟨_,_,o,ho,_⟩:=R.obj j hj
  exact absurd (Heap.lt_size ho) (by rw [q]; exact Nat.not_lt.mpr a1)
theorem mH {M:Model} {A:Around} (hfr:A.frames=some (fd.fenv::fd.outer)) {ρ:Nat→Addr} {σ:St} {s:Shared} {L:Addr} (hf:fd.fenv.frame=some L) (R:Rel c ρ σ s.heap) (hbig:c.base.objs.size≤s.heap.objs.size) (S:Stk c ρ σ (fd.fenv::fd.outer) s.heap) {i:Nat} (F:Flies c (some L) ρ σ i s.heap)
    {Q:Unit→Shared→Prop} {E:Value→Shared→Prop} (h:∀ s',Go c none ρ σ s ρ σ s'→FliesT c (rawInt L) ρ σ i s'.heap→Q () s'):wpAny M A (noteFrame (.ref (ρ i)) fd.fenv) Q E s:=by
  obtain ⟨hi,oe,vs,a1,a2,a3,a4⟩:=F
  unfold noteFrame
  simp only [hf]
  rcases a4 with h1 | h0q
  · refine wpAny_bind (wpAny_field a1 a2 h1 ?_)
    rw [if_neg (by decide)]
    exact qX hfr S.fun hf a1 a2 a3 fun h' N=>h _ (te R S hi a1 a2 N) (oE R hbig hi a2 a3 N)
  · obtain ⟨T,oT,ts,fl,h1,h2,h3,h4,h5,h6,h7,h8⟩:=h0q
    refine wpAny_bind (wpAny_field a1 a2 h1 ?_)
    rw [if_pos (show (Value.ref T != Value.none)=true from by simp)]
    refine wpAny_bind (wpAny_field h4 h6 h7 ?_)
    rcases h8 with rfl | h0q
    · rw [if_neg (show ¬ ((Value.none==rawInt L)=true) from by simp [rawInt])]
      refine wpAny_bind (wpAny_setField h4 h6 (Array.getElem?_eq_some_iff.mp h7).1 ?_)
      have same:∀ b,(s.heap.update T (Obj.mapFields (·.setIfInBounds 3 Value.none))).get? b=s.heap.get? b:=fun b=>by
        by_cases q:b=T
        · subst q
          rw [h4,Heap.get?_update_self _ h4 (by rw [tc h6 h7]; exact Obj.isFreed_of_fields h6),tc h6 h7]
        · exact Heap.get?_update_other _ _ (Ne.symm q)
      refine qX hfr (S.fun.of_keeps fun b o hb _=>⟨o,(same b).trans hb,rfl⟩) hf ((same _).trans a1) a2 a3 fun h' N=>?_
      have N':Noted (fd.fenv::fd.outer) (ρ i) oe (rawInt L) s.heap h':=by
        refine ⟨?_,fun b o hb ho=>N.keep b o hb ((same b).trans ho)⟩
        obtain ⟨T',oT',ts',a1,a2⟩:=N.ex
        exact ⟨T',oT',ts',by rw [← Heap.size_update]; exact a1,a2⟩
      exact h _ (te R S hi a1 a2 N') (oE R hbig hi a2 a3 N')
    · obtain ⟨L',e,rfl⟩:=h0q
      cases e
      rw [if_pos (beq_self_eq_true _)]
      exact wpAny_pure (h _ (.refl R) ⟨hi,oe,vs,T,oT,ts,a1,a2,a3,h1,h2,h3,h4,h5,h6,h7⟩)
theorem hY {M:Model} {A:Around} {ρ:Nat→Addr} {σ:St} {s:Shared} {fl:Value} (R:Rel c ρ σ s.heap) {i:Nat} (F:FliesT c fl ρ σ i s.heap) {fr:Option Addr}
    {Q:Unit→Shared→Prop} {E:Value→Shared→Prop} (h:∀ s',Go c none ρ σ s ρ σ s'→FliesT c (fr.elim .none fun f=>rawInt f) ρ σ i s'.heap→Q () s'):wpAny M A (setFlight (.ref (ρ i)) fr) Q E s:=by
  obtain ⟨hi,oe,vs,T,oT,ts,a1,a2,a3,a4,a5,a6,a7,a8,a9,b1⟩:=F
  unfold setFlight
  refine wpAny_bind (wpAny_field a1 a2 a4 ?_)
  rw [if_pos (show (Value.ref T != Value.none)=true from by simp)]
  have h3:=(Array.getElem?_eq_some_iff.mp b1).1
  have hTi:T≠ρ i:=fun q=>a6 ⟨i,hi,q.symm⟩
  have hself:(s.heap.update T (Obj.mapFields (·.setIfInBounds 3 (fr.elim .none fun f=>rawInt f)))).get? T=some (oT.mapFields (·.setIfInBounds 3 (fr.elim .none fun f=>rawInt f))):=Heap.get?_update_self _ a7 (Obj.isFreed_of_fields (Obj.data_mapFields a9 _))
  have hoth:∀ b,b≠T→(s.heap.update T (Obj.mapFields (·.setIfInBounds 3 (fr.elim .none fun f=>rawInt f)))).get? b=s.heap.get? b:=fun b q=>Heap.get?_update_other _ _ (Ne.symm q)
  have hcls:(oT.mapFields (·.setIfInBounds 3 (fr.elim .none fun f=>rawInt f))).cls=oT.cls:=Obj.cls_mapFields ..
  have hdat:=Obj.data_mapFields a9 (·.setIfInBounds 3 (fr.elim .none fun f=>rawInt f))
  refine wpAny_setField a7 a9 h3 (h _ ?_ ⟨hi,oe,vs,T,_,_,(hoth _ (Ne.symm hTi)).trans a1,a2,a3,a4,a5,a6,hself,hcls.trans a8,hdat,by simp [h3]⟩)
  exact {
    rel:={
      inj:=R.inj
      keep:=fun b o e=>(hoth b fun q=>absurd (Heap.lt_size e) (by rw [q]; exact Nat.not_lt.mpr a5)).trans (R.keep b o e)
      new:=R.new
      obj:=fun j hj=>let ⟨a,e,o,ho,r⟩:=R.obj j hj; ⟨a,e,o,(hoth _ fun q=>a6 ⟨j,hj,q⟩).trans ho,r⟩
      dom:=R.dom }
    ext:=fun _ _=>rfl
    le:=Nat.le_refl _
    fresh:=fun _ h1 h2=>absurd h1 (Nat.not_le.mpr h2)
    keep:=fun b o e _ _=>by
      by_cases q:b=T
      · subst q
        rw [a7] at e
        cases e
        refine ⟨_,hself,hcls,fun hd=>?_,fun _=>⟨rN fun es n q=>(by rw [hdat] at q; cases q),fun ht=>absurd a8 ht⟩⟩
        rw [rN fun es n q=>by rw [a9] at q; cases q] at hd
        exact nomatch hd
      · exact ⟨o,(hoth b q).trans e,.refl _⟩
    live:=fun b o e=>by
      by_cases q:b=T
      · subst q; exact ⟨_,hself⟩
      · exact ⟨o,(hoth b q).trans e⟩
    rest:=⟨rfl,rfl,rfl⟩ }
theorem tf {M:Model} {A:Around} (hfr:A.frames=some (fd.fenv::fd.outer)) {ρ:Nat→Addr} {σ:St} {s:Shared} {L:Addr} (hf:fd.fenv.frame=some L) (R:Rel c ρ σ s.heap) (hbig:c.base.objs.size≤s.heap.objs.size) (S:Stk c ρ σ (fd.fenv::fd.outer) s.heap) {i:Nat} (F:Flies c (some L) ρ σ i s.heap)
    {Q:Unit→Shared→Prop} {E:Value→Shared→Prop} (h:∀ s',Go c none ρ σ s ρ σ s'→Flies c none ρ σ i s'.heap→Q () s'):wpAny M A (leaving fd.fenv (.ref (ρ i))) Q E s:=by
  unfold leaving
  exact wpAny_bind (mH hfr hf R hbig S F fun s₁ g₁ F₁=>hY g₁.rel F₁ fun s₂ g₂ F₂=>h s₂ (g₁.trans g₂) F₂.none)
noncomputable def Ee (c:Cx) (ρ:Nat→Addr) (σ:St) (s:Shared) (r:Res AV) (σ':St) (R:Result→Shared→Prop):Prop:=match r with
  | .ok a=>∀ ρ' s' v,Go c none ρ σ s ρ' σ' s'→VRel σ'.next ρ' a v→R (.ok (.ret v)) s'
  | .exc i=>∀ ρ' s',Go c none ρ σ s ρ' σ' s'→Flies c none ρ' σ' i s'.heap→R (.error (.ref (ρ' i))) s'
noncomputable def SFn (c:Cx) (b:Nat) (f:Value) (g:Fn):Prop :=
  ∀ A outer ρ σ s as vs,RoomN A b→A.frames=some outer→Rel c ρ σ s.heap→Stk c ρ σ outer s.heap→c.base.objs.size≤s.heap.objs.size→VRels σ.next ρ as vs→∀ r σ',g as σ=some (r,σ') →
    ∀ R,Ee c ρ σ s r σ' R→codeAny (model c.prog c.w) A (.call f ⟨vs,[]⟩) R s
noncomputable def bx (bd:List AV→Option Loc) (f:M AF):Fn:=fun as σ=>match bd as with
  | some loc=>match f loc σ with
    | some (.ok (.ret a),_,σ')=>some (.ok a,σ')
    | some (.ok .next,_,σ')=>some (.ok .none,σ')
    | some (.exc i,_,σ')=>some (.exc i,σ')
    | none=>none
  | none=>none
structure FnAt (K:Frag) (fa:Addr) (qual:Str) (params:Arguments) (body:List Stmt) (scope:Scope) (dV:Value) (cdv:Value):Prop where
  ho:∃ oc od osl name kV doc pm an ct,K.lookup fa=some ⟨oc,od,.func (fnOf name qual params body scope dV kV doc pm an cdv ct),osl⟩
  hcd:codeIn K cdv qual=true
  keeps:keepIn K (.ref fa)=true
  typ:typeIn K (.ref fa)=some (.type "function")
noncomputable def tg (c:Cx) (params:Arguments) (qual:Str) (dV:Value) (scope:Scope) (names:List Str) (bd:List AV→Option Loc):Prop :=
  ∀ as loc,bd as=some loc→∀ n ρ vs,VRels n ρ as vs→∃ binds,(∀ (s:Shared) name body kV doc pm an cdv ct,c.K.In s.heap→BindsTo s (fnOf name qual params body scope dV kV doc pm an cdv ct) ⟨vs,[]⟩ binds) ∧
    (∀ y∈binds,scope.names.lookup y.1=some .local)∧∀ k x a,names[k]?=some x→loc k=some a→∃ v,binds.reverse.lookup x=some v∧VRel n ρ a v
noncomputable def uw (A₀:Around) (qual:Str) (scope:Scope) (L fa:Addr) (cdv:Value) (names:List Str) (outer:List Env) (b:Nat):Fd:={ A₀:=A₀,fenv:=envOf qual scope L fa cdv,env:=envOf qual scope L fa cdv,L:=L,names:=names,outer:=outer,below:=outer,b:=b }
theorem bp (ok:c.Ok) {fa:Addr} {qual:Str} {params:Arguments} {body:List Stmt} {scope:Scope} {dV cdv:Value} (hf:FnAt c.K fa qual params body scope dV cdv) {names:List Str} {bd:List AV→Option Loc}
    (hb:tg c params qual dV scope names bd) {f:M AF} {b:Nat} (hco:scope.isCoroutine=false) (hgen:scope.isGenerator=false) (hk:scope.kind=.function) (hcell:∀ x∈scope.names,x.2≠.cell)
    (h:∀ A₀ L outer,Good c (uw A₀ qual scope L fa cdv names outer b)→SE c (uw A₀ qual scope L fa cdv names outer b) dz f (execs body (envOf qual scope L fa cdv))):SFn c (b+1) (.ref fa) (bx bd f):=by
  intro A outer ρ σ s as vs room hA R S big rvs r σ' hg RR hR
  obtain ⟨oc,od,osl,name,kV,doc,pm,an,ct,ho⟩:=hf.ho
  unfold bx at hg
  split at hg
  case h_2=>cases hg
  rename_i loc hl
  obtain ⟨binds,b1,b2,b3⟩:=hb as loc hl _ _ _ rvs
  have X:c.K.In s.heap:=ok.X.keeps R.keep
  refine codeAny_call_def (fd:=fnOf name qual params body scope dV kV doc pm an cdv ct) (body:=body) (binds:=binds) ?_ (X _ _ ho) rfl (ok.T.nolimit.keeps R.keep) (codeRec_of X hf.hcd) rfl (b1 s name body kV doc pm an cdv ct X) hcell b2 (fun h₁ hns hk₁=>?_) hco hgen hk
  · have:=room.2.1
    have:recursionLimit=1000:=rfl
    omega
  let fd:Fd:=uw A qual scope s.heap.objs.size fa cdv names outer b
  have G:Good c fd:=⟨ok,hk,rfl,rfl,rfl,by show scope.kind≠_; rw [hk]; decide,.inl ⟨rfl,rfl,rfl,rfl⟩,hA,room⟩
  have g0:Go c none ρ σ s ρ σ { s with heap:=h₁,toks:=s.toks+binds.length }:=iH R _ hk₁
  have hfree:∀ b o,s.heap.get? b=some o→b≠s.heap.objs.size:=fun b o e q=>absurd (Heap.lt_size e) (by rw [q]; exact Nat.lt_irrefl _)
  have I:Inv c fd ρ loc σ { s with heap:=h₁,toks:=s.toks+binds.length }:={
    rel:=g0.rel
    fr:=⟨_,hns,b3⟩
    off:=fun ⟨i,hi,q⟩=>by
      obtain ⟨_,_,o,ho,_⟩:=R.obj i hi
      exact hfree _ _ ho q
    low:=big
    stk:=S.step g0 (by simp)
    apart:=fun env he L hf q=>by
      obtain ⟨_,L',o,_,_,hf',_,_,ho,_⟩:=S env he
      obtain rfl:L'=L:=Option.some.inj (hf'.symm.trans hf)
      exact hfree _ _ ho q.symm }
  have eA:A.deeper (envOf qual scope s.heap.objs.size fa cdv)=fd.A:=by
    have:=room.1
    cases A
    dsimp only at this
    subst this
    rfl
  have out:∀ {ρ':Nat→Addr} {σ':St} {s':Shared},Go c (some fd.L) ρ σ { s with heap:=h₁,toks:=s.toks+binds.length } ρ' σ' s'→Go c none ρ σ s ρ' σ' s':=fun g=>{
    g with
    fresh:=fun i h1 h2=>by
      cases q:s.heap.get? (_:Addr) with
      | none=>rfl
      | some o =>
        have:=g.fresh i h1 h2
        rw [hk₁ _ _ q] at this
        cases this
    keep:=fun a o e _ hn=>g.keep a o (hk₁ _ _ e) (fun q=>hfree _ _ e (Option.some.inj q).symm) hn
    live:=fun a o e=>g.live a o (hk₁ _ _ e) }
  have hS:=h A s.heap.objs.size outer G
  show wpAny _ (A.deeper (envOf qual scope s.heap.objs.size fa cdv)) (execs body (envOf qual scope s.heap.objs.size fa cdv)) _ _ _
  rw [eA]
  split at hg
  · rename_i a l' σ₁ hf
    cases hg
    refine hS.1 ρ loc σ _ I _ _ _ hf _ _ fun ρ' s' fl g I' rv=>?_
    obtain ⟨v,rfl,rv⟩:=rv
    exact hR ρ' s' v (out g) rv
  · rename_i l' σ₁ hf
    cases hg
    refine hS.1 ρ loc σ _ I _ _ _ hf _ _ fun ρ' s' fl g I' rv=>?_
    cases rv
    exact hR ρ' s' .none (out g) rfl
  · rename_i i l' σ₁ hf
    cases hg
    refine hS.1 ρ loc σ _ I _ _ _ hf _ _ fun ρ' s' g I' F=>?_
    refine tf (fd:=fd) (Around.frames_deeper hA) rfl I'.rel I'.big (I'.stack G) F fun s'' g' F'=>hR ρ' s'' ((out g).trans g') F'
  · cases hg
end
end Lw
end SA8
section SA9
namespace Lw
open PySem PySem.Calls PyProof.Rows PySem.W
noncomputable def kQ (g:Fn) (as:List AV):M AV:=fun l σ=>match g as σ with
  | some (r,σ')=>some (r,l,σ')
  | none=>none
noncomputable def aZ (g:Fn) (f:M (List AV)):M AV:=au f (kQ g)
theorem RoomN.less {A:Around} {b b':Nat} (h:RoomN A b) (hb:b'≤b):RoomN A b':=⟨h.1,by have:=h.2.1; omega,by have:=h.2.2; omega⟩
section
variable {c:Cx} {fd:Fd}
theorem Good.here (G:Good c fd) (hh:fd.hd=none):RoomN fd.A fd.b:=⟨hh,by have:=G.depth; omega,by have:=G.units; omega⟩
theorem Good.in1 (G:Good c fd) (hh:fd.hd=none):RoomN fd.A.in1 fd.b:=⟨hh,by have:=G.depth; show fd.A.depth+_≤_; omega,by have:=G.units; show fd.A.units+1+_≤_; omega⟩
theorem Good.stack (G:Good c fd):fd.A.frames=some (fd.fenv::fd.outer):=Around.frames_deeper (A:=fd.A₀) (env:=fd.fenv) G.frames
theorem ux (G:Good c fd) {A:Around} {b:Nat} (room:RoomN A b) (hA:A.frames=some (fd.fenv::fd.outer)) {f:Value} {g:Fn} (hf:SFn c b f g) {ρ:Nat→Addr} {loc:Loc} {σ:St} {s:Shared} (I:Inv c fd ρ loc σ s) {as:List AV} {vs:List Value} (rvs:VRels σ.next ρ as vs)
    {r:Res AV} {loc':Loc} {σ':St} (hg:kQ g as loc σ=some (r,loc',σ')) {Q:Value→Shared→Prop} {E:Value→Shared→Prop} (hE:Ends c fd VRel ρ σ s r loc' σ' Q E) :
    codeAny (model c.prog c.w) A (.call f ⟨vs,[]⟩) (fun r s'=>match r with | .ok (.ret v)=>Q v s' | .ok _=>False | .error e=>E e s') s:=by
  unfold kQ at hg
  split at hg
  · rename_i r₁ σ₁ e
    cases hg
    refine hf A _ ρ σ s as vs room hA I.rel (I.stack G) I.big rvs _ _ e _ ?_
    cases r with
    | ok a=>exact fun ρ' s' v g' rv=>hE ρ' s' v g'.none (I.step g') rv
    | exc i=>exact fun ρ' s' g' F=>hE ρ' s' g'.none (I.step g') F.some
  · cases hg
theorem jE (G:Good c fd) (hh:fd.hd=none) {b:Nat} (hb:b≤fd.b) {f:Value} {g:Fn} (hf:SFn c b f g) {ρ:Nat→Addr} {loc:Loc} {σ:St} {s:Shared} (I:Inv c fd ρ loc σ s) {as:List AV} {vs:List Value} (rvs:VRels σ.next ρ as vs)
    {r:Res AV} {loc':Loc} {σ':St} (hg:kQ g as loc σ=some (r,loc',σ')) {Q:Value→Shared→Prop} {E:Value→Shared→Prop} (hE:Ends c fd VRel ρ σ s r loc' σ' Q E) :
    wpAny (model c.prog c.w) fd.A (call f vs) Q E s:=wpAny_call (ux G ((G.here hh).less hb) G.stack hf I rvs hg hE)
structure Named (K:Frag) (x:Str) (f:Value):Prop where
  e:nsIn K mainGlobals x=some (some f)
  k:keepIn K f=true
theorem jG (G:Good c fd) {x:Str} {pos:Pos} {v:Value} {s:Shared} {ρ:Nat→Addr} {loc:Loc} {σ:St} (I:Inv c fd ρ loc σ s) (e:nsIn c.K mainGlobals x=some (some v)) (hx:fd.env.kindOf x=some .globalImplicit) (hd:(x==("__debug__" : Str))=false)
    {Q:Value→Shared→Prop} {E:Value→Shared→Prop} (h:Q v s):wpAny (model c.prog c.w) fd.A (eval (.Name x pos) fd.env) Q E s:=by
  obtain ⟨m,F,hm⟩:=I.frame
  exact nameG_K F G.ok.X G.ok.T e h G.glob G.kind hx hd
theorem pc (G:Good c fd) (hh:fd.hd=none) {b:Nat} (hb:b≤fd.b) {x:Str} {f:Value} {g:Fn} (hn:Named c.K x f) (hf:SFn c b f g) {p pos:Pos} (hx:fd.env.kindOf x=some .globalImplicit) (hd:(x==("__debug__" : Str))=false) :
    SE c fd VRel (aZ g aq) (eval (.Call (.Name x p) [] [] pos) fd.env):=by
  refine ⟨fun ρ loc σ s I r loc' σ' hg Q E hE=>?_⟩
  exact wpAny_Call_NameR (jG G I hn.e hx hd (callWith_K0 (G.ok.X.keeps I.rel.keep) hn.k (jE G hh hb hf I .nil hg hE)))
theorem aU (G:Good c fd) (hh:fd.hd=none) {b:Nat} (hb:b≤fd.b) {x:Str} {f:Value} {g:Fn} (hn:Named c.K x f) (hf:SFn c b f g) {fas:M (List AV)} {e:Expr} {rest:List Expr} {p pos:Pos} (hx:fd.env.kindOf x=some .globalImplicit) (hd:(x==("__debug__" : Str))=false)
    (h:SE c fd VRels fas (spliced (backTo pos (starEach (e::rest) fd.env)))) (he:starEach (e::rest) fd.env=(false,eval e fd.env)::starEach rest fd.env) (hp:(backTo pos (starEach rest fd.env)).any (·.1)=false) :
    SE c fd VRel (aZ g fas) (eval (.Call (.Name x p) (e::rest) [] pos) fd.env):=by
  refine ⟨fun ρ loc σ s I r loc' σ' hg Q E hE=>?_⟩
  refine wpAny_Call_NameR (jG G I hn.e hx hd (callWith_K G.ok.X hn.k (h.use I hg hE fun as l₁ σ₁ ρ₁ s₁ vs hg₁ g₁ I₁ rvs hE₁=>?_) he hp))
  exact ⟨G.ok.X.keeps I₁.rel.keep,jE G hh hb hf I₁ rvs hg₁ hE₁⟩
structure MA (K:Frag) (C:Addr) (x:Str) (f:Addr):Prop where
  hg:plainGet K C x=true
  hf:findIn K (.ref C) x=some (some (.ref f))
  ht:isFn K (.ref f)=true
  hk:keepIn K (.ref f)=true
noncomputable def jH (C:Addr) (o:AV):M Unit:=fun l σ=>match o with
  | .ref i=>match σ.get i with
    | some (.inst C' d)=>if C'=C then match σ.get d with
        | some (.sdict _)=>some (.ok (),l,σ)
        | _=>none
      else none
    | _=>none
  | _=>none
noncomputable def bT (C:Addr) (g:Fn) (fo:M AV) (f:M (List AV)):M AV:=au fo fun o=>au (jH C o) fun _=>au f fun as=>kQ g (o::as)
theorem fG {C:Addr} {o:AV} {l:Loc} {σ:St} {r:Res Unit} {l':Loc} {σ':St} (h:jH C o l σ=some (r,l',σ')):∃ i d kvs,o=.ref i∧σ.get i=some (.inst C d)∧σ.get d=some (.sdict kvs)∧r=.ok ()∧l=l'∧σ=σ':=by
  unfold jH at h
  split at h
  · rename_i i
    split at h
    · rename_i C' d e1
      split at h
      · rename_i hC
        subst hC
        split at h
        · rename_i kvs e2; cases h; exact ⟨i,d,kvs,rfl,e1,e2,rfl,rfl,rfl⟩
        · cases h
      · cases h
    · cases h
  · cases h
theorem Bk {n:Nat} {ρ:Nat→Addr} {x:Str} (hx:(List.range nmN).all (fun k=>!(nm k==x))=true) {kvs:List (Nat×AV)} {ps:List (Str×Value)} (h:F2 (fun (a:Nat×AV) (b:Str×Value)=>b.1=nm a.1∧VRel n ρ a.2 b.2) kvs ps) (hb:∀ p∈kvs,p.1<nmN):valueAt ps x=none:=by
  induction h with
  | nil=>rfl
  | @cons p q kvs ps r _ ih =>
    unfold valueAt
    rw [List.find?_cons]
    have h1:=List.all_eq_true.mp hx p.1 (List.mem_range.mpr (hb p List.mem_cons_self))
    have:¬ q.1=x:=fun e=>by rw [r.1] at e; rw [e] at h1; simp at h1
    rw [decide_eq_false this]
    exact ih fun y hy=>hb y (List.mem_cons_of_mem _ hy)
theorem ni {C:Addr} {x:Str} {f:Addr} (G:Good c fd) (P:MA c.K C x f) (hx:(List.range nmN).all (fun k=>!(nm k==x))=true) {ρ:Nat→Addr} {loc:Loc} {σ:St} {s:Shared} (I:Inv c fd ρ loc σ s) {i d:Nat} {kvs:List (Nat×AV)} (e1:σ.get i=some (.inst C d)) (e2:σ.get d=some (.sdict kvs))
    {pl:Sem Bool} {Q:Value×List Value→Shared→Prop} {E:Value→Shared→Prop} (h:Q (.ref f,[.ref (ρ i)]) s):wpAny (model c.prog c.w) fd.A (getMethod (.ref (ρ i)) x pl) Q E s:=by
  obtain ⟨m,F,hm⟩:=I.frame
  obtain ⟨ox,es,n,ps,In,_,_,k1,k2,_,hr,hb⟩:=I.rel.inst e1 e2
  exact method_inst F G.ok.X In P.hg P.hf P.ht (by rw [oR k2 k1,Bk hx hr hb]) h
theorem il (G:Good c fd) (hh:fd.hd=none) {b:Nat} (hb:b≤fd.b) {C:Addr} {x:Str} {f:Addr} {g:Fn} (P:MA c.K C x f) (hx:(List.range nmN).all (fun k=>!(nm k==x))=true) (hf:SFn c b (.ref f) g) {fo:M AV} {o:Expr} {apos pos:Pos} {pl:Sem Bool} (ho:SE c fd VRel fo (eval o fd.env))
    (he:eval (.Call (.Attribute o x apos) [] [] pos) fd.env=(do
      let ov ← eval o fd.env
      standAt apos.atName
      let (f,first) ← holding [ov] (getMethod ov x pl)
      callWith pos f first (backTo pos (starEach [] fd.env)) (backToKw pos (keywordEach [] fd.env)))) :
    SE c fd VRel (bT C g fo aq) (eval (.Call (.Attribute o x apos) [] [] pos) fd.env):=by
  refine ⟨fun ρ loc σ s I r loc' σ' hg Q E hE=>?_⟩
  refine methodCall_KW (ho.use I hg hE fun a l₁ σ₁ ρ₁ s₁ v hg₁ g₁ I₁ rv hE₁=>?_) he
  rcases bX hg₁ with h0q | h0q
  · obtain ⟨_,_,_,e,hg₂⟩:=h0q
    obtain ⟨i,d,kvs,rfl,e1,e2,_,rfl,rfl⟩:=fG e
    obtain ⟨hi,rfl⟩:=rv
    exact ni G P hx I₁ e1 e2 (callWith_K0 (G.ok.X.keeps I₁.rel.keep) P.hk (jE G hh hb hf I₁ (.cons (show VRel σ₁.next ρ₁ (.ref i) _ from ⟨hi,rfl⟩) .nil) hg₂ hE₁))
  · obtain ⟨_,e,_⟩:=h0q
    obtain ⟨_,_,_,_,_,_,z,_⟩:=fG e; cases z
theorem cw (G:Good c fd) (hh:fd.hd=none) {b:Nat} (hb:b≤fd.b) {C:Addr} {x:Str} {f:Addr} {g:Fn} (P:MA c.K C x f) (hx:(List.range nmN).all (fun k=>!(nm k==x))=true) (hf:SFn c b (.ref f) g) {fo:M AV} {fas:M (List AV)} {o e:Expr} {rest:List Expr} {apos pos:Pos} {pl:Sem Bool} (ho:SE c fd VRel fo (eval o fd.env))
    (h:SE c fd VRels fas (spliced (backTo pos (starEach (e::rest) fd.env))))
    (he:eval (.Call (.Attribute o x apos) (e::rest) [] pos) fd.env=(do
      let ov ← eval o fd.env
      standAt apos.atName
      let (f,first) ← holding [ov] (getMethod ov x pl)
      callWith pos f first (backTo pos (starEach (e::rest) fd.env)) (backToKw pos (keywordEach [] fd.env)))) (hes:starEach (e::rest) fd.env=(false,eval e fd.env)::starEach rest fd.env) (hp:(backTo pos (starEach rest fd.env)).any (·.1)=false) :
    SE c fd VRel (bT C g fo fas) (eval (.Call (.Attribute o x apos) (e::rest) [] pos) fd.env):=by
  refine ⟨fun ρ loc σ s I r loc' σ' hg Q E hE=>?_⟩
  refine methodCall_KW (ho.use I hg hE fun a l₁ σ₁ ρ₁ s₁ v hg₁ g₁ I₁ rv hE₁=>?_) he
  rcases bX hg₁ with h0q | h0q
  · obtain ⟨_,_,_,e',hg₂⟩:=h0q
    obtain ⟨i,d,kvs,rfl,e1,e2,_,rfl,rfl⟩:=fG e'
    obtain ⟨hi,rfl⟩:=rv
    refine ni G P hx I₁ e1 e2 (callWith_K G.ok.X P.hk (h.use I₁ hg₂ hE₁ fun as l₂ σ₂ ρ₂ s₂ vs hg₃ g₂ I₂ rvs hE₂=>?_) hes hp)
    exact ⟨G.ok.X.keeps I₂.rel.keep,jE G hh hb hf I₂ (.cons (g₂.up (a:=.ref i) ⟨hi,rfl⟩) rvs) hg₃ hE₂⟩
  · obtain ⟨_,e',_⟩:=h0q
    obtain ⟨_,_,_,_,_,_,z,_⟩:=fG e'; cases z
structure PrA (K:Frag) (C:Addr) (x:Str) (p fget:Addr):Prop where
  hg:plainGet K C x=true
  hh:hasDictIn K C=true
  ha:findIn K (.ref C) x=some (some (.ref p))
  hn:specialIn K (.ref p) "__get__" = some (some (.builtin "property.__get__"))
  ht:takesIn K (.ref p)=some true
  hp:∃ rest,recIn K p "property" = some (.ref fget::rest)
noncomputable def xB (C:Addr) (g:Fn) (o:AV):M AV:=au (jH C o) fun _ l σ=>match g [o] σ with
  | some (.ok a,σ')=>some (.ok a,l,σ')
  | _=>none
noncomputable def pe (C:Addr) (g:Fn) (f:M AV):M AV:=au f (xB C g)
theorem oU (G:Good c fd) (hh:fd.hd=none) {b:Nat} (hb:b≤fd.b) {C:Addr} {x:Str} {p fget:Addr} {g:Fn} (P:PrA c.K C x p fget) (hf:SFn c b (.ref fget) g) {f:M AV} {e:Expr} {pos:Pos} (h:SE c fd VRel f (eval e fd.env))
    (he:eval (.Attribute e x pos) fd.env=(do
      let o ← eval e fd.env
      standAt pos.atName
      let r ← holding [o] (getAttr o x true)
      letTemporaryGo e o r
      pure r)):SE c fd VRel (pe C g f) (eval (.Attribute e x pos) fd.env):=by
  refine ⟨fun ρ loc σ s I r loc' σ' hg Q E hE=>?_⟩
  refine Attribute_any_ (prog:=c.prog) (w:=c.w) (h.use I hg hE fun a l₁ σ₁ ρ₁ s₁ v hg₁ g₁ I₁ rv hE₁=>?_) he
  rcases bX hg₁ with h0q | h0q
  · obtain ⟨_,_,_,e',hg₂⟩:=h0q
    obtain ⟨i,d,kvs,rfl,e1,e2,_,rfl,rfl⟩:=fG e'
    obtain ⟨hi,rfl⟩:=rv
    obtain ⟨m,F,hm⟩:=I₁.frame
    obtain ⟨ox,es,n,ps,In,_,_,k1,k2,_,hr,hb'⟩:=I₁.rel.inst e1 e2
    obtain ⟨rest,hp⟩:=P.hp
    split at hg₂
    · rename_i a σ₂ e₂
      have hE₁:=hE₁.of hg₂
      refine get_prop F G.ok.X In P.hg P.hh P.ha P.hn P.ht hp ?_
      refine hf fd.A.in1 _ ρ₁ σ₁ { s₁ with toks:=s₁.toks+1 } _ _ ((G.in1 hh).less hb) G.stack (dn I₁.rel (s₁.toks+1) (ex:=none)).rel ((I₁.toks (s₁.toks+1)).stack G) I₁.big (.cons (show VRel σ₁.next ρ₁ (.ref i) _ from ⟨hi,rfl⟩) .nil) _ _ e₂ _ fun ρ' s' v g' rv=>?_
      have g'':=(dn I₁.rel (s₁.toks+1) (ex:=none)).trans g'
      show wpAny _ _ (handedOut v) _ _ _
      rw [handedOut_of (nS rv)]
      exact wpAny_pure (Ends.go I₁ hE₁ g'' rv)
    · cases hg₂
  · obtain ⟨_,e',_⟩:=h0q
    obtain ⟨_,_,_,_,_,_,z,_⟩:=fG e'; cases z
noncomputable def cN (C:Addr) (g:Fn):Fn:=fun as σ=>match g (.ref (σ.next+1)::as) ((σ.push (.sdict [])).push (.inst C σ.next)) with
  | some (.ok .none,σ')=>some (.ok (.ref (σ.next+1)),σ')
  | some (.exc i,σ')=>some (.exc i,σ')
  | _=>none
structure ClsK (K:Frag) (C fI:Addr):Prop where
  hm:makesIn K C=true
  hi:findIn K (.ref C) "__init__" = some (some (.ref fI))
  hf:typeIn K (.ref fI)=some (.type "function")
theorem dc (ok:c.Ok) {C fI:Addr} (P:ClsK c.K C fI) {b:Nat} {g:Fn} (hg:SFn c b (.ref fI) g):SFn c (b+1) (.ref C) (cN C g):=by
  intro A outer ρ σ s as vs room hA R S big rvs r σ' hf RR hR
  have X:c.K.In s.heap:=ok.X.keeps R.keep
  have room':RoomN (A.under (.builtin "type.__call__" ⟨.ref C::vs,[]⟩)) b:=by
    refine ⟨room.1,?_,?_⟩
    · rw [depth_under_make]; have:=room.2.1; omega
    · have e:(A.under (.builtin "type.__call__" ⟨.ref C::vs,[]⟩)).units=A.units+(1+3 * (Code.frames (.builtin "type.__call__" ⟨.ref C::vs,[]⟩))):=rfl
      have e2:Code.frames (.builtin "type.__call__" ⟨.ref C::vs,[]⟩)=0:=rfl
      rw [e,e2]; have:=room.2.2; omega
  have hA':(A.under (.builtin "type.__call__" ⟨.ref C::vs,[]⟩)).frames=some outer:=by
    show pushEnvs [] A.frames=_
    rw [pushEnvs_eq,hA]; rfl
  obtain ⟨h,gn,d,t,os⟩:=s
  have hs0:h.objs.size≤h.objs.size:=Nat.le_refl _
  have g1:Go c none ρ σ ⟨h,gn,d,t,os⟩ (ins ρ σ.next h.objs.size) (σ.push (.sdict [])) ⟨h.push emptyDict,gn,d,t,os⟩ :=
    kG (s:=⟨h,gn,d,t,os⟩) R big t rfl ⟨⟨[],jm (es:=[]) (n:=0) (fun e he=>by simp at he) .nil List.nodup_nil,.nil⟩,fun _ hp=>nomatch hp⟩
  have g2:Go c none (ins ρ σ.next h.objs.size) (σ.push (.sdict [])) ⟨h.push emptyDict,gn,d,t,os⟩ (ins (ins ρ σ.next h.objs.size) (σ.next+1) (h.objs.size+1)) ((σ.push (.sdict [])).push (.inst C σ.next)) ⟨(h.push emptyDict).push (instObj C h.objs.size),gn,d,t,os⟩:=by
    have:=kG (s:=⟨h.push emptyDict,gn,d,t,os⟩) (ex:=none) (o:=instObj C h.objs.size) (a:=.inst C σ.next) g1.rel (by show _≤(h.push emptyDict).objs.size; rw [Heap.size_push]; exact Nat.le_succ_of_le big) t rfl
      ⟨rfl,by show some _=some _; rw [cr (show σ.next<(σ.push (.sdict [])).next from Nat.lt_succ_self _),bK],Nat.lt_succ_of_lt (Nat.lt_succ_self _),rfl⟩
    rw [show (⟨h.push emptyDict,gn,d,t,os⟩:Shared).heap.objs.size=h.objs.size+1 from Heap.size_push ..] at this
    exact this
  have g3:=g1.trans g2
  refine make_core (makes_of X P.hm) (looks_findIn X P.hi) (fun self=>bind_fn X self P.hf) (.inl rfl) ?_
  have hx:ins (ins ρ σ.next h.objs.size) (σ.next+1) (h.objs.size+1) (σ.next+1)=h.objs.size+1:=bK ..
  have rself:VRel (σ.next+2) (ins (ins ρ σ.next h.objs.size) (σ.next+1) (h.objs.size+1)) (.ref (σ.next+1)) (.ref (h.objs.size+1)):=⟨Nat.lt_succ_self _,by rw [hx]⟩
  unfold cN at hf
  have big':c.base.objs.size≤((h.push emptyDict).push (instObj C h.objs.size)).objs.size:=by rw [Heap.size_push,Heap.size_push]; exact Nat.le_succ_of_le (Nat.le_succ_of_le big)
  have S':=S.step g3 (by simp)
  split at hf
  · rename_i σ₁ e
    cases hf
    refine hg _ _ _ _ _ _ _ room' hA' g3.rel S' big' (.cons rself (g3.ups rvs)) _ _ e _ fun ρ' s' v g' rv=>?_
    cases rv
    refine ⟨rfl,hR ρ' s' _ (g3.trans g') ?_⟩
    exact g'.up rself
  · rename_i i σ₁ e
    cases hf
    refine hg _ _ _ _ _ _ _ room' hA' g3.rel S' big' (.cons rself (g3.ups rvs)) _ _ e _ fun ρ' s' g' F=>?_
    exact hR ρ' s' (g3.trans g') F
  · cases hf
end
end Lw
end SA9
section SA10
namespace Lw
open PySem PySem.Calls PyProof.Rows PySem.W
structure BN (K:Frag) (x:Str) (v:Value):Prop where
  e:nsIn K mainGlobals x=some none
  hv:bootBuiltins x=some v
  hn:x ≠ "__name__"
section
variable {c:Cx} {fd:Fd}
theorem eI (G:Good c fd) {x:Str} {pos:Pos} {v:Value} {s:Shared} {ρ:Nat→Addr} {loc:Loc} {σ:St} (I:Inv c fd ρ loc σ s) (B:BN c.K x v) (hx:fd.env.kindOf x=some .globalImplicit) (hd:(x==("__debug__" : Str))=false)
    {Q:Value→Shared→Prop} {E:Value→Shared→Prop} (h:Q v s):wpAny (model c.prog c.w) fd.A (eval (.Name x pos) fd.env) Q E s:=by
  refine Name_function_global G.kind hx (loadGlobal_builtin (env:=fd.env) (mg:=c.mg) (mb:=c.mb) (by rw [G.glob]; exact G.ok.T.g.keeps I.rel.keep) (mg_none_of G.ok.X G.ok.T.g B.e) (by rw [G.blt]; exact G.ok.T.b.keeps I.rel.keep) ((G.ok.T.builtins x B.hn).trans B.hv) h) hd
noncomputable def Val (c:Cx) (fd:Fd) (t:List Value→Sem Value) (val:List AV→M AV):Prop :=
  ∀ ρ loc σ s,Inv c fd ρ loc σ s→∀ as vs,VRels σ.next ρ as vs→∀ r loc' σ',val as loc σ=some (r,loc',σ')→∀ Q E,Ends c fd VRel ρ σ s r loc' σ' Q E→wpAny (model c.prog c.w) fd.A (t vs) Q E s
theorem fX (G:Good c fd) {x:Str} {id:String} (B:BN c.K x (.builtin id)) {val:List AV→M AV} (hv:Val c fd (fun vs=>call (.builtin id) vs) val) {fas:M (List AV)} {e:Expr} {rest:List Expr} {p pos:Pos} (hx:fd.env.kindOf x=some .globalImplicit) (hd:(x==("__debug__" : Str))=false)
    (h:SE c fd VRels fas (spliced (backTo pos (starEach (e::rest) fd.env)))) (he:starEach (e::rest) fd.env=(false,eval e fd.env)::starEach rest fd.env) (hp:(backTo pos (starEach rest fd.env)).any (·.1)=false) :
    SE c fd VRel (au fas val) (eval (.Call (.Name x p) (e::rest) [] pos) fd.env):=by
  refine ⟨fun ρ loc σ s I r loc' σ' hg Q E hE=>?_⟩
  refine wpAny_Call_NameR (eI G I B hx hd (PyProof.Rows.callWith_builtin1 (h.use I hg hE fun as l₁ σ₁ ρ₁ s₁ vs hg₁ g₁ I₁ rvs hE₁=>?_) he hp))
  exact hv _ _ _ _ I₁ _ _ rvs _ _ _ hg₁ _ _ hE₁
theorem iJ (G:Good c fd) {x:Str} {T:String} (B:BN c.K x (.type T)) {val:List AV→M AV} (hv:Val c fd (fun vs=>call (.type T) vs) val) {fas:M (List AV)} {e:Expr} {rest:List Expr} {p pos:Pos} (hx:fd.env.kindOf x=some .globalImplicit) (hd:(x==("__debug__" : Str))=false)
    (h:SE c fd VRels fas (spliced (backTo pos (starEach (e::rest) fd.env)))) (he:starEach (e::rest) fd.env=(false,eval e fd.env)::starEach rest fd.env) (hp:(backTo pos (starEach rest fd.env)).any (·.1)=false) :
    SE c fd VRel (au fas val) (eval (.Call (.Name x p) (e::rest) [] pos) fd.env):=by
  refine ⟨fun ρ loc σ s I r loc' σ' hg Q E hE=>?_⟩
  refine wpAny_Call_NameR (eI G I B hx hd (PyProof.Rows.callWith_type1 (h.use I hg hE fun as l₁ σ₁ ρ₁ s₁ vs hg₁ g₁ I₁ rvs hE₁=>?_) he hp))
  exact hv _ _ _ _ I₁ _ _ rvs _ _ _ hg₁ _ _ hE₁
noncomputable def em:List AV→M AV:=fun as l σ=>match as with
  | [.ref i]=>match σ.get i with
    | some (.list xs)=>if xs.length<2 ^ 24 then some (.ok (.int xs.length),l,σ) else none
    | _=>none
  | _=>none
theorem gD:Val c fd (fun vs=>call (.builtin "len") vs) em:=by
  intro ρ loc σ s I as vs rvs r loc' σ' hf Q E hE
  unfold em at hf
  split at hf
  · split at hf
    · rename_i xs e1
      split at hf
      · rename_i hz
        have hE:=hE.of hf
        cases rvs with
        | cons rv rr =>
        cases rr
        obtain ⟨hi,rfl⟩:=rv
        obtain ⟨_,ws,k,h1,r1⟩:=I.rel.list e1
        refine call_len_list (bC h1) (by simp; rw [← r1.length]; omega) (hE ρ _ _ (dn I.rel _) (I.toks _) ⟨s.toks+1,by rw [List.size_toArray,r1.length]⟩)
      · cases hf
    · cases hf
  · cases hf
noncomputable def fc {κ:Type} (f:κ→AV) (kvs:List (κ×AV)):List AV:=kvs.map fun p=>f p.1
noncomputable def du:List AV→M AV:=fun as l σ=>match as with
  | [.ref i]=>match σ.get i with
    | some (.list xs)=>if xs.length<2 ^ 24 then some (.ok (.ref σ.next),l,σ.push (.list xs)) else none
    | some (.idict kvs)=>if kvs.length<2 ^ 24 then some (.ok (.ref σ.next),l,σ.push (.list (fc .int kvs))) else none
    | _=>none
  | _=>none
theorem pf:sizeLine=16777216:=sizeLine_eq
theorem io (G:Good c fd) (hh:fd.hd=none):Val c fd (fun vs=>call (.type "list") vs) du:=by
  intro ρ loc σ s I as vs rvs r loc' σ' hf Q E hE
  unfold du at hf
  split at hf
  · split at hf
    · rename_i xs e1
      split at hf
      · rename_i hz
        have hE:=hE.of hf
        cases rvs with
        | cons rv rr =>
        cases rr
        obtain ⟨hi,rfl⟩:=rv
        obtain ⟨_,ws,k,h1,r1⟩:=I.rel.list e1
        refine call_list_seq (hsz:=by rw [List.size_toArray,← r1.length,pf]; omega) _ (.inl rfl) h1 rfl rfl fun h' c' hk hD=>?_
        exact Ends.go I hE (lJ (x:=s.heap.objs.size) (a:=.list xs) I.rel s.toks (get?_size _) I.big hk hD ⟨ws,c',rfl,VRels.ins r1⟩) VRel.new
      · cases hf
    · rename_i kvs e1
      split at hf
      · rename_i hz
        have hE:=hE.of hf
        cases rvs with
        | cons rv rr =>
        cases rr
        obtain ⟨hi,rfl⟩:=rv
        obtain ⟨_,o,ho,ps,h1,h2⟩:=I.rel.at e1
        have hD:=Heap.dictOf_iff.mpr ⟨o,ho,h1⟩
        obtain ⟨ep,hat⟩:=hD.dictAt
        refine kdl_call (kdl_dict (knd:=intKind c.prog c.w) (kvs:=ps) (ep:=ep) (nU G.ok I.rel hi)) hh hat (by rw [← h2.length,pf]; omega) fun h' tk acc' c' hk hDn hacc=>?_
        refine Ends.go I hE (lJ (x:=s.heap.objs.size) (a:=.list (fc .int kvs)) I.rel tk (get?_size _) I.big hk hDn ⟨acc'.toList,c',by rw [Array.toArray_toList],VRels.ins ?_⟩) VRel.new
        obtain ⟨q1,q2⟩:=hacc
        have q3:acc'.toList.length=kvs.length:=by rw [Array.length_toList,q1,← h2.length]
        have key:∀ (kvs:List (Int×AV)) (ps:List (Int×Value)) (vs:List Value),F2 (fun (a:Int×AV) (b:Int×Value)=>b.1=id a.1∧VRel σ.next ρ a.2 b.2) kvs ps→vs.length=kvs.length →
            (∀ (j:Nat) (v:Value),vs[j]?=some v→∃ k x,ps[j]?=some (k,x)∧(intKind c.prog c.w).is k v=true)→VRels σ.next ρ (fc .int kvs) vs:=by
          intro kvs ps vs h
          induction h generalizing vs with
          | nil =>
            intro hl _
            cases vs with
            | nil=>exact .nil
            | cons _ _=>cases hl
          | @cons p q kvs ps r _ ih =>
            intro hl hv
            cases vs with
            | nil=>cases hl
            | cons v vs =>
              refine .cons ?_ (ih vs (Nat.succ.inj hl) fun j u hu=>hv (j+1) u hu)
              obtain ⟨k,x,e,hk⟩:=hv 0 v rfl
              cases e
              have:k=p.1:=r.1
              subst this
              obtain ⟨t,rfl⟩:=Value.isInt_shape hk
              exact ⟨t,rfl⟩
        exact key kvs ps acc'.toList h2 q3 fun j v e=>q2 j v (by rw [← Array.getElem?_toList]; exact e)
      · cases hf
    · cases hf
  · cases hf
noncomputable def mh:List AV→M AV:=fun as l σ=>match as with
  | [.ref i]=>match σ.get i with
    | some (.bdict kvs)=>if kvs.length<1000 then some (.ok (.ref σ.next),l,σ.push (.bdict kvs)) else none
    | _=>none
  | _=>none
theorem xC (G:Good c fd):Val c fd (fun vs=>call (.type "dict") vs) mh:=by
  intro ρ loc σ s I as vs rvs r loc' σ' hf Q E hE
  unfold mh at hf
  split at hf
  · split at hf
    · rename_i kvs e1
      split at hf
      · rename_i hz
        have hE:=hE.of hf
        cases rvs with
        | cons rv rr =>
        cases rr
        obtain ⟨hi,rfl⟩:=rv
        obtain ⟨_,o,ho,⟨ps,h1,h2⟩,hP⟩:=I.rel.at e1
        refine PySem.kt_call_dict (nU G.ok I.rel hi) (Heap.dictOf_iff.mpr ⟨o,ho,h1⟩) (by rw [← h2.length,pf]; omega) fun h' hD hs=>?_
        obtain ⟨o',ho',hd'⟩:=Heap.dictOf_iff.mp hD
        refine Ends.go I hE (lJ (x:=s.heap.objs.size) (a:=.bdict kvs) I.rel s.toks (get?_size _) I.big (fun b o e=>hs.extBut b o (Nat.ne_of_lt (Heap.lt_size e)) (Heap.get?_push_of_some _ e)) ho' ⟨⟨ps,hd',h2.mono fun _ _ r=>⟨r.1,r.2.up (Nat.le_succ _) fun _ hi=>cr hi⟩⟩,hP⟩) VRel.new
      · cases hf
    · cases hf
  · cases hf
noncomputable def zn:List AV→M AV:=fun as l σ=>match as with
  | [.bool b]=>some (.ok (.int (if b then 1 else 0)),l,σ)
  | _=>none
theorem Ci:Val c fd (fun vs=>call (.type "int") vs) zn:=by
  intro ρ loc σ s I as vs rvs r loc' σ' hf Q E hE
  unfold zn at hf
  split at hf
  · have hE:=hE.of hf
    cases rvs with
    | cons rv rr =>
    cases rr
    cases rv
    exact call_int_bool (hE ρ _ _ (dn I.rel _) (I.toks _) ⟨_,rfl⟩)
  · cases hf
end
end Lw
end SA10
section SA11
namespace Lw
open PySem PySem.Calls PyProof.Rows PySem.W
section
variable {c:Cx} {fd:Fd}
inductive MK where
  | list | dict
noncomputable def MK.type:MK→String
  | .list => "list"
  | .dict => "dict"
noncomputable def xD (k:MK) (o:AV):M Unit:=fun l σ=>match o with
  | .ref i=>match k,σ.get i with
    | .list,some (.list _)=>some (.ok (),l,σ)
    | .dict,some (.idict _)=>some (.ok (),l,σ)
    | _,_=>none
  | _=>none
theorem lM {k:MK} {o:AV} {l:Loc} {σ:St} {r:Res Unit} {l':Loc} {σ':St} (h:xD k o l σ=some (r,l',σ')) :
    ∃ i,o=.ref i∧r=.ok ()∧l=l'∧σ=σ'∧((k=.list∧∃ xs,σ.get i=some (.list xs))∨(k=.dict∧∃ xs,σ.get i=some (.idict xs))):=by
  unfold xD at h
  split at h
  · split at h
    · rename_i xs e; cases h; exact ⟨_,rfl,rfl,rfl,rfl,.inl ⟨rfl,_,e⟩⟩
    · rename_i xs e; cases h; exact ⟨_,rfl,rfl,rfl,rfl,.inr ⟨rfl,_,e⟩⟩
    · cases h
  · cases h
noncomputable def bmE (k:MK) (val:List AV→M AV) (fo:M AV) (fas:M (List AV)):M AV:=au fo fun o=>au (xD k o) fun _=>au fas fun as=>val (o::as)
structure BM (k:MK) (x:Str) (id:String):Prop where
  pa:PlainAttrs k.type
  slot:Slot k.type x id
  hty:typeOf (.builtin id)=pure (.type "method_descriptor")
theorem xE {k:MK} {x:Str} {id:String} (B:BM k x id) {val:List AV→M AV} (hv:Val c fd (fun vs=>call (.builtin id) vs) val) {fo:M AV} {o:Expr} {apos pos:Pos} {pl:Sem Bool} (ho:SE c fd VRel fo (eval o fd.env))
    (he:eval (.Call (.Attribute o x apos) [] [] pos) fd.env=(do
      let ov ← eval o fd.env
      standAt apos.atName
      let (f,first) ← holding [ov] (getMethod ov x pl)
      callWith pos f first (backTo pos (starEach [] fd.env)) (backToKw pos (keywordEach [] fd.env)))) :
    SE c fd VRel (bmE k val fo aq) (eval (.Call (.Attribute o x apos) [] [] pos) fd.env):=by
  refine ⟨fun ρ loc σ s I r loc' σ' hg Q E hE=>?_⟩
  refine methodCall_KW (ho.use I hg hE fun a l₁ σ₁ ρ₁ s₁ v hg₁ g₁ I₁ rv hE₁=>?_) he
  rcases bX hg₁ with h0q | h0q
  · obtain ⟨_,_,_,e',hg₂⟩:=h0q
    obtain ⟨i,rfl,_,rfl,rfl,hk⟩:=lM e'
    obtain ⟨hi,rfl⟩:=rv
    have fin:wpAny (model c.prog c.w) fd.A (callWith pos (.builtin id) [.ref (ρ₁ i)] (backTo pos (starEach [] fd.env)) []) Q E s₁ :=
      PyProof.Rows.callWith_method0 (hv _ _ _ _ I₁ _ _ (.cons (show VRel σ₁.next ρ₁ (.ref i) _ from ⟨hi,rfl⟩) .nil) _ _ _ hg₂ _ _ hE₁)
    rcases hk with h0q | h0q
    · obtain ⟨rfl,xs,e⟩:=h0q
      obtain ⟨_,ws,n,h1,_⟩:=I₁.rel.list e
      exact getMethod_builtin (T := "list") ⟨_,h1,rfl⟩ B.pa B.slot B.hty (fun a q=>by cases q; exact ⟨_,h1,rfl⟩) fin
    · obtain ⟨rfl,xs,e⟩:=h0q
      obtain ⟨_,oo,h1,ps,h2,_⟩:=I₁.rel.at e
      have hD:=Heap.dictOf_iff.mpr ⟨oo,h1,h2⟩
      exact getMethod_builtin (T := "dict") hD.typeIs B.pa B.slot B.hty hD.mapOf.noDict fin
  · obtain ⟨_,e',_⟩:=h0q
    obtain ⟨_,_,z,_⟩:=lM e'; cases z
theorem jn {k:MK} {x:Str} {id:String} (B:BM k x id) {val:List AV→M AV} (hv:Val c fd (fun vs=>call (.builtin id) vs) val) {fo:M AV} {fas:M (List AV)} {o e:Expr} {rest:List Expr} {apos pos:Pos} {pl:Sem Bool} (ho:SE c fd VRel fo (eval o fd.env))
    (h:SE c fd VRels fas (spliced (backTo pos (starEach (e::rest) fd.env))))
    (he:eval (.Call (.Attribute o x apos) (e::rest) [] pos) fd.env=(do
      let ov ← eval o fd.env
      standAt apos.atName
      let (f,first) ← holding [ov] (getMethod ov x pl)
      callWith pos f first (backTo pos (starEach (e::rest) fd.env)) (backToKw pos (keywordEach [] fd.env)))) (hes:starEach (e::rest) fd.env=(false,eval e fd.env)::starEach rest fd.env) (hp:(backTo pos (starEach rest fd.env)).any (·.1)=false) :
    SE c fd VRel (bmE k val fo fas) (eval (.Call (.Attribute o x apos) (e::rest) [] pos) fd.env):=by
  refine ⟨fun ρ loc σ s I r loc' σ' hg Q E hE=>?_⟩
  refine methodCall_KW (ho.use I hg hE fun a l₁ σ₁ ρ₁ s₁ v hg₁ g₁ I₁ rv hE₁=>?_) he
  rcases bX hg₁ with h0q | h0q
  · obtain ⟨_,_,_,e',hg₂⟩:=h0q
    obtain ⟨i,rfl,_,rfl,rfl,hk⟩:=lM e'
    obtain ⟨hi,rfl⟩:=rv
    have fin:wpAny (model c.prog c.w) fd.A (callWith pos (.builtin id) [.ref (ρ₁ i)] (backTo pos (starEach (e::rest) fd.env)) []) Q E s₁ :=
      PyProof.Rows.callWith_method1 (h.use I₁ hg₂ hE₁ fun as l₂ σ₂ ρ₂ s₂ vs hg₃ g₂ I₂ rvs hE₂=>hv _ _ _ _ I₂ _ _ (.cons (g₂.up (a:=.ref i) ⟨hi,rfl⟩) rvs) _ _ _ hg₃ _ _ hE₂) hes hp
    rcases hk with h0q | h0q
    · obtain ⟨rfl,xs,e⟩:=h0q
      obtain ⟨_,ws,n,h1,_⟩:=I₁.rel.list e
      exact getMethod_builtin (T := "list") ⟨_,h1,rfl⟩ B.pa B.slot B.hty (fun a q=>by cases q; exact ⟨_,h1,rfl⟩) fin
    · obtain ⟨rfl,xs,e⟩:=h0q
      obtain ⟨_,oo,h1,ps,h2,_⟩:=I₁.rel.at e
      have hD:=Heap.dictOf_iff.mpr ⟨oo,h1,h2⟩
      exact getMethod_builtin (T := "dict") hD.typeIs B.pa B.slot B.hty hD.mapOf.noDict fin
  · obtain ⟨_,e',_⟩:=h0q
    obtain ⟨_,_,z,_⟩:=lM e'; cases z
theorem eV:BM .list "append" "list.append" := ⟨PySem.F.plainAttrs_list,slot_list_append,type_list_append⟩
theorem wq:BM .list "extend" "list.extend" := ⟨PySem.F.plainAttrs_list,PySem.F.slot_list_extend,PySem.F.type_list_extend⟩
theorem xF:BM .list "pop" "list.pop" := ⟨PySem.F.plainAttrs_list,PySem.F.slot_list_pop,PySem.F.type_list_pop⟩
theorem xG:BM .dict "get" "dict.get" := ⟨PySem.F.plainAttrs_dict,PySem.F.slot_dict_get,PySem.F.type_dict_get⟩
theorem zo:BM .dict "pop" "dict.pop" := ⟨PySem.F.plainAttrs_dict,PySem.F.slot_dict_pop,PySem.F.type_dict_pop⟩
noncomputable def bI:List AV→M AV:=fun as l σ=>match as with
  | [.ref i,a]=>match σ.get i with
    | some (.list xs)=>if xs.length<2000 then some (.ok .none,l,σ.set i (.list (xs++[a]))) else none
    | _=>none
  | _=>none
theorem fq:Val c fd (fun vs=>call (.builtin "list.append") vs) bI:=by
  intro ρ loc σ s I as vs rvs r loc' σ' hf Q E hE
  unfold bI at hf
  split at hf
  · split at hf
    · rename_i xs e1
      split at hf
      · rename_i hz
        have hE:=hE.of hf
        cases rvs with
        | cons rv rr =>
        cases rr with
        | cons ra rr =>
        cases rr
        obtain ⟨hi,rfl⟩:=rv
        obtain ⟨_,ws,k,h1,r1⟩:=I.rel.list e1
        refine append_at (hsz:=by rw [List.size_toArray,← r1.length,pf]; omega) h1 fun h' hs ho=>?_
        exact Ends.go I hE (eT I.rel s.toks hi hs ho ⟨ws++[_],k+1,by simp,r1.snoc ra⟩) rfl
      · cases hf
    · cases hf
  · cases hf
noncomputable def lN:List AV→M AV:=fun as l σ=>match as with
  | [.ref i,.ref j]=>match σ.get i,σ.get j with
    | some (.list xs),some (.tup ys)=>if xs.length<1000∧ys.length<1000 then some (.ok .none,l,σ.set i (.list (xs++ys))) else none
    | _,_=>none
  | _=>none
theorem xH:Val c fd (fun vs=>call (.builtin "list.extend") vs) lN:=by
  intro ρ loc σ s I as vs rvs r loc' σ' hf Q E hE
  unfold lN at hf
  split at hf
  · split at hf
    · rename_i xs ys e1 e2
      split at hf
      · rename_i hz
        have hE:=hE.of hf
        cases rvs with
        | cons rv rr =>
        cases rr with
        | cons ra rr =>
        cases rr
        obtain ⟨hi,rfl⟩:=rv
        obtain ⟨hj,rfl⟩:=ra
        obtain ⟨_,ws,k,h1,r1⟩:=I.rel.list e1
        obtain ⟨_,us,k',h2,r2⟩:=I.rel.tup e2
        have s1:ws.toArray.size=xs.length:=by rw [List.size_toArray,r1.length]
        have s2:us.toArray.size=ys.length:=by rw [List.size_toArray,r2.length]
        refine call_meets PySem.F.slot_list_extend ⟨_,h1,rfl⟩ PySem.F.entry_list_extend (PySem.F.args_list_extend_2 _ _) (PySem.AutoSeq1.list_extend_list_tuple_0 _ ws.toArray k _ us.toArray k' ?_ (by rw [s1,pf]; omega) (by rw [s1,s2,pf]; omega)) ⟨h1,h2,?_⟩
        · rw [s1,s2]
          simp only [Builtin.List.listTooLong,Bool.and_eq_true,decide_eq_true_eq,not_and]
          intro _
          have:=pf
          simp
          omega
        · have hU:=PySem.IsL.update (show PySem.IsL s.heap (ρ _) ws.toArray k from h1) (fun x=>x++us.toArray)
          show Q .none _
          exact Ends.go I hE (eT (a:=.list (xs++ys)) I.rel s.toks hi (Heap.SameBut.update ..) hU ⟨ws++us,_,by rw [List.append_toArray],r1.append r2⟩) rfl
      · cases hf
    · cases hf
  · cases hf
theorem F2.dropLast {α β:Type} {R:α→β→Prop} {as:List α} {bs:List β} (h:F2 R as bs):F2 R as.dropLast bs.dropLast:=by
  rw [List.dropLast_eq_take,List.dropLast_eq_take,h.length]
  exact h.take _
noncomputable def pg:List AV→M AV:=fun as l σ=>match as with
  | [.ref i]=>match σ.get i with
    | some (.list xs)=>if xs.length<2000 then match xs.getLast? with
        | some y=>some (.ok y,l,σ.set i (.list xs.dropLast))
        | none=>none
      else none
    | _=>none
  | _=>none
theorem AG:Val c fd (fun vs=>call (.builtin "list.pop") vs) pg:=by
  intro ρ loc σ s I as vs rvs r loc' σ' hf Q E hE
  unfold pg at hf
  split at hf
  · split at hf
    · rename_i xs e1
      split at hf
      · rename_i hz
        split at hf
        · rename_i y ey
          have hE:=hE.of hf
          cases rvs with
          | cons rv rr =>
          cases rr
          obtain ⟨hi,rfl⟩:=rv
          obtain ⟨_,ws,k,h1,r1⟩:=I.rel.list e1
          rw [List.getLast?_eq_getElem?] at ey
          obtain ⟨v,hv,rv⟩:=r1.get ey
          have hl:=r1.length
          refine call_meets PySem.F.slot_list_pop ⟨_,h1,rfl⟩ PySem.F.entry_list_pop (PySem.F.args_list_pop_1 _) (PySem.MeetsSeq.list_pop_last _ ws.toArray k v (by rw [List.size_toArray,← hl]; simpa using hv) (by rw [List.size_toArray,← hl,pf]; omega)) ⟨h1,?_⟩
          have hU:=PySem.IsL.update (show PySem.IsL s.heap (ρ _) ws.toArray k from h1) (fun xs=>xs.eraseIdxIfInBounds (ws.toArray.size - 1))
          have e3:(ws.toArray.eraseIdxIfInBounds (ws.toArray.size - 1))=ws.dropLast.toArray:=by
            apply Array.ext'
            rw [List.dropLast_eq_take]
            rw [List.size_toArray]
            have:ws.length - 1<ws.length:=hl▸(List.getElem?_eq_some_iff.mp hv).1
            simp only [Array.eraseIdxIfInBounds,List.size_toArray,this,dite_true,Array.toList_eraseIdx]
            rw [List.eraseIdx_eq_take_drop_succ,List.drop_eq_nil_of_le (Nat.le_add_of_sub_le (Nat.le_refl _)),List.append_nil]
          show Q v _
          exact Ends.go I hE (eT (a:=.list xs.dropLast) I.rel s.toks hi (Heap.SameBut.update ..) hU ⟨ws.dropLast,_,by rw [e3],r1.dropLast⟩) rv
        · cases hf
      · cases hf
    · cases hf
  · cases hf
noncomputable def wr:List AV→M AV:=fun as l σ=>match as with
  | [.ref i,.int k,d]=>match σ.get i with
    | some (.idict kvs)=>some (.ok ((look kvs k).getD d),l,σ)
    | _=>none
  | _=>none
theorem AH (G:Good c fd):Val c fd (fun vs=>call (.builtin "dict.get") vs) wr:=by
  intro ρ loc σ s I as vs rvs r loc' σ' hf Q E hE
  unfold wr at hf
  split at hf
  · split at hf
    · rename_i kvs e1
      have hE:=hE.of hf
      cases rvs with
      | cons rv rr =>
      cases rr with
      | cons ra rr =>
      cases rr with
      | cons rd rr =>
      cases rr
      obtain ⟨hi,rfl⟩:=rv
      obtain ⟨t,rfl⟩:=ra
      obtain ⟨_,o,ho,ps,h1,h2⟩:=I.rel.at e1
      have hD:=Heap.dictOf_iff.mpr ⟨o,ho,h1⟩
      have hl:=kH (P:=fun _:Int=>True) (dec:=id) (fun _ _ _ _ h=>h) h2 (fun _ _=>trivial) (k:=‹Int›) trivial
      simp only [id] at hl
      refine call_meetsIn PySem.F.slot_dict_get hD.typeIs PySem.F.entry_dict_get (PySem.F.args_dict_get_3 _ _ _) (meets_dict_get_default (intKind c.prog c.w) _ (intKind_is _ _ _ _) (nU G.ok I.rel hi) _) ⟨_,hD.mapOf,?_⟩
      refine hE ρ _ _ (dn I.rel _) (I.toks _) ?_
      cases q:look kvs _ with
      | none=>rw [hl.2 q]; exact rd
      | some a =>
        obtain ⟨v,hv,rv⟩:=hl.1 a q
        rw [hv]
        exact rv
    · cases hf
  · cases hf
noncomputable def oF {κ:Type} [DecidableEq κ] (kvs:List (κ×AV)) (k:κ):List (κ×AV):=kvs.filter fun p=>decide (p.1≠k)
noncomputable def qY:List AV→M AV:=fun as l σ=>match as with
  | [.ref i,.int k]=>match σ.get i with
    | some (.idict kvs)=>if kvs.length<2000 then match look kvs k with
        | some v=>some (.ok v,l,σ.set i (.idict (oF kvs k)))
        | none=>none
      else none
    | _=>none
  | _=>none
theorem xI {n:Nat} {ρ:Nat→Addr} {kvs:List (Int×AV)} {ps:List (Int×Value)} (h:F2 (fun (a:Int×AV) (b:Int×Value)=>b.1=id a.1∧VRel n ρ a.2 b.2) kvs ps) (k:Int) :
    F2 (fun (a:Int×AV) (b:Int×Value)=>b.1=id a.1∧VRel n ρ a.2 b.2) (oF kvs k) (without ps k):=by
  induction h with
  | nil=>exact .nil
  | @cons p q kvs ps r _ ih =>
    unfold oF without at *
    have e:q.1=p.1:=r.1
    rw [List.filter_cons,List.filter_cons,e]
    split
    · exact .cons r ih
    · exact ih
theorem Bl:Val c fd (fun vs=>call (.builtin "dict.pop") vs) qY:=by
  intro ρ loc σ s I as vs rvs r loc' σ' hf Q E hE
  unfold qY at hf
  split at hf
  · split at hf
    · rename_i kvs e1
      split at hf
      · rename_i hz
        split at hf
        · rename_i b eb
          have hE:=hE.of hf
          cases rvs with
          | cons rv rr =>
          cases rr with
          | cons ra rr =>
          cases rr
          obtain ⟨hi,rfl⟩:=rv
          obtain ⟨t,rfl⟩:=ra
          obtain ⟨_,o,ho,ps,h1,h2⟩:=I.rel.at e1
          have hD:=Heap.dictOf_iff.mpr ⟨o,ho,h1⟩
          obtain ⟨v,hv,rv⟩:=(kH (P:=fun _:Int=>True) (dec:=id) (fun _ _ _ _ h=>h) h2 (fun _ _=>trivial) trivial).1 b eb
          refine call_meetsIn PySem.F.slot_dict_pop hD.typeIs PySem.F.entry_dict_pop (PySem.F.args_dict_pop_2 _ _) (meets_dict_pop_there (intKind c.prog c.w) _ (intKind_is _ _ _ _) [] (.inl rfl) rfl) ⟨ps,v,hD,by rw [← h2.length,pf]; omega,hv,fun h' hm hs=>?_⟩
          obtain ⟨o',ho',hd'⟩:=Heap.dictOf_iff.mp hm
          show Q v _
          exact Ends.go I hE (eT (a:=.idict (oF kvs _)) I.rel (s.toks+1) hi hs ho' ⟨_,hd',xI h2 _⟩) rv
        · cases hf
      · cases hf
    · cases hf
  · cases hf
end
end Lw
end SA11
section SA12
namespace Lw
open PySem PySem.Calls PyProof.Rows PySem.W
structure NT (K:Frag) (C:Addr):Prop where
  e:kin_notT K C "tuple" = true
  hg:plainGet K C "__class__" = true
  hd:hasDictIn K C=true
  ha:findIn K (.ref C) "__class__" = some (some (.builtin "object.__class__"))
  hn:specialIn K (.builtin "object.__class__") "__get__" = some (some (.builtin "getset_descriptor.__get__"))
  ht:takesIn K (.builtin "object.__class__")=some true
  hm:mroIn K C (.type "object")=some true
noncomputable def xJ (cs:Cls) (T:String) (a:AV):M AV:=fun l σ=>match a with
  | .ref i=>match σ.get i with
    | some (.tup _)=>if T = "tuple" then some (.ok (.bool true),l,σ) else none
    | some (.list _)=>if T = "int" then some (.ok (.bool false),l,σ) else none
    | some (.inst C d)=>if T = "tuple" ∧ cs.contains C=true then match σ.get d with
        | some (.sdict _)=>some (.ok (.bool false),l,σ)
        | _=>none
      else none
    | _=>none
  | .int _=>if T = "int" then some (.ok (.bool true),l,σ) else none
  | _=>none
section
variable {c:Cx} {fd:Fd}
theorem wt (G:Good c fd) {cs:Cls} (hc:∀ C∈cs,NT c.K C) {T:String} {ρ:Nat→Addr} {loc:Loc} {σ:St} {s:Shared} (I:Inv c fd ρ loc σ s) {a:AV} {v:Value} (rv:VRel σ.next ρ a v) {r:Res AV} {loc':Loc} {σ':St} (hf:xJ cs T a loc σ=some (r,loc',σ'))
    {Q:Value→Shared→Prop} {E:Value→Shared→Prop} (hE:Ends c fd VRel ρ σ s r loc' σ' Q E):wpAny (model c.prog c.w) fd.A (call (.builtin "isinstance") [v,.type T]) Q E s:=by
  unfold xJ at hf
  split at hf
  · obtain ⟨hi,rfl⟩:=rv
    split at hf
    · rename_i xs e1
      split at hf
      · rename_i hT; subst hT
        have hE:=hE.of hf
        obtain ⟨_,ws,k,h1,_⟩:=I.rel.tup e1
        exact call_isinstance_yes (Tx := "tuple") ⟨_,h1,rfl⟩ (by first | exact kitMeta_of (by decide +kernel)) (by rw [isSubtype_type]; kernel_rfl) (hE ρ _ _ (.refl I.rel) I rfl)
      · cases hf
    · rename_i xs e1
      split at hf
      · rename_i hT; subst hT
        have hE:=hE.of hf
        obtain ⟨_,ws,k,h1,_⟩:=I.rel.list e1
        exact call_isinstance (isinstance_false_list (by decide) (kitMeta_of (by decide +kernel)) (by rw [isSubtype_type]; kernel_rfl)) ⟨⟨_,h1,rfl⟩,hE ρ _ _ (dn I.rel _) (I.toks _) rfl⟩
      · cases hf
    · rename_i C d e1
      split at hf
      · rename_i hT
        obtain ⟨rfl,hC⟩:=hT
        split at hf
        · rename_i kvs e2
          have hE:=hE.of hf
          obtain ⟨ox,es,n,ps,In,_⟩:=I.rel.inst e1 e2
          have P:=hc C (List.contains_iff_mem.mp hC)
          exact kin_callT (G.ok.X.keeps I.rel.keep) In P.e F.isi_meta_tuple P.hg P.hd P.ha P.hn P.ht P.hm (hE ρ _ _ (dn I.rel _) (I.toks _) rfl)
        · cases hf
      · cases hf
    · cases hf
  · split at hf
    · rename_i hT; subst hT
      have hE:=hE.of hf
      obtain ⟨t,rfl⟩:=rv
      exact IsiPair.int_int (hE ρ _ _ (.refl I.rel) I rfl)
    · cases hf
  · cases hf
noncomputable def rR (cs:Cls) (T:String) (f:M AV):M AV:=au f (xJ cs T)
theorem uy (G:Good c fd) {cs:Cls} (hc:∀ C∈cs,NT c.K C) {x y:Str} {T:String} (B:BN c.K x (.builtin "isinstance")) (B':BN c.K y (.type T)) {f:M AV} {e:Expr} {p p' pos:Pos} (hx:fd.env.kindOf x=some .globalImplicit) (hd:(x==("__debug__" : Str))=false)
    (hy:fd.env.kindOf y=some .globalImplicit) (hd':(y==("__debug__" : Str))=false) (h:SE c fd VRel f (eval e fd.env)) (he:starEach [e,.Name y p'] fd.env=(false,eval e fd.env)::starEach [.Name y p'] fd.env) (he':starEach [.Name y p'] fd.env=(false,eval (.Name y p') fd.env)::starEach [] fd.env) :
    SE c fd VRel (rR cs T f) (eval (.Call (.Name x p) [e,.Name y p'] [] pos) fd.env):=by
  refine ⟨fun ρ loc σ s I r loc' σ' hg Q E hE=>?_⟩
  refine wpAny_Call_NameR (eI G I B hx hd (PyProof.Rows.callWith_builtin1 (wpAny_items_cons (h.use I hg hE fun a l₁ σ₁ ρ₁ s₁ v hg₁ g₁ I₁ rv hE₁=>wpAny_items_cons (eI G I₁ B' hy hd' (wpAny_items_nil ?_)) he') he) he (by rw [he']; rfl)))
  exact wt G hc I₁ rv hg₁ hE₁
end
end Lw
end SA12
section SA13
namespace Lw
open PySem PySem.Calls PyProof.Rows PySem.W
theorem th:Slot "bytes" "__lt__" "bytes.__lt__" :=
  .of (owner := "bytes") (n := "__lt__") (by rw [typeLookup_type,builtinLookup_eq_fast]; kernel_rfl) (by decide +kernel) (by decide +kernel) (by decide +kernel)
    (by first | exact .inl (by decide +kernel) | exact .inr (by decide +kernel)) (by rw [isSubtype_type]; kernel_rfl)
theorem wu:entryFor table "bytes.__lt__" = some Builtin.«bytes.__lt__»:=entryFor_of_tree (by kernel_rfl)
theorem xK (a b:Value):argsOk "bytes.__lt__" ⟨[a,b],[]⟩:=by
  unfold argsOk; rw [signature?_of (id := "bytes.__lt__") (n:=['_','_','t','l','_','_']) (o:=['s','e','t','y','b']) (by kernel_rfl) FB.owner_bytes]; kernel_rfl
noncomputable def xL:Value→Option Nat
  | .bytes b _=>if b=#[97] then some 0 else if b=#[98] then some 1 else none
  | _=>none
@[reducible] noncomputable def bKK:PyProof.Rows.KeyKind where
  α:=Nat
  blt a b:=decide (a<b)
  irrefl a:=by simp
  trans a b c h1 h2:=by simp only [decide_eq_true_eq] at *; omega
  negTrans a b c h:=by simp only [decide_eq_true_eq] at *; omega
  total a b h1 h2:=by simp only [decide_eq_false_iff_not] at *; omega
  keyOf:=xL
  dflt:=0
theorem qZ {v:Value} {n:Nat} (h:xL v=some n):(∃ t,v=.bytes #[97] t∧n=0)∨(∃ t,v=.bytes #[98] t∧n=1):=by
  unfold xL at h
  split at h
  · split at h
    · rename_i e; cases h; exact .inl ⟨_,by rw [e],rfl⟩
    · split at h
      · rename_i e; cases h; exact .inr ⟨_,by rw [e],rfl⟩
      · cases h
  · cases h
section
variable {prog:Program} {w:World} {A:Around} {E:Value→Shared→Prop} {s:Shared}
theorem wv (a b:Array UInt8) (t u:Tok):Gives (Builtin.«bytes.__lt__» ⟨[.bytes a t,.bytes b u],[]⟩) (.val (.bool (Builtin.Bytes.holds "__lt__" (Builtin.Bytes.order a.toList b.toList)))) :=
  .of_wp fun M A E s Q hq=>by
    show wpAny M A (do
          let __do_lift ← isInstance (Value.bytes b u) (Value.type "bytes")
          if (!__do_lift)=true then do
              rule (toString "bytes." ++ toString "__lt__" ++ toString ".declined")
              PySem.ret Value.notImplemented
            else do
              let __do_lift ← Builtin.Bytes.payload (Value.bytes a t)
              let __do_lift_1 ← Builtin.Bytes.payload (Value.bytes b u)
              PySem.ret
                  (Value.bool (Builtin.Bytes.holds "__lt__" (Builtin.Bytes.order __do_lift.toList __do_lift_1.toList)))) _ E s
    refine wpAny_bind (wpAny_isInstance (b:=true) (s:=s) (typeIs_bytes s b u) (by rw [isSubtype_type]; kernel_rfl) ?_)
    exact wpAny_pure ⟨_,rfl,hq⟩
theorem ti {a b:Array UInt8} {t u:Tok} {Q:Bool→Shared→Prop} (h:Q (Builtin.Bytes.holds "__lt__" (Builtin.Bytes.order a.toList b.toList)) s):wpAny (model prog w) A (oneLt' true (.bytes a t) (.bytes b u)) Q E s:=by
  rw [oneLt'_eq]
  simp only [if_true]
  refine wpAny_bind (wpAny_cRoomFor_byValue rfl ?_)
  refine wpAny_bind (wpAny_callSpecialIfBound?_slot (typeIs_bytes s a t) th (call_gives th (typeIs_bytes s a t) wu (xK _ _) (wv a b t u) ?_))
  exact wpAny_truthy_bool h
end
theorem ww:bKK.OneLt:=by
  intro prog w A E s x y a b Q ha hb h
  rcases qZ ha with ⟨t,rfl,rfl⟩ | ⟨t,rfl,rfl⟩ <;> rcases qZ hb with ⟨u,rfl,rfl⟩ | ⟨u,rfl,rfl⟩ <;> exact ti h
theorem jo:∀ {vs:List Value},(∀ v∈vs,∃ b t,v=.bytes b t)→vs.mapM firstOfTuple'=pure (vs.map fun _=>none)
  | [],_=>by simp
  | v::vs,h=>by
    obtain ⟨b,t,rfl⟩:=h _ List.mem_cons_self
    rw [List.mapM_cons,jo fun u hu=>h u (List.mem_cons_of_mem _ hu)]
    show (pure none >>= fun x=>pure _ >>= fun xs=>pure (x::xs))=_
    simp
theorem iK:∀ {vs:List Value},(∀ v∈vs,∃ b t,v=.bytes b t)→vs.mapM typeOf=pure (vs.map fun _=>Value.type "bytes")
  | [],_=>by simp
  | v::vs,h=>by
    obtain ⟨b,t,rfl⟩:=h _ List.mem_cons_self
    rw [List.mapM_cons,iK fun u hu=>h u (List.mem_cons_of_mem _ hu)]
    show (pure (Value.type "bytes") >>= fun b=>pure _ >>= fun bs=>pure (b::bs))=_
    simp
theorem qD {v₁ v₂:Value} {vs:List Value} (hS:∀ v∈v₁::v₂::vs,∃ b t,v=.bytes b t):keyKind' (v₁::v₂::vs).toArray=pure oneType':=by
  rw [keyKind'_eq,List.mapM_toArray,jo hS]
  simp only [map_pure,pure_bind]
  rw [if_neg (by simp),if_neg (by simp)]
  rw [oneTypeOnly'_eq,List.mapM_toArray,iK hS]
  simp only [map_pure,pure_bind]
  have hall:((List.map (fun _=>Value.type "bytes") (v₁::v₂::vs)).toArray.all fun x=>x==Value.type "bytes")=true:=by
    simp only [List.all_toArray,List.all_map,List.all_eq_true]
    intro _ _
    rfl
  have h0:(List.map (fun _=>Value.type "bytes") (v₁::v₂::vs)).toArray[0]?=some (Value.type "bytes"):=by simp
  rw [h0]
  simp only [hall,if_true,pure_bind,Option.isSome_some]
theorem Cj {α:Type} {l:List α} {a b:α} (h:l.Perm [a,b]):l=[a,b]∨l=[b,a]:=by
  cases l with
  | nil=>exact nomatch h.length_eq
  | cons x l =>
    rcases List.mem_cons.mp (h.mem_iff.mp List.mem_cons_self) with e | e
    · subst e; exact .inl (congrArg _ (List.perm_singleton.mp h.cons_inv))
    · have e:=List.mem_singleton.mp e
      subst e
      exact .inr (congrArg _ (List.perm_singleton.mp (h.trans (.swap ..)).cons_inv))
theorem AI {arr:Array (Value×Value)} {i:Nat} {p:Value×Value} {n:Nat} (e:arr.toList[i]?=some p) (h:xL p.1=some n):KK bKK arr i=n:=by
  unfold KK
  rw [← Array.getElem?_toList,e]
  show (xL p.1).getD 0=n
  rw [h]; rfl
theorem tj {vs:List Value} (h2:vs.length<2∨∃ t u,vs=[.bytes #[97] t,.bytes #[98] u]) {st:SortSt} (hp:(arrOf st).Perm (pairsOf vs)) (hs:SortedToK bKK (arrOf st) (pairsOf vs).size):(arrOf st).map (·.2)=vs.toArray:=by
  have hl:(arrOf st).toList.Perm (vs.zip vs):=by rw [← pairsOf_toList]; exact Array.perm_iff_toList_perm.mp hp
  apply Array.ext'
  rw [Array.toList_map]
  rcases h2 with h | h0q
  · cases vs with
    | nil=>rw [List.Perm.eq_nil hl]; rfl
    | cons v vs =>
      cases vs with
      | nil=>rw [List.perm_singleton.mp hl]; rfl
      | cons w vs=>exact absurd h (Nat.not_lt.mpr (Nat.le_add_left 2 _))
  · obtain ⟨t,u,rfl⟩:=h0q
    rcases Cj hl with e | e
    · rw [e]; rfl
    · have h01:=hs 0 1 (Nat.zero_le 1) (by rw [pairsOf_size]; exact Nat.one_lt_two)
      rw [AI (n:=1) (by rw [e]; rfl) rfl,AI (n:=0) (by rw [e]; rfl) rfl] at h01
      exact nomatch h01
noncomputable def jI:List AV→M AV:=fun as l σ=>match as with
  | [.ref i]=>match σ.get i with
    | some (.bdict kvs)=>if kvs.map (·.1)=[]∨kvs.map (·.1)=[1]∨kvs.map (·.1)=[1,2] then some (.ok (.ref σ.next),l,σ.push (.list (fc .byt kvs))) else none
    | _=>none
  | _=>none
section
variable {c:Cx} {fd:Fd}
theorem kR {k:List UInt8} {v:Value} {prog:Program} {w:World} (h:(bytesKind prog w).is k v=true):∃ t,v=.bytes k.toArray t:=by
  exact isBytes_shape h
theorem xM (G:Good c fd) (hh:fd.hd=none):Val c fd (fun vs=>call (.builtin "sorted") vs) jI:=by
  intro ρ loc σ s I as vs rvs r loc' σ' hf Q E hE
  unfold jI at hf
  split at hf
  · split at hf
    · rename_i kvs e1
      split at hf
      · rename_i hz
        have hE:=hE.of hf
        cases rvs with
        | cons rv rr =>
        cases rr
        obtain ⟨hi,rfl⟩:=rv
        obtain ⟨_,o,ho,⟨ps,h1,h2⟩,hP⟩:=I.rel.at e1
        have hD:=Heap.dictOf_iff.mpr ⟨o,ho,h1⟩
        obtain ⟨ep,hat⟩:=hD.dictAt
        obtain ⟨m,F,hm⟩:=I.frame
        have hlen:kvs.length≤2:=by
          have:(kvs.map (·.1)).length≤2:=by rcases hz with e | e | e <;> rw [e] <;> decide
          simpa using this
        refine kdu_sorted (kdl_dict (knd:=bytesKind c.prog c.w) (kvs:=ps) (ep:=ep) (nU G.ok I.rel hi)) hh F (lK _ _ _) hat (by rw [← h2.length,pf]; omega) fun D h' tk vs F' N' lt hl hv=>?_
        have key:∀ (kvs:List (Nat×AV)) (ps:List (List UInt8×Value)) (vs:List Value),F2 (fun (a:Nat×AV) (b:List UInt8×Value)=>b.1=bt a.1∧VRel σ.next ρ a.2 b.2) kvs ps→vs.length=kvs.length→(∀ p∈kvs,p.1<btN) →
            (∀ (j:Nat) (v:Value),vs[j]?=some v→∃ k x,ps[j]?=some (k,x)∧(bytesKind c.prog c.w).is k v=true)→F2 (fun (a:Nat×AV) (v:Value)=>∃ t,v=.bytes (bt a.1).toArray t) kvs vs∧VRels σ.next ρ (fc .byt kvs) vs:=by
          intro kvs ps vs h
          induction h generalizing vs with
          | nil =>
            intro hl _ _
            cases vs with
            | nil=>exact ⟨.nil,.nil⟩
            | cons _ _=>cases hl
          | @cons p q kvs ps r _ ih =>
            intro hl hP hv
            cases vs with
            | nil=>cases hl
            | cons v vs =>
              obtain ⟨i1,i2⟩:=ih vs (Nat.succ.inj hl) (fun x hx=>hP x (List.mem_cons_of_mem _ hx)) fun j u hu=>hv (j+1) u hu
              obtain ⟨k,x,e,hk⟩:=hv 0 v rfl
              cases e
              obtain ⟨t,rfl⟩:=kR hk
              have:k=bt p.1:=r.1
              subst this
              exact ⟨.cons ⟨t,rfl⟩ i1,.cons ⟨hP p List.mem_cons_self,t,rfl⟩ i2⟩
        obtain ⟨k1,k2⟩:=key kvs ps vs h2 (hl.trans h2.length.symm) hP hv
        have hoD:h'.get? D=some (PyProof.Rows.seqObj "list" vs.toArray 0):=(N' _ List.mem_cons_self).1
        have hb:∀ v∈vs,∃ b t,v=.bytes b t:=by
          intro v hv'
          obtain ⟨j,hj⟩:=List.mem_iff_getElem?.mp hv'
          obtain ⟨k,x,_,hk⟩:=hv j v hj
          obtain ⟨t,e⟩:=kR hk
          exact ⟨_,t,e⟩
        have two:vs.length<2∨∃ t u,vs=[.bytes #[97] t,.bytes #[98] u]:=by
          rcases hz with e | e | e
          · left
            have:kvs=[]:=by simpa using e
            subst this
            cases k1
            decide
          · left
            have:=k1.length
            have:kvs.length=1:=by have:=congrArg List.length e; simpa using this
            omega
          · right
            have q1:∀ (kvs:List (Nat×AV)) (vs:List Value),kvs.map (·.1)=[1,2]→F2 (fun (a:Nat×AV) (v:Value)=>∃ t,v=.bytes (bt a.1).toArray t) kvs vs→∃ t u,vs=[.bytes #[97] t,.bytes #[98] u]:=by
              intro kvs vs e k1
              have hl2:kvs.length=2:=by have:=congrArg List.length e; simpa using this
              match kvs,hl2 with
              | [a,b],_ =>
                simp only [List.map_cons,List.map_nil,List.cons.injEq,and_true] at e
                obtain ⟨ea,eb⟩:=e
                cases k1 with
                | cons r1 k1 =>
                cases k1 with
                | cons r2 k1 =>
                cases k1
                obtain ⟨t,e1⟩:=r1
                obtain ⟨u,e2⟩:=r2
                rw [ea] at e1
                rw [eb] at e2
                exact ⟨t,u,by rw [e1,e2]; rfl⟩
            exact q1 kvs vs e k1
        have hkeys:PyProof.Rows.KeysOf bKK (pairsOf vs):=by
          intro p hp
          rw [pairsOf_toList] at hp
          have hp1:p.1∈vs:=(List.of_mem_zip hp).1
          obtain ⟨j,hj⟩:=List.mem_iff_getElem?.mp hp1
          have:∃ a v,kvs[j]?=some a∧v=p.1∧∃ t,v=.bytes (bt a.1).toArray t:=by
            have hlt:j<kvs.length:=by
              have:=(List.getElem?_eq_some_iff.mp hj).1
              rw [k1.length]; exact this
            obtain ⟨v,hv',r⟩:=k1.get (List.getElem?_eq_getElem hlt)
            exact ⟨_,v,List.getElem?_eq_getElem hlt,Option.some.inj (hv'.symm.trans hj),r⟩
          obtain ⟨a,v,ha,rfl,t,ev⟩:=this
          have hm':a.1∈kvs.map (·.1):=List.mem_map_of_mem (List.mem_of_getElem? ha)
          have:a.1=1∨a.1=2:=by
            rcases hz with e | e | e <;> rw [e] at hm' <;> simp at hm'
            · exact .inl hm'
            · exact hm'
          rw [ev]
          rcases this with e | e <;> rw [e]
          · exact ⟨0,rfl⟩
          · exact ⟨1,rfl⟩
        have hDn:s.heap.get? D=none:=by
          cases q:s.heap.get? D with
          | none=>rfl
          | some o' =>
            exfalso
            by_cases hL:D=fd.L
            · exact (N' _ List.mem_cons_self).2.1 hL
            · cases qb:c.base.get? D with
              | some ob=>have h3:=(N' _ List.mem_cons_self).2.2; rw [qb] at h3; cases h3
              | none=>exact absurd (lt (D,o') (mem_allN.mpr ⟨q,hL,qb⟩)) (Nat.lt_irrefl _)
        have hDb:c.base.objs.size≤D:=by
          have h3:=I.rel.new _ hi
          have h4:=lt (ρ _,o) (mem_allN.mpr ⟨ho,fun q=>I.off ⟨_,hi,q⟩,by
            cases q:c.base.get? (ρ _) with
            | none=>rfl
            | some ob=>exact absurd (Heap.lt_size q) (Nat.not_lt.mpr h3)⟩)
          exact Nat.le_of_lt (Nat.lt_of_le_of_lt h3 h4)
        obtain ⟨g1,I1⟩:=I.made hm hDn hDb (a:=.list (fc .byt kvs)) tk F' N' ⟨vs,0,rfl,VRels.ins k2⟩
        refine wpAny_call_entry PyProof.Rows.slot_list_sort ⟨_,hoD,rfl⟩ PyProof.Rows.entry_list_sort (PyProof.Rows.list_sort_treeK ww hoD hkeys (fun v₁ v₂ rest e=>qD (by rw [← e]; exact hb)) (by have:=k1.length; omega) fun st' a1 a2=>⟨_,rfl,?_⟩) (PyProof.Rows.args_list_sort _)
        rw [tj two a1 a2]
        obtain ⟨e',he'⟩:=PyProof.Rows.sortedHeap_at (out:=vs.toArray) hoD
        have hio:ins ρ σ.next D σ.next=D:=bK ..
        have g2:=rO (ex:=none) (s:={ s with heap:=h',toks:=tk }) (h':=PyProof.Rows.sortedHeap h' D vs vs.toArray) (o:=PyProof.Rows.seqObj "list" vs.toArray e') (a:=.list (fc .byt kvs)) g1.rel tk (Nat.lt_succ_self σ.next) (fun b o hb e _=>(PyProof.Rows.sortedHeap_old (by rw [hio] at hb; exact hb) (Heap.lt_size e)).trans e) (fun _ _ q=>by cases q) (by rw [hio]; exact he') ⟨vs,e',rfl,VRels.ins k2⟩
        have e3:(σ.push (.list (fc .byt kvs))).set σ.next (.list (fc .byt kvs))=σ.push (.list (fc .byt kvs)):=by
          show St.mk _ _=St.mk _ _
          congr 1
          funext j
          show (if j=σ.next then _ else if j=σ.next then _ else _)=if j=σ.next then _ else _
          split <;> rfl
        rw [e3] at g2
        exact hE _ _ _ (g1.trans g2.none) (I1.step g2) VRel.new
      · cases hf
    · cases hf
  · cases hf
end
end Lw
end SA13
section SA14
namespace Lw
open PySem PySem.Calls PyProof.Rows PySem.W
inductive IK where
  | list (i:Nat) | tup (i:Nat) | range (n:Nat) | enum (i:Nat) | zip (i j:Nat)
noncomputable def bH (k:IK) (σ:St) (p:Nat):Option (Option (List AV)):=match k with
  | .list i=>match σ.get i with
    | some (.list xs)=>some (xs[p]?.map fun a=>[a])
    | _=>none
  | .tup i=>match σ.get i with
    | some (.tup xs)=>some (xs[p]?.map fun a=>[a])
    | _=>none
  | .range n=>some (if p<n then some [.int p] else none)
  | .enum i=>match σ.get i with
    | some (.list xs)=>some (xs[p]?.map fun a=>[.int p,a])
    | _=>none
  | .zip i j=>match σ.get i,σ.get j with
    | some (.list xs),some (.list ys)=>match xs[p]?,ys[p]? with
      | some a,some b=>some (some [a,b])
      | _,_=>some none
    | _,_=>none
structure Off (c:Cx) (fd:Fd) (s₀:Shared) (ρ:Nat→Addr) (σ:St) (a:Addr):Prop where
  low:c.base.objs.size≤a
  ne:a≠fd.L
  own:¬ Own ρ σ a
  new:s₀.heap.get? a=none
noncomputable def Held (c:Cx) (fd:Fd) (s₀:Shared) (ρ:Nat→Addr) (σ:St) (h:Heap) (os:List (Addr×Obj)):Prop :=
  ∀ q∈os,h.get? q.1=some q.2∧Off c fd s₀ ρ σ q.1∧(∀ es n,q.2.data≠.dict es n)∧q.2.cls≠.type "traceback"
noncomputable def ItIs (k:IK) (I:Addr) (p:Nat) (ρ:Nat→Addr) (n:Nat) (os:List (Addr×Obj)):Prop:=match k with
  | .list i=>i<n∧∃ o,os=[(I,o)]∧o.cls=.type "list_iterator" ∧ o.data=.fields #[.ref (ρ i),.int p 0]
  | .tup i=>i<n∧∃ o,os=[(I,o)]∧o.cls=.type "tuple_iterator" ∧ o.data=.fields #[.ref (ρ i),.int p 0]
  | .range m=>p≤m∧os=[(I,{ cls:=.type "range_iterator",dict:=none,data:=.fields #[rawInt p,rawInt ((m:Int) - p),rawInt 1],slots:=#[] })]
  | .enum i=>i<n∧∃ it o old,os=[(I,{ cls:=.type "enumerate",dict:=none,data:=.fields #[.none,.bool false,.ref it,rawInt p,.none,old],slots:=#[] }),(it,o)]∧I≠it∧o.cls=.type "list_iterator" ∧ o.data=.fields #[.ref (ρ i),.int p 0]
  | .zip i j=>i<n∧j<n∧∃ TI TO i1 i2 o1 o2 a b,os=[(I,{ cls:=.type "zip",dict:=none,data:=.fields #[.none,.bool false,.bool false,.ref TI,.ref TO],slots:=#[] }),
      (TI,{ cls:=.type "tuple",data:=.seq #[.ref i1,.ref i2] }),(TO,{ cls:=.type "tuple",data:=.seq #[a,b] }),(i1,o1),(i2,o2)]∧ZipApart I TI TO i1 i2 (ρ i) (ρ j) ∧
      o1.cls=.type "list_iterator" ∧ o1.data=.fields #[.ref (ρ i),.int p 0]∧o2.cls=.type "list_iterator" ∧ o2.data=.fields #[.ref (ρ j),.int p 0]
section
variable {c:Cx} {fd:Fd}
theorem ItIs.up {k:IK} {I:Addr} {p:Nat} {ρ ρ':Nat→Addr} {n n':Nat} {os:List (Addr×Obj)} (h:ItIs k I p ρ n os) (hn:n≤n') (he:∀ i,i<n→ρ' i=ρ i):ItIs k I p ρ' n' os:=by
  cases k with
  | list i=>obtain ⟨hi,r⟩:=h; exact ⟨Nat.lt_of_lt_of_le hi hn,by rw [he i hi]; exact r⟩
  | tup i=>obtain ⟨hi,r⟩:=h; exact ⟨Nat.lt_of_lt_of_le hi hn,by rw [he i hi]; exact r⟩
  | range m=>exact h
  | enum i=>obtain ⟨hi,r⟩:=h; exact ⟨Nat.lt_of_lt_of_le hi hn,by rw [he i hi]; exact r⟩
  | zip i j=>obtain ⟨hi,hj,r⟩:=h; exact ⟨Nat.lt_of_lt_of_le hi hn,Nat.lt_of_lt_of_le hj hn,by rw [he i hi,he j hj]; exact r⟩
theorem Held.step {s₀ s s':Shared} {ρ ρ':Nat→Addr} {σ σ':St} {os:List (Addr×Obj)} (H:Held c fd s₀ ρ σ s.heap os) (g:Go c (some fd.L) ρ σ s ρ' σ' s'):Held c fd s₀ ρ' σ' s'.heap os:=by
  intro q hq
  obtain ⟨h1,o,h2,h3⟩:=H q hq
  obtain ⟨o',ho',sm⟩:=g.keep _ _ h1 (fun e=>o.ne (Option.some.inj e).symm) o.own
  rw [sm.eq h2 h3] at ho'
  exact ⟨ho',⟨o.low,o.ne,kA g h1 o.own,o.new⟩,h2,h3⟩
theorem gv {s₀ s:Shared} {ρ₀ ρ:Nat→Addr} {σ₀ σ:St} {loc:Loc} {os:List (Addr×Obj)} (g:Go c (some fd.L) ρ₀ σ₀ s₀ ρ σ s) (I:Inv c fd ρ loc σ s) (hS:∀ env∈fd.below,∀ L,env.frame=some L→∃ o,s₀.heap.get? L=some o)
    (H:Held c fd s₀ ρ σ s.heap os) {h':Heap} (t:Nat) (k:∀ b o,b ∉ os.map (·.1)→s.heap.get? b=some o→h'.get? b=some o) :
    Go c (some fd.L) ρ₀ σ₀ s₀ ρ σ { s with heap:=h',toks:=t }∧Inv c fd ρ loc σ { s with heap:=h',toks:=t }:=by
  have old:∀ {b o},s₀.heap.get? b=some o→b ∉ os.map (·.1):=fun {b o} e hm=>by
    obtain ⟨q,hq,rfl⟩:=List.mem_map.mp hm
    have:=(H q hq).2.1.new
    rw [e] at this
    cases this
  have R:Rel c ρ σ h':={
    inj:=I.rel.inj
    keep:=fun b o e=>k b o (fun hm=>by
      obtain ⟨q,hq,rfl⟩:=List.mem_map.mp hm
      exact absurd (Heap.lt_size e) (Nat.not_lt.mpr (H q hq).2.1.low)) (I.rel.keep b o e)
    new:=I.rel.new
    obj:=fun i hi=>let ⟨a,e,o,ho,r⟩:=I.rel.obj i hi; ⟨a,e,o,k _ _ (fun hm=>by
      obtain ⟨q,hq,e'⟩:=List.mem_map.mp hm
      exact (H q hq).2.1.own ⟨i,hi,e'.symm⟩) ho,r⟩
    dom:=I.rel.dom }
  refine ⟨{ rel:=R,ext:=g.ext,le:=g.le,fresh:=g.fresh,keep:=fun a o e he hn=>?_,live:=fun a o e=>?_,rest:=g.rest },R,?_,I.off,I.low,?_,I.apart⟩
  · obtain ⟨o',ho',sm⟩:=g.keep a o e he hn
    exact ⟨o',k _ _ (old e) ho',sm⟩
  · obtain ⟨o',ho'⟩:=g.live a o e
    exact ⟨o',k _ _ (old e) ho'⟩
  · obtain ⟨m,hn,hl⟩:=I.fr
    exact ⟨m,Heap.Ns.same hn fun o ho=>⟨o,k _ _ (fun hm=>by
      obtain ⟨q,hq,e'⟩:=List.mem_map.mp hm
      exact (H q hq).2.1.ne e') ho,.refl o⟩,hl⟩
  · intro env he
    obtain ⟨hk,L,o,es,n,hf,hl,hn,ho,hd⟩:=I.stk env he
    obtain ⟨o0,ho0⟩:=hS env he L hf
    exact ⟨hk,L,o,es,n,hf,hl,hn,k _ _ (old ho0) ho,hd⟩
theorem ph {s₀ s:Shared} {ρ:Nat→Addr} {σ:St} {I:Addr} {o o':Obj} (H:Held c fd s₀ ρ σ s.heap [(I,o)]) {h':Heap} (ho:h'.get? I=some o') (hc:o'.cls≠.type "traceback") (hd:∀ es n,o'.data≠.dict es n):Held c fd s₀ ρ σ h' [(I,o')]:=by
  intro q hq
  rw [List.mem_singleton] at hq
  subst hq
  exact ⟨ho,(H (I,o) (by simp)).2.1,hd,hc⟩
theorem nW (hh:fd.hd=none) {s₀ s:Shared} {ρ₀ ρ:Nat→Addr} {σ₀ σ:St} {loc:Loc} {os:List (Addr×Obj)} (g:Go c (some fd.L) ρ₀ σ₀ s₀ ρ σ s) (Iv:Inv c fd ρ loc σ s) (hS:∀ env∈fd.below,∀ L,env.frame=some L→∃ o,s₀.heap.get? L=some o)
    (H:Held c fd s₀ ρ σ s.heap os) {k:IK} (hk:∀ i,k≠.enum i) (hk':∀ i j,k≠.zip i j) {I:Addr} {p:Nat} (hI:ItIs k I p ρ σ.next os) {it:Option (List AV)} (e:bH k σ p=some it) {Q:Option Value→Shared→Prop} {E:Value→Shared→Prop}
    (hend:it=none→∀ s',Go c (some fd.L) ρ₀ σ₀ s₀ ρ σ s'→Inv c fd ρ loc σ s'→Q none s')
    (hitem:∀ a,it=some [a]→∀ v s₁ os',VRel σ.next ρ a v→Go c (some fd.L) ρ₀ σ₀ s₀ ρ σ s₁→Inv c fd ρ loc σ s₁→Held c fd s₀ ρ σ s₁.heap os'→ItIs k I (p+1) ρ σ.next os'→Q (some v) s₁) :
    wpAny (model c.prog c.w) fd.A (pyNext (.ref I)) Q E s:=by
  cases k with
  | list i =>
    obtain ⟨hi,o,rfl,hc,hd⟩:=hI
    unfold bH at e
    dsimp only at e
    split at e
    · rename_i xs e1
      cases e
      obtain ⟨_,ws,n,h1,r1⟩:=Iv.rel.list e1
      have hit:s.heap.IsListIter I (ρ i) p:=⟨o,(H (I,o) (by simp)).1,hc,hd⟩
      cases q:xs[p]? with
      | none =>
        refine wpAny_pyNext_list_end hh hit (bC h1) (by simpa using r1.getNone q) fun h' he=>?_
        obtain ⟨g',I'⟩:=gv g Iv hS H (h':=h') s.toks fun b o hb ho=>he b o (fun z=>hb (by simp [z])) ho
        exact hend (by rw [q]; rfl) _ g' I'
      | some a =>
        obtain ⟨v,hv,rv⟩:=r1.get q
        refine wpAny_pyNext_list_item hit (bC h1) (by simpa using hv) fun h' hit' hs=>?_
        obtain ⟨g',I'⟩:=gv g Iv hS H (h':=h') s.toks fun b o hb ho=>hs.extBut b o (fun z=>hb (by simp [z])) ho
        obtain ⟨o',ho',hc',hd'⟩:=hit'
        exact hitem a (by rw [q]; rfl) v _ _ rv g' I' (ph H ho' (by rw [show o'.cls=_ from hc']; simp) fun es n z=>by rw [hd'] at z; cases z) ⟨hi,o',rfl,hc',hd'⟩
    · cases e
  | tup i =>
    obtain ⟨hi,o,rfl,hc,hd⟩:=hI
    unfold bH at e
    dsimp only at e
    split at e
    · rename_i xs e1
      cases e
      obtain ⟨_,ws,n,h1,r1⟩:=Iv.rel.tup e1
      have ht:s.heap.IsTuple (ρ i) ws.toArray:=⟨_,h1,rfl,n,rfl⟩
      have hit:s.heap.IsTupleIter I (ρ i) p:=⟨o,(H (I,o) (by simp)).1,hc,hd⟩
      cases q:xs[p]? with
      | none =>
        refine wpAny_pyNext_tuple_end hh hit ht (by simpa using r1.getNone q) fun h' he=>?_
        obtain ⟨g',I'⟩:=gv g Iv hS H (h':=h') s.toks fun b o hb ho=>he b o (fun z=>hb (by simp [z])) ho
        exact hend (by rw [q]; rfl) _ g' I'
      | some a =>
        obtain ⟨v,hv,rv⟩:=r1.get q
        refine wpAny_pyNext_tuple_item hit ht (by simpa using hv) fun h' hit' hs=>?_
        obtain ⟨g',I'⟩:=gv g Iv hS H (h':=h') s.toks fun b o hb ho=>hs.extBut b o (fun z=>hb (by simp [z])) ho
        obtain ⟨o',ho',hc',hd'⟩:=hit'
        exact hitem a (by rw [q]; rfl) v _ _ rv g' I' (ph H ho' (by rw [show o'.cls=_ from hc']; simp) fun es n z=>by rw [hd'] at z; cases z) ⟨hi,o',rfl,hc',hd'⟩
    · cases e
  | range m =>
    obtain ⟨hp,rfl⟩:=hI
    unfold bH at e
    dsimp only at e
    cases e
    have hit:IsRangeIter s.heap I p ((m:Int) - p) 1:=(H _ List.mem_cons_self).1
    by_cases q:p<m
    · refine wpAny_pyNext_range_item hit (by omega) fun h' hit' hs=>?_
      obtain ⟨g',I'⟩:=gv g Iv hS H (h':=h') (s.toks+1) fun b o hb ho=>hs.extBut b o (fun z=>hb (by simp [z])) ho
      have e1:(p:Int)+1=((p+1:Nat):Int):=by omega
      have e2:(m:Int) - p - 1=(m:Int) - ((p+1:Nat):Int):=by omega
      rw [e1,e2] at hit'
      exact hitem (.int p) (by rw [if_pos q]) _ _ _ ⟨_,rfl⟩ g' I' (ph H hit' (by simp) fun es n z=>by cases z) ⟨q,rfl⟩
    · refine wpAny_pyNext_range_end hh hit (by omega) fun h' he=>?_
      obtain ⟨g',I'⟩:=gv g Iv hS H (h':=h') s.toks fun b o hb ho=>he b o (fun z=>hb (by simp [z])) ho
      exact hend (by rw [if_neg q]) _ g' I'
  | enum i=>exact absurd rfl (hk i)
  | zip i j=>exact absurd rfl (hk' i j)
noncomputable def jp:List Nat→List AV→M Unit
  | k::ks,a::as=>au (bU k a) fun _=>jp ks as
  | _,_=>ret ()
noncomputable def cz (k:IK) (ks:List Nat) (body:M AF):Nat→Nat→M AF
  | 0,_=>fun _ _=>none
  | n+1,p=>fun l σ=>match bH k σ p with
    | none=>none
    | some none=>some (.ok .next,l,σ)
    | some (some vs)=>au (jp ks vs) (fun _=>ay body (cz k ks body n (p+1))) l σ
theorem q0 (G:Good c fd) (ht:fd.top=true) {ρ:Nat→Addr} {loc:Loc} {σ:St} {s:Shared} (Iv:Inv c fd ρ loc σ s) {i:Nat} (F:Flies c (some fd.L) ρ σ i s.heap) {E:Value→Shared→Prop}
    (h:∀ s',Go c none ρ σ s ρ σ s'→Inv c fd ρ loc σ s'→Flies c (some fd.L) ρ σ i s'.heap→E (.ref (ρ i)) s') :
    notedBy (model c.prog c.w) fd.A fd.env (cameBackBy (model c.prog c.w) fd.A fd.env E) (.ref (ρ i)) s:=by
  obtain ⟨_,e1,e2,_⟩ | ⟨q,_⟩:=G.how
  · unfold notedBy
    rw [e1]
    refine mH (fd:=fd) (A:=fd.A) G.stack e2 Iv.rel Iv.big (Iv.stack G) F fun s₁ g₁ F₁=>?_
    unfold cameBackBy
    obtain ⟨hi,oe,vs,T,oT,ts,a1,a2,a3,a4,_⟩:=id F₁
    refine wpAny_bind (wpAny_field a1 a2 a4 ?_)
    rw [if_neg (show ¬ ((Value.ref T==Value.none)=true) from by simp)]
    refine hY g₁.rel F₁ fun s₂ g₂ F₂=>?_
    rw [e2] at F₂
    exact h s₂ (g₁.trans g₂) (Iv.step (g₁.trans g₂)) F₂.here
  · rw [ht] at q; cases q
theorem pi {k:IK} {ks:List Nat} {body:M AF} {n p:Nat} {l:Loc} {σ:St} {x} (h:cz k ks body n p l σ=some x):∃ n' it,n=n'+1∧bH k σ p=some it ∧
    ((it=none∧x=(.ok .next,l,σ))∨∃ vs,it=some vs∧au (jp ks vs) (fun _=>ay body (cz k ks body n' (p+1))) l σ=some x):=by
  cases n with
  | zero=>cases h
  | succ n =>
    unfold cz at h
    split at h
    · cases h
    · rename_i e; cases h; exact ⟨n,none,rfl,e,.inl ⟨rfl,rfl⟩⟩
    · rename_i vs e; exact ⟨n,some vs,rfl,e,.inr ⟨vs,rfl,h⟩⟩
noncomputable def LJ (c:Cx) (fd:Fd) (k:IK) (I:Addr) (ks:List Nat) (f:M AF) (ρ₀:Nat→Addr) (σ₀:St) (s₀:Shared) (r:Res AF) (loc':Loc) (σ':St) (n:Nat) (s:Shared):Prop :=
  ∃ ρ loc σ os p,Go c (some fd.L) ρ₀ σ₀ s₀ ρ σ s∧Inv c fd ρ loc σ s∧Held c fd s₀ ρ σ s.heap os∧ItIs k I p ρ σ.next os∧cz k ks f n p loc σ=some (r,loc',σ')
noncomputable def Ck (c:Cx) (fd:Fd) (k:IK) (I:Addr) (ks:List Nat) (tgt:Expr) (ρ₀:Nat→Addr) (σ₀:St) (s₀:Shared):Prop :=
  ∀ {ρ loc σ s os p it} {P0 P:Shared→Prop} {Q:Option Value→Shared→Prop} {E:Value→Shared→Prop},Go c (some fd.L) ρ₀ σ₀ s₀ ρ σ s→Inv c fd ρ loc σ s→Held c fd s₀ ρ σ s.heap os→ItIs k I p ρ σ.next os→bH k σ p=some it →
    (it=none→∀ s,Go c (some fd.L) ρ₀ σ₀ s₀ ρ σ s→Inv c fd ρ loc σ s→P0 s) →
    (∀ vs,it=some vs→∀ s os l,jp ks vs loc σ=some (.ok (),l,σ)→Go c (some fd.L) ρ₀ σ₀ s₀ ρ σ s→Inv c fd ρ l σ s→Held c fd s₀ ρ σ s.heap os→ItIs k I (p+1) ρ σ.next os→P s) →
    (∀ s,P0 s→Q none s)→(∀ v s,wpAny (model c.prog c.w) fd.A (letOwnedTupleGo tgt (.ref I) v) (fun _ s=>wpAny (model c.prog c.w) fd.A (assign tgt fd.env v) (fun _ s=>P s) E s) E s→Q (some v) s) →
    wpAny (model c.prog c.w) fd.A (pyNext (.ref I)) Q E s
theorem wx (G:Good c fd) (ht:fd.top=true) {k:IK} {I:Addr} {ks:List Nat} {tgt:Expr} {ρ₀:Nat→Addr} {σ₀:St} {s₀:Shared} (T:Ck c fd k I ks tgt ρ₀ σ₀ s₀) {f:M AF} {body:List Stmt} (hb:SE c fd dz f (execs body fd.env))
    {r:Res AF} {loc':Loc} {σ':St} {Q:Flow→Shared→Prop} {E:Value→Shared→Prop} (hE:Ends c fd dz ρ₀ σ₀ s₀ r loc' σ' Q E) {n:Nat} {s:Shared} (hj:LJ c fd k I ks f ρ₀ σ₀ s₀ r loc' σ' n s)
    {Qn:Option Value→Shared→Prop} {Qb:Flow→Shared→Prop} {En:Value→Shared→Prop} (hE':∀ x s,notedBy (model c.prog c.w) fd.A fd.env (cameBackBy (model c.prog c.w) fd.A fd.env E) x s→En x s) (hb1:∀ s,(∃ m,m<n∧LJ c fd k I ks f ρ₀ σ₀ s₀ r loc' σ' m s)→Qb .next s) (hb2:∀ v s,Q (.ret v) s→Qb (.ret v) s)
    (hq0:∀ s,Q .next s→Qn none s) (hq1:∀ v s,wpAny (model c.prog c.w) fd.A (letOwnedTupleGo tgt (.ref I) v) (fun _ s=>wpAny (model c.prog c.w) fd.A (assign tgt fd.env v) (fun _ s=>wpAny (model c.prog c.w) fd.A (execs body fd.env) Qb En s) En s) En s→Qn (some v) s) :
    wpAny (model c.prog c.w) fd.A (pyNext (.ref I)) Qn En s:=by
  obtain ⟨ρ,loc,σ,os,p,g,Iv,H,hI,hf⟩:=hj
  obtain ⟨n',it,hn,e,hc⟩:=pi hf
  refine T g Iv H hI e (fun q s₁ g₁ I₁=>?_) (fun vs q s₂ os' l hs g₂ I₂ H₂ hI₂=>?_) hq0 hq1
  · rcases hc with h | ⟨_,hv,_⟩
    · exact (hE.of (congrArg some h.2.symm)) _ _ _ g₁ I₁ rfl
    · exact nomatch q.symm.trans hv
  · rcases hc with h | ⟨vs',hv,hc⟩
    · exact nomatch q.symm.trans h.1
    · have hc:ay f (cz k ks f n' (p+1)) l σ=some (r,loc',σ'):=by
        rw [← Option.some.inj (q.symm.trans hv)] at hc
        unfold au at hc
        rw [hs] at hc
        exact hc
      clear hs hf e q hv T hq0 hq1
      rcases bX hc with h | ⟨i,ef,h⟩
      · obtain ⟨b,l₃,σ₃,ef,hg⟩:=h
        refine hb.1 _ _ _ _ I₂ _ _ _ ef _ _ fun ρ₃ s₃ w g₃ I₃ rw=>?_
        cases b with
        | next =>
          have rw:w=.next:=rw
          rw [rw]
          exact hb1 _ ⟨n',hn▸Nat.lt_succ_self n',ρ₃,l₃,σ₃,os',p+1,g₂.trans g₃,I₃,H₂.step g₃,hI₂.up g₃.le g₃.ext,hg⟩
        | ret a =>
          obtain ⟨u,hu,ru⟩:=rw
          rw [hu]
          exact hb2 _ _ (hE.of hg _ _ _ (g₂.trans g₃) I₃ ⟨u,rfl,ru⟩)
      · rw [h] at hE
        exact hb.1 _ _ _ _ I₂ _ _ _ ef _ _ fun ρ₃ s₃ g₃ I₃ F=>hE' _ _ (q0 G ht I₃ F fun s' g' I' F'=>hE ρ₃ s' ((g₂.trans g₃).trans g'.none) I' F')
theorem tm (G:Good c fd) (ht:fd.top=true) {k:IK} {I:Addr} {ks:List Nat} {tgt:Expr} {ρ₀:Nat→Addr} {σ₀:St} {s₀:Shared} (T:Ck c fd k I ks tgt ρ₀ σ₀ s₀) {f:M AF} {body:List Stmt} (hb:SE c fd dz f (execs body fd.env))
    {s:Shared} {ρ:Nat→Addr} {σ:St} {loc:Loc} {os:List (Addr×Obj)} (g:Go c (some fd.L) ρ₀ σ₀ s₀ ρ σ s) (Iv:Inv c fd ρ loc σ s) (H:Held c fd s₀ ρ σ s.heap os) (hI:ItIs k I 0 ρ σ.next os) {N:Nat} {r:Res AF} {loc':Loc} {σ':St} (hf:cz k ks f N 0 loc σ=some (r,loc',σ'))
    {Q:Flow→Shared→Prop} {E:Value→Shared→Prop} (hE:Ends c fd dz ρ₀ σ₀ s₀ r loc' σ' Q E) :
    codeAny (model c.prog c.w) fd.A (.forLoop tgt (.ref I) body [] fd.env) (fun r s'=>match r with | .ok f=>Q f s' | .error e=>cameBackBy (model c.prog c.w) fd.A fd.env E e s') s :=
  codeAny_forLoop_any (LJ c fd k I ks f ρ₀ σ₀ s₀ r loc' σ') (fun _ _ hj=>wx G ht T hb hE hj (fun _ _ h=>h) (by exact fun _ h=>h) (by exact fun _ _ h=>h) (fun _ h=>wpAny_execs_nil h) (fun _ _ h=>h)) N ⟨ρ,loc,σ,os,0,g,Iv,H,hI,hf⟩
theorem nX (G:Good c fd) (hh:fd.hd=none) (ht:fd.top=true) {k:IK} (hk:∀ i,k≠.enum i) (hk':∀ i j,k≠.zip i j) {kx:Nat} {x:Str} (hx:fd.names[kx]?=some x) (hnd:fd.names.Nodup) (hl:fd.env.kindOf x=some .local) {px:Pos} {f:M AF} {body:List Stmt} (hb:SE c fd dz f (execs body fd.env))
    {s₀ s:Shared} {ρ₀ ρ:Nat→Addr} {σ₀ σ:St} {loc:Loc} {os:List (Addr×Obj)} (g:Go c (some fd.L) ρ₀ σ₀ s₀ ρ σ s) (Iv:Inv c fd ρ loc σ s) (hS:∀ env∈fd.below,∀ L,env.frame=some L→∃ o,s₀.heap.get? L=some o)
    (H:Held c fd s₀ ρ σ s.heap os) {I:Addr} (hI:ItIs k I 0 ρ σ.next os) {N:Nat} {r:Res AF} {loc':Loc} {σ':St} (hf:cz k [kx] f N 0 loc σ=some (r,loc',σ'))
    {Q:Flow→Shared→Prop} {E:Value→Shared→Prop} (hE:Ends c fd dz ρ₀ σ₀ s₀ r loc' σ' Q E) :
    codeAny (model c.prog c.w) fd.A (.forLoop (.Name x px) (.ref I) body [] fd.env) (fun r s'=>match r with | .ok f=>Q f s' | .error e=>cameBackBy (model c.prog c.w) fd.A fd.env E e s') s:=by
  refine tm (ks:=[kx]) G ht ?_ hb g Iv H hI hf hE
  intro ρ loc σ s os p it P0 P Q E g Iv H hI e hend hitem hq0 hq1
  refine nW hh g Iv hS H hk hk' hI e (fun q s₁ g₁ I₁=>hq0 _ (hend q s₁ g₁ I₁)) fun a q v s₁ os' rv g₁ I₁ H₁ hI₁=>hq1 _ _ ?_
  show wpAny _ _ (pure ()) _ _ _
  exact wpAny_pure (wpAny_assign_Name (gy G hx hnd hl I₁ rv fun s₂ g₂ I₂=>hitem [a] q s₂ os' _ rfl (g₁.trans g₂) I₂ (H₁.step g₂) hI₁))
end
end Lw
end SA14
section SA15
namespace Lw
open PySem PySem.Calls PyProof.Rows PySem.W
section
variable {c:Cx} {fd:Fd}
theorem pj (G:Good c fd) (hh:fd.hd=none) {k1 k2:Nat} {x1 x2:Str} (h1:fd.names[k1]?=some x1) (h2:fd.names[k2]?=some x2) (hnd:fd.names.Nodup) (hl1:fd.env.kindOf x1=some .local) (hl2:fd.env.kindOf x2=some .local) {p1 p2 pt:Pos} {z:Nat}
    {s₀ s:Shared} {ρ₀ ρ:Nat→Addr} {σ₀ σ:St} {loc:Loc} (g:Go c (some fd.L) ρ₀ σ₀ s₀ ρ σ s) (Iv:Inv c fd ρ loc σ s) {t:Addr} {a b:AV} {v u:Value} (ht:s.heap.IsTuple t #[v,u]) (rv:VRel σ.next ρ a v) (ru:VRel σ.next ρ b u)
    {P:Unit→Shared→Prop} {E:Value→Shared→Prop} (h:∀ s',Go c (some fd.L) ρ₀ σ₀ s₀ ρ σ s'→Go c (some fd.L) ρ σ s ρ σ s'→Inv c fd ρ (fun j=>if j=k2 then some b else if j=k1 then some a else loc j) σ s'→P () s') :
    wpAny (model c.prog c.w) fd.A (assign (.Tuple [.Name x1 p1,.Name x2 p2] z pt) fd.env (.ref t)) P E s:=by
  refine wpAny_assign_Tuple hh ht rfl rfl fun h' he=>?_
  have g1:Go c (some fd.L) ρ σ s ρ σ { s with heap:=h' }:=iH Iv.rel s.toks fun b o e=>he b o (Nat.ne_of_lt (Heap.lt_size e)) e
  have I1:=Iv.step (iH Iv.rel s.toks (ex:=none) (h':=h') fun b o e=>he b o (Nat.ne_of_lt (Heap.lt_size e)) e)
  show wpAny _ _ (do holding [u] (assign (.Name x1 p1) fd.env v); do holding [] (assign (.Name x2 p2) fd.env u); pure ()) _ _ _
  refine wpAny_bind (wpAny_holding (wpAny_assign_Name (gy G h1 hnd hl1 I1 rv fun s₂ g₂ I₂=>?_)))
  refine wpAny_bind (wpAny_holding (wpAny_assign_Name (gy G h2 hnd hl2 I₂ ru fun s₃ g₃ I₃=>wpAny_pure ?_)))
  exact h s₃ (((g.trans g1).trans g₂).trans g₃) ((g1.trans g₂).trans g₃) I₃
theorem ge {s₀:Shared} {ρ:Nat→Addr} {σ:St} {h:Heap} {a:Addr} {o:Obj} {os:List (Addr×Obj)} (h1:h.get? a=some o) (h2:Off c fd s₀ ρ σ a) (h3:∀ es n,o.data≠.dict es n) (h4:o.cls≠.type "traceback") (t:Held c fd s₀ ρ σ h os):Held c fd s₀ ρ σ h ((a,o)::os):=fun q hq=>by
  rcases List.mem_cons.mp hq with e | hq
  · rw [e]; exact ⟨h1,h2,h3,h4⟩
  · exact t q hq
theorem tn {s₀:Shared} {ρ:Nat→Addr} {σ:St} {h:Heap}:Held c fd s₀ ρ σ h []:=fun q hq=>nomatch hq
theorem wy (G:Good c fd) (hh:fd.hd=none) {k1 k2:Nat} {x1 x2:Str} (h1:fd.names[k1]?=some x1) (h2:fd.names[k2]?=some x2) (hnd:fd.names.Nodup) (hl1:fd.env.kindOf x1=some .local) (hl2:fd.env.kindOf x2=some .local) {p1 p2 pt:Pos} {z:Nat}
    {s₀ s:Shared} {ρ₀ ρ:Nat→Addr} {σ₀ σ:St} {loc:Loc} {os:List (Addr×Obj)} (g:Go c (some fd.L) ρ₀ σ₀ s₀ ρ σ s) (Iv:Inv c fd ρ loc σ s) (hS:∀ env∈fd.below,∀ L,env.frame=some L→∃ o,s₀.heap.get? L=some o)
    (H:Held c fd s₀ ρ σ s.heap os) {k:IK} (hk:(∃ i,k=.enum i)∨∃ i j,k=.zip i j) {I:Addr} {p:Nat} (hI:ItIs k I p ρ σ.next os) {it:Option (List AV)} (e:bH k σ p=some it)
    {P0:Shared→Prop} {P:Shared→Prop} {E:Value→Shared→Prop}
    (hend:it=none→∀ s',Go c (some fd.L) ρ₀ σ₀ s₀ ρ σ s'→Inv c fd ρ loc σ s'→P0 s')
    (hitem:∀ a b,it=some [a,b]→∀ s₂ os',Go c (some fd.L) ρ₀ σ₀ s₀ ρ σ s₂→Inv c fd ρ (fun j=>if j=k2 then some b else if j=k1 then some a else loc j) σ s₂→Held c fd s₀ ρ σ s₂.heap os'→ItIs k I (p+1) ρ σ.next os'→P s₂)
    {Q:Option Value→Shared→Prop} (hq0:∀ s,P0 s→Q none s) (hq1:∀ v s,wpAny (model c.prog c.w) fd.A (letOwnedTupleGo (.Tuple [.Name x1 p1,.Name x2 p2] z pt) (.ref I) v) (fun _ s=>wpAny (model c.prog c.w) fd.A (assign (.Tuple [.Name x1 p1,.Name x2 p2] z pt) fd.env v) (fun _ s=>P s) E s) E s→Q (some v) s) :
    wpAny (model c.prog c.w) fd.A (pyNext (.ref I)) Q E s:=by
  rcases hk with h0q | h0q
  · obtain ⟨i,rfl⟩:=h0q
    obtain ⟨hi,it',o,old,rfl,hne,hc,hd⟩:=hI
    unfold bH at e
    dsimp only at e
    split at e
    · rename_i xs e1
      cases e
      obtain ⟨_,ws,n,q1,r1⟩:=Iv.rel.list e1
      have hen:IsEnum s.heap I it' p old:=(H _ List.mem_cons_self).1
      have hit:s.heap.IsListIter it' (ρ i) p:=⟨o,(H (it',o) (by simp)).1,hc,hd⟩
      cases q:xs[p]? with
      | none =>
        refine wpAny_pyNext_enum_end hh hen hit (bC q1) (by simpa using r1.getNone q) fun h' he=>?_
        obtain ⟨g',I'⟩:=gv g Iv hS H (h':=h') s.toks fun b o hb ho=>he b o (fun z=>hb (by simp [z])) ho
        exact hq0 _ (hend (by rw [q]; rfl) _ g' I')
      | some a =>
        obtain ⟨v,hv,rv⟩:=r1.get q
        refine wpAny_pyNext_enum_item hen hit (bC q1) (by simpa using hv) hne fun h' heo hit' htu hsz hkp=>hq1 _ _ ?_
        refine wpAny_letOwnedTupleGo_enum heo fun h2' hen2 hs2=>?_
        have hIs:I<s.heap.objs.size:=Heap.lt_size hen
        have hitS:it'<s.heap.objs.size:=let ⟨_,ho,_⟩:=hit; Heap.lt_size ho
        obtain ⟨g2,I2⟩:=gv g Iv hS H (h':=h2') (s.toks+1) fun b o hb ho=>by
          simp only [List.map_cons,List.map_nil,List.mem_cons,List.not_mem_nil,or_false,not_or] at hb
          exact hs2.extBut b o hb.1 (hkp b o hb.1 hb.2 ho)
        obtain ⟨o',ho',hc',hd'⟩:=hit'
        have ho2:h2'.get? it'=some o':=hs2.extBut _ _ (Ne.symm hne) ho'
        have htu2:h2'.IsTuple s.heap.objs.size #[.int p s.toks,v]:=⟨_,hs2.extBut _ _ (Nat.ne_of_gt hIs) htu,rfl,_,rfl⟩
        have H2:Held c fd s₀ ρ σ h2' [(I,({ cls:=.type "enumerate",dict:=none,data:=.fields #[.none,.bool false,.ref it',rawInt ((p:Int)+1),.none,v],slots:=#[] }:Obj)),(it',o')]:=by
          exact ge hen2 (H _ List.mem_cons_self).2.1 (fun es n z=>(by cases z)) (by simp) (ge ho2 (H (it',o) (by simp)).2.1 (fun es n z=>(by rw [hd'] at z; cases z)) (by rw [show o'.cls=_ from hc']; simp) tn)
        refine pj (s:={ s with heap:=h2',toks:=s.toks+1 }) G hh h1 h2 hnd hl1 hl2 g2 I2 htu2 (a:=.int p) (b:=a) ⟨_,rfl⟩ rv fun s₂ g₂ g₂' I₂=>?_
        exact hitem _ _ (by rw [q]; rfl) s₂ _ g₂ I₂ (H2.step g₂') ⟨hi,it',o',v,rfl,hne,hc',hd'⟩
    · cases e
  · obtain ⟨i,j,rfl⟩:=h0q
    obtain ⟨hi,hj,TI,TO,i1,i2,o1,o2,x,y,rfl,D,c1,d1,c2,d2⟩:=hI
    unfold bH at e
    dsimp only at e
    split at e
    · rename_i xs ys e1 e2
      obtain ⟨_,ws,n,q1,r1⟩:=Iv.rel.list e1
      obtain ⟨_,us,n',q2,r2⟩:=Iv.rel.list e2
      have hz:IsZip s.heap I TI TO .none:=(H _ List.mem_cons_self).1
      have hTI:IsPair s.heap TI (.ref i1) (.ref i2):=(H _ (List.mem_cons_of_mem _ List.mem_cons_self)).1
      have hTO:IsPair s.heap TO x y:=(H _ (List.mem_cons_of_mem _ (List.mem_cons_of_mem _ List.mem_cons_self))).1
      have hi1:s.heap.IsListIter i1 (ρ i) p:=⟨o1,(H (i1,o1) (by simp)).1,c1,d1⟩
      have hi2:s.heap.IsListIter i2 (ρ j) p:=⟨o2,(H (i2,o2) (by simp)).1,c2,d2⟩
      have fin:it=none→(ws.toArray[p]?=none∨us.toArray[p]?=none)→wpAny (model c.prog c.w) fd.A (pyNext (.ref I)) Q E s:=fun q ho=>by
        refine wpAny_pyNext_zip_end hh D hz hTI hTO hi1 hi2 (bC q1) (bC q2) ho fun h' hk=>?_
        obtain ⟨g',I'⟩:=gv g Iv hS H (h':=h') s.toks fun b o hb ho=>by
          simp only [List.map_cons,List.map_nil,List.mem_cons,List.not_mem_nil,or_false,not_or] at hb
          exact hk b o hb.1 hb.2.2.1 hb.2.2.2.1 hb.2.2.2.2 ho
        exact hq0 _ (hend q _ g' I')
      split at e
      · rename_i a b ea eb
        cases e
        obtain ⟨v,hv,rv⟩:=r1.get ea
        obtain ⟨u,hu,ru⟩:=r2.get eb
        refine wpAny_pyNext_zip_item D hz hTI hTO hi1 hi2 (bC q1) (bC q2) (by simpa using hv) (by simpa using hu) fun h' b1 b2 b3 b4 b5 b6 hk=>hq1 _ _ ?_
        refine wpAny_letOwnedTupleGo_zip b1 fun h2' hz2 hs2=>?_
        have hIs:I<s.heap.objs.size:=Heap.lt_size hz
        obtain ⟨g2,I2⟩:=gv g Iv hS H (h':=h2') s.toks fun b o hb ho=>by
          simp only [List.map_cons,List.map_nil,List.mem_cons,List.not_mem_nil,or_false,not_or] at hb
          exact hs2.extBut b o hb.1 (hk b o hb.1 hb.2.2.1 hb.2.2.2.1 hb.2.2.2.2 ho)
        obtain ⟨w1,hw1,cw1,dw1⟩:=b3
        obtain ⟨w2,hw2,cw2,dw2⟩:=b4
        have htu2:h2'.IsTuple s.heap.objs.size #[v,u]:=⟨_,hs2.extBut _ _ (Nat.ne_of_gt hIs) b5,rfl,_,rfl⟩
        have H2:Held c fd s₀ ρ σ h2' [(I,({ cls:=.type "zip",dict:=none,data:=.fields #[.none,.bool false,.bool false,.ref TI,.ref TO],slots:=#[] }:Obj)),(TI,({ cls:=.type "tuple",data:=.seq #[.ref i1,.ref i2] }:Obj)),(TO,({ cls:=.type "tuple",data:=.seq #[v,u] }:Obj)),(i1,w1),(i2,w2)]:=by
          exact ge hz2 (H _ List.mem_cons_self).2.1 (fun es n z=>(by cases z)) (by simp)
            (ge (hs2.extBut _ _ D.TIz (hk _ _ D.TIz D.TITO D.TIi1 D.TIi2 hTI)) (H _ (List.mem_cons_of_mem _ List.mem_cons_self)).2.1 (fun es n z=>(by cases z)) (by simp)
            (ge (hs2.extBut _ _ D.TOz b2) (H _ (List.mem_cons_of_mem _ (List.mem_cons_of_mem _ List.mem_cons_self))).2.1 (fun es n z=>(by cases z)) (by simp)
            (ge (hs2.extBut _ _ D.i1z hw1) (H (i1,o1) (by simp)).2.1 (fun es n z=>(by rw [dw1] at z; cases z)) (by rw [show w1.cls=_ from cw1]; simp)
            (ge (hs2.extBut _ _ D.i2z hw2) (H (i2,o2) (by simp)).2.1 (fun es n z=>(by rw [dw2] at z; cases z)) (by rw [show w2.cls=_ from cw2]; simp) tn))))
        refine pj (s:={ s with heap:=h2' }) G hh h1 h2 hnd hl1 hl2 g2 I2 htu2 (a:=a) (b:=b) rv ru fun s₂ g₂ g₂' I₂=>?_
        exact hitem _ _ rfl s₂ _ g₂ I₂ (H2.step g₂') ⟨hi,hj,TI,TO,i1,i2,w1,w2,v,u,rfl,D,cw1,dw1,cw2,dw2⟩
      · rename_i hn
        cases e
        refine fin rfl ?_
        cases ea:xs[p]? with
        | none=>exact .inl (by simpa using r1.getNone ea)
        | some a =>
          cases eb:ys[p]? with
          | none=>exact .inr (by simpa using r2.getNone eb)
          | some b=>exact absurd eb (hn a b ea)
    · cases e
theorem rb (G:Good c fd) (hh:fd.hd=none) (ht:fd.top=true) {k:IK} (hk:(∃ i,k=.enum i)∨∃ i j,k=.zip i j) {k1 k2:Nat} {x1 x2:Str} (h1:fd.names[k1]?=some x1) (h2:fd.names[k2]?=some x2) (hnd:fd.names.Nodup) (hl1:fd.env.kindOf x1=some .local) (hl2:fd.env.kindOf x2=some .local) {p1 p2 pt:Pos} {z:Nat}
    {f:M AF} {body:List Stmt} (hb:SE c fd dz f (execs body fd.env))
    {s₀ s:Shared} {ρ₀ ρ:Nat→Addr} {σ₀ σ:St} {loc:Loc} {os:List (Addr×Obj)} (g:Go c (some fd.L) ρ₀ σ₀ s₀ ρ σ s) (Iv:Inv c fd ρ loc σ s) (hS:∀ env∈fd.below,∀ L,env.frame=some L→∃ o,s₀.heap.get? L=some o)
    (H:Held c fd s₀ ρ σ s.heap os) {I:Addr} (hI:ItIs k I 0 ρ σ.next os) {N:Nat} {r:Res AF} {loc':Loc} {σ':St} (hf:cz k [k1,k2] f N 0 loc σ=some (r,loc',σ'))
    {Q:Flow→Shared→Prop} {E:Value→Shared→Prop} (hE:Ends c fd dz ρ₀ σ₀ s₀ r loc' σ' Q E) :
    codeAny (model c.prog c.w) fd.A (.forLoop (.Tuple [.Name x1 p1,.Name x2 p2] z pt) (.ref I) body [] fd.env) (fun r s'=>match r with | .ok f=>Q f s' | .error e=>cameBackBy (model c.prog c.w) fd.A fd.env E e s') s :=
  tm (ks:=[k1,k2]) G ht (fun {_ _ _ _ _ _ _ _ _ _ _} g Iv H hI e hend hitem hq0 hq1=>wy G hh h1 h2 hnd hl1 hl2 g Iv hS H hk hI e hend (fun a b q s os g I H hI=>hitem [a,b] q s os _ rfl g I H hI) hq0 hq1) hb g Iv H hI hf hE
end
end Lw
end SA15
section SA16
namespace Lw
open PySem PySem.Calls PyProof.Rows PySem.W
section
variable {c:Cx} {fd:Fd}
theorem Inv.frames {ρ:Nat→Addr} {loc:Loc} {σ:St} {s:Shared} (I:Inv c fd ρ loc σ s):∀ env∈fd.below,∀ L,env.frame=some L→∃ o,s.heap.get? L=some o:=by
  intro env he L hf
  obtain ⟨_,L',o,_,_,hf',_,_,ho,_⟩:=I.stk env he
  obtain rfl:L'=L:=Option.some.inj (hf'.symm.trans hf)
  exact ⟨o,ho⟩
theorem Inv.offAt {ρ:Nat→Addr} {loc:Loc} {σ:St} {s:Shared} (I:Inv c fd ρ loc σ s) {a:Addr} (ha:s.heap.objs.size≤a):Off c fd s ρ σ a where
  low:=Nat.le_trans I.big ha
  ne:=fun q=>absurd I.lt (by rw [← q]; exact Nat.not_lt.mpr ha)
  own:=fun ⟨i,hi,q⟩=>by
    obtain ⟨_,_,o,ho,_⟩:=I.rel.obj i hi
    exact absurd (Heap.lt_size ho) (by rw [q]; exact Nat.not_lt.mpr ha)
  new:=by
    cases q:s.heap.get? a with
    | none=>rfl
    | some o=>exact absurd (Heap.lt_size q) (Nat.not_lt.mpr ha)
noncomputable def nk (f:M AV) (kx:Nat) (body:M AF) (N:Nat):M AF:=au f fun a=>match a with
  | .ref i=>fun l σ=>match σ.get i with
    | some (.list _)=>cz (.list i) [kx] body N 0 l σ
    | some (.tup _)=>cz (.tup i) [kx] body N 0 l σ
    | _=>none
  | _=>fun _ _=>none
theorem iM (G:Good c fd) (hh:fd.hd=none) (ht:fd.top=true) {kx:Nat} {x:Str} (hx:fd.names[kx]?=some x) (hnd:fd.names.Nodup) (hl:fd.env.kindOf x=some .local) {px pos:Pos} {f:M AV} {b:M AF} {iter:Expr} {body:List Stmt} {N:Nat}
    (h:SE c fd VRel f (eval iter fd.env)) (hb:SE c fd dz b (execs body fd.env)) (hs:∀ x,foldedSetIterable iter fd.env x=pure x):SE c fd dz (nk f kx b N) (exec (.For (.Name x px) iter body [] pos) fd.env):=by
  refine ⟨fun ρ loc σ s I r loc' σ' hf Q E hE=>?_⟩
  refine wpAny_For (h.use I hf hE fun a l₁ σ₁ ρ₁ s₁ v hg g₁ I₁ rv hE₁=>?_) hs
  split at hg
  · rename_i i
    obtain ⟨hi,rfl⟩:=rv
    split at hg
    · rename_i xs e1
      obtain ⟨_,ws,k,h1,r1⟩:=I₁.rel.list e1
      refine wpAny_pyIter_list (bC h1) ?_
      have g2:=nf (ex:=none) I₁.rel { cls:=.type "list_iterator",data:=.fields #[.ref (ρ₁ i),.int 0 0] } s₁.toks
      refine nX G hh ht (k:=.list i) (by intro _ q; cases q) (by intro _ _ q; cases q) hx hnd hl hb g2.none (I₁.step g2) I₁.frames (os:=[(s₁.heap.objs.size,{ cls:=.type "list_iterator",data:=.fields #[.ref (ρ₁ i),.int 0 0] })]) (fun q hq=>?_) ⟨hi,_,rfl,rfl,rfl⟩ hg hE₁
      rw [List.mem_singleton] at hq
      subst hq
      exact ⟨Heap.get?_push_size _ rfl,I₁.offAt (Nat.le_refl _),fun es n z=>(by cases z),by simp⟩
    · rename_i xs e1
      obtain ⟨_,ws,k,h1,r1⟩:=I₁.rel.tup e1
      refine wpAny_pyIter_tuple (items:=ws.toArray) ⟨_,h1,rfl,k,rfl⟩ ?_
      have g2:=nf (ex:=none) I₁.rel { cls:=.type "tuple_iterator",data:=.fields #[.ref (ρ₁ i),.int 0 0] } s₁.toks
      refine nX G hh ht (k:=.tup i) (by intro _ q; cases q) (by intro _ _ q; cases q) hx hnd hl hb g2.none (I₁.step g2) I₁.frames (os:=[(s₁.heap.objs.size,{ cls:=.type "tuple_iterator",data:=.fields #[.ref (ρ₁ i),.int 0 0] })]) (fun q hq=>?_) ⟨hi,_,rfl,rfl,rfl⟩ hg hE₁
      rw [List.mem_singleton] at hq
      subst hq
      exact ⟨Heap.get?_push_size _ rfl,I₁.offAt (Nat.le_refl _),fun es n z=>(by cases z),by simp⟩
    · cases hg
  · cases hg
noncomputable def zp (f:M AV) (kx:Nat) (body:M AF) (N:Nat):M AF:=au f fun a=>match a with
  | .int n=>if 0≤n∧n<2 ^ 40 then cz (.range n.toNat) [kx] body N 0 else fun _ _=>none
  | _=>fun _ _=>none
theorem zq (G:Good c fd) (hh:fd.hd=none) (ht:fd.top=true) {kx:Nat} {x rn:Str} (B:BN c.K rn (.type "range")) (hx:fd.names[kx]?=some x) (hnd:fd.names.Nodup) (hl:fd.env.kindOf x=some .local) {px rp rpos pos:Pos} {f:M AV} {b:M AF} {e:Expr} {body:List Stmt} {N:Nat}
    (hr:fd.env.kindOf rn=some .globalImplicit) (hd:(rn==("__debug__" : Str))=false)
    (h:SE c fd VRel f (eval e fd.env)) (hb:SE c fd dz b (execs body fd.env)) (he:starEach [e] fd.env=(false,eval e fd.env)::starEach [] fd.env) (hs:∀ x,foldedSetIterable (.Call (.Name rn rp) [e] [] rpos) fd.env x=pure x) :
    SE c fd dz (zp f kx b N) (exec (.For (.Name x px) (.Call (.Name rn rp) [e] [] rpos) body [] pos) fd.env):=by
  refine ⟨fun ρ loc σ s I r loc' σ' hf Q E hE=>?_⟩
  refine wpAny_For ?_ hs
  refine wpAny_Call_NameR (eI G I B hr hd (PyProof.Rows.callWith_type1 (wpAny_items_cons (h.use I hf hE fun a l₁ σ₁ ρ₁ s₁ v hg g₁ I₁ rv hE₁=>wpAny_items_nil ?_) he) he rfl))
  split at hg
  · rename_i n
    obtain ⟨t,rfl⟩:=rv
    split at hg
    · rename_i hz
      refine call_range_1 ?_
      refine wpAny_pyIter_range (IsRange.new ..) (small_one (by decide) (by decide) (by omega) (by omega)) ?_
      have g2:=nf (ex:=none) I₁.rel { cls:=.type "range",data:=.fields #[.int 0 s₁.toks,.int n t,.int 1 (s₁.toks+1)] } (s₁.toks+1+1)
      have I2:=I₁.step g2
      have g3:=nf (ex:=none) I2.rel { cls:=.type "range_iterator",data:=.fields #[rawInt 0,rawInt (Builtin.Range.rangeSize 0 n 1),rawInt 1] } (s₁.toks+1+1)
      have I3:=I2.step g3
      have e0:Builtin.Range.rangeSize 0 n 1=((n.toNat:Nat):Int) - ((0:Nat):Int):=by rw [rangeSize_one]; exact iC hz.1
      refine nX G hh ht (k:=.range n.toNat) (by intro _ q; cases q) (by intro _ _ q; cases q) hx hnd hl hb (g2.trans g3).none I3 I₁.frames (os:=[((s₁.heap.push { cls:=.type "range",data:=.fields #[.int 0 s₁.toks,.int n t,.int 1 (s₁.toks+1)] }).objs.size,{ cls:=.type "range_iterator",dict:=none,data:=.fields #[rawInt ((0:Nat):Int),rawInt (((n.toNat:Nat):Int) - ((0:Nat):Int)),rawInt 1],slots:=#[] })]) (fun q hq=>?_) ⟨Nat.zero_le _,rfl⟩ hg hE₁
      rw [List.mem_singleton] at hq
      subst hq
      refine ⟨?_,I₁.offAt ?_,fun es n z=>(by cases z),by simp⟩
      · have:=Heap.get?_push_size (s₁.heap.push { cls:=.type "range",data:=.fields #[.int 0 s₁.toks,.int n t,.int 1 (s₁.toks+1)] }) (o:={ cls:=.type "range_iterator",data:=.fields #[rawInt 0,rawInt (Builtin.Range.rangeSize 0 n 1),rawInt 1] }) rfl
        rw [e0] at this
        dsimp only
        rw [e0]
        exact this
      · rw [Heap.size_push]; exact Nat.le_succ _
    · cases hg
  · cases hg
noncomputable def nl (f:M AV) (k1 k2:Nat) (body:M AF) (N:Nat):M AF:=au f fun a=>match a with
  | .ref i=>fun l σ=>match σ.get i with
    | some (.list _)=>cz (.enum i) [k1,k2] body N 0 l σ
    | _=>none
  | _=>fun _ _=>none
theorem pn (G:Good c fd) (hh:fd.hd=none) (ht:fd.top=true) {k1 k2:Nat} {x1 x2 rn:Str} (B:BN c.K rn (.type "enumerate")) (h1:fd.names[k1]?=some x1) (h2:fd.names[k2]?=some x2) (hnd:fd.names.Nodup) (hl1:fd.env.kindOf x1=some .local) (hl2:fd.env.kindOf x2=some .local) {p1 p2 pt rp rpos pos:Pos} {z:Nat} {f:M AV} {b:M AF} {e:Expr} {body:List Stmt} {N:Nat}
    (hr:fd.env.kindOf rn=some .globalImplicit) (hd:(rn==("__debug__" : Str))=false)
    (h:SE c fd VRel f (eval e fd.env)) (hb:SE c fd dz b (execs body fd.env)) (he:starEach [e] fd.env=(false,eval e fd.env)::starEach [] fd.env) (hs:∀ x,foldedSetIterable (.Call (.Name rn rp) [e] [] rpos) fd.env x=pure x) :
    SE c fd dz (nl f k1 k2 b N) (exec (.For (.Tuple [.Name x1 p1,.Name x2 p2] z pt) (.Call (.Name rn rp) [e] [] rpos) body [] pos) fd.env):=by
  refine ⟨fun ρ loc σ s I r loc' σ' hf Q E hE=>?_⟩
  refine wpAny_For ?_ hs
  refine wpAny_Call_NameR (eI G I B hr hd (PyProof.Rows.callWith_type1 (wpAny_items_cons (h.use I hf hE fun a l₁ σ₁ ρ₁ s₁ v hg g₁ I₁ rv hE₁=>wpAny_items_nil ?_) he) he rfl))
  split at hg
  · rename_i i
    obtain ⟨hi,rfl⟩:=rv
    split at hg
    · rename_i xs e1
      obtain ⟨_,ws,k,q1,r1⟩:=I₁.rel.list e1
      refine call_enumerate_list (bC q1) fun h' hen hit hsz hk=>?_
      refine wpAny_pyIter_enum hen ?_
      have g2:=iH (ex:=none) I₁.rel s₁.toks hk
      obtain ⟨o,ho,hc,hdt⟩:=hit
      refine rb G hh ht (.inl ⟨i,rfl⟩) h1 h2 hnd hl1 hl2 hb g2.none (I₁.step g2) I₁.frames (os:=[(s₁.heap.objs.size+1,{ cls:=.type "enumerate",dict:=none,data:=.fields #[.none,.bool false,.ref s₁.heap.objs.size,rawInt ((0:Nat):Int),.none,.none],slots:=#[] }),(s₁.heap.objs.size,o)]) (fun q hq=>?_)
        ⟨hi,s₁.heap.objs.size,o,.none,rfl,Nat.succ_ne_self _,hc,hdt⟩ hg hE₁
      simp only [List.mem_cons,List.not_mem_nil,or_false] at hq
      rcases hq with rfl | rfl
      · exact ⟨hen,I₁.offAt (Nat.le_succ _),fun es n z=>(by cases z),by simp⟩
      · exact ⟨ho,I₁.offAt (Nat.le_refl _),fun es n z=>(by rw [hdt] at z; cases z),by rw [show o.cls=_ from hc]; simp⟩
    · cases hg
  · cases hg
noncomputable def wz (f g:M AV) (k1 k2:Nat) (body:M AF) (N:Nat):M AF:=au f fun a=>au g fun b=>match a,b with
  | .ref i,.ref j=>fun l σ=>match σ.get i,σ.get j with
    | some (.list _),some (.list _)=>cz (.zip i j) [k1,k2] body N 0 l σ
    | _,_=>none
  | _,_=>fun _ _=>none
theorem zr (G:Good c fd) (hh:fd.hd=none) (ht:fd.top=true) {k1 k2:Nat} {x1 x2 rn:Str} (B:BN c.K rn (.type "zip")) (h1:fd.names[k1]?=some x1) (h2:fd.names[k2]?=some x2) (hnd:fd.names.Nodup) (hl1:fd.env.kindOf x1=some .local) (hl2:fd.env.kindOf x2=some .local) {p1 p2 pt rp rpos pos:Pos} {z:Nat} {f f':M AV} {b:M AF} {e e':Expr} {body:List Stmt} {N:Nat}
    (hr:fd.env.kindOf rn=some .globalImplicit) (hd:(rn==("__debug__" : Str))=false)
    (h:SE c fd VRel f (eval e fd.env)) (h':SE c fd VRel f' (eval e' fd.env)) (hb:SE c fd dz b (execs body fd.env)) (he:starEach [e,e'] fd.env=(false,eval e fd.env)::starEach [e'] fd.env) (he':starEach [e'] fd.env=(false,eval e' fd.env)::starEach [] fd.env) (hs:∀ x,foldedSetIterable (.Call (.Name rn rp) [e,e'] [] rpos) fd.env x=pure x) :
    SE c fd dz (wz f f' k1 k2 b N) (exec (.For (.Tuple [.Name x1 p1,.Name x2 p2] z pt) (.Call (.Name rn rp) [e,e'] [] rpos) body [] pos) fd.env):=by
  refine ⟨fun ρ loc σ s I r loc' σ' hf Q E hE=>?_⟩
  refine wpAny_For ?_ hs
  refine wpAny_Call_NameR (eI G I B hr hd (PyProof.Rows.callWith_type1 (wpAny_items_cons (h.use I hf hE fun a l₁ σ₁ ρ₁ s₁ v hg g₁ I₁ rv hE₁=>wpAny_items_cons (h'.use I₁ hg hE₁ fun a' l₂ σ₂ ρ₂ s₂ v' hg₂ g₂ I₂ rv' hE₂=>wpAny_items_nil ?_) he') he) he (by rw [he']; rfl)))
  split at hg₂
  · rename_i i j
    obtain ⟨hi,rfl⟩:=g₂.up rv
    obtain ⟨hj,rfl⟩:=rv'
    split at hg₂
    · rename_i xs ys e1 e2
      obtain ⟨_,ws,k,q1,r1⟩:=I₂.rel.list e1
      obtain ⟨_,us,k',q2,r2⟩:=I₂.rel.list e2
      have li:=Heap.lt_size q1
      have lj:=Heap.lt_size q2
      refine call_zip_2 (bC q1) (bC q2) fun h' hz hTI hTO hi1 hi2 hsz hk=>?_
      refine wpAny_pyIter_zip hz ?_
      have g3:=iH (ex:=none) I₂.rel s₂.toks hk
      obtain ⟨o1,ho1,c1,d1⟩:=hi1
      obtain ⟨o2,ho2,c2,d2⟩:=hi2
      refine rb G hh ht (.inr ⟨i,j,rfl⟩) h1 h2 hnd hl1 hl2 hb g3.none (I₂.step g3) I₂.frames (os:=[(s₂.heap.objs.size+4,{ cls:=.type "zip",dict:=none,data:=.fields #[.none,.bool false,.bool false,.ref (s₂.heap.objs.size+2),.ref (s₂.heap.objs.size+3)],slots:=#[] }),
        (s₂.heap.objs.size+2,{ cls:=.type "tuple",data:=.seq #[.ref s₂.heap.objs.size,.ref (s₂.heap.objs.size+1)] }),(s₂.heap.objs.size+3,{ cls:=.type "tuple",data:=.seq #[.none,.none] }),(s₂.heap.objs.size,o1),(s₂.heap.objs.size+1,o2)]) (fun q hq=>?_)
        ⟨hi,hj,_,_,_,_,o1,o2,.none,.none,rfl,?_,c1,d1,c2,d2⟩ hg₂ hE₂
      · simp only [List.mem_cons,List.not_mem_nil,or_false] at hq
        rcases hq with rfl | rfl | rfl | rfl | rfl
        · exact ⟨hz,I₂.offAt (by omega),fun es n z=>(by cases z),by simp⟩
        · exact ⟨hTI,I₂.offAt (by omega),fun es n z=>(by cases z),by simp⟩
        · exact ⟨hTO,I₂.offAt (by omega),fun es n z=>(by cases z),by simp⟩
        · exact ⟨ho1,I₂.offAt (by omega),fun es n z=>(by rw [d1] at z; cases z),by rw [show o1.cls=_ from c1]; simp⟩
        · exact ⟨ho2,I₂.offAt (by omega),fun es n z=>(by rw [d2] at z; cases z),by rw [show o2.cls=_ from c2]; simp⟩
      · generalize s₂.heap.objs.size=N at *
        constructor <;> first | exact Nat.ne_of_lt (by omega) | exact Nat.ne_of_gt (by omega) | exact Nat.ne_of_lt (Nat.lt_of_lt_of_le li (by omega)) | exact Nat.ne_of_lt (Nat.lt_of_lt_of_le lj (by omega))
    · cases hg₂
  · cases hg₂
noncomputable def jJ (t:M Bool) (body:M AF):Nat→M AF
  | 0=>fun _ _=>none
  | n+1=>au t fun b=>if b then ay body (jJ t body n) else ret .next
noncomputable def WJ (c:Cx) (fd:Fd) (t:M Bool) (f:M AF) (ρ₀:Nat→Addr) (σ₀:St) (s₀:Shared) (r:Res AF) (loc':Loc) (σ':St) (n:Nat) (s:Shared):Prop :=
  ∃ ρ loc σ,Go c (some fd.L) ρ₀ σ₀ s₀ ρ σ s∧Inv c fd ρ loc σ s∧jJ t f n loc σ=some (r,loc',σ')
theorem uz (G:Good c fd) (ht:fd.top=true) {t:M Bool} {f:M AF} {test:Expr} {body:List Stmt} (h:SE c fd gb t (isTrue test fd.env (eval test fd.env))) (hb:SE c fd dz f (execs body fd.env)) {ρ₀:Nat→Addr} {σ₀:St} {s₀:Shared}
    {r:Res AF} {loc':Loc} {σ':St} {Q:Flow→Shared→Prop} {E:Value→Shared→Prop} (hE:Ends c fd dz ρ₀ σ₀ s₀ r loc' σ' Q E) {n:Nat} {s:Shared} (hj:WJ c fd t f ρ₀ σ₀ s₀ r loc' σ' n s)
    {Qn:Bool→Shared→Prop} {Qb:Flow→Shared→Prop} {En:Value→Shared→Prop} (hE':∀ x s,notedBy (model c.prog c.w) fd.A fd.env (cameBackBy (model c.prog c.w) fd.A fd.env E) x s→En x s) (hb1:∀ s,(∃ m,m<n∧WJ c fd t f ρ₀ σ₀ s₀ r loc' σ' m s)→Qb .next s) (hb2:∀ v s,Q (.ret v) s→Qb (.ret v) s)
    (hq0:∀ s,Q .next s→Qn false s) (hq1:∀ s,wpAny (model c.prog c.w) fd.A (execs body fd.env) Qb En s→Qn true s):wpAny (model c.prog c.w) fd.A (isTrue test fd.env (eval test fd.env)) Qn En s:=by
  obtain ⟨ρ,loc,σ,g,I,hf⟩:=hj
  cases n with
  | zero=>exact nomatch hf
  | succ n =>
    have pass:∀ {ρ₃:Nat→Addr} {s₃:Shared} {i:Nat},r=.exc i→Go c (some fd.L) ρ₀ σ₀ s₀ ρ₃ σ' s₃→Inv c fd ρ₃ loc' σ' s₃→Flies c (some fd.L) ρ₃ σ' i s₃.heap→En (.ref (ρ₃ i)) s₃:=fun e g₃ I₃ F =>
      have hE:=e▸hE
      hE' _ _ (q0 G ht I₃ F fun s' g' I' F'=>hE _ s' (g₃.trans g'.none) I' F')
    rcases bX hf with h0q | ⟨i,ef,e⟩
    · obtain ⟨b,l₁,σ₁,ef,hg⟩:=h0q
      refine h.1 _ _ _ _ I _ _ _ ef _ _ fun ρ₁ s₁ w g₁ I₁ rw=>?_
      have rw:b=w:=rw
      rw [← rw]
      cases b with
      | false=>exact hq0 _ (hE.of hg _ _ _ (g.trans g₁) I₁ rfl)
      | true =>
        refine hq1 _ ?_
        rcases bX (show ay f (jJ t f n) l₁ σ₁=_ from hg) with h0q | ⟨i,ef₂,e⟩
        · obtain ⟨x,l₂,σ₂,ef₂,hg₂⟩:=h0q
          refine hb.1 _ _ _ _ I₁ _ _ _ ef₂ _ _ fun ρ₂ s₂ w g₂ I₂ rw=>?_
          cases x with
          | next =>
            have rw:w=.next:=rw
            rw [rw]
            exact hb1 _ ⟨n,Nat.lt_succ_self _,ρ₂,l₂,σ₂,(g.trans g₁).trans g₂,I₂,hg₂⟩
          | ret a =>
            obtain ⟨u,hu,ru⟩:=rw
            rw [hu]
            exact hb2 _ _ (hE.of hg₂ _ _ _ ((g.trans g₁).trans g₂) I₂ ⟨u,rfl,ru⟩)
        · exact hb.1 _ _ _ _ I₁ _ _ _ ef₂ _ _ fun ρ₂ s₂ g₂ I₂ F=>pass e ((g.trans g₁).trans g₂) I₂ F
    · exact h.1 _ _ _ _ I _ _ _ ef _ _ fun ρ₁ s₁ g₁ I₁ F=>pass e (g.trans g₁) I₁ F
theorem xN (G:Good c fd) (ht:fd.top=true) {t:M Bool} {f:M AF} {test:Expr} {body:List Stmt} {pos:Pos} {N:Nat} (h:SE c fd gb t (isTrue test fd.env (eval test fd.env))) (hb:SE c fd dz f (execs body fd.env)) :
    SE c fd dz (jJ t f N) (exec (.While test body [] pos) fd.env):=by
  refine ⟨fun ρ₀ loc₀ σ₀ s₀ I₀ r loc' σ' hf Q E hE=>?_⟩
  exact wpAny_While (codeAny_whileLoop (WJ c fd t f ρ₀ σ₀ s₀ r loc' σ') (fun _ _ hj=>uz G ht h hb hE hj (fun _ _ h=>h) (by exact fun _ h=>h) (by exact fun _ _ h=>h) (fun _ h=>wpAny_execs_nil h) (fun _ h=>h)) N ⟨ρ₀,loc₀,σ₀,.refl I₀.rel,I₀,hf⟩)
end
end Lw
end SA16
section SA17
namespace Lw
open PySem PySem.Calls PyProof.Rows PySem.W
noncomputable def lR (l:Loc) (k:Nat) (a:AV):Loc:=fun j=>if j=k then some a else l j
noncomputable def dT (i acc:Nat) (t:M Bool) (e:M AV):Nat→Nat→Loc→St→Option St
  | 0,_,_,_=>none
  | n+1,p,l,σ=>match bH (.list i) σ p with
    | some none=>some σ
    | some (some [a])=>match t (lR l 0 a) σ with
      | some (.ok true,l1,σ1)=>match e l1 σ1 with
        | some (.ok v,l2,σ2)=>match bI [.ref acc,v] l2 σ2 with
          | some (.ok _,l3,σ3)=>dT i acc t e n (p+1) l3 σ3
          | _=>none
        | _=>none
      | some (.ok false,l1,σ1)=>dT i acc t e n (p+1) l1 σ1
      | _=>none
    | _=>none
noncomputable def kg (f:M AV) (t:M Bool) (e:M AV) (N:Nat):M AV:=au f fun a=>match a with
  | .ref i=>fun l σ=>match σ.get i with
    | some (.list _)=>match dT i σ.next t e N 0 (fun _=>none) (σ.push (.list [])) with
      | some σ'=>some (.ok (.ref σ.next),l,σ')
      | none=>none
    | _=>none
  | _=>fun _ _=>none
noncomputable def cfd (fd:Fd) (scope:Scope) (C:Addr) (x:Str):Fd:={ A₀:=fd.A₀,fenv:=fd.fenv,env:=compEnv scope C fd.env,L:=C,names:=[x],outer:=fd.outer,below:=fd.fenv::fd.outer,b:=fd.b,hd:=fd.hd,top:=false }
section
variable {c:Cx} {fd:Fd}
theorem xO (G:Good c fd) {scope:Scope} (hk:scope.kind=.function) (C:Addr) (x:Str):Good c (cfd fd scope C x) :=
  ⟨G.ok,hk,G.glob,G.blt,rfl,G.fk,.inr ⟨rfl,rfl⟩,G.frames,G.room⟩
theorem wA {i acc:Nat} {t:M Bool} {e:M AV} {n p:Nat} {l:Loc} {σ σ':St} (h:dT i acc t e (n+1) p l σ=some σ'):(bH (.list i) σ p=some none∧σ=σ')∨∃ a,bH (.list i) σ p=some (some [a])∧∃ b l1 σ1,t (lR l 0 a) σ=some (.ok b,l1,σ1) ∧
    (b=false∧dT i acc t e n (p+1) l1 σ1=some σ'∨b=true∧∃ v l2 σ2 u l3 σ3,e l1 σ1=some (.ok v,l2,σ2)∧bI [.ref acc,v] l2 σ2=some (.ok u,l3,σ3)∧dT i acc t e n (p+1) l3 σ3=some σ'):=by
  unfold dT at h
  split at h
  · cases h; exact .inl ⟨by assumption,rfl⟩
  · rename_i a ei
    refine .inr ⟨a,ei,?_⟩
    split at h
    · rename_i l1 σ1 et
      refine ⟨true,l1,σ1,et,.inr ⟨rfl,?_⟩⟩
      split at h
      · rename_i v l2 σ2 ee
        split at h
        · rename_i u l3 σ3 ea
          exact ⟨v,l2,σ2,u,l3,σ3,ee,ea,h⟩
        · cases h
      · cases h
    · rename_i l1 σ1 et
      exact ⟨false,l1,σ1,et,.inl ⟨rfl,h⟩⟩
    · cases h
  · cases h
theorem wB {t:M Bool} {e:M AV} {N:Nat} {a:AV} {l l':Loc} {σ σ':St} {r:Res AV} (h:(match a with
    | .ref i=>fun l σ=>match σ.get i with
      | some (.list _)=>match dT i σ.next t e N 0 (fun _=>none) (σ.push (.list [])) with
        | some σ'=>some (.ok (.ref σ.next),l,σ')
        | none=>none
      | _=>none
    | _=>fun _ _=>none:M AV) l σ=some (r,l',σ')):∃ i xs,a=.ref i∧σ.get i=some (.list xs)∧dT i σ.next t e N 0 (fun _=>none) (σ.push (.list []))=some σ'∧some (Res.ok (.ref σ.next),l,σ')=some (r,l',σ'):=by
  cases a with
  | ref i =>
    dsimp only at h
    split at h
    · rename_i xs e1
      split at h
      · rename_i σ9 e2
        cases h; exact ⟨i,xs,rfl,e1,e2,rfl⟩
      · cases h
    · cases h
  | _=>exact nomatch h
theorem vC {ρ:Nat→Addr} {σ:St} {h:Heap} (R:Rel c ρ σ h) {a:AO} {C D:Addr} (hC:h.get? C=none) (hD:D≠C):¬ Own (ins ρ σ.next D) (σ.push a) C:=fun ⟨j,hj,q⟩=>by
  by_cases z:j=σ.next
  · rw [z,bK] at q; exact hD q
  · have hj:=Nat.lt_of_le_of_ne (Nat.le_of_lt_succ hj) z
    obtain ⟨_,_,o,ho,_⟩:=R.obj j hj
    have q:ρ j=C:=(cr hj).symm.trans q
    rw [q,hC] at ho
    cases ho
theorem wC {ρ₁ ρ:Nat→Addr} {σ₁ σ':St} {s₁ s₅:Shared} {C:Addr} {h':Heap} (g:Go c (some C) ρ₁ σ₁ s₁ ρ σ' s₅) (hs:Heap.SameBut C s₅.heap h') (hC:s₁.heap.get? C=none) (low:c.base.objs.size≤C) (off:¬ Own ρ σ' C):Go c none ρ₁ σ₁ s₁ ρ σ' { s₅ with heap:=h' } :=
  have kC:∀ b o,b≠C→s₅.heap.get? b=some o→h'.get? b=some o:=fun b o hb e=>hs.extBut b o hb e
  have nC:∀ a o,s₁.heap.get? a=some o→a≠C:=fun a o e q=>by rw [q,hC] at e; cases e
  { rel:={
      inj:=g.rel.inj
      keep:=fun b o e=>kC b o (fun q=>absurd (Heap.lt_size e) (by rw [q]; exact Nat.not_lt.mpr low)) (g.rel.keep b o e)
      new:=g.rel.new
      obj:=fun j hj=>let ⟨a,e,o,ho,r⟩:=g.rel.obj j hj; ⟨a,e,o,kC _ _ (fun q=>off ⟨j,hj,q⟩) ho,r⟩
      dom:=g.rel.dom }
    ext:=g.ext
    le:=g.le
    fresh:=g.fresh
    keep:=fun a o e _ hn =>
      have ⟨o',ho',sm⟩:=g.keep a o e (fun q=>nC a o e (Option.some.inj q).symm) hn
      ⟨o',kC _ _ (nC a o e) ho',sm⟩
    live:=fun a o e=>have ⟨o',ho'⟩:=g.live a o e; ⟨o',kC _ _ (nC a o e) ho'⟩
    rest:=g.rest }
theorem xP (G:Good c fd) {scope:Scope} {x:Str} {ρ₁ ρ:Nat→Addr} {l:Loc} {σ₁ σ:St} {s₁ s:Shared} {C:Addr} {m:Str→Option Value} (I:Inv c fd ρ₁ l σ₁ s₁) (g:Go c none ρ₁ σ₁ s₁ ρ σ s) (hn:s.heap.Ns C m) (hC:s₁.heap.get? C=none) (low:c.base.objs.size≤C) (off:¬ Own ρ σ C) :
    Inv c (cfd fd scope C x) ρ (fun _=>none) σ s where
  rel:=g.rel
  fr:=⟨m,hn,fun k y a _ h2=>nomatch h2⟩
  off:=off
  low:=low
  stk:=(I.step g).stack G
  apart:=fun env he L hf q=>by
    obtain ⟨_,L',o,_,_,hf',_,_,ho,_⟩:=I.stack G env he
    obtain rfl:L'=L:=Option.some.inj (hf'.symm.trans hf)
    have q:C=L':=q
    rw [← q,hC] at ho
    cases ho
noncomputable def CJ (c:Cx) (fd:Fd) (i acc:Nat) (t:M Bool) (e:M AV) (it D:Addr) (ρ₁:Nat→Addr) (σ₁:St) (s₁:Shared) (σ':St) (n:Nat) (s:Shared):Prop :=
  ∃ ρ l σ os p,Go c (some fd.L) ρ₁ σ₁ s₁ ρ σ s∧Inv c fd ρ l σ s∧Held c fd s₁ ρ σ s.heap os∧ItIs (.list i) it p ρ σ.next os∧acc<σ.next∧ρ acc=D∧dT i acc t e n p l σ=some σ'
theorem wD (G:Good c fd) (hh:fd.hd=none) {x:Str} (hn0:fd.names[0]?=some x) (hnd:fd.names.Nodup) (hx:fd.env.kindOf x=some .local) {elt:Expr} {ifs:List Expr} {t:M Bool} {e:M AV}
    (ht:SE c fd gb t (forIn ifs true fun c r=>if r=true then do let ok ← isTrue c fd.env (eval c fd.env); pure (ForInStep.yield ok) else pure (ForInStep.yield r)))
    (he:SE c fd VRel e (eval elt fd.env)) {ρ₁:Nat→Addr} {σ₁ σ':St} {s₁:Shared} {i acc:Nat} {it D:Addr} (hS:∀ env∈fd.below,∀ L,env.frame=some L→∃ o,s₁.heap.get? L=some o)
    {Q:Option Value→Shared→Prop} {E:Value→Shared→Prop} (hq:∀ s ρ l,Go c (some fd.L) ρ₁ σ₁ s₁ ρ σ' s→Inv c fd ρ l σ' s→acc<σ'.next→ρ acc=D→Q none s)
    {n:Nat} {px:Pos} (hs:∀ v s,wpAny (model c.prog c.w) fd.A (assign (.Name x px) fd.env v) (fun _ s=>wpAny (model c.prog c.w) fd.A (forIn ifs true fun c r=>if r=true then do let ok ← isTrue c fd.env (eval c fd.env); pure (ForInStep.yield ok) else pure (ForInStep.yield r)) (fun ok s =>
            if ok=true then wpAny (model c.prog c.w) fd.A (eval elt fd.env) (fun x s =>
              wpAny (model c.prog c.w) fd.A (call (.builtin "list.append") [.ref D,x]) (fun _ s=>∃ m,m<n∧CJ c fd i acc t e it D ρ₁ σ₁ s₁ σ' m s) E s) E s
            else ∃ m,m<n∧CJ c fd i acc t e it D ρ₁ σ₁ s₁ σ' m s) E s) E s→Q (some v) s)
    {s:Shared} (hj:CJ c fd i acc t e it D ρ₁ σ₁ s₁ σ' n s):wpAny (model c.prog c.w) fd.A (pyNext (.ref it)) Q E s:=by
  obtain ⟨ρ,l,σ,os,p,g,Iv,H,hI,hlt,hrD,hc⟩:=hj
  cases n with
  | zero=>exact nomatch hc
  | succ n =>
    rcases wA hc with h0q | h0q
    · exact nW (k:=.list i) hh g Iv hS H (fun _ q=>IK.noConfusion q) (fun _ _ q=>IK.noConfusion q) hI h0q.1 (fun _ s₅ g₅ I₅=>hq s₅ ρ l (h0q.2▸g₅) (h0q.2▸I₅) (h0q.2▸hlt) hrD) fun _ q=>nomatch q
    · obtain ⟨a,ei,b,l1,σ1,et,hc⟩:=h0q
      refine nW (k:=.list i) hh g Iv hS H (fun _ q=>IK.noConfusion q) (fun _ _ q=>IK.noConfusion q) hI ei (fun q=>nomatch q) fun a' q v s₅ os' rv g₅ I₅ H₅ hI₅=>hs v s₅ ?_
      have rv:VRel σ.next ρ a v:=(List.cons.inj (Option.some.inj q)).1▸rv
      clear q g H
      refine wpAny_assign_Name (gy (k:=0) G hn0 hnd hx I₅ rv fun s₆ g₆ I₆=>?_)
      refine ht.1 _ _ _ _ I₆ _ _ _ et _ _ fun ρ₇ s₇ w g₇ I₇ rw=>?_
      have gT:=(g₅.trans g₆).trans g₇
      have H₇:=(H₅.step g₆).step g₇
      have hI₇:=hI₅.up g₇.le g₇.ext
      have lt7:=Nat.lt_of_lt_of_le hlt g₇.le
      have r7:ρ₇ acc=D:=(g₇.ext _ hlt).trans hrD
      have rw:b=w:=rw
      subst rw
      rcases hc with h0q | h0q
      · rw [if_neg (h0q.1▸Bool.false_ne_true)]
        exact ⟨n,Nat.lt_succ_self _,ρ₇,l1,σ1,os',p+1,gT,I₇,H₇,hI₇,lt7,r7,h0q.2⟩
      · obtain ⟨hb,v',l2,σ2,u,l3,σ3,ee,ea,hc⟩:=h0q
        rw [if_pos hb]
        refine he.1 _ _ _ _ I₇ _ _ _ ee _ _ fun ρ₈ s₈ w g₈ I₈ rw=>?_
        have ltA:=Nat.lt_of_lt_of_le lt7 g₈.le
        have rA:ρ₈ acc=D:=(g₈.ext _ lt7).trans r7
        refine fq _ _ _ _ I₈ [.ref acc,v'] [.ref D,w] (.cons ⟨ltA,by rw [rA]⟩ (.cons rw .nil)) _ _ _ ea _ _ fun ρ₉ s₉ w' g₉ I₉ _=>?_
        exact ⟨n,Nat.lt_succ_self _,ρ₉,l3,σ3,os',p+1,(gT.trans g₈).trans g₉,I₉,(H₇.step g₈).step g₉,(hI₇.up g₈.le g₈.ext).up g₉.le g₉.ext,Nat.lt_of_lt_of_le ltA g₉.le,(g₉.ext _ ltA).trans rA,hc⟩
theorem rS (G:Good c fd) (hh:fd.hd=none) {scope:Scope} {x:Str} {px pos:Pos} {elt iter:Expr} {ifs:List Expr} {f:M AV} {t:M Bool} {e:M AV} {N:Nat}
    (hfree:∀ y∈scope.names,y.2≠.free) (hcell:∀ y∈scope.names,y.2≠.cell) (hkind:scope.kind=.function)
    (hnames:∀ y∈scope.names,y.2=.local→scope.names.lookup y.1=some .local) (hx:scope.names.lookup x=some .local)
    (h:SE c fd VRel f (eval iter fd.env))
    (ht:∀ C,Good c (cfd fd scope C x)→SE c (cfd fd scope C x) gb t (forIn ifs true fun c r=>if r=true then do let ok ← isTrue c (compEnv scope C fd.env) (eval c (compEnv scope C fd.env)); pure (ForInStep.yield ok) else pure (ForInStep.yield r)))
    (he:∀ C,Good c (cfd fd scope C x)→SE c (cfd fd scope C x) VRel e (eval elt (compEnv scope C fd.env)))
    (hs:∀ x,foldedSetIterable iter fd.env x=pure x):SE c fd VRel (kg f t e N) (eval (.ListComp elt [⟨.Name x px,iter,ifs,0⟩] scope pos) fd.env):=by
  refine ⟨fun ρ loc σ s I r loc' σ' hf Q E hE=>?_⟩
  refine wpAny_ListComp hfree hkind hnames (h.use I hf hE fun a l₁ σ₁ ρ₁ s₁ v hg g₁ I₁ rv hE₁=>?_) hs
  obtain ⟨i,xs,rfl,e1,hc,hr⟩:=wB hg
  have hE₁:=hE₁.of hr
  obtain ⟨hi,rfl⟩:=rv
  obtain ⟨_,ws,k,h1,r1⟩:=I₁.rel.list e1
  refine wpAny_pyIter_list (bC h1) (wpAny_newObj_type (hd:=by size_fits) (wpAny_newFunctionEnv hcell (by intro y hy; simp at hy) (fun h₁ hns₁ hsb₁=>?_) hkind))
  dsimp only at hns₁ hsb₁ ⊢
  generalize hH1:s₁.heap.push { cls:=.type "list_iterator",data:=.fields #[.ref (ρ₁ i),.int 0 0] }=H1 at hns₁ hsb₁ ⊢
  have hD:H1.objs.size=s₁.heap.objs.size+1:=by rw [← hH1,Heap.size_push]
  generalize hH2:H1.push { cls:=.type "list",dict:=none,data:=.seq ([]:List Value).toArray }=H2 at hns₁ hsb₁ ⊢
  have hC:H2.objs.size=s₁.heap.objs.size+2:=by rw [← hH2,Heap.size_push,hD]
  have hDC:H1.objs.size≠H2.objs.size:=by rw [hD,hC]; exact Nat.ne_of_lt (Nat.lt_succ_self _)
  have hIC:s₁.heap.objs.size≠H2.objs.size:=by rw [hC]; exact Nat.ne_of_lt (Nat.lt_succ_of_lt (Nat.lt_succ_self _))
  have g4:=lJ (ex:=none) (x:=H1.objs.size) (a:=.list []) I₁.rel (s₁.toks+([]:List (Str×Value)).length) (I₁.offAt (by rw [hD]; exact Nat.le_succ _)).new (Nat.le_trans I₁.big (by rw [hD]; exact Nat.le_succ _))
    (fun b o e=>hsb₁.extBut b o (by rw [hC]; exact Nat.ne_of_lt (Nat.lt_succ_of_lt (Nat.lt_succ_of_lt (Heap.lt_size e)))) (Heap.get?_push_of_some _ (hH2▸Heap.get?_push_of_some _ (hH1▸Heap.get?_push_of_some _ e))))
    (hsb₁.extBut _ _ hDC (Heap.get?_push_of_some _ (hH2▸Heap.get?_push_size _ rfl))) ⟨[],0,rfl,.nil⟩
  have hitO:=hsb₁.extBut _ _ hIC (Heap.get?_push_of_some _ (hH2▸Heap.get?_push_of_some _ (hH1▸Heap.get?_push_size _ rfl)))
  have hCn:=(I₁.offAt (a:=H2.objs.size) (by rw [hC]; exact Nat.le_add_right ..)).new
  have hlow:c.base.objs.size≤H2.objs.size:=Nat.le_trans I₁.big (by rw [hC]; exact Nat.le_add_right ..)
  have hDI:H1.objs.size≠s₁.heap.objs.size:=by rw [hD]; exact Nat.succ_ne_self _
  clear hH1 hH2 hsb₁ hD hC
  generalize H2.objs.size=C at *
  generalize H1.objs.size=D at *
  have Gc:=xO G hkind C x
  have I4:=xP G (scope:=scope) (x:=x) I₁ g4 hns₁ hCn hlow (vC I₁.rel hCn hDC)
  have Held4:Held c (cfd fd scope C x) s₁ (ins ρ₁ σ₁.next D) (σ₁.push (.list [])) h₁ [(s₁.heap.objs.size,{ cls:=.type "list_iterator",data:=.fields #[.ref (ρ₁ i),.int 0 0] })]:=by
    intro q hq
    cases List.mem_singleton.mp hq
    exact ⟨hitO,⟨I₁.big,hIC,vC I₁.rel (get?_size _) hDI,get?_size _⟩,fun es n z=>(nomatch z),by simp⟩
  have hS:∀ env∈(cfd fd scope C x).below,∀ L,env.frame=some L→∃ o,s₁.heap.get? L=some o:=fun env he L hf =>
    exE2 (I₁.stack G env he).2 fun L' o ⟨_,_,hf',_,_,ho,_⟩=>⟨o,Option.some.inj (hf'.symm.trans hf)▸ho⟩
  have loop:codeAny (model c.prog c.w) fd.A (.compLoop (.ListComp elt [⟨.Name x px,iter,ifs,0⟩] scope pos) 0 (.ref s₁.heap.objs.size) (.ref D) (compEnv scope C fd.env))
        (fun r s'=>∃ m,s'.heap.Ns C m∧∀ h',Heap.SameBut C s'.heap h' →
          match r with | .ok _=>Q (.ref D) { s' with heap:=h' } | .error x=>wpAny (model c.prog c.w) fd.A (passOn "comprehension.variables-let-go" x (compEnv scope C fd.env)) Q E { s' with heap:=h' }) { s₁ with heap:=h₁,toks:=s₁.toks+([]:List (Str×Value)).length }:=by
    refine codeAny_compLoop_tests (CJ c (cfd fd scope C x) i σ₁.next t e s₁.heap.objs.size D ρ₁ σ₁ s₁ σ') ?_ N
      ⟨_,_,_,_,0,g4.none,I4,Held4,⟨Nat.lt_succ_of_lt hi,_,rfl,rfl,by rw [cr hi]; rfl⟩,Nat.lt_succ_self _,bK ..,hc⟩
    exact fun n s' hj=>wD Gc hh rfl (List.nodup_cons.mpr ⟨List.not_mem_nil,List.nodup_nil⟩) hx (ht C Gc) (he C Gc) hS
      (fun s₅ ρ l g₅ I₅ hl hr=>by
        obtain ⟨m,hn,_⟩:=I₅.fr
        refine ⟨m,hn,fun h' hs'=>?_⟩
        have gF:=wC g₅ hs' hCn hlow I₅.off
        exact hE₁ ρ { s₅ with heap:=h' } (.ref D) gF.none (I₁.step gF) ⟨hl,by rw [hr]⟩)
      (fun _ _ h=>h) hj
  exact codeAny_compStart_list loop (wpAny_pyIter_listiter (it:=s₁.heap.objs.size) (l:=ρ₁ i) (i:=0) ⟨_,hitO,rfl,rfl⟩ loop)
theorem Bm {env:Env}:SE c fd gb (ret true) (forIn ([]:List Expr) true fun c r=>if r=true then do let ok ← isTrue c env (eval c env); pure (ForInStep.yield ok) else pure (ForInStep.yield r)):=by
  refine ⟨fun ρ loc σ s I r loc' σ' hf Q E hE=>?_⟩
  have hE:=hE.of hf
  exact wpAny_tests_nil (Ends.here I hE rfl)
theorem xQ {t:M Bool} {env:Env} {e:Expr} (h:SE c fd gb t (isTrue e env (eval e env))):SE c fd gb t (forIn [e] true fun c r=>if r=true then do let ok ← isTrue c env (eval c env); pure (ForInStep.yield ok) else pure (ForInStep.yield r)):=by
  refine ⟨fun ρ loc σ s I r loc' σ' hf Q E hE=>?_⟩
  exact wpAny_tests_one (h.1 _ _ _ _ I _ _ _ hf _ _ hE)
end
end Lw
end SA17
section SA18
namespace Lw
open PySem PySem.Calls PyProof.Rows PySem.W PySem.Builtin PySem.Builtin.ObjectAttr
section
variable {prog:Program} {w:World} {A:Around} {E:Value→Shared→Prop} {R:Result→Shared→Prop} {h:Heap} {g:Array GenState} {d:Drawn} {t:Nat} {os:OsState}
variable {nm q:Str} {C N:Addr} {bs bm bmB:List Value} {hdct:Bool} {sn:List Str} {sub:List Value} {ab:Bool} {col:Option Bool} {dd:Option Addr} {k0 k1 k2 k3 k5:Option Value} {B newId initId:String}
theorem tq (F:ExcBaseFacts B newId initId bmB) (hb:bm.contains (.type B)=true) {rest:List Value} {Q:Unit→Shared→Prop} {M:Model} (hC:h.get? C=some (excClassObj nm q C N bs bm hdct sn sub ab col dd k0 k1 k2 k3 k5 newId))
    (hq:Q () ⟨h,g,d,t,os⟩):wpAny M A (checkBuiltinCall newId ⟨.ref C::rest,[]⟩) Q E ⟨h,g,d,t,os⟩:=by
  have hcont:(Value.ref C::bm).contains (.type B)=true:=by rw [List.contains_cons,hb,Bool.or_true]
  have hstar:=F.noStar
  simp only [checkBuiltinCall,F.newKind,F.newSplit,F.newRow]
  repeat (first | refine wpAny_loadPart_at hC ?_ | (refine wpAny_isSubtype_exc hC ?_; rw [hcont]) | refine wpAny_staticBase_exc hC ?_ | refine wpAny_madeBy_exc hC ?_ | simp only [bne_self_eq_false,Bool.false_eq_true,if_false] | wp_step)
  exact hq
theorem wE (F:ExcBaseFacts B newId initId bmB) (hb:bm.contains (.type B)=true) (ha:bm.contains (.type "AttributeError")=false) (hn:bm.contains (.type "NameError")=false) {rest:List Value} (hC:h.get? C=some (excClassObj nm q C N bs bm hdct sn sub ab col dd k0 k1 k2 k3 k5 newId))
    (hq:R (.ok (.ret (.ref (h.objs.size+1)))) ⟨(h.push { cls:=.type "tuple",data:=.seq rest.toArray }).push
      { cls:=.ref C,data:=.fields #[.ref h.objs.size,.none,.none,.none,.bool false,.none] },g,d,t,os⟩) (hrest:rest.length≤sizeLine:=by size_fits) :
    codeAny (model prog w) A (.builtin newId ⟨.ref C::rest,[]⟩) R ⟨h,g,d,t,os⟩:=by
  have hends:=F.ends
  have hcB:(Value.ref C::bm).contains (.type B)=true:=by rw [List.contains_cons,hb,Bool.or_true]
  have hcA:(Value.ref C::bm).contains (.type "AttributeError")=false:=by rw [List.contains_cons,ha]; rfl
  have hcN:(Value.ref C::bm).contains (.type "NameError")=false:=by rw [List.contains_cons,hn]; rfl
  refine PySem.codeAny_builtinAt F.entry ?_
  unfold Builtin.«BaseException.__new__»
  refine PySem.wpAt_bind ?_
  show PySem.wpAt _ _ _ (stack >>= _) _ _ _
  refine PySem.wpAt_bind (PySem.wpAt_stack fun p below=>PySem.wpAt_of_wpAny ?_)
  wp_walk
  refine PySem.wpAt_of_wpAny ?_
  rw [F.owner]
  repeat (first | with_reducible refine wpAny_madeHere_exc F.canon hC ?_ | with_reducible refine wpAny_loadPart_at hC ?_ | (with_reducible refine wpAny_isSubtype_exc hC ?_; first | rw [hcB] | rw [hcA] | rw [hcN]) | wp_step)
  show R _ _
  rw [Heap.size_push]
  exact hq
theorem tu (F:ExcBaseFacts B newId initId bmB) (hb:bm.contains (.type B)=true) (ha:bm.contains (.type "AttributeError")=false) (hn:bm.contains (.type "NameError")=false) {rest:List Value} {K:Frag} {fI:Addr} {Q:Fin→Shared→Prop}
    (X:K.In h) (hi:findIn K (.ref C) "__init__" = some (some (.ref fI))) (hf:typeIn K (.ref fI)=some (.type "function"))
    (hC:h.get? C=some (excClassObj nm q C N bs bm hdct sn sub ab col dd k0 k1 k2 k3 k5 newId))
    (hq:codeAny (model prog w) A (.call (.ref fI) ⟨.ref (h.objs.size+1)::rest,[]⟩) (fun r s'=>match r with | .ok (.ret v)=>v=.none∧Q (.done (.ret (.ref (h.objs.size+1)))) s' | .ok _=>False | .error e=>E e s')
      ⟨(h.push { cls:=.type "tuple",data:=.seq rest.toArray }).push { cls:=.ref C,data:=.fields #[.ref h.objs.size,.none,.none,.none,.bool false,.none] },g,d,t,os⟩) (hrest:rest.length≤sizeLine:=by size_fits) :
    wpAny (model prog w) A (Builtin.«type.__call__» ⟨.ref C::rest,[]⟩) Q E ⟨h,g,d,t,os⟩:=by
  repeat (first | with_reducible refine wpAny_loadPart_at hC ?_ | with_reducible refine wpAny_madeBy_exc hC ?_ | wp_step)
  refine codeAny_call_builtin_code (Code.quiet_builtin _ F.quiet) (tq F hb hC ?_)
  refine wE F hb ha hn hC ?_ hrest
  show wpAny _ _ _ _ _ _
  have hC₁:=Heap.get?_push_of_some { cls:=.ref C,data:=.fields #[.ref h.objs.size,.none,.none,.none,.bool false,.none] }
    (Heap.get?_push_of_some { cls:=.type "tuple",data:=.seq rest.toArray } hC)
  have hget:((h.push { cls:=.type "tuple",data:=.seq rest.toArray }).push
      { cls:=.ref C,data:=.fields #[.ref h.objs.size,.none,.none,.none,.bool false,.none] }).get? (h.objs.size+1)=some
      { cls:=.ref C,data:=.fields #[.ref h.objs.size,.none,.none,.none,.bool false,.none] }:=by heap_get
  have hcC:(Value.ref C::bm).contains (.ref C)=true:=by simp
  have X₁:K.In ((h.push { cls:=.type "tuple",data:=.seq rest.toArray }).push { cls:=.ref C,data:=.fields #[.ref h.objs.size,.none,.none,.none,.bool false,.none] }) :=
    X.keeps fun b o e=>Heap.get?_push_of_some _ (Heap.get?_push_of_some _ e)
  unfold isInstance
  repeat (first | with_reducible refine wpAny_loadPart_at hget ?_ | (with_reducible refine wpAny_isSubtype_exc hC₁ ?_; rw [hcC]) | wp_step)
  show wpAny _ _ (typeLookup (.ref C) _) _ _ _
  refine (looks_findIn X₁ hi).here ?_
  refine wpAny_holding (wpAny_bind ((bind_fn X₁ _ hf).here ?_))
  refine wpAny_bind (wpAny_call (codeAny_mono hq fun r s' z=>?_))
  rcases r with e | (v | _ | _ | _) <;> first | exact z | exact z.elim | skip
  obtain ⟨rfl,z1⟩:=z
  exact wpAny_pure (wpAny_pure z1)
theorem uA (F:ExcBaseFacts B newId initId bmB) (hb:bm.contains (.type B)=true) (ha:bm.contains (.type "AttributeError")=false) (hn:bm.contains (.type "NameError")=false) {rest:List Value} {K:Frag} {fI:Addr}
    (X:K.In h) (hi:findIn K (.ref C) "__init__" = some (some (.ref fI))) (hf:typeIn K (.ref fI)=some (.type "function"))
    (hC:h.get? C=some (excClassObj nm q C N bs bm hdct sn sub ab col dd k0 k1 k2 k3 k5 newId))
    (hq:codeAny (model prog w) (A.under (.builtin "type.__call__" ⟨.ref C::rest,[]⟩)) (.call (.ref fI) ⟨.ref (h.objs.size+1)::rest,[]⟩) (InitBack (h.objs.size+1) R)
      ⟨(h.push { cls:=.type "tuple",data:=.seq rest.toArray }).push { cls:=.ref C,data:=.fields #[.ref h.objs.size,.none,.none,.none,.bool false,.none] },g,d,t,os⟩) (hrest:rest.length≤sizeLine:=by size_fits) :
    codeAny (model prog w) A (.call (.ref C) ⟨rest,[]⟩) R ⟨h,g,d,t,os⟩:=by
  have f1:=tc_lookup
  have f2:=PySem.tc_bind (.ref C)
  have hT:(⟨h,g,d,t,os⟩:Shared).TypeIs (.ref C) "type" := ⟨_,hC,rfl⟩
  refine codeAny_of_tree ?_
  show wpAny _ _ (callAny (.ref C) _) _ _ _
  repeat (any_goals (first | assumption | with_reducible refine wpAny_loadPart_at hC ?_ | wp_step))
  refine ⟨rfl,?_⟩
  refine codeAny_call_builtin_at (Code.quiet_builtin _ (by decide +kernel)) entry_typeCall (wpAny_check_type_call_sub hC (tu (hrest:=hrest) F hb ha hn X hi hf hC (codeAny_mono hq fun r s' z=>?_)))
  rcases r with e | (v | _ | _ | _) <;> exact z
theorem zt {K:Frag} {x:Addr} {ox:Obj} {name:Str} {v:Value} {s:Shared} {Q:Unit→Shared→Prop} (X:K.In s.heap) (hx:s.heap.get? x=some ox) (hcl:ox.cls=.ref C) (hno:notCls ox=true) (hdn:ox.dict=none) (hfz:∀ d,({ ox with dict:=d }:Obj).isFreed=false)
    (hs:findIn K (.ref C) "__setattr__" = some (some (.builtin "object.__setattr__"))) {cd:ClassData} (hc:clsIn K C=some cd) (hp:∀ self,refuseLoop self "__setattr__" cd.mro=pure ()) (hob:cd.mro.contains (.type "object")=true) (hne:cd.mro.isEmpty=false) (hdd:cd.hasDict=true)
    (ht:takerIn K C name=some none)
    (h:∀ h',(∀ b o,b≠x→s.heap.get? b=some o→h'.get? b=some o)→h'.get? x=some { ox with dict:=some s.heap.objs.size }→h'.get? s.heap.objs.size=some (dictOf (putL name (PyData.keyHash w.params name) (.str name (s.toks+1)) v []) (putN name [] 0))→Q () { s with heap:=h',toks:=s.toks+2 }) :
    wpAny (model prog w) A (setAttr (.ref x) name v) Q E s:=by
  obtain ⟨hp0,gg,dr,tt,oss⟩:=s
  have I:InstAt hp0 x ox C none:=⟨hx,hcl,hno,by rw [hdn]; trivial⟩
  refine set_plain X I hs ?_
  have SF:=PySem.F.store_object
  have sub:Looks (model prog w) hp0 (isInstance (.ref x) (.type "object")) true:=I.type.andThen (looks_mroIn X (by unfold mroIn; rw [hc,Option.bind_some,if_neg (by rw [hne]; decide),hob]))
  refine codeAny_call_builtin SF.slot.plain SF.entry (@check_slot (model prog w) _ _ ⟨hp0,gg,dr,tt+1,oss⟩ "object.__setattr__" "object" "__setattr__" (.ref x) [.str name tt,v] [] _ SF.kind SF.split sub (SF.args (.ref x) (.str name tt) v) ?_)
  obtain ⟨attr,ha,hr⟩:=Option.bind_eq_some_iff.mp ht
  have hm:Looks (model prog w) hp0 (mroOf (.ref C)) cd.mro:=(looks_clsIn X hc).andThen .now
  have L3:Looks (model prog w) hp0 (storeTaker? attr) none:=by
    cases attr with
    | none=>cases hr; exact .now
    | some a =>
      obtain ⟨b,hb,e⟩:=Option.map_eq_some_iff.mp hr
      refine (looks_takesIn X hb).andThen ?_
      cases b
      · exact .now
      · cases e
  rw [osa_eq,refuse_eq]
  refine wpAny_bind (wpAny_bind (I.type.at (wpAny_bind (hm.at ?_))))
  rw [hp]
  refine wpAny_pure (wpAny_bind (I.type.at (wpAny_bind ((looks_findIn X ha).at (wpAny_bind (L3.at ?_))))))
  obtain ⟨oc,odi,oda,osl⟩:=ox
  dsimp only at hcl hdn
  subst hcl hdn
  refine wpAny_bind (wpAny_pure (wpAny_bind (wpAny_bind (wpAny_loadPart hx (wpAny_bind ((looks_clsIn X hc).at ?_))))))
  rw [hdd]
  show wpAny (model prog w) A.in1 (match oda with
              | Data.cls c=>pure none
              | _=>do
                let d ← alloc { cls:=Value.type "dict",data:=Data.dict #[] }
                update x fun o=>{ cls:=o.cls,dict:=some d,data:=o.data,slots:=o.slots }
                dictMade (.ref C) x d) _ _ _
  have nc:∀ c,oda≠.cls c:=fun c q=>by subst q; cases hno
  split
  · rename_i c; exact absurd rfl (nc c)
  have hxs:x≠hp0.objs.size:=Nat.ne_of_lt (Heap.lt_size hx)
  have hx₁:(hp0.push { cls:=.type "dict",data:=.dict #[] }).get? x=some ⟨.ref C,none,oda,osl⟩:=Heap.get?_push_of_some _ hx
  refine wpAny_bind (wpAny_alloc' ?_)
  refine wpAny_bind (wpAny_update' hx₁ ?_)
  refine wpAny_pure ?_
  have hgd:((hp0.push { cls:=.type "dict",data:=.dict #[] }).update x fun o=>{ cls:=o.cls,dict:=some hp0.objs.size,data:=o.data,slots:=o.slots }).get? hp0.objs.size
      = some (dictOf [] 0) :=
    (Heap.get?_update_ne _ _ _ _ hxs.symm).trans (Heap.get?_push_at rfl rfl)
  show wpAny _ _ (storeInDict hp0.objs.size (.str name tt) name v) _ _ _
  unfold storeInDict newKeyGuard
  refine wpAny_bind (wpAny_pure (wpAny_bind ?_))
  have hgd':=Heap.get?_update_self (Obj.putName name (PyData.keyHash w.params name) (.str name (tt+1)) v) hgd (by rw [putName_dict]; rfl)
  unfold nsSet
  refine wpAny_bind (wpAny_bind (wpAny_askSetting (wpAny_pure (wpAny_bind (wpAny_mkText (wpAny_bind (wpAny_loadPart hgd ?_)))))))
  have c:(!([]:List DictEntry).toArray.any (·.key.isStr name)&&([]:List DictEntry).toArray.any (·.refKey))=false:=by rw [← Array.any_toList,← Array.any_toList]; rfl
  dsimp only
  rw [aRefKeyMayBeTheName_at,c]
  refine wpAny_updatePart hgd ?_
  rw [putName_dict] at hgd'
  refine wpAny_bind (wpAny_lookBehind hgd' (pastItsLine_dict (by rw [List.size_toArray,sizeLine_eq]; show (putL name _ _ _ []).length≤_; simp [putL])) ?_)
  refine wpAny_pure (h _ (fun b o hb e=>?_) ?_ hgd')
  · rw [Heap.get?_update_ne _ _ _ _ (Nat.ne_of_lt (Heap.lt_size e)),Heap.get?_update_ne _ _ _ _ hb]
    exact Heap.get?_push_of_some _ e
  · rw [Heap.get?_update_ne _ _ _ _ hxs]
    exact Heap.get?_update_self _ hx₁ (hfz _)
end
end Lw
end SA18
section SA19
namespace Lw
open PySem PySem.Calls PyProof.Rows PySem.W
structure ExcC (K:Frag) (C fI:Addr):Prop where
  obj:∃ nm q N bs bm hdct sn sub ab col dd k0 k1 k2 k3 k5,K.lookup C=some (excClassObj nm q C N bs bm hdct sn sub ab col dd k0 k1 k2 k3 k5 "Exception.__new__")∧bm.contains (.type "Exception")=true∧bm.contains (.type "BaseException")=true ∧
    bm.contains (.type "AttributeError")=false∧bm.contains (.type "NameError")=false
  init:findIn K (.ref C) "__init__" = some (some (.ref fI))
  ityp:typeIn K (.ref fI)=some (.type "function")
  seta:findIn K (.ref C) "__setattr__" = some (some (.builtin "object.__setattr__"))
  geta:findIn K (.ref C) "__getattribute__" = some (some (.builtin "BaseException.__getattribute__"))
  gtr:findIn K (.ref C) "__getattr__" = some none
  cd:∃ cd,clsIn K C=some cd∧(∀ self,PySem.refuseLoop self "__setattr__" cd.mro=pure ())∧cd.mro.contains (.type "object")=true∧cd.mro.isEmpty=false∧cd.hasDict=true
  taker:takerIn K C "told" = some none
  told:findIn K (.ref C) "told" = some none
  keep:keepIn K (.ref C)=true
  dct:hasDictIn K C=true
  base:mroIn K C (.type "BaseException")=some true
section
variable {c:Cx} {fd:Fd}
theorem Rel.more {ρ:Nat→Addr} {σ:St} {h:Heap} (R:Rel c ρ σ h) {x:Addr} {o:Obj} {a:AO} (hx:∀ j,j<σ.next→x≠ρ j) (hb:c.base.objs.size≤x) (hn:h.get? x=some o) (ho:ORel c.prog c.w (σ.next+1) (ins ρ σ.next x) a o) :
    Rel c (ins ρ σ.next x) (σ.push a) h where
  inj:=fun i j hi hj e=>by
    have hi:i<σ.next+1:=hi
    have hj:j<σ.next+1:=hj
    by_cases h1:i=σ.next
    · by_cases h2:j=σ.next
      · rw [h1,h2]
      · subst h1
        rw [bK,cr (by omega)] at e
        exact absurd e (hx j (by omega))
    · by_cases h2:j=σ.next
      · subst h2
        rw [bK,cr (by omega)] at e
        exact absurd e.symm (hx i (by omega))
      · rw [cr (by omega),cr (by omega)] at e
        exact R.inj i j (by omega) (by omega) e
  keep:=R.keep
  new:=fun i hi=>by
    by_cases h:i=σ.next
    · subst h; rw [bK]; exact hb
    · rw [cr (by have:i<σ.next+1:=hi; omega)]; exact R.new i (by have:i<σ.next+1:=hi; omega)
  obj:=fun i hi=>by
    have hi:i<σ.next+1:=hi
    rw [St.get_push]
    by_cases h:i=σ.next
    · subst h
      rw [if_pos rfl,bK]
      exact ⟨a,rfl,o,hn,ho⟩
    · rw [if_neg h]
      obtain ⟨a',e',o',h2,h3⟩:=R.obj i (by omega)
      rw [cr (by omega)]
      exact ⟨a',e',o',h2,h3.up _ _ (Nat.le_succ _) fun j hj=>cr hj⟩
  dom:=fun i a' e=>by
    rw [St.get_push] at e
    split at e
    · rename_i q; rw [q]; exact Nat.lt_succ_self _
    · exact Nat.lt_succ_of_lt (R.dom i a' e)
theorem xR {ex:Option Addr} {ρ:Nat→Addr} {σ:St} {s:Shared} (R:Rel c ρ σ s.heap) {h':Heap} {x y:Addr} {o o':Obj} {a a':AO} (t:Nat) (hx:s.heap.get? x=none) (hy:s.heap.get? y=none) (hxy:x≠y) (hb:c.base.objs.size≤x) (hb':c.base.objs.size≤y)
    (k:∀ b o,s.heap.get? b=some o→h'.get? b=some o) (hn:h'.get? x=some o) (hn':h'.get? y=some o') (ho:ORel c.prog c.w (σ.next+1) (ins ρ σ.next x) a o) (ho':ORel c.prog c.w (σ.next+2) (ins (ins ρ σ.next x) (σ.next+1) y) a' o') :
    Go c ex ρ σ s (ins (ins ρ σ.next x) (σ.next+1) y) ((σ.push a).push a') { s with heap:=h',toks:=t }:=by
  have g1:=lJ (ex:=ex) R t hx hb k hn ho
  have R2:Rel c (ins (ins ρ σ.next x) (σ.next+1) y) ((σ.push a).push a') h':=g1.rel.more (fun j hj q=>by
    have hj:j<σ.next+1:=hj
    by_cases z:j=σ.next
    · subst z; rw [bK] at q; exact hxy q.symm
    · rw [cr (by omega)] at q
      obtain ⟨_,_,o'',h2,_⟩:=R.obj j (by omega)
      rw [← q,hy] at h2
      cases h2) hb' hn' ho'
  exact {
    rel:=R2
    ext:=fun i hi=>by rw [cr (by omega)]; exact cr hi
    le:=Nat.le_succ_of_le (Nat.le_succ _)
    fresh:=fun i h1 h2=>by
      have h2:i<σ.next+2:=h2
      by_cases z:i=σ.next+1
      · subst z; rw [bK]; exact hy
      · obtain rfl:i=σ.next:=by omega
        rw [cr (by omega),bK]; exact hx
    keep:=fun _ o' e _ _=>⟨o',k _ _ e,.refl _⟩
    live:=fun _ o' e=>⟨o',k _ _ e⟩
    rest:=⟨rfl,rfl,rfl⟩ }
noncomputable def gf (C:Addr) (k:Nat):M AF:=fun l σ=>some (.exc (σ.next+1),l,(σ.push (.sdict [(0,.byt k)])).push (.inst C σ.next))
theorem fJ (G:Good c fd) (hh:fd.hd=none) (hbb:2≤fd.b) {xn:Str} {C fI:Addr} (P:ExcC c.K C fI) (e:nsIn c.K mainGlobals xn=some (some (.ref C))) {qual:Str} {params:Arguments} {scope:Scope} {dV cdv:Value} {p1 p2 p3 p4:Pos}
    (FI:FnAt c.K fI qual params [.Assign [.Attribute (.Name "self" p1) "told" p2] (.Name "told" p3) p4] scope dV cdv)
    (hbind:∀ (s:Shared) name body kV doc pm an cdv ct (u v:Value),c.K.In s.heap→BindsTo s (fnOf name qual params body scope dV kV doc pm an cdv ct) ⟨[u,v],[]⟩ [("self",u),("told",v)])
    (hco:scope.isCoroutine=false) (hgen:scope.isGenerator=false) (hk:scope.kind=.function) (hcell:∀ x∈scope.names,x.2≠.cell) (hls:scope.names.lookup (Str.ofString "self")=some NameKind.local) (hlt:scope.names.lookup (Str.ofString "told")=some NameKind.local)
    (hx:fd.env.kindOf xn=some .globalImplicit) (hd:(xn==("__debug__" : Str))=false) {k j:Nat} (hk7:k<btN) {np cp cpos pos:Pos} {bs:List UInt8} (ebs:bs=bt k) {c0:Expr} (ec:c0=.Constant (.bytes bs) j cp) (he:starEach [c0] fd.env=(false,eval c0 fd.env)::starEach [] fd.env) :
    SE c fd dz (gf C k) (exec (.Raise (some (.Call (.Name xn np) [c0] [] cpos)) none pos) fd.env):=by
  refine ⟨fun ρ loc σ s I r loc' σ' hg Q E hE=>?_⟩
  have hE:=hE.of hg
  subst ebs
  obtain ⟨nm',q,N,bs,bm,hdct,sn,sub,ab,col,dd,k0,k1,k2,k3,k5,hC,hbE,hbB,hbA,hbN⟩:=P.obj
  have X:=G.ok.X.keeps I.rel.keep
  have hC0:=X _ _ hC
  rw [arm_exec_Raise]
  refine wpAny_bind (wpAny_standAt ?_)
  show wpAny _ _ (raiseStmt fd.env (some (do let v ← eval (.Call (.Name xn np) [c0] [] cpos) fd.env; standAt pos; pure v)) none) _ _ _
  have hcB:(Value.ref C::bm).contains (.type "BaseException")=true:=by rw [List.contains_cons,hbB,Bool.or_true]
  unfold raiseStmt
  refine wpAny_bind (wpAny_bind (wpAny_Call_NameR (jG G I e hx hd (callWith_K (h₀:=c.base) G.ok.X P.keep (wpAny_items_cons ?_ he) he rfl))))
  subst ec
  show wpAny _ _ (mkTextBytes (bt k).toArray) _ _ _
  refine wpAny_mkTextBytes (wpAny_items_nil ⟨X,?_⟩)
  have room:=G.here hh
  obtain ⟨hp,gn,dr,tk,os⟩:=s
  refine wpAny_call ?_
  show codeAny _ _ (.call (.ref C) ⟨[.bytes (bt k).toArray tk],[]⟩) _ _
  refine uA PySem.F.excBase_Exception hbE hbA hbN (by exact X) P.init P.ityp hC0 ?_ (by show 1≤sizeLine; rw [pf]; omega)
  obtain ⟨oc,od,osl,name,kV,doc,pm,an,ct,ho⟩:=FI.ho
  have k2:∀ b o,hp.get? b=some o→((hp.push { cls:=.type "tuple",data:=.seq [Value.bytes (bt k).toArray tk].toArray }).push { cls:=.ref C,data:=.fields #[.ref hp.objs.size,.none,.none,.none,.bool false,.none] }).get? b=some o:=fun b o e=>Heap.get?_push_of_some _ (Heap.get?_push_of_some _ e)
  have hgetE:((hp.push { cls:=.type "tuple",data:=.seq [Value.bytes (bt k).toArray tk].toArray }).push { cls:=.ref C,data:=.fields #[.ref hp.objs.size,.none,.none,.none,.bool false,.none] }).get? (hp.objs.size+1)=some { cls:=.ref C,data:=.fields #[.ref hp.objs.size,.none,.none,.none,.bool false,.none] }:=by
    have:=Heap.get?_push_size (hp.push { cls:=.type "tuple",data:=.seq [Value.bytes (bt k).toArray tk].toArray }) (o:={ cls:=.ref C,data:=.fields #[.ref hp.objs.size,.none,.none,.none,.bool false,.none] }) rfl
    rw [Heap.size_push] at this
    exact this
  have hsz2:((hp.push { cls:=.type "tuple",data:=.seq [Value.bytes (bt k).toArray tk].toArray }).push { cls:=.ref C,data:=.fields #[.ref hp.objs.size,.none,.none,.none,.bool false,.none] }).objs.size=hp.objs.size+2:=by rw [Heap.size_push,Heap.size_push]
  generalize (hp.push { cls:=.type "tuple",data:=.seq [Value.bytes (bt k).toArray tk].toArray }).push { cls:=.ref C,data:=.fields #[.ref hp.objs.size,.none,.none,.none,.bool false,.none] }=h2 at k2 hgetE hsz2 ⊢
  have X2:c.K.In h2:=X.keeps k2
  refine codeAny_call_def (fd:=fnOf name qual params [.Assign [.Attribute (.Name "self" p1) "told" p2] (.Name "told" p3) p4] scope dV kV doc pm an cdv ct) (body:=[.Assign [.Attribute (.Name "self" p1) "told" p2] (.Name "told" p3) p4]) ?_ (X2 _ _ ho) rfl ((G.ok.T.nolimit.keeps I.rel.keep).keeps k2) (codeRec_of X2 FI.hcd) rfl
    (hbind ⟨h2,gn,dr,tk+1,os⟩ name _ kV doc pm an cdv ct (.ref (hp.objs.size+1)) (.bytes (bt k).toArray tk) X2) hcell ?_ (fun h₁ hns hk₁=>?_) hco hgen hk
  · rw [depth_under_make]
    have:=room.2.1
    have:recursionLimit=1000:=rfl
    omega
  · intro y hy
    simp only [List.mem_cons,List.not_mem_nil,or_false] at hy
    rcases hy with rfl | rfl
    · exact hls
    · exact hlt
  refine wpAny_execs_cons (plainObj_wpAny_Assign_Attribute (wpAny_Name (wpAny_loadName_local hk hlt hns rfl (wpAny_Name (wpAny_loadName_local hk hls hns rfl ?_) rfl)) rfl) rfl)
  have X3:c.K.In h₁:=X2.keeps hk₁
  obtain ⟨cd,hcd1,hcd2,hcd3,hcd4,hcd5⟩:=P.cd
  refine zt (K:=c.K) (s:=⟨h₁,gn,dr,tk+1+2,os⟩) X3 (hk₁ _ _ hgetE) rfl rfl rfl (fun _=>rfl) P.seta hcd1 hcd2 hcd3 hcd4 hcd5 P.taker fun h' hk' he' hd'=>wpAny_execs_nil ?_
  refine ⟨rfl,?_⟩
  have big:c.base.objs.size≤hp.objs.size:=I.big
  have hCb:=G.ok.X _ _ hC
  have hCe:C≠hp.objs.size+1:=Nat.ne_of_lt (Nat.lt_of_lt_of_le (Heap.lt_size hCb) (Nat.le_succ_of_le big))
  have hC1:=hk' _ _ hCe (X3 _ _ hC)
  show wpAny _ _ (do standAt pos; pure (Value.ref (hp.objs.size+1))) _ _ _
  refine wpAny_bind (wpAny_standAt (wpAny_pure ?_))
  repeat (first | with_reducible refine wpAny_loadPart_at he' ?_ | with_reducible refine wpAny_loadPart_at hC1 ?_ | (with_reducible refine wpAny_isSubtype_exc hC1 ?_; rw [hcB]) | wp_step)
  refine wpAny_raiseNew_none hh ?_
  have sz1:hp.objs.size+2≤h₁.objs.size:=by
    obtain ⟨o',_,_,ho',_⟩:=hns
    have:=Heap.lt_size ho'
    rw [hsz2] at this
    exact Nat.le_of_lt this
  have hfr:∀ a,hp.objs.size≤a→hp.get? a=none:=fun a ha=>(I.offAt ha).new
  have kAll:∀ b o,hp.get? b=some o→h'.get? b=some o:=fun b o e=>hk' b o (Nat.ne_of_lt (Nat.lt_succ_of_lt (Heap.lt_size e))) (hk₁ _ _ (k2 _ _ e))
  have g:Go c none ρ σ ⟨hp,gn,dr,tk,os⟩ (ins (ins ρ σ.next h₁.objs.size) (σ.next+1) (hp.objs.size+1)) ((σ.push (.sdict [(0,.byt k)])).push (.inst C σ.next)) { (⟨hp,gn,dr,tk,os⟩:Shared) with heap:=h',toks:=tk+1+2+2 }:=by
    refine xR (s:=⟨hp,gn,dr,tk,os⟩) (x:=h₁.objs.size) (y:=hp.objs.size+1) (a:=.sdict [(0,.byt k)]) (a':=.inst C σ.next) I.rel _ (hfr _ (Nat.le_trans (Nat.le_add_right _ 2) sz1)) (hfr _ (Nat.le_succ _)) (Nat.ne_of_gt (Nat.lt_of_lt_of_le (Nat.lt_succ_self _) sz1)) (Nat.le_trans big (Nat.le_trans (Nat.le_add_right _ 2) sz1)) (Nat.le_succ_of_le big) kAll hd' he' ?_ ?_
    · refine ⟨⟨[(nm 0,.bytes (bt k).toArray tk)],?_,.cons ⟨rfl,hk7,tk,rfl⟩ .nil⟩,fun p hp=>?_⟩
      · exact jm (qS (x:=nm 0) (es:=[]) (gz c.w (nm 0)) (fun e he=>by simp at he)) (mE (x:=nm 0) (es:=[]) (ps:=[]) (gz c.w (nm 0)) .nil List.nodup_nil) (by simp)
      · rw [List.mem_singleton] at hp
        subst hp
        exact (by decide:(0:Nat)<69)
    · refine ⟨rfl,?_,by show σ.next<σ.next+2; omega,rfl⟩
      show some _=some _
      rw [cr (by omega),bK]
  have hid:ins (ins ρ σ.next h₁.objs.size) (σ.next+1) (hp.objs.size+1) (σ.next+1)=hp.objs.size+1:=bK ..
  have fin:=hE _ _ g.none (I.step g) ⟨by show σ.next+1<σ.next+2; omega,_,_,by rw [hid]; exact he',rfl,by simp,.inl rfl⟩
  rw [hid] at fin
  exact fin
end
end Lw
end SA19
section SA20
namespace Lw
open PySem PySem.Calls PyProof.Rows PySem.W PySem.Builtin PySem.Builtin.ObjectAttr
noncomputable def tv (C:Addr) (k:Nat) (a:AV):M AV:=fun l σ=>match a with
  | .ref i=>match σ.get i with
    | some (.inst C' d)=>if C'=C then match σ.get d with
        | some (.sdict kvs)=>match look kvs k with
          | some v=>some (.ok v,l,σ)
          | none=>none
        | _=>none
      else none
    | _=>none
  | _=>none
noncomputable def oG (C:Addr) (k:Nat) (f:M AV):M AV:=au f (tv C k)
section
variable {c:Cx} {fd:Fd}
theorem uB (G:Good c fd) {C fI:Addr} (P:ExcC c.K C fI) {x:Str} (ex:x=nm 0) {ρ:Nat→Addr} {loc:Loc} {σ:St} {s:Shared} (I:Inv c fd ρ loc σ s) {a:AV} {v:Value} (rv:VRel σ.next ρ a v)
    {r:Res AV} {loc':Loc} {σ':St} (hf:tv C 0 a loc σ=some (r,loc',σ')) {expr:Bool} {Q:Value→Shared→Prop} {E:Value→Shared→Prop} (hE:Ends c fd VRel ρ σ s r loc' σ' Q E) :
    wpAny (model c.prog c.w) fd.A (getAttr v x expr) Q E s:=by
  unfold tv at hf
  split at hf
  case h_2=>cases hf
  rename_i i
  obtain ⟨hi,rfl⟩:=rv
  split at hf
  case h_2=>cases hf
  rename_i C' d e1
  split at hf
  case isFalse=>cases hf
  rename_i hC
  subst hC
  split at hf
  case h_2=>cases hf
  rename_i kvs e2
  split at hf
  case h_2=>cases hf
  rename_i b e3
  have hE:=hE.of hf
  obtain ⟨ox,es,n,ps,In,_,_,k1,k2,_,hr,hb⟩:=I.rel.inst e1 e2
  obtain ⟨u,hu,ru⟩:=(kH (P:=(·<nmN)) (fun a b ha hb=>kz ha hb) hr hb (by decide)).1 b e3
  have X:=G.ok.X.keeps I.rel.keep
  have hfind:findObj c.K C' (some (dictOf es n)) x=some (.value u):=by
    refine findObj_own P.dct (attr:=none) (by rw [ex]; exact P.told) rfl ?_
    rw [lookIn_dict,oR k2 k1,ex,hu]
  obtain ⟨hp,gn,dr,tk,os⟩:=s
  have fin:=hE ρ _ u (dn I.rel (tk+1)) (I.toks (tk+1)) ru
  have L0:=In.type (M:=model c.prog c.w)
  have L1:=looks_findIn (M:=model c.prog c.w) X P.geta
  have L2:=looks_findIn (M:=model c.prog c.w) X P.gtr
  have L3:=looks_find (M:=model c.prog c.w) X In hfind
  unfold getAttr getAttrBy
  refine wpAny_bind (wpAny_mkText (wpAny_holding (wpAny_bind (L0.at (wpAny_bind (L1.at ?_))))))
  show wpAny _ _ (getAttrByItsOwn _ _ _ _ _ _) _ _ _
  refine wpAny_bind ?_
  show wpAny _ _ (typeLookup (.ref C') _) _ _ _
  refine L2.at ?_
  have FB:=PySem.F.attrBase_Exception
  have sub:Looks (model c.prog c.w) hp (isInstance (.ref (ρ i)) (.type "BaseException")) true:=L0.andThen (looks_mroIn X P.base)
  refine wpAny_bind (wpAny_attempt (wpAny_holding ?_))
  unfold callGetattribute
  rw [if_neg (by cases expr <;> decide)]
  unfold boundAndCalled
  rw [FB.ga.bind]
  refine wpAny_bind (wpAny_pure ?_)
  refine wpAny_call (codeAny_call_builtin FB.ga.plain PySem.F.entry_bexc_ga (@check_slot (model c.prog c.w) _ _ ⟨hp,gn,dr,tk+1,os⟩ "BaseException.__getattribute__" "BaseException" "__getattribute__" (.ref (ρ i)) [.str x tk] [] _ (by decide +kernel) (by decide +kernel) sub (PySem.F.args_bexc_ga _ _) ?_))
  unfold Builtin.«object.__getattribute__»
  refine wpAny_bind (wpAny_pure (wpAny_bind (wpAny_pure (wpAny_bind (L0.at (wpAny_bind (L3.at ?_)))))))
  refine wpAny_pure ?_
  show wpAny _ _ (handedOut u) _ _ _
  rw [handedOut_of (nS ru)]
  exact wpAny_pure fin
theorem rT (G:Good c fd) {C fI:Addr} (P:ExcC c.K C fI) {x:Str} (ex:x=nm 0) {f:M AV} {e:Expr} {pos:Pos} (h:SE c fd VRel f (eval e fd.env))
    (he:eval (.Attribute e x pos) fd.env=(do
      let o ← eval e fd.env
      standAt pos.atName
      let r ← holding [o] (getAttr o x true)
      letTemporaryGo e o r
      pure r)):SE c fd VRel (oG C 0 f) (eval (.Attribute e x pos) fd.env):=by
  refine ⟨fun ρ loc σ s I r loc' σ' hf Q E hE=>?_⟩
  refine Attribute_any_ (prog:=c.prog) (w:=c.w) (h.use I hf hE fun a l₁ σ₁ ρ₁ s₁ v hg g I₁ rv hE₁=>?_) he
  exact uB G P ex I₁ rv hg hE₁
end
end Lw
end SA20
section SA21
namespace Lw
open PySem PySem.Calls PyProof.Rows PySem.W
noncomputable def qE (C:Addr) (body:M AF) (ke:Nat) (hnd:M AF):M AF:=fun l σ=>match body l σ with
  | some (.ok f,l',σ')=>some (.ok f,l',σ')
  | some (.exc i,l',σ')=>match σ'.get i with
    | some (.inst C' _)=>if C'=C then match hnd (lR l' ke (.ref i)) σ' with
        | some (.ok f,l2,σ2)=>some (.ok f,(fun j=>if j=ke then none else l2 j),σ2)
        | _=>none
      else none
    | _=>none
  | none=>none
noncomputable def hfd (fd:Fd) (v:Value):Fd:={ fd with hd:=some v }
section
variable {c:Cx} {fd:Fd}
theorem fs (G:Good c fd) (v:Value):Good c (hfd fd v):=⟨G.ok,G.kind,G.glob,G.blt,G.loc,G.fk,G.how,G.frames,G.room⟩
theorem Inv.hfd {ρ:Nat→Addr} {loc:Loc} {σ:St} {s:Shared} (I:Inv c fd ρ loc σ s) (v:Value):Inv c (Lw.hfd fd v) ρ loc σ s:=⟨I.rel,I.fr,I.off,I.low,I.stk,I.apart⟩
theorem Inv.ofH {ρ:Nat→Addr} {loc:Loc} {σ:St} {s:Shared} {v:Value} (I:Inv c (Lw.hfd fd v) ρ loc σ s):Inv c fd ρ loc σ s:=⟨I.rel,I.fr,I.off,I.low,I.stk,I.apart⟩
theorem zu {ρ:Nat→Addr} {loc:Loc} {σ:St} {s:Shared} {h':Heap} {k:Nat} {x:Str} {m:Str→Option Value} {v:Option Value} {t:Nat} (I:Inv c fd ρ loc σ s) (hm:∀ k x a,fd.names[k]?=some x→loc k=some a→∃ v,m x=some v∧VRel σ.next ρ a v)
    (hx:fd.names[k]?=some x) (hnd:fd.names.Nodup) (hn:h'.Ns fd.L (fun y=>if y=x then v else m y)) (hs:Heap.SameBut fd.L s.heap h') :
    Go c (some fd.L) ρ σ s ρ σ { s with heap:=h',toks:=t }∧Inv c fd ρ (fun j=>if j=k then none else loc j) σ { s with heap:=h',toks:=t }:=by
  have k1:∀ b o,b≠fd.L→s.heap.get? b=some o→h'.get? b=some o:=fun b o hb e=>(hs.2 b hb).trans e
  have own:∀ i,i<σ.next→ρ i≠fd.L:=fun i hi q=>I.off ⟨i,hi,q⟩
  have R:Rel c ρ σ h':=⟨I.rel.inj,fun b o e=>k1 b o (fun q=>absurd (Heap.lt_size e) (by rw [q]; exact Nat.not_lt.mpr I.low)) (I.rel.keep b o e),I.rel.new,
    fun i hi=>let ⟨a,e,o,h2,h3⟩:=I.rel.obj i hi; ⟨a,e,o,k1 _ _ (own i hi) h2,h3⟩,I.rel.dom⟩
  have g:Go c (some fd.L) ρ σ s ρ σ { s with heap:=h',toks:=t }:=⟨R,fun _ _=>rfl,Nat.le_refl _,fun _ h1 h2=>absurd h1 (Nat.not_le.mpr h2),fun b o e he _=>⟨o,k1 b o (fun q=>he (by rw [q])) e,.refl _⟩,
    fun b o e=>by
      by_cases q:b=fd.L
      · subst q; obtain ⟨o',_,_,ho',_⟩:=hn; exact ⟨o',ho'⟩
      · exact ⟨o,k1 b o q e⟩,rfl,rfl,rfl⟩
  refine ⟨g,R,⟨_,hn,fun j y b hj hb=>?_⟩,I.off,I.low,I.stk.step g fun env he L' hf q=>I.apart env he L' hf (Option.some.inj q),I.apart⟩
  have hb:(if j=k then none else loc j)=some b:=hb
  by_cases q:j=k
  · rw [if_pos q] at hb; cases hb
  · rw [if_neg q] at hb
    obtain ⟨u,hu,ru⟩:=hm j y b hj hb
    refine ⟨u,?_,ru⟩
    rw [if_neg]
    · exact hu
    · intro z
      subst z
      obtain ⟨lj,ej⟩:=List.getElem?_eq_some_iff.mp hj
      obtain ⟨lk,ek⟩:=List.getElem?_eq_some_iff.mp hx
      exact q ((List.getElem_inj hnd).mp (ej.trans ek.symm))
theorem uC (G:Good c fd) (hh:fd.hd=none) (ht:fd.top=true) {xn:Str} {C fI:Addr} (P:ExcC c.K C fI) (e:nsIn c.K mainGlobals xn=some (some (.ref C))) {ke:Nat} {n:Str} (hn:fd.names[ke]?=some n) (hnd:fd.names.Nodup) (hl:fd.env.kindOf n=some .local)
    (hx:fd.env.kindOf xn=some .globalImplicit) (hd:(xn==("__debug__" : Str))=false) {body:List Stmt} {b₀:Stmt} {suite:List Stmt} {np hpos pos:Pos} {f:M AF} {hnd':M AF}
    (hb:SE c fd dz f (execs body fd.env)) (hsu:∀ v,SE c (hfd fd v) dz hnd' (execs (b₀::suite) fd.env)) :
    SE c fd dz (qE C f ke hnd') (exec (.Try body [.ExceptHandler (some (.Name xn np)) (some n) (b₀::suite) hpos] [] [] pos) fd.env):=by
  refine ⟨fun ρ loc σ s I r loc' σ' hf Q E hE=>?_⟩
  unfold qE at hf
  refine wpAny_Try_except ?_
  split at hf
  · rename_i f' l' σ₁ ef
    have hE:=hE.of hf
    refine hb.1 _ _ _ _ I _ _ _ ef _ _ fun ρ₁ s₁ w g₁ I₁ rw=>?_
    have fin:=hE ρ₁ s₁ w g₁ I₁ rw
    cases f' with
    | next=>cases rw; exact wpAny_execs_nil fin
    | ret a=>obtain ⟨v,rfl,rv⟩:=rw; exact fin
  · rename_i i l' σ₁ ef
    split at hf
    case h_2=>cases hf
    rename_i C' d e1
    split at hf
    case isFalse=>cases hf
    rename_i hC
    subst hC
    split at hf
    case h_2=>cases hf
    rename_i f' l2 σ2 eh
    have hE:=hE.of hf
    obtain ⟨_,q1,q2,_⟩ | ⟨q,_⟩:=G.how
    case inr=>rw [ht] at q; cases q
    refine hb.1 _ _ _ _ I _ _ _ ef _ _ fun ρ₁ s₁ g₁ I₁ F₁=>?_
    have nb:Value.ref (ρ₁ i)≠byPass:=by intro q; cases q
    have hi:=F₁.1
    rw [q1]
    refine mH (fd:=fd) (A:=fd.A) G.stack q2 I₁.rel I₁.big (I₁.stack G) F₁ fun s₂ g₂ F₂=>?_
    refine hY (g₁.trans g₂.none).rel F₂ fun s₃ g₃ F₃=>?_
    have g13:=g₂.trans g₃
    have I₃:=I₁.step g13
    rw [← q1]
    have G':=fs G (.ref (ρ₁ i))
    obtain ⟨nm',q',N,bs,bm,hdct,sn,sub,ab,col,dd,k0,k1,k2,k3,k5,hC,hbE,hbB,hbA,hbN⟩:=P.obj
    have X:=G.ok.X.keeps I₃.rel.keep
    have eA:fd.A.mark (some (.ref (ρ₁ i)))=(hfd fd (.ref (ρ₁ i))).A:=rfl
    refine wpAny_handleBy_cons (codeAny_handlers_test ?_) nb
    rw [eA]
    refine jG G' (I₃.hfd _) e hx hd ?_
    obtain ⟨_,oe,ho,hcl,_⟩:=I₃.rel.at e1
    refine wpAny_excMatches_sub_self (X _ _ hC) ho hcl hbB ?_
    show codeAny _ _ _ _ _
    refine codeAny_handlers_suite_as (hY I₃.rel F₃ fun s₄ g₄ F₄=>?_)
    have I₄:=I₃.step g₄
    refine gy (fd:=hfd fd (.ref (ρ₁ i))) G' hn hnd hl (I₄.hfd _) (a:=.ref i) ⟨hi,rfl⟩ fun s₅ g₅ I₅=>?_
    refine (hsu _).1 _ _ _ _ I₅ _ _ _ eh _ _ fun ρ₆ s₆ w g₆ I₆ rw=>?_
    have I₆':=I₆.ofH
    show wpAny _ _ (do bindName fd.env n .none; unbindBehindTheSuite fd.env n hpos) _ _ _
    obtain ⟨m,hns,hlo⟩:=I₆'.fr
    refine wpAny_nameGoes_keeps hl (by rw [G.loc]; exact hns) G.plain fun h' v hn' hs'=>?_
    rw [G.loc] at hn' hs'
    obtain ⟨g₇,I₇⟩:=zu (t:=s₆.toks+1) I₆' hlo hn hnd hn' hs'
    exact hE ρ₆ _ w (((((g₁.trans g13.none).trans g₄.none).trans g₅).trans g₆).trans g₇) I₇ rw
  · cases hf
end
end Lw
end SA21
section SA22
namespace Lw
open PySem PySem.Calls PyProof.Rows PySem.W
section
variable {c:Cx} {fd:Fd}
noncomputable def stuck {α:Type}:M α:=fun _ _=>none
theorem fK {α β:Type} {RV:Nat→(Nat→Addr)→α→β→Prop} {t:Sem β}:SE c fd RV (stuck:M α) t:=by
  refine ⟨fun ρ loc σ s I r loc' σ' hf=>?_⟩
  cases hf
theorem bM (G:Good c fd) {f:M AV} {e:Expr} {pos:Pos} (h:SE c fd VRel f (eval e fd.env)) (hs:swapsWith e none pos.line fd.env=pure false):SE c fd dz (bS f) (exec (.Expr e pos) fd.env):=by
  refine ⟨fun ρ loc σ s I r loc' σ' hf Q E hE=>?_⟩
  refine wpAny_Expr_any (h.use I hf hE fun a l₁ σ₁ ρ₁ s₁ v hg g I₁ rv hE₁=>?_) (by unfold interactive; rw [G.kind]; rfl) hs
  have hE₁:=hE₁.of hg
  exact Ends.here I₁ hE₁ rfl
noncomputable def Bn (f:M AV):M AV:=au f fun a=>match a with
  | .int x=>ret (.int (-x))
  | _=>stuck
theorem Bo {f:M AV} {x:Expr} {pos:Pos} (h:SE c fd VRel f (eval x fd.env)):SE c fd VRel (Bn f) (eval (.UnaryOp .USub x pos) fd.env):=by
  refine ⟨fun ρ loc σ s I r loc' σ' hf Q E hE=>?_⟩
  refine wpAny_UnaryOp (h.use I hf hE fun a l₁ σ₁ ρ₁ s₁ v hg g I₁ rv hE₁=>?_)
  cases a with
  | int b =>
    have hE₁:=hE₁.of hg
    obtain ⟨t,rfl⟩:=rv
    exact neg_int (hE₁ ρ₁ _ _ (dn I₁.rel _) (I₁.toks _) ⟨_,rfl⟩)
  | _=>cases hg
theorem no {k:Nat} {pos:Pos}:SE c fd VRel (cV (if k=0 then .sdict [] else if k=1 then .bdict [] else .idict [])) (eval (.Dict [] [] pos) fd.env):=by
  refine ⟨fun ρ loc σ s I r loc' σ' hf Q E hE=>?_⟩
  have hE:=hE.of hf
  refine wpAny_Dict_empty ?_
  refine Ends.go I hE (I.alloc (o:={ cls:=.type "dict",data:=.dict #[] }) s.toks rfl ?_) VRel.new
  split
  · exact ⟨⟨[],jm (es:=[]) (n:=0) (fun e he=>by simp at he) .nil List.nodup_nil,.nil⟩,fun _ hp=>nomatch hp⟩
  · split
    · exact ⟨⟨[],isDict_of' ,.nil⟩,fun _ hp=>nomatch hp⟩
    · exact ⟨[],isDict_of',.nil⟩
where isDict_of' {K:Type} [DecidableEq K] {knd:KeyKind c.prog c.w K}:({ cls:=.type "dict",data:=.dict #[] }:Obj).IsDictOf knd []:=⟨#[],0,⟨rfl,rfl,rfl⟩,rfl,fun e he=>by simp at he,.nil,List.nodup_nil⟩
noncomputable def po (n:Nat) (ρ:Nat→Addr) (as:List (AV×AV)) (vs:List (Value×Value)):Prop:=F2 (fun a v=>VRel n ρ a.1 v.1∧VRel n ρ a.2 v.2) as vs
noncomputable def rU:M (List (AV×AV)):=ret []
noncomputable def eJ (fk fv:M AV) (g:M (List (AV×AV))):M (List (AV×AV)):=au fk fun k=>au fv fun v=>au g fun r=>ret ((k,v)::r)
theorem pq {pos:Pos}:SE c fd po rU (evalPairs (pairTrees [] [] fd.env pos)):=by
  refine ⟨fun ρ loc σ s I r loc' σ' hf Q E hE=>?_⟩
  have hE:=hE.of hf
  exact wpAny_pure (Ends.here I hE .nil)
theorem dY {fk fv:M AV} {g:M (List (AV×AV))} {k v:Expr} {ks:List (Option Expr)} {vs:List Expr} {pos:Pos} (hk:SE c fd VRel fk (eval k fd.env)) (hv:SE c fd VRel fv (eval v fd.env)) (h:SE c fd po g (evalPairs (pairTrees ks vs fd.env pos))) :
    SE c fd po (eJ fk fv g) (evalPairs (pairTrees (some k::ks) (v::vs) fd.env pos)):=by
  refine ⟨fun ρ loc σ s I r loc' σ' hf Q E hE=>?_⟩
  show wpAny _ _ (evalPairs ((eval k fd.env,do let x ← eval v fd.env; standAt pos; pure x)::pairTrees ks vs fd.env pos)) _ _ _
  unfold evalPairs
  refine wpAny_bind (hk.use I hf hE fun a l₁ σ₁ ρ₁ s₁ u hg g₁ I₁ rk hE₁=>wpAny_bind (wpAny_holding (wpAny_bind (hv.use I₁ hg hE₁ fun b l₂ σ₂ ρ₂ s₂ w hg₂ g₂ I₂ rv hE₂=>wpAny_bind (wpAny_standAt (wpAny_pure (wpAny_bind (wpAny_holding (h.use I₂ hg₂ hE₂ fun as l₃ σ₃ ρ₃ s₃ ws hg₃ g₃ I₃ rs hE₃=>?_)))))))))
  have hE₃:=hE₃.of hg₃
  exact wpAny_pure (Ends.here I₃ hE₃ (.cons ⟨g₃.up (g₂.up rk),g₃.up rv⟩ rs))
noncomputable def oV:List (AV×AV)→Option (List (Nat×AV))
  | []=>some []
  | (.str k,v)::r=>(oV r).map fun l=>(k,v)::l
  | _=>none
noncomputable def rV:List (AV×AV)→Option (List (Nat×AV))
  | []=>some []
  | (.byt k,v)::r=>(rV r).map fun l=>(k,v)::l
  | _=>none
noncomputable def pz (f:M (List (AV×AV))):M AV:=fun l σ=>match f l (σ.push (.sdict [])) with
  | some (.ok ps,l',σ')=>match oV ps,σ'.get σ.next with
    | some kvs,some (.sdict [])=>if (kvs.map (·.1)).Nodup then some (.ok (.ref σ.next),l',σ'.set σ.next (.sdict kvs)) else none
    | _,_=>none
  | some (.exc i,l',σ')=>some (.exc i,l',σ')
  | none=>none
noncomputable def tw (f:M (List (AV×AV))):M AV:=fun l σ=>match f l (σ.push (.bdict [])) with
  | some (.ok ps,l',σ')=>match rV ps,σ'.get σ.next with
    | some kvs,some (.bdict [])=>if (kvs.map (·.1)).Nodup then some (.ok (.ref σ.next),l',σ'.set σ.next (.bdict kvs)) else none
    | _,_=>none
  | some (.exc i,l',σ')=>some (.exc i,l',σ')
  | none=>none
theorem tx {n:Nat} {ρ:Nat→Addr} {as:List (AV×AV)} {vs:List (Value×Value)} (h:po n ρ as vs):∀ {kvs:List (Nat×AV)},oV as=some kvs →
    (∀ p∈kvs,p.1<nmN)∧∃ ps:List (Str×Value),Carries (strKind c.prog c.w) vs ps∧F2 (fun (a:Nat×AV) (b:Str×Value)=>b.1=nm a.1∧VRel n ρ a.2 b.2) kvs ps:=by
  induction h with
  | nil=>intro kvs e; cases e; exact ⟨(fun _ h=>nomatch h),[],trivial,.nil⟩
  | @cons p q as vs r _ ih =>
    intro kvs e
    obtain ⟨pk,pv⟩:=p
    obtain ⟨qk,qv⟩:=q
    cases pk with
    | str k =>
      obtain ⟨l,el,rfl⟩:=Option.map_eq_some_iff.mp e
      obtain ⟨i1,ps,i2,i3⟩:=ih el
      obtain ⟨⟨hk,t,ek⟩,rv⟩:=r
      dsimp only at ek rv
      subst ek
      exact ⟨(fun p hp=>(List.mem_cons.mp hp).elim (fun e=>e▸hk) (i1 p)),(nm k,qv)::ps,⟨strKind_is _ _ _ _,rfl,i2⟩,.cons ⟨rfl,rv⟩ i3⟩
    | _=>cases e
theorem ty {n:Nat} {ρ:Nat→Addr} {as:List (AV×AV)} {vs:List (Value×Value)} (h:po n ρ as vs):∀ {kvs:List (Nat×AV)},rV as=some kvs →
    (∀ p∈kvs,p.1<btN)∧∃ ps:List (List UInt8×Value),Carries (bytesKind c.prog c.w) vs ps∧F2 (fun (a:Nat×AV) (b:List UInt8×Value)=>b.1=bt a.1∧VRel n ρ a.2 b.2) kvs ps:=by
  induction h with
  | nil=>intro kvs e; cases e; exact ⟨(fun _ h=>nomatch h),[],trivial,.nil⟩
  | @cons p q as vs r _ ih =>
    intro kvs e
    obtain ⟨pk,pv⟩:=p
    obtain ⟨qk,qv⟩:=q
    cases pk with
    | byt k =>
      obtain ⟨l,el,rfl⟩:=Option.map_eq_some_iff.mp e
      obtain ⟨i1,ps,i2,i3⟩:=ih el
      obtain ⟨⟨hk,t,ek⟩,rv⟩:=r
      dsimp only at ek rv
      subst ek
      exact ⟨(fun p hp=>(List.mem_cons.mp hp).elim (fun e=>e▸hk) (i1 p)),(bt k,qv)::ps,⟨bytesKind_is _ _ _ _,rfl,i2⟩,.cons ⟨rfl,rv⟩ i3⟩
    | _=>cases e
theorem F2.keys {n:Nat} {ρ:Nat→Addr} {K:Type} {dec:Nat→K} {N:Nat} (hi:∀ i j,i<N→j<N→dec i=dec j→i=j) {kvs:List (Nat×AV)} {ps:List (K×Value)} (h:F2 (fun (a:Nat×AV) (b:K×Value)=>b.1=dec a.1∧VRel n ρ a.2 b.2) kvs ps) (hP:∀ p∈kvs,p.1<N) (hn:(kvs.map (·.1)).Nodup):(ps.map (·.1)).Nodup:=by
  induction h with
  | nil=>exact List.nodup_nil
  | @cons p q kvs ps r t ih =>
    rw [List.map_cons,List.nodup_cons] at hn ⊢
    refine ⟨fun hm=>hn.1 ?_,ih (fun x hx=>hP x (List.mem_cons_of_mem _ hx)) hn.2⟩
    have key:∀ {kvs:List (Nat×AV)} {ps:List (K×Value)},F2 (fun (a:Nat×AV) (b:K×Value)=>b.1=dec a.1∧VRel n ρ a.2 b.2) kvs ps→(∀ p∈kvs,p.1<N)→q.1∈ps.map (·.1)→p.1∈kvs.map (·.1):=by
      intro kvs ps h
      induction h with
      | nil=>intro _ h; cases h
      | @cons p' q' kvs ps r' _ ih' =>
        intro hP' hm'
        rw [List.map_cons] at hm' ⊢
        rcases List.mem_cons.mp hm' with e | hm'
        · rw [r.1,r'.1] at e
          rw [hi _ _ (hP p List.mem_cons_self) (hP' p' List.mem_cons_self) e]
          exact List.mem_cons_self
        · exact List.mem_cons_of_mem _ (ih' (fun x hx=>hP' x (List.mem_cons_of_mem _ hx)) hm')
    exact key t (fun x hx=>hP x (List.mem_cons_of_mem _ hx)) hm
theorem tz {f:M (List (AV×AV))} {keys:List (Option Expr)} {values:List Expr} {pos:Pos} (hall:keys.all (·.isSome)=true) (hl:keys.length=values.length) (h0:keys≠[]) (hlen:keys.length≤15)
    (h:SE c fd po f (evalPairs (pairTrees keys values fd.env pos))):SE c fd VRel (pz f) (eval (.Dict keys values pos) fd.env):=by
  refine ⟨fun ρ loc σ s I r loc' σ' hf Q E hE=>?_⟩
  refine wpAny_Dict_walk (knd:=strKind c.prog c.w) hall hl h0 hlen ?_
  have g1:Go c none ρ σ s (ins ρ σ.next s.heap.objs.size) (σ.push (.sdict [])) { s with heap:=s.heap.push { cls:=.type "dict",data:=.dict #[] } } :=
    I.alloc (o:={ cls:=.type "dict",data:=.dict #[] }) s.toks rfl ⟨⟨[],jm (es:=[]) (n:=0) (fun e he=>by simp at he) .nil List.nodup_nil,.nil⟩,fun _ hp=>nomatch hp⟩
  have I1:=I.step g1
  unfold pz at hf
  split at hf
  · rename_i ps l₁ σ₁ ef
    split at hf
    · rename_i kvs e1 e2
      split at hf
      · rename_i hnd
        cases hf
        refine h.1 _ _ _ _ I1 _ _ _ ef _ _ fun ρ₂ s₂ vs g₂ I₂ rps=>?_
        obtain ⟨q1,ps',q2,q3⟩:=tx (c:=c) rps e1
        have g12:=g1.none.trans g₂
        have hid:ρ₂ σ.next=s.heap.objs.size:=by rw [g₂.ext _ (Nat.lt_succ_self _)]; exact bK ..
        have hlt:σ.next<σ₁.next:=Nat.lt_of_lt_of_le (Nat.lt_succ_self _) g₂.le
        obtain ⟨_,o,ho,⟨ps0,hd,hz⟩,_⟩:=I₂.rel.at e2
        cases hz
        rw [hid] at ho
        refine ⟨ps',q2,Heap.dictOf_iff.mpr ⟨o,ho,hd⟩,fun h' hD hS=>?_⟩
        rw [merged_nil_of_nodup _ (F2.keys (fun i j hi hj=>kz hi hj) q3 q1 hnd)] at hD
        obtain ⟨o',ho',hd'⟩:=Heap.dictOf_iff.mp hD
        rw [← hid] at ho' hS
        have g3:=eT (a:=.sdict kvs) I₂.rel (s₂.toks+vs.length) hlt hS ho' ⟨⟨ps',hd',q3⟩,q1⟩
        exact hE ρ₂ _ _ (g12.trans g3.none) (I₂.step g3) ⟨hlt,by rw [hid]⟩
      · cases hf
    · cases hf
  · rename_i i l₁ σ₁ ef
    have hE:=hE.of hf
    exact h.1 _ _ _ _ I1 _ _ _ ef _ _ fun ρ₂ s₂ g₂ I₂ F=>hE ρ₂ s₂ (g1.none.trans g₂) I₂ F
  · cases hf
theorem pD {f:M (List (AV×AV))} {keys:List (Option Expr)} {values:List Expr} {pos:Pos} (hall:keys.all (·.isSome)=true) (hl:keys.length=values.length) (h0:keys≠[]) (hlen:keys.length≤15)
    (h:SE c fd po f (evalPairs (pairTrees keys values fd.env pos))):SE c fd VRel (tw f) (eval (.Dict keys values pos) fd.env):=by
  refine ⟨fun ρ loc σ s I r loc' σ' hf Q E hE=>?_⟩
  refine wpAny_Dict_walk (knd:=bytesKind c.prog c.w) hall hl h0 hlen ?_
  have g1:Go c none ρ σ s (ins ρ σ.next s.heap.objs.size) (σ.push (.bdict [])) { s with heap:=s.heap.push { cls:=.type "dict",data:=.dict #[] } } :=
    I.alloc (o:={ cls:=.type "dict",data:=.dict #[] }) s.toks rfl ⟨⟨[],⟨#[],0,⟨rfl,rfl,rfl⟩,rfl,fun e he=>by simp at he,.nil,List.nodup_nil⟩,.nil⟩,fun _ hp=>nomatch hp⟩
  have I1:=I.step g1
  unfold tw at hf
  split at hf
  · rename_i ps l₁ σ₁ ef
    split at hf
    · rename_i kvs e1 e2
      split at hf
      · rename_i hnd
        cases hf
        refine h.1 _ _ _ _ I1 _ _ _ ef _ _ fun ρ₂ s₂ vs g₂ I₂ rps=>?_
        obtain ⟨q1,ps',q2,q3⟩:=ty (c:=c) rps e1
        have g12:=g1.none.trans g₂
        have hid:ρ₂ σ.next=s.heap.objs.size:=by rw [g₂.ext _ (Nat.lt_succ_self _)]; exact bK ..
        have hlt:σ.next<σ₁.next:=Nat.lt_of_lt_of_le (Nat.lt_succ_self _) g₂.le
        obtain ⟨_,o,ho,⟨ps0,hd,hz⟩,_⟩:=I₂.rel.at e2
        cases hz
        rw [hid] at ho
        refine ⟨ps',q2,Heap.dictOf_iff.mpr ⟨o,ho,hd⟩,fun h' hD hS=>?_⟩
        rw [merged_nil_of_nodup _ (F2.keys (fun i j hi hj=>ui hi hj) q3 q1 hnd)] at hD
        obtain ⟨o',ho',hd'⟩:=Heap.dictOf_iff.mp hD
        rw [← hid] at ho' hS
        have g3:=eT (a:=.bdict kvs) I₂.rel (s₂.toks+vs.length) hlt hS ho' ⟨⟨ps',hd',q3⟩,q1⟩
        exact hE ρ₂ _ _ (g12.trans g3.none) (I₂.step g3) ⟨hlt,by rw [hid]⟩
      · cases hf
    · cases hf
  · rename_i i l₁ σ₁ ef
    have hE:=hE.of hf
    exact h.1 _ _ _ _ I1 _ _ _ ef _ _ fun ρ₂ s₂ g₂ I₂ F=>hE ρ₂ s₂ (g1.none.trans g₂) I₂ F
  · cases hf
end
end Lw
end SA22
section SA23
namespace Lw
open PySem PySem.Calls PyProof.Rows PySem.W
section
variable {c:Cx} {fd:Fd}
noncomputable def S1 (c:Cx) (fd:Fd) (g:AV→M Unit) (t:Value→Sem Unit):Prop :=
  ∀ ρ loc σ s,Inv c fd ρ loc σ s→∀ a v,VRel σ.next ρ a v→∀ r loc' σ',g a loc σ=some (r,loc',σ')→∀ Q E,Ends c fd gb ρ σ s r loc' σ' Q E→wpAny (model c.prog c.w) fd.A (t v) Q E s
noncomputable def STg (c:Cx) (fd:Fd) (g:List AV→M Unit) (ts:List (Value→Sem Unit)):Prop :=
  ∀ ρ loc σ s,Inv c fd ρ loc σ s→∀ as vs,VRels σ.next ρ as vs→∀ r loc' σ',g as loc σ=some (r,loc',σ')→∀ Q E,Ends c fd gb ρ σ s r loc' σ' Q E→wpAny (model c.prog c.w) fd.A (assignInOrder ts vs) Q E s
noncomputable def ff:List AV→M Unit:=fun as=>match as with
  | []=>ret ()
  | _=>stuck
noncomputable def bq (g:AV→M Unit) (gs:List AV→M Unit):List AV→M Unit:=fun as=>match as with
  | a::as=>au (g a) fun _=>gs as
  | _=>stuck
theorem dZ:STg c fd ff []:=by
  intro ρ loc σ s I as vs rvs r loc' σ' hf Q E hE
  cases rvs with
  | nil =>
    have hE:=hE.of hf
    exact assignInOrder_nil (Ends.here I hE rfl)
  | cons _ _=>cases hf
theorem bh {g:AV→M Unit} {gs:List AV→M Unit} {t:Value→Sem Unit} {ts:List (Value→Sem Unit)} (h:S1 c fd g t) (h':STg c fd gs ts):STg c fd (bq g gs) (t::ts):=by
  intro ρ loc σ s I as vs rvs r loc' σ' hf Q E hE
  cases rvs with
  | nil=>cases hf
  | @cons a v as vs rv rvs =>
    refine assignInOrder_cons ?_
    rcases bX hf with h0q | h0q
    · obtain ⟨u,l₁,σ₁,e,hg⟩:=h0q
      refine h _ _ _ _ I _ _ rv _ _ _ e _ _ fun ρ₁ s₁ _ g₁ I₁ _=>?_
      exact h' _ _ _ _ I₁ _ _ (rvs.mono fun _ _ q=>g₁.up q) _ _ _ hg _ _ (hE.after g₁)
    · obtain ⟨i,e,rfl⟩:=h0q
      exact h _ _ _ _ I _ _ rv _ _ _ e _ _ hE
theorem eB (G:Good c fd) {k:Nat} {x:Str} {pos:Pos} (hx:fd.names[k]?=some x) (hnd:fd.names.Nodup) (hl:fd.env.kindOf x=some .local):S1 c fd (bU k) (assign (.Name x pos) fd.env):=by
  intro ρ loc σ s I a v rv r loc' σ' hf Q E hE
  have hE:=hE.of hf
  exact wpAny_assign_Name (gy G hx hnd hl I rv fun s' g I'=>hE _ _ _ g I' rfl)
theorem bW (G:Good c fd) {k:Nat} {x:Str} (hx:fd.names[k]?=some x) (hnd:fd.names.Nodup) (hl:fd.env.kindOf x=some .local):S1 c fd (bU k) (bindName fd.env x):=by
  intro ρ loc σ s I a v rv r loc' σ' hf Q E hE
  have hE:=hE.of hf
  exact wpAny_bindName (gy G hx hnd hl I rv fun s' g I'=>hE _ _ _ g I' rfl)
noncomputable def atG (cs:Cls) (k:Nat) (fo:M AV):AV→M Unit:=fun v=>au fo fun o=>kq cs k o v
theorem zv {cs:Cls} {k:Nat} {x:Str} (G:Good c fd) (hc:∀ C∈cs,PA c.K C x) (hk:k<nmN) (ex:x=nm k) {fo:M AV} {o:Expr} {pos:Pos} (ho:SE c fd VRel fo (eval o fd.env)):S1 c fd (atG cs k fo) (assign (.Attribute o x pos) fd.env):=by
  intro ρ loc σ s I b u ru r loc' σ' hf Q E hE
  rw [assign_Attribute]
  refine wpAny_bind (wpAny_holding (ho.use I hf hE fun a l₁ σ₁ ρ₁ s₁ v hg g₁ I₁ rv hE₁=>wpAny_bind (wpAny_standAt (wpAny_bind (wpAny_holding ?_)))))
  refine kI G hc hk ex I₁ rv (g₁.up ru) hg (Q:=fun _ s'=>wpAny _ _ (release [u,v] []) Q E s') ?_
  cases r with
  | ok a=>exact fun ρ' s' b g' I' e=>wpAny_release (hE₁ ρ' s' _ g' I' e)
  | exc i=>exact hE₁
noncomputable def mI (n:Nat) (a:AV):M (List AV):=fun l σ=>match a with
  | .ref i=>match σ.get i with
    | some (.tup xs)=>if xs.length=n then some (.ok xs,l,σ) else none
    | some (.list xs)=>if xs.length=n then some (.ok xs,l,σ) else none
    | _=>none
  | _=>none
theorem lO (hh:fd.hd=none) {n:Nat} {ρ:Nat→Addr} {loc:Loc} {σ:St} {s:Shared} (I:Inv c fd ρ loc σ s) {a:AV} {v:Value} (rv:VRel σ.next ρ a v) {r:Res (List AV)} {loc':Loc} {σ':St} (hf:mI n a loc σ=some (r,loc',σ'))
    {Q:List Value→Shared→Prop} {E:Value→Shared→Prop} (hE:Ends c fd VRels ρ σ s r loc' σ' Q E):wpAny (model c.prog c.w) fd.A (unpackItems v n none) Q E s:=by
  unfold mI at hf
  split at hf
  · rename_i i
    obtain ⟨hi,rfl⟩:=rv
    split at hf
    · rename_i xs e
      split at hf
      · rename_i hn
        cases hf
        obtain ⟨_,vs,k,h1,r1⟩:=I.rel.tup e
        have hl:n=vs.toArray.size:=by rw [← hn,List.size_toArray]; exact r1.length
        subst hl
        refine wpAny_unpackItems_tuple hh ⟨_,h1,rfl,k,rfl⟩ fun h' he=>?_
        have g:Go c none ρ σ s ρ σ { s with heap:=h' }:=iH I.rel s.toks fun b o e=>he b o (Nat.ne_of_lt (Heap.lt_size e)) e
        exact hE _ _ _ g.none (I.step g) r1
      · cases hf
    · rename_i xs e
      split at hf
      · rename_i hn
        cases hf
        obtain ⟨_,vs,k,h1,r1⟩:=I.rel.list e
        have hl:n=vs.toArray.size:=by rw [← hn,List.size_toArray]; exact r1.length
        subst hl
        refine kun_itemsOf hh (bC h1) fun h' he=>?_
        have g:Go c none ρ σ s ρ σ { s with heap:=h' }:=iH I.rel s.toks fun b o e=>he b o (Nat.ne_of_lt (Heap.lt_size e)) e
        exact hE _ _ _ g.none (I.step g) r1
      · cases hf
    · cases hf
  · cases hf
noncomputable def nq (n:Nat) (f:M AV) (g:List AV→M Unit):M AF:=au f fun a=>au (mI n a) fun as=>au (g as) fun _=>ret .next
theorem ii (hh:fd.hd=none) {n:Nat} {f:M AV} {g:List AV→M Unit} {elts:List Expr} {k:Nat} {tpos pos:Pos} {value:Expr} (h:SE c fd VRel f (eval value fd.env)) (hg:STg c fd g ((assignEach elts fd.env).map (·.2)))
    (hn:(assignEach elts fd.env).length=n) (hstar:(assignEach elts fd.env).findIdx? (·.1)=none) (hs:swapsWithSole [.Tuple elts k tpos] value pos.line fd.env=pure false) (hw:swappedStores [.Tuple elts k tpos] value fd.env=pure none) :
    SE c fd dz (nq n f g) (exec (.Assign [.Tuple elts k tpos] value pos) fd.env):=by
  refine ⟨fun ρ loc σ s I r loc' σ' hf Q E hE=>?_⟩
  refine Assign_Tuple (h.use I hf hE fun a l₁ σ₁ ρ₁ s₁ v hf₁ g₁ I₁ rv hE₁=>?_) hs hw
  rw [PySem.arm_assign_Tuple]
  refine wpAny_bind (wpAny_standAt ?_)
  unfold unpack
  rw [hn,hstar]
  refine wpAny_bind (wpAny_holding ?_)
  rcases bX hf₁ with h0q | h0q
  · obtain ⟨as,l₂,σ₂,e,hf₂⟩:=h0q
    refine lO hh I₁ rv e fun ρ₂ s₂ vs g₂ I₂ rvs=>?_
    rcases bX hf₂ with h0q | h0q
    · obtain ⟨u,l₃,σ₃,e₃,hf₃⟩:=h0q
      have hE₁:=hE₁.of hf₃
      exact hg _ _ _ _ I₂ _ _ rvs _ _ _ e₃ _ _ fun ρ₃ s₃ _ g₃ I₃ _=>hE₁ ρ₃ s₃ _ (g₂.trans g₃) I₃ rfl
    · obtain ⟨i,e₃,rfl⟩:=h0q
      exact hg _ _ _ _ I₂ _ _ rvs _ _ _ e₃ _ _ fun ρ₃ s₃ g₃ I₃ F=>hE₁ ρ₃ s₃ (g₂.trans g₃) I₃ F
  · obtain ⟨i,e,rfl⟩:=h0q
    exact lO hh I₁ rv e hE₁
noncomputable def gQ (n:Nat) (f:M AV) (g:List AV→M Unit):M AF:=au f fun a=>au (mI n a) fun as=>au (g as.reverse) fun _=>ret .next
theorem F2.reverse {α β:Type} {R:α→β→Prop} {as:List α} {bs:List β} (h:F2 R as bs):F2 R as.reverse bs.reverse:=by
  induction h with
  | nil=>exact .nil
  | cons r _ ih=>rw [List.reverse_cons,List.reverse_cons]; exact ih.snoc r
theorem eW (hh:fd.hd=none) {n:Nat} {f:M AV} {g:List AV→M Unit} {elts:List Expr} {k:Nat} {tpos pos:Pos} {value:Expr} {names:List Str} (h:SE c fd VRel f (eval value fd.env)) (hg:STg c fd g (names.reverse.map fun n=>bindName fd.env n))
    (hn:names.length=n) (hs:swapsWithSole [.Tuple elts k tpos] value pos.line fd.env=pure false) (hw:swappedStores [.Tuple elts k tpos] value fd.env=pure (some names)) :
    SE c fd dz (gQ n f g) (exec (.Assign [.Tuple elts k tpos] value pos) fd.env):=by
  refine ⟨fun ρ loc σ s I r loc' σ' hf Q E hE=>?_⟩
  subst hn
  refine Assign_Tuple_swapped (h.use I hf hE fun a l₁ σ₁ ρ₁ s₁ v hf₁ g₁ I₁ rv hE₁=>?_) hs hw
  rcases bX hf₁ with h0q | h0q
  · obtain ⟨as,l₂,σ₂,e,hf₂⟩:=h0q
    refine lO hh I₁ rv e fun ρ₂ s₂ vs g₂ I₂ rvs=>?_
    rcases bX hf₂ with h0q | h0q
    · obtain ⟨u,l₃,σ₃,e₃,hf₃⟩:=h0q
      have hE₁:=hE₁.of hf₃
      exact hg _ _ _ _ I₂ _ _ rvs.reverse _ _ _ e₃ _ _ fun ρ₃ s₃ _ g₃ I₃ _=>hE₁ ρ₃ s₃ _ (g₂.trans g₃) I₃ rfl
    · obtain ⟨i,e₃,rfl⟩:=h0q
      exact hg _ _ _ _ I₂ _ _ rvs.reverse _ _ _ e₃ _ _ fun ρ₃ s₃ g₃ I₃ F=>hE₁ ρ₃ s₃ (g₂.trans g₃) I₃ F
  · obtain ⟨i,e,rfl⟩:=h0q
    exact lO hh I₁ rv e hE₁
end
end Lw
end SA23
section SA24
namespace Lw
open PySem PySem.Calls PyProof.Rows PySem.W
section
variable {c:Cx} {fd:Fd}
noncomputable def xS (a:Nat) (xs:List AV):M AV:=fun l σ=>if l 0=some (.ext a) then some (.ok (.ref (σ.next+1)),l,(σ.push .junk).push (.list (xs.take 40))) else none
theorem Bp (G:Good c fd) {x:Str} (hx:fd.names[0]?=some x) (hl:fd.env.kindOf x=some .local) (hd:(x==("__debug__" : Str))=false) {a:Addr} {vs:List Value} {xs:List AV} (hb:c.base.IsList a vs.toArray) (hxs:VRels 0 id xs vs) (hz:vs.length<2 ^ 24) {j:Nat} {p1 p2 p pos:Pos} :
    SE c fd VRel (xS a xs) (eval (.Subscript (.Name x p1) (.Slice none (some (.Constant (.int 40) j p2)) none p) pos) fd.env):=by
  refine ⟨fun ρ loc σ s I r loc' σ' hf Q E hE=>?_⟩
  unfold xS at hf
  split at hf
  case isFalse=>cases hf
  rename_i h0
  have hE:=hE.of hf
  have hv:SE c fd VRel (ac 0) (eval (.Name x p1) fd.env):=ij G hx hl hd
  refine Subscript_ (hv.1 ρ loc σ s I (.ok (.ext a)) loc σ (by unfold ac; rw [h0]) _ _ fun ρ₁ s₁ v g₁ I₁ rv=>?_)
  cases rv
  refine wpAny_Slice (evalPart_none_step (evalPart_some_step (wpAny_Constant_int (evalPart_none_step ?_))))
  have hE₁:Ends c fd VRel ρ₁ σ s₁ (.ok (.ref (σ.next+1))) loc ((σ.push .junk).push (.list (xs.take 40))) Q E:=Ends.after hE g₁
  have g0:Go c none ρ₁ σ s₁ ρ₁ σ { s₁ with toks:=s₁.toks+1 }:=dn I₁.rel _
  have I0:=I₁.step g0
  obtain ⟨o,ho,h1,n,h2⟩:=hb
  have hl':s₁.heap.IsList a vs.toArray:=⟨o,I₁.rel.keep _ _ ho,h1,n,h2⟩
  have g2:Go c none ρ₁ σ { s₁ with toks:=s₁.toks+1 } (ins ρ₁ σ.next s₁.heap.objs.size) (σ.push .junk) { s₁ with toks:=s₁.toks+1,heap:=s₁.heap.push { cls:=.type "slice",data:=.fields #[.none,.int 40 s₁.toks,.none] } } :=
    I0.alloc (o:={ cls:=.type "slice",data:=.fields #[.none,.int 40 s₁.toks,.none] }) (a:=.junk) (s₁.toks+1) rfl trivial
  have I2:=I0.step g2
  refine tail_any (Heap.IsList.typeIs (s:={ s₁ with toks:=s₁.toks+1,heap:=s₁.heap.push { cls:=.type "slice",data:=.fields #[.none,.int 40 s₁.toks,.none] } }) (hl'.push _)) list_getitem_lookup
    (wpAny_getItem_list_slice (hl'.push _) (Heap.IsSliceOf.new ..) .none (.int _ _) .none (by simp) ?_ (by simp; rw [sizeLine_eq]; omega)) rfl
  have e:sliceBounds none (some (40:Int)) none vs.toArray.size=(((0:Nat):Int),((min 40 vs.toArray.size:Nat):Int),1):=by
    simp only [sliceBounds,Option.getD_none,show (1:Int) > 0 by decide,if_true,if_neg (show ¬ ((40:Int)<0) by omega)]
    congr 1
    congr 1
    omega
  have hu:slicePick vs.toArray none (some (40:Int)) none=(vs.take 40).toArray:=by
    rw [kmk_pick_nat _ e,List.drop_zero,Nat.sub_zero,List.size_toArray,kmk_take_min]
  rw [hu]
  have ru:VRels (σ.push .junk).next (ins ρ₁ σ.next s₁.heap.objs.size) (xs.take 40) (vs.take 40):=(hxs.mono fun _ _ r=>r.up (Nat.zero_le _) fun _ h=>absurd h (Nat.not_lt_zero _)).take 40
  have g3:=(g0.trans g2).trans (kG (o:={ cls:=.type "list",data:=.seq (vs.take 40).toArray }) (a:=.list (xs.take 40)) I2.rel I2.big (s₁.toks+1) rfl ⟨vs.take 40,0,rfl,VRels.ins ru⟩)
  exact Ends.go I₁ hE₁ g3 VRel.new
end
end Lw
end SA24
section SD0
set_option maxHeartbeats 4000000
namespace Lw
open PySem PySem.Calls PyProof.Rows PySem.W
noncomputable abbrev cs9:Cls:=[84,105,140,161,352,438,479,500,781]
noncomputable abbrev csL:Cls:=[105,140]
noncomputable def cY (as:List AV):Loc:=fun k=>as[k]?
noncomputable def bdK (ds:List AV):Nat→List AV→(List AV→Option Loc)→Option Loc
  | 0,[],κ=>κ ds
  | k+1,a::as,κ=>bdK ds k as fun l=>κ (a::l)
  | _,_,_=>none
noncomputable def bdA (k:Nat) (ds as:List AV):Option Loc:=bdK ds k as fun l=>some (cY l)
noncomputable def bdO (f g:List AV→Option Loc) (as:List AV):Option Loc:=match f as with
  | some l=>some l
  | none=>g as
theorem zb1 (ds:List AV) (a:AV):bdA 1 ds [a]=some (cY (a::ds)):=rfl
theorem zb2 (ds:List AV) (a b:AV):bdA 2 ds [a,b]=some (cY (a::b::ds)):=rfl
theorem zb3 (ds:List AV) (a b c:AV):bdA 3 ds [a,b,c]=some (cY (a::b::c::ds)):=rfl
theorem zb4 (ds:List AV) (a b c d:AV):bdA 4 ds [a,b,c,d]=some (cY (a::b::c::d::ds)):=rfl
theorem zb5 (ds:List AV) (a b c d e:AV):bdA 5 ds [a,b,c,d,e]=some (cY (a::b::c::d::e::ds)):=rfl
theorem zb6 (ds:List AV) (a b c d e f:AV):bdA 6 ds [a,b,c,d,e,f]=some (cY (a::b::c::d::e::f::ds)):=rfl
theorem zb7 (ds es:List AV) (a b c:AV) (g:List AV→Option Loc):bdO (bdA 3 ds) g [a,b,c]=some (cY (a::b::c::ds)):=rfl
theorem zb8 (ds es:List AV) (a b c d e:AV):bdO (bdA 3 ds) (bdA 5 es) [a,b,c,d,e]=some (cY (a::b::c::d::e::es)):=rfl
theorem zb9 (ds:List AV) (a:AV) (g:List AV→Option Loc):bdO (bdA 1 ds) g [a]=some (cY (a::ds)):=rfl
theorem zb10 (ds es:List AV) (a b c:AV):bdO (bdA 1 ds) (bdA 3 es) [a,b,c]=some (cY (a::b::c::es)):=rfl
noncomputable def pE:List AV→Option Loc:=bdA 1 [.int 500,.int 20,.int 250,.int 15,.int 31,.int 65535,.int 65535,.int 65535,.int 127,.int 1500,.int 11,.int 15,.int 600,.int 16777216]
noncomputable def mj:M AF:=ay (bg cs9 31 (ac 0) (ac 1))
  (ay (bg cs9 32 (ac 0) (ac 2))
  (ay (bg cs9 33 (ac 0) (ac 3))
  (ay (bg cs9 34 (ac 0) (ac 4))
  (ay (bg cs9 35 (ac 0) (ac 5))
  (ay (bg cs9 36 (ac 0) (ac 6))
  (ay (bg cs9 37 (ac 0) (ac 7))
  (ay (bg cs9 10 (ac 0) (ac 8))
  (ay (bg cs9 39 (ac 0) (ac 9))
  (ay (bg cs9 18 (ac 0) (ac 10))
  (ay (bg cs9 25 (ac 0) (ac 11))
  (ay (bg cs9 38 (ac 0) (ac 12))
  (ay (bg cs9 40 (ac 0) (ac 13))
  (bg cs9 41 (ac 0) (ac 14))))))))))))))
noncomputable def ip:Fn:=bx pE mj
noncomputable def pF:List AV→Option Loc:=bdA 2 []
noncomputable def mm:M AF:=ay (bg cs9 44 (ac 0) (ac 1))
  (ay (bg cs9 7 (ac 0) (ret (.bool false)))
  (ay (bg cs9 34 (ac 0) (dJ aq))
  (ay (bg cs9 45 (ac 0) (dJ aq))
  (ay (bg cs9 46 (ac 0) (cV (.idict [])))
  (ay (bg cs9 47 (ac 0) (dJ aq))
  (ay (bg cs9 42 (ac 0) (ret (.int 0)))
  (ay (bg cs9 48 (ac 0) (ret (.int 0)))
  (ay (bg cs9 49 (ac 0) (ret (.int 0)))
  (bg cs9 50 (ac 0) (ret (.int 0)))))))))))
noncomputable def iq:Fn:=bx pF mm
noncomputable def kS:List AV→Option Loc:=bdA 2 []
noncomputable def gX:M AF:=ay (ifX (bA .Lt (ac 0) (ret (.int 0))) (gf 52 4) (ret .next))
  (ifX (bA .Gt (ac 0) (ac 1)) (gf 52 5) (ret .next))
noncomputable def cB:Fn:=bx kS gX
noncomputable def kT:List AV→Option Loc:=bdA 2 []
noncomputable def gY:M AF:=ifX (bA .Gt (fH .Add (fH .Add (aw cs9 42 (ac 0)) (aw cs9 48 (ac 0))) (ac 1)) (aw cs9 41 (aw cs9 44 (ac 0)))) (gf 52 3) (ret .next)
noncomputable def eK:Fn:=bx kT gY
noncomputable def oN:List AV→Option Loc:=bdA 1 []
noncomputable def kU:M AF:=cu (au (ah (aw cs9 34 (ac 0)) aq) em)
noncomputable def di:Fn:=bx oN kU
noncomputable def kW:List AV→Option Loc:=bdA 1 []
noncomputable def gZ:M AF:=cu (ifE (asB (aw cs9 7 (ac 0))) (ret (.int 0)) (pe 781 di (ac 0)))
noncomputable def bO:Fn:=bx kW gZ
noncomputable def lS:List AV→Option Loc:=bdA 2 []
noncomputable def ir:M AF:=ay (bS (bT 781 eK (ac 0) (ah (ac 1) aq)))
  (ay (bg cs9 49 (ac 0) (fH .Add (aw cs9 49 (ac 0)) (ret (.int 1))))
  (ay (dw (aw cs9 46 (ac 0)) (aw cs9 49 (ac 0)) (eH (ah (ac 1) (ah (aw cs9 7 (ac 0)) (ah (bT 781 bO (ac 0) aq) aq)))))
  (ay (ifX (asB (aw cs9 7 (ac 0))) (bg cs9 48 (ac 0) (fH .Add (aw cs9 48 (ac 0)) (ac 1))) (bg cs9 42 (ac 0) (fH .Add (aw cs9 42 (ac 0)) (ac 1))))
  (cu (aw cs9 49 (ac 0))))))
noncomputable def bJ:Fn:=bx lS ir
noncomputable def nY:List AV→Option Loc:=bdA 5 []
noncomputable def kh:M AF:=ay (bg cs9 5 (ac 0) (ac 1))
  (ay (bg cs9 9 (ac 0) (ac 2))
  (ay (bg cs9 7 (ac 0) (ac 3))
  (ay (bg csL 8 (ac 0) (ac 4))
  (ay (bg cs9 4 (ac 0) (ret (.int 3)))
  (bg cs9 10 (ac 0) (cV (.sdict [])))))))
noncomputable def gh:Fn:=bx nY kh
noncomputable def lT:List AV→Option Loc:=bdA 2 []
noncomputable def iu:M AF:=ay (bS (aZ cB (ah (ac 1) (ah (aw cs9 10 (aw cs9 44 (ac 0))) aq))))
  (cu (aZ (cN 140 gh) (ah (bT 781 bJ (ac 0) (ah (fH .Mult (ret (.int 16)) (ac 1)) aq)) (ah (ac 1) (ah (aw cs9 7 (ac 0)) (ah (bT 781 bO (ac 0) aq) aq))))))
noncomputable def fh:Fn:=bx lT iu
noncomputable def qF:List AV→Option Loc:=bdO (bdA 3 [.bool false,.int 3]) (bdA 5 [])
noncomputable def nu:M AF:=ay (bg cs9 1 (ac 0) (ac 1))
  (ay (bg cs9 2 (ac 0) (ac 2))
  (ay (bg cs9 3 (ac 0) (ac 3))
  (bg cs9 4 (ac 0) (ac 4))))
noncomputable def dL:Fn:=bx qF nu
noncomputable def uD:List AV→Option Loc:=bdA 1 []
noncomputable def rf:M AF:=cu (aZ (cN 84 dL) (ah (ret (.str 62)) (ah (ac 0) aq)))
noncomputable def mJ:Fn:=bx uD rf
noncomputable def zw:List AV→Option Loc:=bdA 0 []
noncomputable def xT:M AF:=cu (aZ (cN 84 dL) (ah (ret (.str 60)) (ah (ret .none) aq)))
noncomputable def rW:Fn:=bx zw xT
noncomputable def pG:List AV→Option Loc:=bdA 1 []
noncomputable def mn:M AF:=cu (orE (eG .Eq (aw cs9 1 (ac 0)) (ret (.str 61))) (eG .Eq (aw cs9 1 (ac 0)) (ret (.str 64))))
noncomputable def iv:Fn:=bx pG mn
noncomputable def uE:List AV→Option Loc:=bdA 1 []
noncomputable def rg:M AF:=ay (ifX (bA .Eq (aw cs9 1 (ac 0)) (ret (.str 62))) (cu (aw cs9 2 (ac 0))) (ret .next))
  (cu (ifE (orT (bA .Eq (aw cs9 1 (ac 0)) (ret (.str 65))) (orT (asB (aZ iv (ah (ac 0) aq))) (ret false))) (aw cs9 11 (aw cs9 2 (ac 0))) (ret .none)))
noncomputable def iw:Fn:=bx uE rg
noncomputable def tD:List AV→Option Loc:=bdA 1 []
noncomputable def pH:M AF:=ay (bn (ifE (bA .Eq (aw cs9 1 (ac 0)) (ret (.str 63))) (aw cs9 2 (ac 0)) (aZ iw (ah (ac 0) aq))) 1)
  (cu (lQ (eG .IsNot (ac 1) (ret .none)) (o8 (aw cs9 7 (ac 1)))))
noncomputable def bi:Fn:=bx tD pH
noncomputable def tE:List AV→Option Loc:=bdA 5 []
noncomputable def pI:M AF:=ay (bg cs9 5 (ac 0) (ac 1))
  (ay (bg cs9 6 (ac 0) (au (ah (ac 2) aq) du))
  (ay (bg cs9 7 (ac 0) (ac 3))
  (bg csL 8 (ac 0) (ac 4))))
noncomputable def eM:Fn:=bx tE pI
noncomputable def mK:List AV→Option Loc:=bdA 2 []
noncomputable def iO:M AF:=ay (ifX (asB (rR [84] "int" (ac 1))) stuck (ret .next))
  (ay (bS (aZ cB (ah (au (ah (ac 1) aq) em) (ah (aw cs9 37 (aw cs9 44 (ac 0))) aq))))
  (ay (ifX (asB (aw cs9 7 (ac 0))) (nk (ac 1) 2 (ifX (asB (aZ bi (ah (ac 2) aq))) (gf 52 0) (ret .next)) 100) (ret .next))
  (cu (aZ (cN 105 eM) (ah (bT 781 bJ (ac 0) (ah (fH .Mult (ret (.int 8)) (au (ah (ac 1) aq) em)) aq)) (ah (ac 1) (ah (aw cs9 7 (ac 0)) (ah (bT 781 bO (ac 0) aq) aq))))))))
noncomputable def bw:Fn:=bx mK iO
noncomputable def lU:List AV→Option Loc:=bdA 2 []
noncomputable def ix:M AF:=ay (ifX (asB (rR [84] "int" (ac 1))) (ay (bS (aZ cB (ah (ac 1) (ah (aw cs9 37 (aw cs9 44 (ac 0))) aq))))
  (cu (bT 781 bw (ac 0) (ah (fH .Mult (dJ (ah (aZ rW aq) aq)) (ac 1)) aq)))) (ret .next))
  (ay (bS (aZ cB (ah (au (ah (ac 1) aq) em) (ah (aw cs9 37 (aw cs9 44 (ac 0))) aq))))
  (ay (ifX (asB (aw cs9 7 (ac 0))) (nk (ac 1) 2 (ifX (asB (aZ bi (ah (ac 2) aq))) (gf 52 0) (ret .next)) 100) (ret .next))
  (cu (aZ (cN 105 eM) (ah (bT 781 bJ (ac 0) (ah (fH .Mult (ret (.int 8)) (au (ah (ac 1) aq) em)) aq)) (ah (ac 1) (ah (aw cs9 7 (ac 0)) (ah (bT 781 bO (ac 0) aq) aq))))))))
noncomputable def dO:Fn:=bx lU ix
noncomputable def rX:List AV→Option Loc:=bdA 4 []
noncomputable def oH:M AF:=ay (bg cs9 11 (ac 0) (ac 1))
  (ay (bg cs9 12 (ac 0) (ac 2))
  (bg cs9 13 (ac 0) (ac 3)))
noncomputable def jK:Fn:=bx rX oH
noncomputable def wF:List AV→Option Loc:=bdA 1 [.bool false,.int 3]
noncomputable def tF:M AF:=cu (aZ (cN 84 dL) (ah (ret (.str 61)) (ah (aZ (cN 161 jK) (ah (ac 0) (ah (ret (.int 0)) (ah (au (ah (aw cs9 6 (ac 0)) aq) em) aq)))) (ah (ac 1) (ah (ac 2) aq)))))
noncomputable def nZ:Fn:=bx wF tF
noncomputable def jL:List AV→Option Loc:=bdA 2 []
noncomputable def iP:M AF:=ay (bg cs9 9 (ac 0) (ac 1))
  (ay (bg cs9 14 (ac 0) (dJ aq))
  (ay (bg cs9 15 (ac 0) (ret .none))
  (bg cs9 16 (ac 0) (ret .none))))
noncomputable def eX:Fn:=bx jL iP
noncomputable def kX:List AV→Option Loc:=bdO (bdA 3 [.int 0,.bool false,.int 1500]) (bdA 5 [.int 1500])
noncomputable def jf:M AF:=ay (bg cs9 5 (ac 0) (ac 3))
  (ay (bg cs9 7 (ac 0) (ac 4))
  (ay (bg cs9 17 (ac 0) (au (ah (ac 1) aq) du))
  (ay (bg cs9 18 (ac 0) (aZ (cN 352 eX) (ah (ac 5) aq)))
  (ay (bg cs9 19 (ac 0) (dJ aq))
  (ay (bg cs9 20 (ac 0) (ac 2))
  (ay (bg cs9 21 (ac 0) (ret (.int 1000000)))
  (ay (bg cs9 22 (ac 0) (ret (.int 0)))
  (ay (bg cs9 23 (ac 0) (ret (.int 0)))
  (ay (bg cs9 24 (ac 0) (ret (.int 10000000)))
  (ay (bg cs9 25 (ac 0) (dJ aq))
  (ay (bg cs9 26 (ac 0) (ret (.int 0)))
  (ay (bg cs9 27 (ac 0) (ret (.int 1000000)))
  (ay (bg cs9 28 (ac 0) (ret (.bool false)))
  (ay (bg cs9 29 (ac 0) (ret (.bool false)))
  (ay (bg cs9 30 (ac 0) (ret .none))
  (bg cs9 0 (ac 0) (cV (.bdict []))))))))))))))))))
noncomputable def cP:Fn:=bx kX jf
noncomputable def rY:List AV→Option Loc:=bdA 0 []
noncomputable def oI:M AF:=ay (gQ 2 (eH (ah (aZ (cN 781 iq) (ah (aZ (cN 479 ip) aq) aq)) (ah (dJ aq) aq))) (bq (bU 3) (bq (bU 2) ff)))
  (ay (nk (eH (ah (ret (.bool false)) (ah (ret (.bool true)) aq))) 0 (ay (bg cs9 7 (ac 2) (ac 0))
  (bS (bmE .list bI (ac 3) (ah (dJ (ah (aZ mJ (ah (bT 781 fh (ac 2) (ah (ret (.int 3)) aq)) aq)) (ah (aZ nZ (ah (bT 781 dO (ac 2) (ah (ret (.int 2)) aq)) aq)) (ah (bT 781 dO (ac 2) (ah (ret (.int 2)) aq)) aq)))) aq)))) 100)
  (ay (bg cs9 7 (ac 2) (ret (.bool false)))
  (ay (gQ 2 (eH (ah (aZ (cN 438 cP) (ah (dJ (ah (ret (.int 1000000)) (ah (ret (.int 0)) (ah (ret (.int 0)) (ah (ret (.int 1000000)) (ah (ret (.int 0)) (ah (ret (.int 0)) aq))))))) (ah (ret .none) aq))) (ah (dJ (ah (aO (aO (ac 3) (ret (.int 0))) (ret (.int 1))) (ah (aO (aO (ac 3) (ret (.int 1))) (ret (.int 1))) aq))) aq))) (bq (bU 5) (bq (bU 4) ff)))
  (ay (bn (dJ (ah (cV (.bdict [])) (ah (tw (eJ (ret (.byt 1)) (aO (ac 5) (ret (.int 0))) rU)) (ah (tw (eJ (ret (.byt 1)) (aO (ac 5) (ret (.int 1))) rU)) (ah (tw (eJ (ret (.byt 1)) (aO (ac 5) (ret (.int 1))) (eJ (ret (.byt 2)) (eH (ah (aO (ac 5) (ret (.int 1))) (ah (aO (ac 5) (ret (.int 0))) aq))) rU))) aq))))) 1)
  (cu (pz (eJ (ret (.str 51)) (ac 2) (eJ (ret (.str 52)) (ac 4) (eJ (ret (.str 53)) (ac 3) (eJ (ret (.str 54)) (dJ (ah (ret .none) (ah (aO (aO (ac 3) (ret (.int 0))) (ret (.int 0))) (ah (aO (aO (ac 3) (ret (.int 1))) (ret (.int 0))) aq)))) (eJ (ret (.str 0)) (ac 1) (eJ (ret (.str 55)) (dJ (ah (ret (.int 0)) (ah (ret (.int 0)) (ah (aw cs9 21 (ac 4)) aq)))) (eJ (ret (.str 56)) (dJ aq) (eJ (ret (.str 34)) (dJ aq) rU))))))))))))))
noncomputable def fn_law_world:Fn:=bx rY oI
noncomputable def oa:List AV→Option Loc:=bdA 1 []
noncomputable def kj:M AF:=ay (bn (ifE (bA .Is (aw cs9 30 (ac 0)) (ret .none)) (dJ aq) (dJ (ah (aw cs9 30 (ac 0)) aq))) 1)
  (ay (ifX (bA .IsNot (aw cs9 20 (ac 0)) (ret .none)) stuck (ret .next))
  (ay (nk (au (ah (aw cs9 0 (ac 0)) aq) jI) 2 (ay (bn (aO (aw cs9 0 (ac 0)) (ac 2)) 3)
  (ifX (asB (rR [84] "tuple" (ac 3))) (bS (bmE .list lN (ac 1) (ah (ac 3) aq))) (bS (bmE .list bI (ac 1) (ah (ac 3) aq))))) 100)
  (cu (ac 1))))
noncomputable def dU:Fn:=bx oa kj
noncomputable def jM:List AV→Option Loc:=bdA 2 []
noncomputable def fY:M AF:=ifX (fW (asB (ac 0)) (fW (bA .NotEq (kg (aZ dU (ah (ac 1) aq)) (asB (aZ bi (ah (ac 0) aq))) (ac 0) 100) (dJ aq)) (ret true))) (gf 52 0) (ret .next)
noncomputable def bv:Fn:=bx jM fY
noncomputable def uF:List AV→Option Loc:=bdA 2 []
noncomputable def rh:M AF:=cu (ifE (fW (asB (ac 0)) (fW (orT (bA .Eq (aO (ac 1) (ret (.int 0))) (ret (.int 1))) (orT (bA .Eq (fH .Mod (aO (ac 1) (ret (.int 1))) (ret (.int 2))) (ret (.int 1))) (ret false))) (ret true))) (ret (.byt 0)) (ret .none))
noncomputable def fz:Fn:=bx uF rh
noncomputable def nv:List AV→Option Loc:=bdA 1 []
noncomputable def kY:M AF:=ay (bn (aZ (cN 352 eX) (ah (aw cs9 9 (ac 0)) aq)) 1)
  (ay (bg cs9 14 (ac 1) (au (ah (aw cs9 14 (ac 0)) aq) du))
  (ay (bg cs9 15 (ac 1) (aw cs9 15 (ac 0)))
  (ay (bg cs9 16 (ac 1) (aw cs9 16 (ac 0)))
  (cu (ac 1)))))
noncomputable def eY:Fn:=bx nv kY
noncomputable def pJ:List AV→Option Loc:=bdA 2 []
noncomputable def mo:M AF:=ay (bg cs9 17 (ac 0) (au (ah (aw cs9 17 (ac 1)) aq) du))
  (ay (bg cs9 18 (ac 0) (bT 352 eY (aw cs9 18 (ac 1)) aq))
  (ay (bg cs9 19 (ac 0) (au (ah (aw cs9 19 (ac 1)) aq) du))
  (ay (bg cs9 20 (ac 0) (aw cs9 20 (ac 1)))
  (ay (bg cs9 21 (ac 0) (aw cs9 21 (ac 1)))
  (ay (bg cs9 22 (ac 0) (aw cs9 22 (ac 1)))
  (ay (bg cs9 23 (ac 0) (aw cs9 23 (ac 1)))
  (ay (bg cs9 24 (ac 0) (aw cs9 24 (ac 1)))
  (ay (bg cs9 25 (ac 0) (au (ah (aw cs9 25 (ac 1)) aq) du))
  (ay (bg cs9 26 (ac 0) (aw cs9 26 (ac 1)))
  (ay (bg cs9 27 (ac 0) (aw cs9 27 (ac 1)))
  (ay (bg cs9 28 (ac 0) (aw cs9 28 (ac 1)))
  (ay (bg cs9 29 (ac 0) (aw cs9 29 (ac 1)))
  (ay (bg cs9 30 (ac 0) (aw cs9 30 (ac 1)))
  (bg cs9 0 (ac 0) (au (ah (aw cs9 0 (ac 1)) aq) mh)))))))))))))))
noncomputable def bZ:Fn:=bx pJ mo
noncomputable def pK:List AV→Option Loc:=bdO (bdA 1 [.int 0,.bool false]) (bdA 3 [])
noncomputable def mq:M AF:=ay (bn (aZ (cN 438 cP) (ah (aw cs9 17 (ac 0)) (ah (aw cs9 20 (ac 0)) (ah (ac 1) (ah (ac 2) aq))))) 3)
  (ay (bS (bT 438 bZ (ac 3) (ah (ac 0) aq)))
  (cu (ac 3)))
noncomputable def de:Fn:=bx pK mq
noncomputable def rZ:List AV→Option Loc:=bdA 1 []
noncomputable def oJ:M AF:=cu (aZ (cN 84 dL) (ah (ret (.str 63)) (ah (ac 0) aq)))
noncomputable def d7:Fn:=bx rZ oJ
noncomputable def kZ:List AV→Option Loc:=bdA 2 []
noncomputable def hG:M AF:=ay (nq 3 (bmE .dict wr (aw cs9 46 (ac 0)) (ah (aw cs9 5 (ac 1)) (ah (eH (ah (ret (.int 0)) (ah (ret (.bool true)) (ah (ret (.int 0)) aq)))) aq))) (bq (bU 2) (bq (bU 3) (bq (bU 4) ff))))
  (ifX (fW (jC (asB (ac 3))) (fW (bA .Lt (ac 4) (pe 781 di (ac 0))) (ret true))) (bS (bmE .list bI (aw cs9 45 (ac 0)) (ah (eH (ah (ret (.str 67)) (ah (ac 1) (ah (bT 438 de (ac 1) aq) aq)))) aq))) (ret .next))
noncomputable def cC:Fn:=bx kZ hG
noncomputable def pM:List AV→Option Loc:=bdA 3 []
noncomputable def mr:M AF:=ay (bS (aZ bv (ah (aw cs9 7 (ac 1)) (ah (ac 2) aq))))
  (ay (bS (bT 781 cC (ac 0) (ah (ac 1) aq)))
  (bS (bT 438 bZ (ac 1) (ah (ac 2) aq))))
noncomputable def eN:Fn:=bx pM mr
noncomputable def qG:List AV→Option Loc:=bdA 3 []
noncomputable def ny:M AF:=ay (qE 52 (bS (aZ eN (ah (aO (ac 0) (ret (.str 51))) (ah (aw cs9 2 (aO (ac 1) (ret (.str 57)))) (ah (ac 2) aq))))) 3 (cu (oG 52 0 (ac 3))))
  (cu (ret .none))
noncomputable def cg:Fn:=bx qG ny
noncomputable def nz:List AV→Option Loc:=bdA 1 []
noncomputable def gj:M AF:=ay (gQ 2 (eH (ah (aO (ac 0) (ret (.str 51))) (ah (ret (.bool false)) aq))) (bq (bU 3) (bq (bU 2) ff)))
  (ay (qE 52 (bS (aZ bv (ah (aw cs9 7 (ac 2)) (ah (aO (ac 0) (ret (.str 52))) aq)))) 1 (bn (eG .Eq (oG 52 0 (ac 1)) (ret (.byt 0))) 3))
  (ay (ifX (bA .NotEq (ac 3) (eG .IsNot (aZ fz (ah (aw cs9 7 (ac 2)) (ah (aO (ac 0) (ret (.str 55))) aq))) (ret .none))) (cu (ret (.bool false))) (ret .next))
  (ay (ifX (jC (asB (ac 3))) (ay (bn (aZ d7 (ah (bT 438 de (aZ (cN 438 cP) (ah (dJ (ah (ret (.int 1000000)) (ah (ret (.int 0)) (ah (ret (.int 0)) (ah (ret (.int 1000000)) (ah (ret (.int 0)) (ah (ret (.int 0)) aq))))))) (ah (ret .none) aq))) (ah (bT 781 bJ (ac 2) (ah (ret (.int 0)) aq)) (ah (aw cs9 7 (ac 2)) aq))) aq)) 4)
  (ay (bn (pz (eJ (ret (.str 57)) (ac 4) (eJ (ret (.str 7)) (aw cs9 7 (ac 2)) (eJ (ret (.str 58)) (au (ah (aO (ac 0) (ret (.str 55))) aq) du) rU)))) 5)
  (ay (bS (bmE .list bI (aO (ac 0) (ret (.str 56))) (ah (ac 5) aq)))
  (cu (eG .Is (aZ cg (ah (ac 0) (ah (ac 5) (ah (aO (ac 0) (ret (.str 52))) aq)))) (ret .none)))))) (ret .next))
  (cu (ret (.bool true))))))
noncomputable def cQ:Fn:=bx nz gj
noncomputable def tG:List AV→Option Loc:=bdA 2 []
noncomputable def pN:M AF:=ay (bn (aO (ac 0) (ret (.int 1))) 2)
  (ay (dw (ac 0) (ret (.int 1)) (fH .Add (ac 2) (ret (.int 1))))
  (cu (fH .Mod (ifE (bA .Lt (ac 2) (au (ah (aO (ac 0) (ret (.int 0))) aq) em)) (aO (aO (ac 0) (ret (.int 0))) (ac 2)) (fH .Add (fH .Add (fH .Mult (ret (.int 29)) (ac 2)) (fH .FloorDiv (fH .Mult (ac 2) (ac 2)) (ret (.int 4)))) (ret (.int 5)))) (ac 1))))
noncomputable def bu:Fn:=bx tG pN
noncomputable def qH:List AV→Option Loc:=bdA 3 []
noncomputable def nA:M AF:=ay (ifX (bA .Eq (ac 1) (ret (.int 3))) (ay (bg cs9 7 (aO (ac 0) (ret (.str 51))) (o8 (aw cs9 7 (aO (ac 0) (ret (.str 51))))))
  (ret (.ret .none))) (ret .next))
  (ay (dw (aO (ac 0) (ret (.str 55))) (ac 1) (aZ bu (ah (ac 2) (ah (aO (dJ (ah (ret (.int 3)) (ah (ret (.int 4)) (ah (ret (.int 9)) aq)))) (ac 1)) aq))))
  (ay (nq 2 (eH (ah (aO (aO (ac 0) (ret (.str 54))) (aO (aO (ac 0) (ret (.str 55))) (ret (.int 0)))) (ah (aO (aO (ac 0) (ret (.str 55))) (ret (.int 2))) aq))) (bq (atG cs9 30 (aO (ac 0) (ret (.str 52)))) (bq (atG cs9 21 (aO (ac 0) (ret (.str 52)))) ff)))
  (bg cs9 0 (aO (ac 0) (ret (.str 52))) (au (ah (aO (aO (ac 0) (ret (.str 0))) (aO (aO (ac 0) (ret (.str 55))) (ret (.int 1)))) aq) mh))))
noncomputable def c7:Fn:=bx qH nA
noncomputable def nD:List AV→Option Loc:=bdA 3 []
noncomputable def jq:M AF:=ay (bn (aO (aO (ac 0) (ret (.str 56))) (aZ bu (ah (ac 2) (ah (au (ah (aO (ac 0) (ret (.str 56))) aq) em) aq)))) 3)
  (ay (ifX (bA .Eq (ac 1) (ret (.int 7))) (ay (dw (ac 0) (ret (.str 55)) (au (ah (aO (ac 3) (ret (.str 58))) aq) du))
  (ay (bS (bT 438 bZ (aO (ac 0) (ret (.str 52))) (ah (aw cs9 2 (aO (ac 3) (ret (.str 57)))) aq)))
  (cu (ret (.bool true))))) (ret .next))
  (ay (gQ 2 (eH (ah (aO (ac 0) (ret (.str 52))) (ah (aO (ac 0) (ret (.str 55))) aq))) (bq (bU 6) (bq (bU 5) ff)))
  (ay (ifX (bA .Eq (ac 1) (ret (.int 6))) (ay (bn (aO (aO (ac 0) (ret (.str 56))) (aZ bu (ah (ac 2) (ah (au (ah (aO (ac 0) (ret (.str 56))) aq) em) aq)))) 7)
  (gQ 2 (eH (ah (aw cs9 2 (aO (ac 7) (ret (.str 57)))) (ah (aO (ac 7) (ret (.str 58))) aq))) (bq (bU 6) (bq (bU 5) ff)))) (ret .next))
  (ay (bn (aZ fz (ah (aO (ac 3) (ret (.str 7))) (ah (ac 6) aq))) 4)
  (ay (ifX (bA .NotEq (aZ cg (ah (ac 0) (ah (ac 3) (ah (ac 5) aq)))) (ac 4)) (cu (ret (.bool false))) (ret .next))
  (ay (ifX (bA .Is (ac 4) (ret .none)) (dw (ac 3) (ret (.str 58)) (au (ah (ac 6) aq) du)) (ret .next))
  (cu (ret (.bool true)))))))))
noncomputable def cy:Fn:=bx nD jq
noncomputable def uG:List AV→Option Loc:=bdA 1 []
noncomputable def ri:M AF:=cu (aZ (cN 84 dL) (ah (ret (.str 59)) (ah (ac 0) aq)))
noncomputable def fA:Fn:=bx uG ri
noncomputable def kr:List AV→Option Loc:=bdA 3 []
noncomputable def gE:M AF:=ifX (fW (asB (aw cs9 7 (ac 1))) (fW (asB (aZ bi (ah (ac 2) aq))) (ret true))) (gf 52 0) (ret .next)
noncomputable def ez:Fn:=bx kr gE
noncomputable def mM:List AV→Option Loc:=bdA 2 []
noncomputable def iQ:M AF:=cu (lQ (o8 (aw cs9 7 (ac 1))) (eG .Lt (aw csL 8 (ac 1)) (pe 781 di (ac 0))))
noncomputable def fB:Fn:=bx mM iQ
noncomputable def lV:List AV→Option Loc:=bdA 4 []
noncomputable def iy:M AF:=ay (nk (ac 3) 4 (bS (bT 781 ez (ac 0) (ah (ac 1) (ah (ac 4) aq)))) 100)
  (nl (ac 3) 5 4 (ay (ifX (asB (bT 781 fB (ac 0) (ah (ac 1) aq))) (bS (bmE .list bI (aw cs9 45 (ac 0)) (ah (eH (ah (ret (.str 66)) (ah (ac 1) (ah (fH .Add (ac 2) (ac 5)) (ah (aO (aw cs9 6 (ac 1)) (fH .Add (ac 2) (ac 5))) aq))))) aq))) (ret .next))
  (dw (aw cs9 6 (ac 1)) (fH .Add (ac 2) (ac 5)) (ac 4))) 100)
noncomputable def fj:Fn:=bx lV iy
noncomputable def mN:List AV→Option Loc:=bdA 4 []
noncomputable def iR:M AF:=bS (bT 781 fj (ac 0) (ah (ac 1) (ah (ac 2) (ah (dJ (ah (ac 3) aq)) aq))))
noncomputable def bf:Fn:=bx mN iR
noncomputable def nE:List AV→Option Loc:=bdA 2 []
noncomputable def jt:M AF:=ay (gQ 2 (eH (ah (aO (aO (ac 0) (ret (.str 56))) (aZ bu (ah (ac 1) (ah (au (ah (aO (ac 0) (ret (.str 56))) aq) em) aq)))) (ah (aO (ac 0) (ret (.str 51))) aq))) (bq (bU 6) (bq (bU 5) ff)))
  (ay (gQ 3 (eH (ah (eG .Eq (aZ bu (ah (ac 1) (ah (ret (.int 2)) aq))) (ret (.int 0))) (ah (eG .Eq (aZ bu (ah (ac 1) (ah (ret (.int 2)) aq))) (ret (.int 1))) (ah (aw cs9 7 (aO (ac 0) (ret (.str 51)))) aq)))) (bq (bU 9) (bq (bU 8) (bq (bU 7) ff))))
  (ay (bn (aO (aO (aO (ac 0) (ret (.str 53))) (au (ah (ac 7) aq) zn)) (ret (.int 2))) 2)
  (ay (gQ 2 (eH (ah (aO (aw cs9 6 (ac 2)) (ret (.int 1))) (ah (ret .none) aq))) (bq (bU 11) (bq (bU 10) ff)))
  (ay (bg cs9 7 (ac 6) (ac 7))
  (ay (qE 52 (ifX (asB (ac 8)) (bS (bT 781 bw (ac 6) (ah (dJ (ah (aZ fA (ah (ret (.int 1)) aq)) (ah (aO (ac 5) (ret (.str 57))) aq))) aq))) (bS (bT 781 bf (ac 6) (ah (ac 2) (ah (ret (.int 1)) (ah (aO (ac 5) (ret (.str 57))) aq)))))) 3 (bn (oG 52 0 (ac 3)) 11))
  (ay (bg cs9 7 (ac 6) (ac 9))
  (ay (bn (ifE (fW (asB (ac 7)) (fW (jC (asB (aO (ac 5) (ret (.str 7))))) (ret true))) (ret (.byt 0)) (ret .none)) 4)
  (cu (lQ (eG .Eq (ac 11) (ac 4)) (orE (eG .Is (ac 4) (ret .none)) (eG .Is (aO (aw cs9 6 (ac 2)) (ret (.int 1))) (ac 10))))))))))))
noncomputable def dh:Fn:=bx nE jt
noncomputable def pO:List AV→Option Loc:=bdA 5 []
noncomputable def ms:M AF:=ay (bg cs9 5 (ac 0) (ac 1))
  (ay (bg cs9 13 (ac 0) (ac 2))
  (ay (bg cs9 42 (ac 0) (ac 3))
  (bg cs9 43 (ac 0) (ac 4))))
noncomputable def eO:Fn:=bx pO ms
noncomputable def pP:List AV→Option Loc:=bdA 1 [.none]
noncomputable def mv:M AF:=ay (ifX (bA .GtE (pe 781 di (ac 0)) (aw cs9 34 (aw cs9 44 (ac 0)))) (gf 52 5) (ret .next))
  (ay (bg cs9 50 (ac 0) (fH .Add (aw cs9 50 (ac 0)) (ret (.int 1))))
  (ay (bS (bmE .list bI (aw cs9 34 (ac 0)) (ah (aZ (cN 500 eO) (ah (aw cs9 50 (ac 0)) (ah (au (ah (aw cs9 45 (ac 0)) aq) em) (ah (aw cs9 42 (ac 0)) (ah (ac 1) aq))))) aq)))
  (cu (aw cs9 50 (ac 0)))))
noncomputable def eP:Fn:=bx pP mv
noncomputable def ju:List AV→Option Loc:=bdA 2 []
noncomputable def d9:M AF:=ay (nl (aw cs9 34 (ac 0)) 2 3 (ifX (bA .Eq (aw cs9 5 (ac 3)) (ac 1)) (cu (ac 2)) (ret .next)) 100)
  (cu (ret .none))
noncomputable def cD:Fn:=bx ju d9
noncomputable def k7:List AV→Option Loc:=bdA 2 []
noncomputable def hH:M AF:=ay (bn (bT 781 cD (ac 0) (ah (ac 1) aq)) 2)
  (ay (ifX (bA .Is (ac 2) (ret .none)) (gf 52 6) (ret .next))
  (cu (ac 2)))
noncomputable def cK:Fn:=bx k7 hH
noncomputable def k8:List AV→Option Loc:=bdA 3 []
noncomputable def hJ:M AF:=ay (gQ 2 (eH (ah (aZ iw (ah (ac 2) aq)) (ah (bT 781 cK (ac 0) (ah (ac 1) aq)) aq))) (bq (bU 4) (bq (bU 3) ff)))
  (ay (ifX (bA .Eq (aw cs9 1 (ac 2)) (ret (.str 63))) (ay (nq 3 (bmE .dict wr (aw cs9 46 (ac 0)) (ah (aw cs9 5 (aw cs9 2 (ac 2))) (ah (eH (ah (ret (.int 0)) (ah (ret (.bool true)) (ah (ret (.int 0)) aq)))) aq))) (bq (bU 5) (bq (bU 6) (bq (bU 7) ff))))
  (cu (lQ (o8 (ac 6)) (eG .Gt (ac 7) (ac 4))))) (ret .next))
  (cu (lQ (eG .IsNot (ac 3) (ret .none)) (lQ (o8 (aw cs9 7 (ac 3))) (eG .Gt (aw csL 8 (ac 3)) (ac 4))))))
noncomputable def b9:Fn:=bx k8 hJ
noncomputable def mO:List AV→Option Loc:=bdA 1 []
noncomputable def iS:M AF:=ay (gQ 2 (eH (ah (aO (ac 0) (ret (.int 0))) (ah (aO (ac 0) (ret (.int 1))) aq))) (bq (bU 2) (bq (bU 1) ff)))
  (ifX (bA .Eq (ac 1) (ret (.str 66))) (dw (aw cs9 6 (ac 2)) (aO (ac 0) (ret (.int 2))) (aO (ac 0) (ret (.int 3)))) (ifX (bA .Eq (ac 1) (ret (.str 9))) stuck (ifX (bA .Eq (ac 1) (ret (.str 4))) stuck (ifX (bA .Eq (ac 1) (ret (.str 67))) (bS (bT 438 bZ (ac 2) (ah (aO (ac 0) (ret (.int 2))) aq))) (ifX (bA .Eq (ac 1) (ret (.str 68))) stuck (ifX (bA .Is (aO (ac 0) (ret (.int 3))) (ret .none)) stuck stuck))))))
noncomputable def bP:Fn:=bx mO iS
noncomputable def jN:List AV→Option Loc:=bdA 2 []
noncomputable def fZ:M AF:=nk (ac 1) 2 (ifX (fW (bA .Eq (aO (ac 2) (ret (.int 0))) (ret (.str 9))) (fW stuck (ret true))) stuck (ret .next)) 100
noncomputable def cR:Fn:=bx jN fZ
noncomputable def iV:List AV→Option Loc:=bdA 2 []
noncomputable def gp:M AF:=ay (bn (bT 781 cK (ac 0) (ah (ac 1) aq)) 2)
  (ay (bn (aO (aw cs9 34 (ac 0)) (ac 2)) 3)
  (ay (bn (dJ aq) 4)
  (ay (jJ (bA .Gt (au (ah (aw cs9 45 (ac 0)) aq) em) (aw cs9 13 (ac 3))) (ay (bS (bmE .list bI (ac 4) (ah (bmE .list pg (aw cs9 45 (ac 0)) aq) aq)))
  (bS (aZ bP (ah (aO (ac 4) (Bn (ret (.int 1)))) aq)))) 100)
  (ay (bg cs9 34 (ac 0) (pb (aw cs9 34 (ac 0)) (ac 2)))
  (ay (bg cs9 47 (ac 0) (dJ aq))
  (ay (nk (au (ah (aw cs9 46 (ac 0)) aq) du) 5 (ay (nq 3 (aO (aw cs9 46 (ac 0)) (ac 5)) (bq (bU 6) (bq (bU 7) (bq (bU 8) ff))))
  (ifX (fW (jC (asB (ac 7))) (fW (bA .Gt (ac 8) (ac 2)) (ret true))) (ay (bS (bmE .dict qY (aw cs9 46 (ac 0)) (ah (ac 5) aq)))
  (bS (bmE .list bI (aw cs9 47 (ac 0)) (ah (ac 5) aq)))) (ret .next))) 100)
  (ay (bS (bT 781 cR (ac 0) (ah (ac 4) aq)))
  (ay (bg cs9 42 (ac 0) (aw cs9 42 (ac 3)))
  (cu (ac 4))))))))))
noncomputable def cS:Fn:=bx iV gp
noncomputable def mP:List AV→Option Loc:=bdA 2 []
noncomputable def fL:M AF:=ay (gQ 3 (eH (ah (aO (ac 0) (ret (.str 56))) (ah (aO (ac 0) (ret (.str 34))) (ah (aO (ac 0) (ret (.str 51))) aq)))) (bq (bU 4) (bq (bU 3) (bq (bU 2) ff))))
  (ay (ifX (fW (asB (ac 1)) (fW (bA .Lt (au (ah (ac 3) aq) em) (ret (.int 3))) (ret true))) (bS (bmE .list bI (ac 3) (ah (eH (ah (bT 781 eP (ac 4) aq) (ah (kg (ac 2) (ret true) (au (ah (aO (ac 0) (ret (.str 58))) aq) du) 100) aq))) aq))) (ifX (bA .NotEq (ac 3) (dJ aq)) (ay (nq 2 (bmE .list pg (ac 3) aq) (bq (bU 5) (bq (bU 6) ff)))
  (ay (nl (ac 2) 7 8 (ifX (bA .NotEq (bT 781 b9 (ac 4) (ah (ac 5) (ah (aO (ac 8) (ret (.str 57))) aq))) (lQ (eG .GtE (ac 7) (au (ah (ac 6) aq) em)) (o8 (aO (ac 8) (ret (.str 7)))))) (cu (ret (.bool false))) (ret .next)) 100)
  (ay (bS (bT 781 cS (ac 4) (ah (ac 5) aq)))
  (ay (wz (ac 2) (ac 6) 8 9 (dw (ac 8) (ret (.str 58)) (ifE (asB (aO (ac 8) (ret (.str 7)))) (aO (ac 8) (ret (.str 58))) (ac 9))) 100)
  (dw (ac 0) (ret (.str 56)) (fH .Add (pb (ac 2) (au (ah (ac 6) aq) em)) (kg (vz (ac 2) (au (ah (ac 6) aq) em)) (asB (aO (ac 0) (ret (.str 7)))) (ac 0) 100))))))) (ret .next)))
  (cu (ret (.bool true))))
noncomputable def bQ:Fn:=bx mP fL
noncomputable def uH:List AV→Option Loc:=bdA 3 []
noncomputable def rl:M AF:=ay (nq 3 (ac 2) (bq (bU 3) (bq (bU 4) (bq (bU 5) ff))))
  (cu (lQ (eG .Is (aw cs9 30 (ac 1)) (aO (aO (ac 0) (ret (.str 54))) (ac 3))) (lQ (eG .Eq (aw cs9 0 (ac 1)) (aO (aO (ac 0) (ret (.str 0))) (ac 4))) (eG .Eq (aw cs9 21 (ac 1)) (ac 5)))))
noncomputable def eQ:Fn:=bx uH rl
noncomputable def qI:List AV→Option Loc:=bdA 1 []
noncomputable def jO:M AF:=ay (nk (aO (ac 0) (ret (.str 56))) 1 (ifX (orT (jC (asB (aZ eQ (ah (ac 0) (ah (aw cs9 2 (aO (ac 1) (ret (.str 57)))) (ah (aO (ac 1) (ret (.str 58))) aq)))))) (orT (bA .Eq (aZ bi (ah (aO (ac 1) (ret (.str 57))) aq)) (aO (ac 1) (ret (.str 7)))) (ret false))) (cu (ret (.bool false))) (ret .next)) 100)
  (cu (aZ eQ (ah (ac 0) (ah (aO (ac 0) (ret (.str 52))) (ah (aO (ac 0) (ret (.str 55))) aq)))))
noncomputable def eo:Fn:=bx qI jO
noncomputable def Bq:List AV→Option Loc:=bdA 1 []
noncomputable def Cl:M AF:=ay (gQ 2 (eH (ah (dJ (ah (pb (ac 0) (ret (.int 40))) (ah (ret (.int 0)) aq))) (ah (aZ fn_law_world aq) aq))) (bq (bU 3) (bq (bU 2) ff)))
  (ay (ifX (jC (asB (aZ cQ (ah (ac 3) aq)))) (cu (ret (.bool false))) (ret .next))
  (ay (zp (fH .Add (ret (.int 1)) (aZ bu (ah (ac 2) (ah (ret (.int 12)) aq)))) 1 (ay (gQ 2 (eH (ah (aZ bu (ah (ac 2) (ah (ret (.int 10)) aq))) (ah (ret (.bool true)) aq))) (bq (bU 5) (bq (bU 4) ff)))
  (ay (ifX (bA .Lt (ac 4) (ret (.int 4))) (bS (aZ c7 (ah (ac 3) (ah (ac 4) (ah (ac 2) aq))))) (ifX (bA .Eq (ac 4) (ret (.int 4))) (bn (orE (eG .Gt (au (ah (aO (ac 3) (ret (.str 56))) aq) em) (ret (.int 4))) (aZ cQ (ah (ac 3) aq))) 5) (ifX (bA .Lt (ac 4) (ret (.int 8))) (bn (aZ cy (ah (ac 3) (ah (ac 4) (ah (ac 2) aq)))) 5) (ifX (bA .Eq (ac 4) (ret (.int 8))) (bn (aZ dh (ah (ac 3) (ah (ac 2) aq))) 5) (bn (aZ bQ (ah (ac 3) (ah (eG .Eq (aZ bu (ah (ac 2) (ah (ret (.int 2)) aq))) (ret (.int 0))) aq))) 5)))))
  (ifX (orT (jC (asB (ac 5))) (orT (jC (asB (aZ eo (ah (ac 3) aq)))) (ret false))) (cu (ret (.bool false))) (ret .next)))) 100)
  (cu (ret (.bool true)))))
noncomputable def Ef:Fn:=bx Bq Cl
end Lw
end SD0
section SH1
set_option maxHeartbeats 8000000
namespace Lw
open PySem PySem.Calls PyProof.Rows PySem.W
noncomputable abbrev pp:Program:=PySem.Challenge.pw_pq0917_01
noncomputable abbrev p0:Pos:=⟨0,0,0,0⟩
noncomputable abbrev zx:Env:={ scope:=pp.main.scope,locals:=mainNs,globals:=mainNs,cells:=[],code:=.ref 13,frame:=some 14 }
noncomputable abbrev og:Code:=.body (behindTheImports pp) zx
noncomputable abbrev S0 (w:World) (os:OsState):Shared:=⟨boot_heap w.params,Array.mk [],boot_drawn,boot_toks,os⟩
noncomputable def Br (w:World) (os:OsState):Option (Shared×Thread):=PySem.W.Fast.tw15667345088766844465 treeTable pp w 11 (some (.ref 6)) 12 (S0 w os) (topStub pp)
noncomputable def Sa (w:World) (os:OsState):Shared:=match Br w os with
  | some (s,_)=>s
  | none=>S0 w os
noncomputable def tr:List Obj→Nat→BT→BT
  | [],_,t=>t
  | o::l,n,t=>tr l (n+1) (t.ins n o)
noncomputable def toT (s:Shared):SharedT:=⟨tr s.heap.objs.toList 0 .nil,s.heap.objs.size,s.heap.life,s.gens,s.drawn,s.toks,s.os⟩
noncomputable def wG (w:World) (os:OsState):Option (Flow×SharedT×Code×Pos):=PySem.W.Fast.tw10110043849684766642 PySem.W.Fast.tw14364793385576792824 pp w 11 (some (.ref 6)) 1 6100 (toT (Sa w os)) (piecesOf (behindTheImports pp) zx og p0 [topFrame p0])
noncomputable def AJ (d:SharedT):Option (Flow×SharedT×Code×Pos)→SharedT
  | some (_,s,_)=>s
  | none=>d
noncomputable abbrev fin (w:World) (os:OsState):SharedT:=AJ (toT (Sa w os)) (wG w os)
noncomputable def asL:List Nat:=[3,2,84,83,105,104,140,139,161,160,352,351,438,437,479,478,500,499,781,780,578,577,683,682,52,51,39,38,526,36,172,179,187,194,201,208,215,222,449,454,461,790,797,804,811,818,825,832,839,846,853,860,867,872,81,102,123,158,237,378,476,497,518,386,393,265,525,533,540,547,568,575,596,603,610,617,680,700,707,728,735,742,749,35,171,178,186,193,200,207,214,221,448,453,460,789,796,803,810,817,824,831,838,845,852,859,866,871,80,101,122,157,236,377,475,496,517,385,392,264,524,532,539,546,567,574,595,602,609,616,679,699,706,727,734,741,748,29,74,180,230,371,379,469,693]
noncomputable def zy (s:SharedT) (a:Addr):Option Obj:=match Nat.blt a s.n with
  | true=>(s.tree.get a).bind alive
  | false=>none
noncomputable def Kt (s:SharedT):Frag:=asL.filterMap fun a=>(zy s a).map fun o=>(a,o)
noncomputable def atS:List Stmt→Nat→Stmt
  | [],_=>.Pass p0
  | s::_,0=>s
  | _::l,n+1=>atS l n
noncomputable def dS (i j:Nat):Stmt:=match atS pp.main.body i with
  | .ClassDef _ _ _ b _ _ _ _ _ _ _=>atS b j
  | s=>s
noncomputable def dP:Stmt→Arguments
  | .FunctionDef _ a _ _ _ _ _ _ _ _=>a
  | _=>default
noncomputable def dB:Stmt→List Stmt
  | .FunctionDef _ _ b _ _ _ _ _ _ _=>b
  | _=>[]
noncomputable def dC:Stmt→Scope
  | .FunctionDef _ _ _ _ _ _ s _ _ _=>s
  | _=>pp.main.scope
noncomputable def gO (K:Frag) (a:Addr):Obj:=(K.lookup a).getD default
noncomputable def gF (K:Frag) (a:Addr):FuncData:=match K.lookup a with
  | some ⟨_,_,.func f,_⟩=>f
  | _=>default
noncomputable def Eg (K:Frag) (r:Nat×Nat×Nat×Str×Value×Value):Obj:=⟨(gO K r.1).cls,(gO K r.1).dict,.func (fnOf (gF K r.1).name r.2.2.2.1 (dP (dS r.2.1 r.2.2.1)) (dB (dS r.2.1 r.2.2.1)) (dC (dS r.2.1 r.2.2.1)) r.2.2.2.2.1 (gF K r.1).kwdefaults (gF K r.1).doc (gF K r.1).pyModule (gF K r.1).annotations r.2.2.2.2.2 (gF K r.1).closureTuple),(gO K r.1).slots⟩
noncomputable def tH (xs:List Value):Obj:={ cls:=.type "tuple",data:=.seq xs.toArray }
noncomputable def dvV:Nat→Value
  | 0=>.none
  | d+1=>.ref (d+1)
noncomputable def fr (a i j:Nat) (q:Str) (d c:Nat):Nat×Nat×Nat×Str×Value×Value:=(a,i,j,q,dvV d,.ref c)
noncomputable def fnT:List (Nat×Nat×Nat×Str×Value×Value):=[fr 36 3 0 "PostError.__init__" 29 35,fr 172 14 0 "integer" 0 171,fr 179 15 0 "null" 0 178,fr 187 16 0 "of_row" 180 186,fr 194 17 0 "of_dict" 0 193,fr 201 18 0 "of_gstate" 0 200,fr 208 19 0 "is_in_array" 0 207,fr 215 20 0 "body_of" 0 214,fr 222 21 0 "is_local" 0 221,fr 449 29 0 "gstate_things" 0 448,fr 454 30 0 "gstate_check_global" 0 453,fr 461 31 0 "gstate_fill" 0 460,fr 790 41 0 "memory_check_many" 0 789,fr 797 42 0 "memory_put_back" 0 796,fr 804 44 0 "_law_next" 0 803,fr 811 45 0 "_law_world" 0 810,fr 818 46 0 "_law_due" 0 817,fr 825 47 0 "_law_has" 0 824,fr 832 48 0 "_law_stands" 0 831,fr 839 49 0 "_law_turned" 0 838,fr 846 50 0 "_law_filled" 0 845,fr 853 51 0 "_law_made_right" 0 852,fr 860 52 0 "_law_laid_right" 0 859,fr 867 53 0 "_law_held_right" 0 866,fr 872 54 0 "_law_saved_right" 0 871,fr 81 10 0 "Thing.__init__" 74 80,fr 102 11 0 "Row.__init__" 0 101,fr 123 12 0 "DictBody.__init__" 0 122,fr 158 13 0 "Span.__init__" 0 157,fr 237 24 0 "Path.__init__" 230 236,fr 378 28 0 "GState.__init__" 371 377,fr 476 36 0 "Limits.__init__" 469 475,fr 497 37 0 "VmSave.__init__" 0 496,fr 518 38 0 "BodyMaker.__init__" 0 517,fr 386 28 1 "GState.copy" 379 385,fr 393 28 2 "GState.take" 0 392,fr 265 24 4 "Path.copy" 0 264,fr 525 38 1 "BodyMaker.level" 0 524,fr 533 38 2 "BodyMaker.body_level" 0 532,fr 540 38 3 "BodyMaker.take_room" 0 539,fr 547 38 4 "BodyMaker.check_room" 0 546,fr 568 38 7 "BodyMaker.make_row" 0 567,fr 575 38 8 "BodyMaker.make_dict" 0 574,fr 596 39 0 "BodyChanger.is_elder" 0 595,fr 603 39 1 "BodyChanger.check_holds" 0 602,fr 610 39 2 "BodyChanger.put_item" 0 609,fr 617 39 3 "BodyChanger.put_items" 0 616,fr 680 39 12 "BodyChanger.note_state" 0 679,fr 700 40 0 "Memory.save" 693 699,fr 707 40 1 "Memory.place_of_save" 0 706,fr 728 40 4 "Memory.sure_place" 0 727,fr 735 40 5 "Memory.newer_than" 0 734,fr 742 40 6 "Memory.restore" 0 741,fr 749 40 7 "Memory.settle_costs" 0 748]
noncomputable def dvT:List (Nat×Obj):=[(29,tH [.none]),(74,tH [.bool false,.int 3 260]),(180,tH [.bool false,.int 3 260]),(230,tH [.int 1500 477]),(371,tH [.int 0 668,.bool false,.int 1500 477]),(379,tH [.int 0 681,.bool false]),(469,tH [.int 500 818,.int 20 819,.int 250 820,.int 15 821,.int 31 822,.int 65535 823,.int 65535 824,.int 65535 825,.int 127 826,.int 1500 827,.int 11 828,.int 15 829,.int 600 830,.int 16777216 804]),(693,tH [.none])]
noncomputable def glT:List (Str×Value):=[("GRAIN",.int 1000000 196),("UNLIMITED",.int 3 260),("GSTATE_MITER",.int 10000000 654),("ITEM_COST",.int 8 798),("ENTRY_COST",.int 16 800)]
noncomputable def bnT:List Str:=["len", "sorted", "isinstance", "list", "dict", "int", "tuple", "range", "enumerate", "zip"]
noncomputable def nr (x:Str) (a:Nat):Str×Nat:=(x,a)
noncomputable def nmT:List (Str×Nat):=[nr "integer" 172,nr "null" 179,nr "of_row" 187,nr "of_dict" 194,nr "of_gstate" 201,nr "is_in_array" 208,nr "body_of" 215,nr "is_local" 222,nr "gstate_things" 449,nr "gstate_check_global" 454,nr "gstate_fill" 461,nr "memory_check_many" 790,nr "memory_put_back" 797,nr "_law_next" 804,nr "_law_world" 811,nr "_law_due" 818,nr "_law_has" 825,nr "_law_stands" 832,nr "_law_turned" 839,nr "_law_filled" 846,nr "_law_made_right" 853,nr "_law_laid_right" 860,nr "_law_held_right" 867,nr "_law_saved_right" 872,nr "Thing" 84,nr "Row" 105,nr "DictBody" 140,nr "Span" 161,nr "Path" 352,nr "GState" 438,nr "Limits" 479,nr "VmSave" 500,nr "Memory" 781,nr "PsError" 52]
noncomputable def ckT:List (Nat×Nat):=[(84,81),(105,102),(140,123),(161,158),(352,237),(438,378),(479,476),(500,497),(781,518)]
noncomputable def maT:List (Nat×Str×Nat):=[(438, "copy",386),(438, "take",393),(352, "copy",265),(781, "body_level",533),(781, "take_room",540),(781, "check_room",547),(781, "make_row",568),(781, "make_dict",575),(781, "is_elder",596),(781, "check_holds",603),(781, "put_item",610),(781, "put_items",617),(781, "note_state",680),(781, "save",700),(781, "place_of_save",707),(781, "sure_place",728),(781, "newer_than",735),(781, "restore",742),(781, "settle_costs",749)]
noncomputable def xU (K:Frag) (C:Addr) (x:Str):Bool:=match findIn K (.ref C) x with
  | some a=>noGet K a
  | none=>false
noncomputable def Cm (K:Frag) (C:Addr) (x:Str) (b:String):Bool:=match findIn K (.ref C) x with
  | some (some (.builtin i))=>i==b
  | _=>false
noncomputable def Cn (K:Frag) (C:Addr) (x:Str):Bool:=match takerIn K C x with
  | some none=>true
  | _=>false
noncomputable def paB (K:Frag) (C:Addr) (x:Str):Bool:=plainGet K C x&&xU K C x&&Cn K C x
noncomputable def paC (K:Frag) (C:Addr):Bool:=hasDictIn K C&&Cm K C "__setattr__" "object.__setattr__" && plainOver K C
structure Facts (K:Frag):Prop where
  pa:(cs9.all fun C=>paC K C&&(List.range 69).all fun k=>k==8||paB K C (nm k))=true
  pl:(csL.all fun C=>paB K C (nm 8))=true
  nms:nmT.map (fun x=>(nsIn K mainGlobals x.1,keepIn K (.ref x.2)))=nmT.map fun x=>(some (some (.ref x.2)),true)
  cks:ckT.map (fun x=>(makesIn K x.1,findIn K (.ref x.1) "__init__",typeIn K (.ref x.2)))=ckT.map fun x=>(true,some (some (.ref x.2)),some (.type "function"))
  gls:glT.map (fun x=>nsIn K mainGlobals x.1)=glT.map fun x=>some (some x.2)
  bns:bnT.map (nsIn K mainGlobals)=bnT.map fun _=>some none
  nt:NT K 84
  mas:maT.map (fun x=>(plainGet K x.1 x.2.1,findIn K (.ref x.1) x.2.1,isFn K (.ref x.2.2),keepIn K (.ref x.2.2)))=maT.map fun x=>(true,some (some (.ref x.2.2)),true,true)
  pr:PrA K 781 "level" 526 525
  ex:ExcC K 52 36
  fns:fnT.map (fun r=>K.lookup r.1)=fnT.map fun r=>some (Eg K r)
  fbs:fnT.map (fun r=>(codeIn K r.2.2.2.2.2 r.2.2.2.1,keepIn K (.ref r.1),typeIn K (.ref r.1)))=fnT.map fun _=>(true,true,some (.type "function"))
  dvs:dvT.map (fun r=>K.lookup r.1)=dvT.map fun r=>some r.2
noncomputable def qq:Program:=view pp [55]
noncomputable def topLo:List Str:=(["_wall", "GRAIN", "PostError", "PsError", "space_bears", "colour_things", "UNLIMITED", "Thing", "Row", "DictBody", "Span", "integer", "null", "of_row", "of_dict", "of_gstate", "is_in_array", "body_of", "is_local", "MOST_ROWS"]:List Str)++(["Path", "path_more", "GSTATE_MITER", "GState", "gstate_things", "gstate_check_global", "gstate_fill", "ITEM_COST", "ENTRY_COST", "MOST_COST", "Limits", "VmSave", "BodyMaker", "BodyChanger", "Memory", "memory_check_many", "memory_put_back", "_law_next", "_law_world", "_law_due"]:List Str)++(["_law_has", "_law_stands", "_law_turned", "_law_filled", "_law_made_right", "_law_laid_right", "_law_held_right", "_law_saved_right"]:List Str)
noncomputable def lv:List (Str×WData):=[]
noncomputable def Xt (s:Shared):Bool:=xlAt qq lv s&&recOk PySem.Challenge.rw_pq0917_01.row.toRowW.records s
noncomputable def vH (P:Params) (s:Shared):Bool:=staticsOk (importedModules pp.main.body) (boot_heap P) s.heap&&namesBound pp s.heap&&gensDone s&&laidKept (boot_heap P) s.heap
structure Big (w:World) (os:OsState):Prop where
  pre:Br w os=some (Sa w os,⟨PySem.W.Fast.tw11892475500146522536 treeTable og,og,p0,[topFrame p0]⟩)
  ends:(wG w os).map (fun r=>(r.1,r.2.2.1))=some (.next,og)
  abs:(toT (Sa w os)).abs=Sa w os
  look:vH w.params (fin w os).abs=true
  seen:PySem.W.Fast.tw4187177175401517315 qq topLo (importedModules pp.main.body) Xt true (fin w os).abs=openGood qq topLo
  facts:Facts (Kt (fin w os))
theorem big (w:World) (os:OsState):Big w os where
  pre:=by kernel_rfl
  ends:=by kernel_rfl
  abs:=by kernel_rfl
  look:=by kernel_rfl
  seen:=by kernel_rfl
  facts:={
    pa:=by kernel_rfl
    pl:=by kernel_rfl
    nms:=by kernel_rfl
    cks:=by kernel_rfl
    gls:=by kernel_rfl
    bns:=by kernel_rfl
    nt:=⟨by kernel_rfl,by kernel_rfl,by kernel_rfl,by kernel_rfl,by kernel_rfl,by kernel_rfl,by kernel_rfl⟩
    mas:=by kernel_rfl
    pr:=⟨by kernel_rfl,by kernel_rfl,by kernel_rfl,by kernel_rfl,by kernel_rfl,⟨[.none,.none,.none,.str "level" 936,.bool false],by kernel_rfl⟩⟩
    ex:={
      obj:=⟨"PsError", "PsError",51,[.ref 39],[.ref 39,.type "Exception",.type "BaseException",.type "object"],true,[],[],false,none,none,some (.ref 43),none,some (.str "PsError" 227),some (.str "PsError" 235),some (.bool true),by kernel_rfl,by kernel_rfl,by kernel_rfl,by kernel_rfl,by kernel_rfl⟩
      init:=by kernel_rfl
      ityp:=by kernel_rfl
      seta:=by kernel_rfl
      geta:=by kernel_rfl
      gtr:=by kernel_rfl
      cd:=⟨{ name := "PsError",bases:=[.ref 39],mro:=[.ref 52,.ref 39,.type "Exception",.type "BaseException",.type "object"],ns:=51,qualname := "PsError" },by kernel_rfl,fun _=>by kernel_rfl,by kernel_rfl,by kernel_rfl,by kernel_rfl⟩
      taker:=by kernel_rfl
      told:=by kernel_rfl
      keep:=by kernel_rfl
      dct:=by kernel_rfl
      base:=by kernel_rfl }
    fns:=by kernel_rfl
    fbs:=by kernel_rfl
    dvs:=by kernel_rfl }
end Lw
end SH1
section SH2
set_option maxHeartbeats 8000000
namespace Lw
open PySem PySem.Calls PyProof.Rows PySem.W
theorem xV (w:World) (s:Shared):segRun treeTable pp w 11 (some (.ref 6)) 1 1 s (blockOf (behindTheImports pp) zx og p0 [topFrame p0])=some (.next,s,og,p0):=by kernel_rfl
theorem Bs (w:World) (s:Shared) (q:Pos):topRun treeTable pp w 11 (some (.ref 6)) 2 s ⟨doneF .next,og,q,[topFrame p0]⟩=some s:=by kernel_rfl
theorem xW {s:SharedT} {a:Addr} {o:Obj} (h:zy s a=some o):s.abs.heap.get? a=some o:=by
  unfold zy at h
  cases e:Nat.blt a s.n with
  | false=>rw [e] at h; cases h
  | true =>
    rw [e] at h
    obtain ⟨o',h1,h2⟩:=ob h
    exact (abs_get (Nat.le_of_ble_eq_true e) h1).trans h2
theorem Co (s:SharedT):(Kt s).In s.abs.heap:=fun a o e=>by
  unfold Kt at e
  generalize asL=l at e
  induction l with
  | nil=>cases e
  | cons b l ih =>
    rw [List.filterMap_cons] at e
    cases q:zy s b with
    | none=>rw [q] at e; exact ih e
    | some o' =>
      rw [q] at e
      have e:List.lookup a ((b,o')::_)=some o:=e
      rw [List.lookup_cons] at e
      cases z:a==b with
      | true =>
        rw [z] at e
        cases e
        rw [eq_of_beq z]
        exact xW q
      | false=>rw [z] at e; exact ih e
noncomputable def SaysK (h:Heap):Prop:=∃ K:Frag,K.In h∧Facts K
theorem Bt {p:Program} {w:World} {n₀:Nat} {ann:Option Value} {env:Env} {b:List Stmt} {c:Code} {n:Nat} {s0 sa:Shared} {s s':SharedT} {q:Pos} {t:Thread} (h1:topGo treeTable p w n₀ ann 12 s0 t=some (sa,⟨denote treeTable (.body b env),c,p0,[topFrame p0]⟩)) (h2:s.abs=sa)
    (hb:∀ s,segRun treeTable p w n₀ ann 1 1 s (blockOf b env c p0 [topFrame p0])=some (.next,s,c,p0)) (h3:segRunT treeTable p w n₀ ann 1 n s (piecesOf b env c p0 [topFrame p0])=some (.next,s',c,q))
    (hf:∀ s,topRun treeTable p w n₀ ann 2 s ⟨doneF .next,c,q,[topFrame p0]⟩=some s):topRun treeTable p w n₀ ann (12+(1+(n+2))) s0 t=some s'.abs:=by
  have r2:=segRun_of h3
  have r3:=piece_app (rest:=[]) r2 (piece_nil (hf s'.abs))
  rw [List.append_nil,h2] at r3
  exact go_top h1 (piece_block (hb sa) r3)
theorem zz {p:Program} {w:World} {n₀:Nat} {ann:Option Value} {N:Nat} {s0 s1:Shared} (z1:(s0.heap.isNs mainGlobals&&s0.gens.size==0)=true) (z2:s0.heap.objs.size=n₀) (z3:s0.heap.nsMap mainGlobals "__annotations__" = ann)
    (r:topRun treeTable p w n₀ ann N s0 (topStub p)=some s1) (hl:(staticsOk (importedModules p.main.body) s0.heap s1.heap&&namesBound p s1.heap&&gensDone s1&&laidKept s0.heap s1.heap)=true):topFrom treeTable p w N s0=some s1:=by
  unfold topFrom
  rw [z1,z2,z3]
  show (topRun treeTable p w n₀ ann N s0 (topStub p)).bind _=_
  rw [r]
  show (match staticsOk (importedModules p.main.body) s0.heap s1.heap&&namesBound p s1.heap&&gensDone s1&&laidKept s0.heap s1.heap with | true=>some s1 | false=>none)=_
  rw [hl]
theorem zA {p q:Program} {topLo:List Str} {Xt:Shared→Bool} {Y:Shared→Prop} {N:Nat} (hb:∀ w:World,(fencedOpening treeTable p w N).map (fun s=>(s.heap,s.gens,s.drawn,s.toks))=some (boot_heap w.params,Array.mk [],boot_drawn,boot_toks))
    (h:∀ (w:World) (os:OsState),∃ s1,topFrom treeTable p w N (S0 w os)=some s1∧openSeen q topLo (importedModules p.main.body) Xt true s1=openGood q topLo∧Y s1):LeftO p q topLo Xt Y (fun _=>True) N:=fun w=>by
  obtain ⟨⟨h0,g,d,k,os⟩,hs,hv⟩:=Option.map_eq_some_iff.mp (hb w)
  have h1:h0=boot_heap w.params:=(Prod.mk.inj hv).1
  have h2:g=Array.mk []:=(Prod.mk.inj (Prod.mk.inj hv).2).1
  have h3:=(Prod.mk.inj (Prod.mk.inj (Prod.mk.inj hv).2).2)
  have h4:d=boot_drawn:=h3.1
  have h5:k=boot_toks:=h3.2
  subst h1 h2 h4 h5
  obtain ⟨s1,t,e,y⟩:=h w os
  unfold openEnds
  rw [hs]
  show (topFrom treeTable p w N (S0 w os)).map _=_
  rw [t]
  exact congrArg some (Prod.ext e (eq_true y))
theorem zB (w:World) (os:OsState):((S0 w os).heap.isNs mainGlobals&&(S0 w os).gens.size==0)=true:=by kernel_rfl
theorem zC (w:World) (os:OsState):(S0 w os).heap.objs.size=11:=by kernel_rfl
theorem zD (w:World) (os:OsState):(S0 w os).heap.nsMap mainGlobals "__annotations__" = some (.ref 6):=by kernel_rfl
theorem Bu {w:World} {os:OsState} (B:Big w os):topGo treeTable pp w 11 (some (.ref 6)) 12 (S0 w os) (topStub pp)=some (Sa w os,⟨denote treeTable og,og,p0,[topFrame p0]⟩):=by
  have h:=B.pre
  unfold Br at h
  rw [PySem.W.Fast.te15667345088766844465,PySem.W.Fast.te11892475500146522536]
  exact h
theorem Bv {w:World} {os:OsState} {f:Flow} {s:SharedT} {c:Code} {q:Pos} (h:wG w os=some (f,s,c,q)):segRunT treeTable pp w 11 (some (.ref 6)) 1 6100 (toT (Sa w os)) (piecesOf (behindTheImports pp) zx og p0 [topFrame p0])=some (f,s,c,q):=by
  unfold wG at h
  rw [PySem.W.Fast.te10110043849684766642,PySem.W.Fast.te14364793385576792824]
  exact h
theorem zE {s:Shared} (h:PySem.W.Fast.tw4187177175401517315 qq topLo (importedModules pp.main.body) Xt true s=openGood qq topLo):openSeen qq topLo (importedModules pp.main.body) Xt true s=openGood qq topLo:=by
  rw [PySem.W.Fast.te4187177175401517315]
  exact h
theorem Cp:opening pp=plainProg pp.main.scope.names:=by kernel_rfl
theorem Cq (s:Shared):fenceModules? pp s=some s:=by kernel_rfl
theorem zF {w:World} {os:OsState} {s:Shared} (h:vH w.params s=true):(staticsOk (importedModules pp.main.body) (S0 w os).heap s.heap&&namesBound pp s.heap&&gensDone s&&laidKept (S0 w os).heap s.heap)=true:=by
  unfold vH at h
  exact h
theorem Bw {d:SharedT} {r:Option (Flow×SharedT×Code×Pos)} {f:Flow} {s:SharedT} {c:Code} {q:Pos} (hr:r=some (f,s,c,q)):AJ d r=s:=by rw [hr]; rfl
theorem Bx {w:World} {os:OsState} (B:Big w os):∃ s q,wG w os=some (.next,s,og,q):=by
  obtain ⟨⟨f,s',c,q⟩,hr,e⟩:=Option.map_eq_some_iff.mp B.ends
  have e1:f=.next:=(Prod.mk.inj e).1
  have e2:c=og:=(Prod.mk.inj e).2
  subst e1 e2
  exact ⟨s',q,hr⟩
theorem By {w:World} {os:OsState} (B:Big w os) {s':SharedT} {q:Pos} (hr:wG w os=some (.next,s',og,q)) (hl:vH w.params s'.abs=true):topFrom treeTable pp w (12+(1+(6100+2))) (S0 w os)=some s'.abs :=
  zz (zB w os) (zC w os) (zD w os) (Bt (Bu B) B.abs (xV w) (Bv hr) (fun s=>Bs w s q)) (zF hl)
theorem zG:LeftO pp qq topLo Xt (fun s=>SaysK s.heap) (fun _=>True) (12+(1+(6100+2))) :=
  zA (boot_open (p:=pp) (N:=12+(1+(6100+2))) Cp rfl Cq) fun w os=>by
    have B:=big w os
    obtain ⟨s',q,hr⟩:=Bx B
    have hf:fin w os=s':=Bw hr
    have hl:=B.look
    have hn:=B.seen
    have hF:=B.facts
    rw [hf] at hl hn hF
    exact ⟨s'.abs,By B hr hl,zE hn,_,Co s',hF⟩
end Lw
end SH2
section SH3
set_option maxHeartbeats 8000000
namespace Lw
open PySem PySem.Calls PyProof.Rows PySem.W
theorem Eh:PySem.Challenge.rw_pq0917_01.wellSaid=true:=(congrFun PySem.W.Fast.te9446332074065402090 _).trans (by kernel_rfl)
theorem SaysK.keeps {h h':Heap} (x:SaysK h) (k:∀ b o,h.get? b=some o→h'.get? b=some o):SaysK h':=let ⟨K,X,F⟩:=x; ⟨K,X.keeps k,F⟩
theorem Cr (d:DefRec) (e:defOf qq PySem.Challenge.rw_pq0917_01.row.name=some (d,[])) (hp:PySem.Challenge.rw_pq0917_01.row.prog.theDef PySem.Challenge.rw_pq0917_01.row.name=some (d.params,d.body,d.scope)) (hk:kwWritten? d.params.kwonlyargs d.params.kw_defaults=some [])
    (hc:WalkO qq topLo (XL qq lv) (fun _ h=>SaysK h) PySem.Challenge.rw_pq0917_01.row.toRowW d [] fun f vs=>PySem.call f vs):PySem.Challenge.rw_pq0917_01.Holds:=by
  refine holds_law Eh fun sd=>?_
  refine holds_open (q:=qq) (loose:=topLo) (Xt:=Xt) (XP:=XL qq lv) (Yf:=fun s=>SaysK s.heap) (Ya:=fun _=>True) (YP:=fun _ h=>SaysK h) zG (fun w s e=>of_eq_true e) (fun w h h' x k=>x.keeps k) (fun s e=>xl_of s (Bool.and_eq_true_iff.mp e).1) XL.keeps e hp hk (fun s e=>recFacts_of (Bool.and_eq_true_iff.mp e).2) (by rfl) sd (by decide +kernel) ⟨rfl,rfl,rfl,rfl,rfl,by decide +kernel⟩ ?hw hc
  w_witness2
end Lw
end SH3
section SFA
set_option maxHeartbeats 4000000
namespace Lw
open PySem PySem.Calls PyProof.Rows PySem.W
theorem row {α β:Type} {l:List α} {f g:α→β} (h:l.map f=l.map g) (k:Nat) {x:α} (e:l[k]?=some x):f x=g x:=by
  have h1:(l.map f)[k]?=(l.map g)[k]?:=by rw [h]
  rw [List.getElem?_map,List.getElem?_map,e] at h1
  exact Option.some.inj h1
section
variable {K:Frag} (H:Facts K) (k:Nat)
include H
theorem fnH {a i j:Nat} {q:Str} {d cd:Nat} (e:fnT[k]?=some (fr a i j q d cd)):FnAt K a q (dP (dS i j)) (dB (dS i j)) (dC (dS i j)) (dvV d) (.ref cd) :=
  have r:=row H.fbs k e
  ⟨⟨_,_,_,_,_,_,_,_,_,row H.fns k e⟩,(Prod.mk.inj r).1,(Prod.mk.inj (Prod.mk.inj r).2).1,(Prod.mk.inj (Prod.mk.inj r).2).2⟩
theorem dvH {a:Nat} {o:Obj} (e:dvT[k]?=some (a,o)):K.lookup a=some o:=row H.dvs k e
theorem nmH {x:Str} {a:Nat} (e:nmT[k]?=some (nr x a)):Named K x (.ref a):=have r:=Prod.mk.inj (row H.nms k e); ⟨r.1,r.2⟩
theorem ckH {a i:Nat} (e:ckT[k]?=some (a,i)):ClsK K a i:=have r:=Prod.mk.inj (row H.cks k e); have s:=Prod.mk.inj r.2; ⟨r.1,s.1,s.2⟩
theorem bnH {x:Str} {v:Value} (e:bnT[k]?=some x) (hv:bootBuiltins x=some v) (hn:x ≠ "__name__"):BN K x v:=⟨row H.bns k e,hv,hn⟩
theorem maH {a f:Nat} {x:Str} (e:maT[k]?=some (a,x,f)):MA K a x f:=have r:=Prod.mk.inj (row H.mas k e); have s:=Prod.mk.inj r.2; have t:=Prod.mk.inj s.2; ⟨r.1,s.1,t.1,t.2⟩
end
theorem AK {K:Frag} {C:Addr} {x:Str} (h:paB K C x=true) (h':paC K C=true):PA K C x:=by
  unfold paB at h
  unfold paC at h'
  rw [Bool.and_eq_true,Bool.and_eq_true] at h h'
  refine ⟨h.1.1,h'.1.1,?_,?_,h'.2,?_⟩
  · have h2:=h.1.2
    unfold xU at h2
    split at h2
    · rename_i a e; exact ⟨a,e,h2⟩
    · cases h2
  · have k2:=h'.1.2
    unfold Cm at k2
    split at k2
    · rename_i i e; rw [beq_iff_eq] at k2; subst k2; exact e
    · cases k2
  · have h3:=h.2
    unfold Cn at h3
    split at h3
    · rename_i e; exact e
    · cases h3
section
variable {c:Cx} (hK:Facts c.K)
include hK
theorem pa9 {k:Nat} (hk:k<69) (h8:k≠8):∀ C∈cs9,PA c.K C (nm k):=fun C hC=>by
  have h:=Bool.and_eq_true_iff.mp (List.all_eq_true.mp hK.pa C hC)
  have:=List.all_eq_true.mp h.2 k (List.mem_range.mpr hk)
  rw [Bool.or_eq_true,beq_iff_eq] at this
  exact AK (this.resolve_left h8) h.1
theorem paL:∀ C∈csL,PA c.K C (nm 8):=fun C hC =>
  AK (List.all_eq_true.mp hK.pl C hC) (Bool.and_eq_true_iff.mp (List.all_eq_true.mp hK.pa C (by revert hC; revert C; decide))).1
theorem pQ:∀ C∈([84]:Cls),NT c.K C:=fun C h=>by
  rw [List.mem_singleton] at h; subst h; exact hK.nt
theorem uI:Named c.K "integer" (.ref 172):=nmH hK 0 rfl
theorem zH:Named c.K "null" (.ref 179):=nmH hK 1 rfl
theorem wH:Named c.K "of_row" (.ref 187):=nmH hK 2 rfl
theorem uJ:Named c.K "of_dict" (.ref 194):=nmH hK 3 rfl
theorem r9:Named c.K "of_gstate" (.ref 201):=nmH hK 4 rfl
theorem pR:Named c.K "is_in_array" (.ref 208):=nmH hK 5 rfl
theorem pS:Named c.K "body_of" (.ref 215):=nmH hK 6 rfl
theorem gG:Named c.K "is_local" (.ref 222):=nmH hK 7 rfl
theorem oh:Named c.K "gstate_things" (.ref 449):=nmH hK 8 rfl
theorem fP:Named c.K "gstate_check_global" (.ref 454):=nmH hK 9 rfl
theorem pU:Named c.K "gstate_fill" (.ref 461):=nmH hK 10 rfl
theorem dD:Named c.K "memory_check_many" (.ref 790):=nmH hK 11 rfl
theorem mQ:Named c.K "memory_put_back" (.ref 797):=nmH hK 12 rfl
theorem dE:Named c.K "_law_next" (.ref 804):=nmH hK 13 rfl
theorem sb:Named c.K "_law_world" (.ref 811):=nmH hK 14 rfl
theorem pV:Named c.K "_law_due" (.ref 818):=nmH hK 15 rfl
theorem pW:Named c.K "_law_has" (.ref 825):=nmH hK 16 rfl
theorem qJ:Named c.K "_law_stands" (.ref 832):=nmH hK 17 rfl
theorem qK:Named c.K "_law_turned" (.ref 839):=nmH hK 18 rfl
theorem mw:Named c.K "_law_filled" (.ref 846):=nmH hK 19 rfl
theorem iY:Named c.K "_law_made_right" (.ref 853):=nmH hK 20 rfl
theorem nF:Named c.K "_law_laid_right" (.ref 860):=nmH hK 21 rfl
theorem nG:Named c.K "_law_held_right" (.ref 867):=nmH hK 22 rfl
theorem mR:Named c.K "_law_saved_right" (.ref 872):=nmH hK 23 rfl
theorem k9:Named c.K "Thing" (.ref 84):=nmH hK 24 rfl
theorem xX:Named c.K "Row" (.ref 105):=nmH hK 25 rfl
theorem tI:Named c.K "DictBody" (.ref 140):=nmH hK 26 rfl
theorem zI:Named c.K "Span" (.ref 161):=nmH hK 27 rfl
theorem vJ:Named c.K "Path" (.ref 352):=nmH hK 28 rfl
theorem oj:Named c.K "GState" (.ref 438):=nmH hK 29 rfl
theorem wI:Named c.K "Limits" (.ref 479):=nmH hK 30 rfl
theorem wJ:Named c.K "VmSave" (.ref 500):=nmH hK 31 rfl
theorem wK:Named c.K "Memory" (.ref 781):=nmH hK 32 rfl
theorem dj:nsIn c.K mainGlobals "PsError" = some (some (.ref 52)):=(nmH hK 33 rfl).e
theorem la:ClsK c.K 84 81:=ckH hK 0 rfl
theorem xY:ClsK c.K 105 102:=ckH hK 1 rfl
theorem tJ:ClsK c.K 140 123:=ckH hK 2 rfl
theorem zJ:ClsK c.K 161 158:=ckH hK 3 rfl
theorem vK:ClsK c.K 352 237:=ckH hK 4 rfl
theorem om:ClsK c.K 438 378:=ckH hK 5 rfl
theorem wL:ClsK c.K 479 476:=ckH hK 6 rfl
theorem wM:ClsK c.K 500 497:=ckH hK 7 rfl
theorem wN:ClsK c.K 781 518:=ckH hK 8 rfl
theorem xZ:∃ t,nsIn c.K mainGlobals "GRAIN" = some (some (.int 1000000 t)):=⟨196,row hK.gls 0 rfl⟩
theorem sf:∃ t,nsIn c.K mainGlobals "UNLIMITED" = some (some (.int 3 t)):=⟨260,row hK.gls 1 rfl⟩
theorem oO:∃ t,nsIn c.K mainGlobals "GSTATE_MITER" = some (some (.int 10000000 t)):=⟨654,row hK.gls 2 rfl⟩
theorem nH:∃ t,nsIn c.K mainGlobals "ITEM_COST" = some (some (.int 8 t)):=⟨798,row hK.gls 3 rfl⟩
theorem qL:∃ t,nsIn c.K mainGlobals "ENTRY_COST" = some (some (.int 16 t)):=⟨800,row hK.gls 4 rfl⟩
theorem eR:BN c.K "len" (.builtin "len"):=bnH hK 0 rfl rfl (by decide)
theorem wO:BN c.K "sorted" (.builtin "sorted"):=bnH hK 1 rfl rfl (by decide)
theorem jg:BN c.K "isinstance" (.builtin "isinstance"):=bnH hK 2 rfl rfl (by decide)
theorem fQ:BN c.K "list" (.type "list"):=bnH hK 3 rfl rfl (by decide)
theorem vM:BN c.K "dict" (.type "dict"):=bnH hK 4 rfl rfl (by decide)
theorem uK:BN c.K "int" (.type "int"):=bnH hK 5 rfl rfl (by decide)
theorem ya:BN c.K "tuple" (.type "tuple"):=bnH hK 6 rfl rfl (by decide)
theorem yb:BN c.K "range" (.type "range"):=bnH hK 7 rfl rfl (by decide)
theorem jP:BN c.K "enumerate" (.type "enumerate"):=bnH hK 8 rfl rfl (by decide)
theorem Bz:BN c.K "zip" (.type "zip"):=bnH hK 9 rfl rfl (by decide)
theorem lb:MA c.K 438 "copy" 386:=maH hK 0 rfl
theorem fR:MA c.K 438 "take" 393:=maH hK 1 rfl
theorem sg:MA c.K 352 "copy" 265:=maH hK 2 rfl
theorem dF:MA c.K 781 "body_level" 533:=maH hK 3 rfl
theorem dQ:MA c.K 781 "take_room" 540:=maH hK 4 rfl
theorem lc:MA c.K 781 "check_room" 547:=maH hK 5 rfl
theorem ed:MA c.K 781 "make_row" 568:=maH hK 6 rfl
theorem lW:MA c.K 781 "make_dict" 575:=maH hK 7 rfl
theorem mS:MA c.K 781 "is_elder" 596:=maH hK 8 rfl
theorem kt:MA c.K 781 "check_holds" 603:=maH hK 9 rfl
theorem mT:MA c.K 781 "put_item" 610:=maH hK 10 rfl
theorem lX:MA c.K 781 "put_items" 617:=maH hK 11 rfl
theorem lf:MA c.K 781 "note_state" 680:=maH hK 12 rfl
theorem pX:MA c.K 781 "save" 700:=maH hK 13 rfl
theorem jv:MA c.K 781 "place_of_save" 707:=maH hK 14 rfl
theorem gH:MA c.K 781 "sure_place" 728:=maH hK 15 rfl
theorem lh:MA c.K 781 "newer_than" 735:=maH hK 16 rfl
theorem nI:MA c.K 781 "restore" 742:=maH hK 17 rfl
theorem jQ:MA c.K 781 "settle_costs" 749:=maH hK 18 rfl
end
theorem gw:(List.range nmN).all (fun k=>!(nm k==("body_level" : Str)))=true:=by kernel_rfl
theorem pY:(List.range nmN).all (fun k=>!(nm k==("check_holds" : Str)))=true:=by kernel_rfl
theorem qM:(List.range nmN).all (fun k=>!(nm k==("check_room" : Str)))=true:=by kernel_rfl
theorem sh:(List.range nmN).all (fun k=>!(nm k==("copy" : Str)))=true:=by kernel_rfl
theorem tK:(List.range nmN).all (fun k=>!(nm k==("is_elder" : Str)))=true:=by kernel_rfl
theorem si:(List.range nmN).all (fun k=>!(nm k==("make_dict" : Str)))=true:=by kernel_rfl
theorem iZ:(List.range nmN).all (fun k=>!(nm k==("make_row" : Str)))=true:=by kernel_rfl
theorem qN:(List.range nmN).all (fun k=>!(nm k==("newer_than" : Str)))=true:=by kernel_rfl
theorem qO:(List.range nmN).all (fun k=>!(nm k==("note_state" : Str)))=true:=by kernel_rfl
theorem on:(List.range nmN).all (fun k=>!(nm k==("place_of_save" : Str)))=true:=by kernel_rfl
theorem tL:(List.range nmN).all (fun k=>!(nm k==("put_item" : Str)))=true:=by kernel_rfl
theorem sj:(List.range nmN).all (fun k=>!(nm k==("put_items" : Str)))=true:=by kernel_rfl
theorem uL:(List.range nmN).all (fun k=>!(nm k==("restore" : Str)))=true:=by kernel_rfl
theorem zK:(List.range nmN).all (fun k=>!(nm k==("save" : Str)))=true:=by kernel_rfl
theorem oP:(List.range nmN).all (fun k=>!(nm k==("settle_costs" : Str)))=true:=by kernel_rfl
theorem my:(List.range nmN).all (fun k=>!(nm k==("sure_place" : Str)))=true:=by kernel_rfl
theorem oW:(List.range nmN).all (fun k=>!(nm k==("take" : Str)))=true:=by kernel_rfl
theorem hZ:(List.range nmN).all (fun k=>!(nm k==("take_room" : Str)))=true:=by kernel_rfl
theorem uM {l:List (Str×Value)} {x:Str} {v:Value} (hn:(l.map (·.1)).Nodup) (h:(x,v)∈l):l.lookup x=some v:=by
  induction l with
  | nil=>cases h
  | cons p l ih =>
    obtain ⟨y,u⟩:=p
    rw [List.map_cons,List.nodup_cons] at hn
    rw [List.lookup_cons]
    rcases List.mem_cons.mp h with e | h
    · cases e
      rw [beq_self_eq_true]
    · have hne:x≠y:=fun q=>hn.1 (q▸List.mem_map_of_mem (f:=(·.1)) h)
      rw [beq_eq_false_iff_ne.mpr hne]
      exact ih hn.2 h
theorem arm {names xs:List Str} {scope:Scope} (hn:names.Nodup) (ht:names.take xs.length=xs) (hs:xs.all (fun x=>scope.names.lookup x==some NameKind.local)=true) {n:Nat} {ρ:Nat→Addr} {as:List AV} {vs:List Value} (rvs:VRels n ρ as vs) (hl:as.length=xs.length) :
    (∀ y∈xs.zip vs,scope.names.lookup y.1=some .local)∧∀ k x a,names[k]?=some x→cY as k=some a→∃ v,(xs.zip vs).reverse.lookup x=some v∧VRel n ρ a v:=by
  have hlv:vs.length=xs.length:=rvs.length.symm.trans hl
  have hxn:xs.Nodup:=by rw [← ht]; exact hn.sublist (List.take_sublist ..)
  constructor
  · intro y hy
    have:=List.all_eq_true.mp hs y.1 (List.of_mem_zip hy).1
    exact eq_of_beq this
  · intro k x a hk ha
    have hka:k<as.length:=by
      have:=List.getElem?_eq_some_iff.mp (show as[k]?=some a from ha)
      exact this.1
    obtain ⟨v,hv,rv⟩:=rvs.get (show as[k]?=some a from ha)
    have hkx:xs[k]?=some x:=by
      rw [← ht,List.getElem?_take,if_pos (by omega)]
      exact hk
    refine ⟨v,uM ?_ ?_,rv⟩
    · rw [List.map_reverse,List.map_fst_zip (by omega)]
      exact List.pairwise_reverse.mpr (hxn.imp Ne.symm)
    · rw [List.mem_reverse]
      have:(xs.zip vs)[k]?=some (x,v):=by
        rw [List.getElem?_zip_eq_some]
        exact ⟨hkx,hv⟩
      exact List.mem_of_getElem? this
theorem zL {ds:List AV} {k:Nat} {as:List AV} {κ:List AV→Option Loc} {l:Loc} (h:bdK ds k as κ=some l):as.length=k∧κ (as++ds)=some l:=by
  induction k generalizing as κ with
  | zero=>cases as with
    | nil=>exact ⟨rfl,h⟩
    | cons _ _=>exact nomatch h
  | succ k ih=>cases as with
    | nil=>exact nomatch h
    | cons a as=>exact ⟨congrArg Nat.succ (ih (κ:=fun l=>κ (a::l)) h).1,(ih (κ:=fun l=>κ (a::l)) h).2⟩
theorem aH {c:Cx} {params:Arguments} {qual:Str} {dV:Value} {scope:Scope} {names xs:List Str} {k:Nat} {ds:List AV} {dvs:List Value} (hn:names.Nodup) (ht:names.take xs.length=xs) (hs:xs.all (fun x=>scope.names.lookup x==some NameKind.local)=true) (hl:xs.length=k+ds.length)
    (hd:∀ n ρ,VRels n ρ ds dvs) (hb:∀ (g:Nat→Value) (s:Shared) name body kV doc pm an cdv ct,c.K.In s.heap→BindsTo s (fnOf name qual params body scope dV kV doc pm an cdv ct) ⟨(List.range k).map g,[]⟩ (xs.zip ((List.range k).map g++dvs))):tg c params qual dV scope names (bdA k ds):=fun as loc e n ρ vs rvs=>by
    obtain ⟨q,e⟩:=zL e
    cases e
    have ev:vs=(List.range k).map fun i=>vs.getD i .none:=List.ext_getElem (by rw [List.length_map,List.length_range,← q,rvs.length]) fun i h1 h2=>by rw [List.getElem_map,List.getElem_range,List.getD_eq_getElem?_getD,List.getElem?_eq_getElem h1]; rfl
    rw [ev] at rvs ⊢
    exact ⟨_,fun s name body kV doc pm an cdv ct X=>hb _ s name body kV doc pm an cdv ct X,arm hn ht hs (rvs.append (hd n ρ)) (by rw [List.length_append,q,hl])⟩
theorem pZ {c:Cx} {params:Arguments} {qual:Str} {dV:Value} {scope:Scope} {names:List Str} {f g:List AV→Option Loc} (hf:tg c params qual dV scope names f) (hg:tg c params qual dV scope names g):tg c params qual dV scope names (bdO f g):=fun as loc e=>by
  unfold bdO at e
  cases q:f as with
  | some l=>rw [q] at e; cases e; exact hf as _ q
  | none=>rw [q] at e; exact hg as _ e
theorem aQ {l:List (Str×NameKind)} (h:l.all (fun x=>decide (x.2≠.cell))=true):∀ x∈l,x.2≠.cell:=fun x hx=>of_decide_eq_true (List.all_eq_true.mp h x hx)
theorem so {l:List (Str×NameKind)} (h:l.all (fun x=>decide (x.2≠.free))=true):∀ x∈l,x.2≠.free:=fun x hx=>of_decide_eq_true (List.all_eq_true.mp h x hx)
theorem p7 {l:List (Str×NameKind)} (h:l.all (fun x=>decide (x.2=.local→l.lookup x.1=some .local))=true):∀ x∈l,x.2=.local→l.lookup x.1=some .local:=fun x hx=>of_decide_eq_true (List.all_eq_true.mp h x hx)
theorem ax {a b p} {rest:List Expr} {env:Env}:starEach (.Constant a b p::rest) env=(false,eval (.Constant a b p) env)::starEach rest env:=rfl
theorem aD {a p} {rest:List Expr} {env:Env}:starEach (.Name a p::rest) env=(false,eval (.Name a p) env)::starEach rest env:=rfl
theorem aJ {a b p} {rest:List Expr} {env:Env}:starEach (.Attribute a b p::rest) env=(false,eval (.Attribute a b p) env)::starEach rest env:=rfl
theorem az {a b p} {rest:List Expr} {env:Env}:starEach (.Subscript a b p::rest) env=(false,eval (.Subscript a b p) env)::starEach rest env:=rfl
theorem lm {a b d p} {rest:List Expr} {env:Env}:starEach (.BinOp a b d p::rest) env=(false,eval (.BinOp a b d p) env)::starEach rest env:=rfl
theorem mU {a b d p} {rest:List Expr} {env:Env}:starEach (.Compare a b d p::rest) env=(false,eval (.Compare a b d p) env)::starEach rest env:=rfl
theorem Cg {a b p} {rest:List Expr} {env:Env}:starEach (.BoolOp a b p::rest) env=(false,eval (.BoolOp a b p) env)::starEach rest env:=rfl
theorem BA {a b p} {rest:List Expr} {env:Env}:starEach (.UnaryOp a b p::rest) env=(false,eval (.UnaryOp a b p) env)::starEach rest env:=rfl
theorem Cs {a b d p} {rest:List Expr} {env:Env}:starEach (.IfExp a b d p::rest) env=(false,eval (.IfExp a b d p) env)::starEach rest env:=rfl
theorem i0 {a p} {rest:List Expr} {env:Env}:starEach (.List a p::rest) env=(false,eval (.List a p) env)::starEach rest env:=rfl
theorem lp {a b p} {rest:List Expr} {env:Env}:starEach (.Tuple a b p::rest) env=(false,eval (.Tuple a b p) env)::starEach rest env:=rfl
theorem oX {a b p} {rest:List Expr} {env:Env}:starEach (.Dict a b p::rest) env=(false,eval (.Dict a b p) env)::starEach rest env:=rfl
theorem tM {a b d p} {rest:List Expr} {env:Env}:starEach (.ListComp a b d p::rest) env=(false,eval (.ListComp a b d p) env)::starEach rest env:=rfl
theorem bE {a b d p} {rest:List Expr} {env:Env}:starEach (.Call a b d p::rest) env=(false,eval (.Call a b d p) env)::starEach rest env:=rfl
section
variable {c:Cx} {fd:Fd}
theorem aN (hK:Facts c.K) (G:Good c fd) {k:Nat} {x:Str} (hk:k<69) (h8:k≠8) (ex:x=nm k) {f:M AV} {e:Expr} {pos:Pos} (h:SE c fd VRel f (eval e fd.env))
    (he:eval (.Attribute e x pos) fd.env=(do
      let o ← eval e fd.env
      standAt pos.atName
      let r ← holding [o] (getAttr o x true)
      letTemporaryGo e o r
      pure r)):SE c fd VRel (aw cs9 k f) (eval (.Attribute e x pos) fd.env) :=
  vw G (by rw [ex]; exact pa9 hK hk h8) hk ex h he
theorem yc (hK:Facts c.K) (G:Good c fd) {x:Str} (ex:x=nm 8) {f:M AV} {e:Expr} {pos:Pos} (h:SE c fd VRel f (eval e fd.env))
    (he:eval (.Attribute e x pos) fd.env=(do
      let o ← eval e fd.env
      standAt pos.atName
      let r ← holding [o] (getAttr o x true)
      letTemporaryGo e o r
      pure r)):SE c fd VRel (aw csL 8 f) (eval (.Attribute e x pos) fd.env) :=
  vw G (by rw [ex]; exact paL hK) (by decide) ex h he
theorem aV (hK:Facts c.K) (G:Good c fd) {k:Nat} {x:Str} (hk:k<69) (h8:k≠8) (ex:x=nm k) {fo fv:M AV} {o value:Expr} {pos' pos:Pos} (ho:SE c fd VRel fo (eval o fd.env)) (hv:SE c fd VRel fv (eval value fd.env))
    (hs:swapsWith value (some (.Attribute o x pos')) pos.line fd.env=pure false):SE c fd dz (bg cs9 k fo fv) (exec (.Assign [.Attribute o x pos'] value pos) fd.env) :=
  xv G (by rw [ex]; exact pa9 hK hk h8) hk ex ho hv hs
theorem yd (hK:Facts c.K) (G:Good c fd) {x:Str} (ex:x=nm 8) {fo fv:M AV} {o value:Expr} {pos' pos:Pos} (ho:SE c fd VRel fo (eval o fd.env)) (hv:SE c fd VRel fv (eval value fd.env))
    (hs:swapsWith value (some (.Attribute o x pos')) pos.line fd.env=pure false):SE c fd dz (bg csL 8 fo fv) (exec (.Assign [.Attribute o x pos'] value pos) fd.env) :=
  xv G (by rw [ex]; exact paL hK) (by decide) ex ho hv hs
theorem AL (hK:Facts c.K) (G:Good c fd) {k:Nat} {x:Str} (hk:k<69) (h8:k≠8) (ex:x=nm k) {fo:M AV} {o:Expr} {pos:Pos} (ho:SE c fd VRel fo (eval o fd.env)):S1 c fd (atG cs9 k fo) (assign (.Attribute o x pos) fd.env) :=
  zv G (by rw [ex]; exact pa9 hK hk h8) hk ex ho
noncomputable def zM (fd:Fd):Bool:=fd.names.all fun x=>fd.env.kindOf x==some NameKind.local&&!(x==("__debug__" : Str))
theorem lok (_:Good c fd) (h:zM fd=true):zM fd=true:=h
theorem KLx (h:zM fd=true) {k:Nat} {x:Str} (hx:fd.names[k]?=some x):fd.env.kindOf x=some .local:=eq_of_beq (Bool.and_eq_true_iff.mp (List.all_eq_true.mp h x (List.mem_of_getElem? hx))).1
theorem Vx (G:Good c fd) (h:zM fd=true) {k:Nat} {x:Str} {pos:Pos} (hx:fd.names[k]?=some x):SE c fd VRel (ac k) (eval (.Name x pos) fd.env):=ij G hx (KLx h hx) (by
  have:=(Bool.and_eq_true_iff.mp (List.all_eq_true.mp h x (List.mem_of_getElem? hx))).2
  rw [Bool.not_eq_true'] at this; exact this)
end
end Lw
end SFA
section SF3
set_option maxHeartbeats 4000000
namespace Lw
open PySem PySem.Calls PyProof.Rows PySem.W
theorem p8 {c:Cx} (ok:c.Ok) (hK:Facts c.K):SFn c 1 (.ref 476) ip:=by
  have hf:FnAt c.K 476 "Limits.__init__" (dP (dS 36 0)) (dB (dS 36 0)) (dC (dS 36 0)) (.ref 469) (.ref 475):=fnH hK 31 rfl
  have hnd:(["self", "operands", "dicts", "frames", "saves", "gstates", "text", "row", "entries", "word", "path", "dash", "files", "system", "vm"]:List Str).Nodup:=by decide
  unfold ip mj
  refine bp (b:=0) ok hf (names:=["self", "operands", "dicts", "frames", "saves", "gstates", "text", "row", "entries", "word", "path", "dash", "files", "system", "vm"]) (aH (xs:=["self", "operands", "dicts", "frames", "saves", "gstates", "text", "row", "entries", "word", "path", "dash", "files", "system", "vm"]) (k:=1) (ds:=[.int 500,.int 20,.int 250,.int 15,.int 31,.int 65535,.int 65535,.int 65535,.int 127,.int 1500,.int 11,.int 15,.int 600,.int 16777216]) (dvs:=[.int 500 818,.int 20 819,.int 250 820,.int 15 821,.int 31 822,.int 65535 823,.int 65535 824,.int 65535 825,.int 127 826,.int 1500 827,.int 11 828,.int 15 829,.int 600 830,.int 16777216 804]) hnd rfl (by kernel_rfl) rfl (fun _ _=>.cons ⟨_,rfl⟩ (.cons ⟨_,rfl⟩ (.cons ⟨_,rfl⟩ (.cons ⟨_,rfl⟩ (.cons ⟨_,rfl⟩ (.cons ⟨_,rfl⟩ (.cons ⟨_,rfl⟩ (.cons ⟨_,rfl⟩ (.cons ⟨_,rfl⟩ (.cons ⟨_,rfl⟩ (.cons ⟨_,rfl⟩ (.cons ⟨_,rfl⟩ (.cons ⟨_,rfl⟩ (.cons ⟨_,rfl⟩ (.nil))))))))))))))) (fun _ _ _ _ _ _ _ _ _ _ X=>binds_K X rfl (dvH hK 6 rfl) rfl rfl (by kernel_rfl))) (by kernel_rfl) (by kernel_rfl) (by kernel_rfl) (aQ (by kernel_rfl)) (fun A₀ L outer G=>?_)
  have hl:=lok G (by kernel_rfl)
  have V {k:Nat} {x:Str} {pos:Pos}:=Vx (k:=k) (x:=x) (pos:=pos) G hl
  exact ai (aV hK G (k:=31) (by decide) (by decide) rfl ((V rfl)) ((V rfl)) (by kernel_rfl))
      (ai (aV hK G (k:=32) (by decide) (by decide) rfl ((V rfl)) ((V rfl)) (by kernel_rfl))
      (ai (aV hK G (k:=33) (by decide) (by decide) rfl ((V rfl)) ((V rfl)) (by kernel_rfl))
      (ai (aV hK G (k:=34) (by decide) (by decide) rfl ((V rfl)) ((V rfl)) (by kernel_rfl))
      (ai (aV hK G (k:=35) (by decide) (by decide) rfl ((V rfl)) ((V rfl)) (by kernel_rfl))
      (ai (aV hK G (k:=36) (by decide) (by decide) rfl ((V rfl)) ((V rfl)) (by kernel_rfl))
      (ai (aV hK G (k:=37) (by decide) (by decide) rfl ((V rfl)) ((V rfl)) (by kernel_rfl))
      (ai (aV hK G (k:=10) (by decide) (by decide) rfl ((V rfl)) ((V rfl)) (by kernel_rfl))
      (ai (aV hK G (k:=39) (by decide) (by decide) rfl ((V rfl)) ((V rfl)) (by kernel_rfl))
      (ai (aV hK G (k:=18) (by decide) (by decide) rfl ((V rfl)) ((V rfl)) (by kernel_rfl))
      (ai (aV hK G (k:=25) (by decide) (by decide) rfl ((V rfl)) ((V rfl)) (by kernel_rfl))
      (ai (aV hK G (k:=38) (by decide) (by decide) rfl ((V rfl)) ((V rfl)) (by kernel_rfl))
      (ai (aV hK G (k:=40) (by decide) (by decide) rfl ((V rfl)) ((V rfl)) (by kernel_rfl))
      (ar (aV hK G (k:=41) (by decide) (by decide) rfl ((V rfl)) ((V rfl)) (by kernel_rfl)))))))))))))))
theorem p9 {c:Cx} (ok:c.Ok) (hK:Facts c.K):SFn c 1 (.ref 518) iq:=by
  have hf:FnAt c.K 518 "BodyMaker.__init__" (dP (dS 38 0)) (dB (dS 38 0)) (dC (dS 38 0)) .none (.ref 517):=fnH hK 33 rfl
  have hnd:(["self", "limits"]:List Str).Nodup:=by decide
  unfold iq mm
  refine bp (b:=0) ok hf (names:=["self", "limits"]) (aH (xs:=["self", "limits"]) (k:=2) (ds:=[]) (dvs:=[]) hnd rfl (by kernel_rfl) rfl (fun _ _=>.nil) (fun _ _ _ _ _ _ _ _ _ _ X=>BindsTo.of_eq (by kernel_rfl))) (by kernel_rfl) (by kernel_rfl) (by kernel_rfl) (aQ (by kernel_rfl)) (fun A₀ L outer G=>?_)
  have hl:=lok G (by kernel_rfl)
  have V {k:Nat} {x:Str} {pos:Pos}:=Vx (k:=k) (x:=x) (pos:=pos) G hl
  exact ai (aV hK G (k:=44) (by decide) (by decide) rfl ((V rfl)) ((V rfl)) (by kernel_rfl))
      (ai (aV hK G (k:=7) (by decide) (by decide) rfl ((V rfl)) cZ (by kernel_rfl))
      (ai (aV hK G (k:=34) (by decide) (by decide) rfl ((V rfl)) (cm aj) (by kernel_rfl))
      (ai (aV hK G (k:=45) (by decide) (by decide) rfl ((V rfl)) (cm aj) (by kernel_rfl))
      (ai (aV hK G (k:=46) (by decide) (by decide) rfl ((V rfl)) (no (k:=2)) (by kernel_rfl))
      (ai (aV hK G (k:=47) (by decide) (by decide) rfl ((V rfl)) (cm aj) (by kernel_rfl))
      (ai (aV hK G (k:=42) (by decide) (by decide) rfl ((V rfl)) aI (by kernel_rfl))
      (ai (aV hK G (k:=48) (by decide) (by decide) rfl ((V rfl)) aI (by kernel_rfl))
      (ai (aV hK G (k:=49) (by decide) (by decide) rfl ((V rfl)) aI (by kernel_rfl))
      (ar (aV hK G (k:=50) (by decide) (by decide) rfl ((V rfl)) aI (by kernel_rfl)))))))))))
theorem dG {c:Cx} (ok:c.Ok) (hK:Facts c.K):SFn c 3 (.ref 790) cB:=by
  have hf:FnAt c.K 790 "memory_check_many" (dP (dS 41 0)) (dB (dS 41 0)) (dC (dS 41 0)) .none (.ref 789):=fnH hK 12 rfl
  have hfi:FnAt c.K 36 "PostError.__init__" (dP (dS 3 0)) (dB (dS 3 0)) (dC (dS 3 0)) (.ref 29) (.ref 35):=fnH hK 0 rfl
  have hnd:(["many", "most"]:List Str).Nodup:=by decide
  unfold cB gX
  refine bp (b:=2) ok hf (names:=["many", "most"]) (aH (xs:=["many", "most"]) (k:=2) (ds:=[]) (dvs:=[]) hnd rfl (by kernel_rfl) rfl (fun _ _=>.nil) (fun _ _ _ _ _ _ _ _ _ _ X=>BindsTo.of_eq (by kernel_rfl))) (by kernel_rfl) (by kernel_rfl) (by kernel_rfl) (aQ (by kernel_rfl)) (fun A₀ L outer G=>?_)
  have hl:=lok G (by kernel_rfl)
  have V {k:Nat} {x:Str} {pos:Pos}:=Vx (k:=k) (x:=x) (pos:=pos) G hl
  exact ai (bY (bN G ((V rfl)) aI rfl) (ar (fJ G rfl (Nat.le_of_ble_eq_true rfl) hK.ex (dj hK) hfi (fun _ _ _ _ _ _ _ _ _ _ _ X=>binds_K X rfl (dvH hK 0 rfl) rfl rfl rfl) rfl rfl rfl (aQ (by kernel_rfl)) (by kernel_rfl) (by kernel_rfl) (by kernel_rfl) (by decide) (k:=4) (by decide) rfl rfl rfl)) cj)
      (ar (bY (bN G ((V rfl)) ((V rfl)) rfl) (ar (fJ G rfl (Nat.le_of_ble_eq_true rfl) hK.ex (dj hK) hfi (fun _ _ _ _ _ _ _ _ _ _ _ X=>binds_K X rfl (dvH hK 0 rfl) rfl rfl rfl) rfl rfl rfl (aQ (by kernel_rfl)) (by kernel_rfl) (by kernel_rfl) (by kernel_rfl) (by decide) (k:=5) (by decide) rfl rfl rfl)) cj))
theorem lq {c:Cx} (ok:c.Ok) (hK:Facts c.K):SFn c 3 (.ref 547) eK:=by
  have hf:FnAt c.K 547 "BodyMaker.check_room" (dP (dS 38 4)) (dB (dS 38 4)) (dC (dS 38 4)) .none (.ref 546):=fnH hK 40 rfl
  have hfi:FnAt c.K 36 "PostError.__init__" (dP (dS 3 0)) (dB (dS 3 0)) (dC (dS 3 0)) (.ref 29) (.ref 35):=fnH hK 0 rfl
  have hnd:(["self", "cost"]:List Str).Nodup:=by decide
  unfold eK gY
  refine bp (b:=2) ok hf (names:=["self", "cost"]) (aH (xs:=["self", "cost"]) (k:=2) (ds:=[]) (dvs:=[]) hnd rfl (by kernel_rfl) rfl (fun _ _=>.nil) (fun _ _ _ _ _ _ _ _ _ _ X=>BindsTo.of_eq (by kernel_rfl))) (by kernel_rfl) (by kernel_rfl) (by kernel_rfl) (aQ (by kernel_rfl)) (fun A₀ L outer G=>?_)
  have hl:=lok G (by kernel_rfl)
  have V {k:Nat} {x:Str} {pos:Pos}:=Vx (k:=k) (x:=x) (pos:=pos) G hl
  exact ar (bY (bN G (dt (dt (aN hK G (k:=42) (by decide) (by decide) rfl ((V rfl)) rfl) (aN hK G (k:=48) (by decide) (by decide) rfl ((V rfl)) rfl)) ((V rfl))) (aN hK G (k:=41) (by decide) (by decide) rfl (aN hK G (k:=44) (by decide) (by decide) rfl ((V rfl)) rfl) rfl) rfl) (ar (fJ G rfl (Nat.le_of_ble_eq_true rfl) hK.ex (dj hK) hfi (fun _ _ _ _ _ _ _ _ _ _ _ X=>binds_K X rfl (dvH hK 0 rfl) rfl rfl rfl) rfl rfl rfl (aQ (by kernel_rfl)) (by kernel_rfl) (by kernel_rfl) (by kernel_rfl) (by decide) (k:=3) (by decide) rfl rfl rfl)) cj)
theorem fx {c:Cx} (ok:c.Ok) (hK:Facts c.K):SFn c 1 (.ref 525) di:=by
  have hf:FnAt c.K 525 "BodyMaker.level" (dP (dS 38 1)) (dB (dS 38 1)) (dC (dS 38 1)) .none (.ref 524):=fnH hK 37 rfl
  have hnd:(["self"]:List Str).Nodup:=by decide
  unfold di kU
  refine bp (b:=0) ok hf (names:=["self"]) (aH (xs:=["self"]) (k:=1) (ds:=[]) (dvs:=[]) hnd rfl (by kernel_rfl) rfl (fun _ _=>.nil) (fun _ _ _ _ _ _ _ _ _ _ X=>BindsTo.of_eq (by kernel_rfl))) (by kernel_rfl) (by kernel_rfl) (by kernel_rfl) (aQ (by kernel_rfl)) (fun A₀ L outer G=>?_)
  have hl:=lok G (by kernel_rfl)
  have V {k:Nat} {x:Str} {pos:Pos}:=Vx (k:=k) (x:=x) (pos:=pos) G hl
  exact ar (aP (fX G (eR hK) gD (by kernel_rfl) (by decide) (ae (aN hK G (k:=34) (by decide) (by decide) rfl ((V rfl)) rfl) aj aJ) rfl rfl))
theorem dH {c:Cx} (ok:c.Ok) (hK:Facts c.K):SFn c 2 (.ref 533) bO:=by
  have hf:FnAt c.K 533 "BodyMaker.body_level" (dP (dS 38 2)) (dB (dS 38 2)) (dC (dS 38 2)) .none (.ref 532):=fnH hK 38 rfl
  have hnd:(["self"]:List Str).Nodup:=by decide
  unfold bO gZ
  refine bp (b:=1) ok hf (names:=["self"]) (aH (xs:=["self"]) (k:=1) (ds:=[]) (dvs:=[]) hnd rfl (by kernel_rfl) rfl (fun _ _=>.nil) (fun _ _ _ _ _ _ _ _ _ _ X=>BindsTo.of_eq (by kernel_rfl))) (by kernel_rfl) (by kernel_rfl) (by kernel_rfl) (aQ (by kernel_rfl)) (fun A₀ L outer G=>?_)
  have hl:=lok G (by kernel_rfl)
  have V {k:Nat} {x:Str} {pos:Pos}:=Vx (k:=k) (x:=x) (pos:=pos) G hl
  exact ar (aP (gA (bD (aN hK G (k:=7) (by decide) (by decide) rfl ((V rfl)) rfl) (fun _=>rfl)) aI (oU G rfl (b:=1) (Nat.le_of_ble_eq_true rfl) hK.pr (fx ok hK) ((V rfl)) rfl)))
theorem dR {c:Cx} (ok:c.Ok) (hK:Facts c.K):SFn c 4 (.ref 540) bJ:=by
  have hf:FnAt c.K 540 "BodyMaker.take_room" (dP (dS 38 3)) (dB (dS 38 3)) (dC (dS 38 3)) .none (.ref 539):=fnH hK 39 rfl
  have hnd:(["self", "cost"]:List Str).Nodup:=by decide
  unfold bJ ir
  refine bp (b:=3) ok hf (names:=["self", "cost"]) (aH (xs:=["self", "cost"]) (k:=2) (ds:=[]) (dvs:=[]) hnd rfl (by kernel_rfl) rfl (fun _ _=>.nil) (fun _ _ _ _ _ _ _ _ _ _ X=>BindsTo.of_eq (by kernel_rfl))) (by kernel_rfl) (by kernel_rfl) (by kernel_rfl) (aQ (by kernel_rfl)) (fun A₀ L outer G=>?_)
  have hl:=lok G (by kernel_rfl)
  have V {k:Nat} {x:Str} {pos:Pos}:=Vx (k:=k) (x:=x) (pos:=pos) G hl
  exact ai (bM G (cw G rfl (b:=3) (Nat.le_of_ble_eq_true rfl) (lc hK) qM (lq ok hK) ((V rfl)) (ae ((V rfl)) aj aD) rfl rfl rfl) (by kernel_rfl))
      (ai (aV hK G (k:=49) (by decide) (by decide) rfl ((V rfl)) (dt (aN hK G (k:=49) (by decide) (by decide) rfl ((V rfl)) rfl) aI) (by kernel_rfl))
      (ai (eU (aN hK G (k:=46) (by decide) (by decide) rfl ((V rfl)) rfl) (aN hK G (k:=49) (by decide) (by decide) rfl ((V rfl)) rfl) (cq (ae ((V rfl)) (ae (aN hK G (k:=7) (by decide) (by decide) rfl ((V rfl)) rfl) (ae (il G rfl (b:=2) (Nat.le_of_ble_eq_true rfl) (dF hK) gw (dH ok hK) ((V rfl)) rfl) aj bE) aJ) aD)) (by kernel_rfl))
      (ai (bY (bD (aN hK G (k:=7) (by decide) (by decide) rfl ((V rfl)) rfl) (fun _=>rfl)) (ar (aV hK G (k:=48) (by decide) (by decide) rfl ((V rfl)) (dt (aN hK G (k:=48) (by decide) (by decide) rfl ((V rfl)) rfl) ((V rfl))) (by kernel_rfl))) (ar (aV hK G (k:=42) (by decide) (by decide) rfl ((V rfl)) (dt (aN hK G (k:=42) (by decide) (by decide) rfl ((V rfl)) rfl) ((V rfl))) (by kernel_rfl))))
      (ar (aP (aN hK G (k:=49) (by decide) (by decide) rfl ((V rfl)) rfl))))))
theorem oq {c:Cx} (ok:c.Ok) (hK:Facts c.K):SFn c 1 (.ref 123) gh:=by
  have hf:FnAt c.K 123 "DictBody.__init__" (dP (dS 12 0)) (dB (dS 12 0)) (dC (dS 12 0)) .none (.ref 122):=fnH hK 27 rfl
  have hnd:(["self", "number", "most", "is_global", "level"]:List Str).Nodup:=by decide
  unfold gh kh
  refine bp (b:=0) ok hf (names:=["self", "number", "most", "is_global", "level"]) (aH (xs:=["self", "number", "most", "is_global", "level"]) (k:=5) (ds:=[]) (dvs:=[]) hnd rfl (by kernel_rfl) rfl (fun _ _=>.nil) (fun _ _ _ _ _ _ _ _ _ _ X=>BindsTo.of_eq (by kernel_rfl))) (by kernel_rfl) (by kernel_rfl) (by kernel_rfl) (aQ (by kernel_rfl)) (fun A₀ L outer G=>?_)
  obtain ⟨_,e_UNLIMITED⟩:=sf hK
  have hl:=lok G (by kernel_rfl)
  have V {k:Nat} {x:Str} {pos:Pos}:=Vx (k:=k) (x:=x) (pos:=pos) G hl
  exact ai (aV hK G (k:=5) (by decide) (by decide) rfl ((V rfl)) ((V rfl)) (by kernel_rfl))
      (ai (aV hK G (k:=9) (by decide) (by decide) rfl ((V rfl)) ((V rfl)) (by kernel_rfl))
      (ai (aV hK G (k:=7) (by decide) (by decide) rfl ((V rfl)) ((V rfl)) (by kernel_rfl))
      (ai (yd hK G rfl ((V rfl)) ((V rfl)) (by kernel_rfl))
      (ai (aV hK G (k:=4) (by decide) (by decide) rfl ((V rfl)) (jz G e_UNLIMITED ⟨_,rfl⟩ (by kernel_rfl) (by decide)) (by kernel_rfl))
      (ar (aV hK G (k:=10) (by decide) (by decide) rfl ((V rfl)) (no (k:=0)) (by kernel_rfl)))))))
theorem lY {c:Cx} (ok:c.Ok) (hK:Facts c.K):SFn c 5 (.ref 575) fh:=by
  have hf:FnAt c.K 575 "BodyMaker.make_dict" (dP (dS 38 8)) (dB (dS 38 8)) (dC (dS 38 8)) .none (.ref 574):=fnH hK 42 rfl
  have hnd:(["self", "most"]:List Str).Nodup:=by decide
  unfold fh iu
  refine bp (b:=4) ok hf (names:=["self", "most"]) (aH (xs:=["self", "most"]) (k:=2) (ds:=[]) (dvs:=[]) hnd rfl (by kernel_rfl) rfl (fun _ _=>.nil) (fun _ _ _ _ _ _ _ _ _ _ X=>BindsTo.of_eq (by kernel_rfl))) (by kernel_rfl) (by kernel_rfl) (by kernel_rfl) (aQ (by kernel_rfl)) (fun A₀ L outer G=>?_)
  obtain ⟨_,e_ENTRY_COST⟩:=qL hK
  have hl:=lok G (by kernel_rfl)
  have V {k:Nat} {x:Str} {pos:Pos}:=Vx (k:=k) (x:=x) (pos:=pos) G hl
  exact ai (bM G (aU G rfl (b:=3) (Nat.le_of_ble_eq_true rfl) (dD hK) (dG ok hK) (by kernel_rfl) (by decide) (ae ((V rfl)) (ae (aN hK G (k:=10) (by decide) (by decide) rfl (aN hK G (k:=44) (by decide) (by decide) rfl ((V rfl)) rfl) rfl) aj aJ) aD) rfl rfl) (by kernel_rfl))
      (ar (aP (aU G rfl (b:=2) (Nat.le_of_ble_eq_true rfl) (tI hK) (dc ok (tJ hK) (oq ok hK)) (by kernel_rfl) (by decide) (ae (cw G rfl (b:=4) (Nat.le_of_ble_eq_true rfl) (dQ hK) hZ (dR ok hK) ((V rfl)) (ae (dt (jz G e_ENTRY_COST ⟨_,rfl⟩ (by kernel_rfl) (by decide)) ((V rfl))) aj lm) rfl rfl rfl) (ae ((V rfl)) (ae (aN hK G (k:=7) (by decide) (by decide) rfl ((V rfl)) rfl) (ae (il G rfl (b:=2) (Nat.le_of_ble_eq_true rfl) (dF hK) gw (dH ok hK) ((V rfl)) rfl) aj bE) aJ) aD) bE) rfl rfl)))
theorem fu {c:Cx} (ok:c.Ok) (hK:Facts c.K):SFn c 1 (.ref 81) dL:=by
  have hf:FnAt c.K 81 "Thing.__init__" (dP (dS 10 0)) (dB (dS 10 0)) (dC (dS 10 0)) (.ref 74) (.ref 80):=fnH hK 25 rfl
  have hnd:(["self", "kind", "value", "is_exec", "access"]:List Str).Nodup:=by decide
  unfold dL nu
  refine bp (b:=0) ok hf (names:=["self", "kind", "value", "is_exec", "access"]) (pZ (aH (xs:=["self", "kind", "value", "is_exec", "access"]) (k:=3) (ds:=[.bool false,.int 3]) (dvs:=[.bool false,.int 3 260]) hnd rfl (by kernel_rfl) rfl (fun _ _=>.cons rfl (.cons ⟨_,rfl⟩ (.nil))) (fun _ _ _ _ _ _ _ _ _ _ X=>binds_K X rfl (dvH hK 1 rfl) rfl rfl (by kernel_rfl))) (aH (xs:=["self", "kind", "value", "is_exec", "access"]) (k:=5) (ds:=[]) (dvs:=[]) hnd rfl (by kernel_rfl) rfl (fun _ _=>.nil) (fun _ _ _ _ _ _ _ _ _ _ X=>binds_K X rfl (dvH hK 1 rfl) rfl rfl (by kernel_rfl)))) (by kernel_rfl) (by kernel_rfl) (by kernel_rfl) (aQ (by kernel_rfl)) (fun A₀ L outer G=>?_)
  have hl:=lok G (by kernel_rfl)
  have V {k:Nat} {x:Str} {pos:Pos}:=Vx (k:=k) (x:=x) (pos:=pos) G hl
  exact ai (aV hK G (k:=1) (by decide) (by decide) rfl ((V rfl)) ((V rfl)) (by kernel_rfl))
      (ai (aV hK G (k:=2) (by decide) (by decide) rfl ((V rfl)) ((V rfl)) (by kernel_rfl))
      (ai (aV hK G (k:=3) (by decide) (by decide) rfl ((V rfl)) ((V rfl)) (by kernel_rfl))
      (ar (aV hK G (k:=4) (by decide) (by decide) rfl ((V rfl)) ((V rfl)) (by kernel_rfl)))))
theorem uN {c:Cx} (ok:c.Ok) (hK:Facts c.K):SFn c 3 (.ref 194) mJ:=by
  have hf:FnAt c.K 194 "of_dict" (dP (dS 17 0)) (dB (dS 17 0)) (dC (dS 17 0)) .none (.ref 193):=fnH hK 4 rfl
  have hnd:(["body"]:List Str).Nodup:=by decide
  unfold mJ rf
  refine bp (b:=2) ok hf (names:=["body"]) (aH (xs:=["body"]) (k:=1) (ds:=[]) (dvs:=[]) hnd rfl (by kernel_rfl) rfl (fun _ _=>.nil) (fun _ _ _ _ _ _ _ _ _ _ X=>BindsTo.of_eq (by kernel_rfl))) (by kernel_rfl) (by kernel_rfl) (by kernel_rfl) (aQ (by kernel_rfl)) (fun A₀ L outer G=>?_)
  have hl:=lok G (by kernel_rfl)
  have V {k:Nat} {x:Str} {pos:Pos}:=Vx (k:=k) (x:=x) (pos:=pos) G hl
  exact ar (aP (aU G rfl (b:=2) (Nat.le_of_ble_eq_true rfl) (k9 hK) (dc ok (la hK) (fu ok hK)) (by kernel_rfl) (by decide) (ae (aK (j:=62) (by decide) rfl) (ae ((V rfl)) aj aD) ax) rfl rfl))
theorem zN {c:Cx} (ok:c.Ok) (hK:Facts c.K):SFn c 3 (.ref 179) rW:=by
  have hf:FnAt c.K 179 "null" (dP (dS 15 0)) (dB (dS 15 0)) (dC (dS 15 0)) .none (.ref 178):=fnH hK 2 rfl
  have hnd:([]:List Str).Nodup:=by decide
  unfold rW xT
  refine bp (b:=2) ok hf (names:=[]) (aH (xs:=[]) (k:=0) (ds:=[]) (dvs:=[]) hnd rfl (by kernel_rfl) rfl (fun _ _=>.nil) (fun _ _ _ _ _ _ _ _ _ _ X=>BindsTo.of_eq (by kernel_rfl))) (by kernel_rfl) (by kernel_rfl) (by kernel_rfl) (aQ (by kernel_rfl)) (fun A₀ L outer G=>?_)
  have hl:=lok G (by kernel_rfl)
  exact ar (aP (aU G rfl (b:=2) (Nat.le_of_ble_eq_true rfl) (k9 hK) (dc ok (la hK) (fu ok hK)) (by kernel_rfl) (by decide) (ae (aK (j:=60) (by decide) rfl) (ae cM aj ax) ax) rfl rfl))
theorem qa {c:Cx} (ok:c.Ok) (hK:Facts c.K):SFn c 1 (.ref 208) iv:=by
  have hf:FnAt c.K 208 "is_in_array" (dP (dS 19 0)) (dB (dS 19 0)) (dC (dS 19 0)) .none (.ref 207):=fnH hK 6 rfl
  have hnd:(["thing"]:List Str).Nodup:=by decide
  unfold iv mn
  refine bp (b:=0) ok hf (names:=["thing"]) (aH (xs:=["thing"]) (k:=1) (ds:=[]) (dvs:=[]) hnd rfl (by kernel_rfl) rfl (fun _ _=>.nil) (fun _ _ _ _ _ _ _ _ _ _ X=>BindsTo.of_eq (by kernel_rfl))) (by kernel_rfl) (by kernel_rfl) (by kernel_rfl) (aQ (by kernel_rfl)) (fun A₀ L outer G=>?_)
  have hl:=lok G (by kernel_rfl)
  have V {k:Nat} {x:Str} {pos:Pos}:=Vx (k:=k) (x:=x) (pos:=pos) G hl
  exact ar (aP (fp (xA (dK G (aN hK G (k:=1) (by decide) (by decide) rfl ((V rfl)) rfl) (aK (j:=61) (by decide) rfl) rfl) (je (dK G (aN hK G (k:=1) (by decide) (by decide) rfl ((V rfl)) rfl) (aK (j:=64) (by decide) rfl) rfl)))))
theorem qc {c:Cx} (ok:c.Ok) (hK:Facts c.K):SFn c 2 (.ref 215) iw:=by
  have hf:FnAt c.K 215 "body_of" (dP (dS 20 0)) (dB (dS 20 0)) (dC (dS 20 0)) .none (.ref 214):=fnH hK 7 rfl
  have hnd:(["thing"]:List Str).Nodup:=by decide
  unfold iw rg
  refine bp (b:=1) ok hf (names:=["thing"]) (aH (xs:=["thing"]) (k:=1) (ds:=[]) (dvs:=[]) hnd rfl (by kernel_rfl) rfl (fun _ _=>.nil) (fun _ _ _ _ _ _ _ _ _ _ X=>BindsTo.of_eq (by kernel_rfl))) (by kernel_rfl) (by kernel_rfl) (by kernel_rfl) (aQ (by kernel_rfl)) (fun A₀ L outer G=>?_)
  have hl:=lok G (by kernel_rfl)
  have V {k:Nat} {x:Str} {pos:Pos}:=Vx (k:=k) (x:=x) (pos:=pos) G hl
  exact ai (bY (bN G (aN hK G (k:=1) (by decide) (by decide) rfl ((V rfl)) rfl) (aK (j:=62) (by decide) rfl) rfl) (ar (aP (aN hK G (k:=2) (by decide) (by decide) rfl ((V rfl)) rfl))) cj)
      (ar (aP (gA (fw (iI (bN G (aN hK G (k:=1) (by decide) (by decide) rfl ((V rfl)) rfl) (aK (j:=65) (by decide) rfl) rfl) (iI (bD (aU G rfl (b:=1) (Nat.le_of_ble_eq_true rfl) (pR hK) (qa ok hK) (by kernel_rfl) (by decide) (ae ((V rfl)) aj aD) rfl rfl) (fun _=>rfl)) rQ))) (aN hK G (k:=11) (by decide) (by decide) rfl (aN hK G (k:=2) (by decide) (by decide) rfl ((V rfl)) rfl) rfl) cM)))
theorem gJ {c:Cx} (ok:c.Ok) (hK:Facts c.K):SFn c 3 (.ref 222) bi:=by
  have hf:FnAt c.K 222 "is_local" (dP (dS 21 0)) (dB (dS 21 0)) (dC (dS 21 0)) .none (.ref 221):=fnH hK 8 rfl
  have hnd:(["thing", "shared"]:List Str).Nodup:=by decide
  unfold bi pH
  refine bp (b:=2) ok hf (names:=["thing", "shared"]) (aH (xs:=["thing"]) (k:=1) (ds:=[]) (dvs:=[]) hnd rfl (by kernel_rfl) rfl (fun _ _=>.nil) (fun _ _ _ _ _ _ _ _ _ _ X=>BindsTo.of_eq (by kernel_rfl))) (by kernel_rfl) (by kernel_rfl) (by kernel_rfl) (aQ (by kernel_rfl)) (fun A₀ L outer G=>?_)
  have hl:=lok G (by kernel_rfl)
  have KL {k:Nat} {x:Str}:=KLx (k:=k) (x:=x) hl
  have V {k:Nat} {x:Str} {pos:Pos}:=Vx (k:=k) (x:=x) (pos:=pos) G hl
  exact ai (bG G (k:=1) (gA (bN G (aN hK G (k:=1) (by decide) (by decide) rfl ((V rfl)) rfl) (aK (j:=63) (by decide) rfl) rfl) (aN hK G (k:=2) (by decide) (by decide) rfl ((V rfl)) rfl) (aU G rfl (b:=2) (Nat.le_of_ble_eq_true rfl) (pS hK) (qc ok hK) (by kernel_rfl) (by decide) (ae ((V rfl)) aj aD) rfl rfl)) rfl hnd (KL (k:=1) rfl) (by kernel_rfl))
      (ar (aP (fp (jD (dK G ((V rfl)) cM rfl) (je (nV (aN hK G (k:=7) (by decide) (by decide) rfl ((V rfl)) rfl)))))))
theorem oK {c:Cx} (ok:c.Ok) (hK:Facts c.K):SFn c 1 (.ref 102) eM:=by
  have hf:FnAt c.K 102 "Row.__init__" (dP (dS 11 0)) (dB (dS 11 0)) (dC (dS 11 0)) .none (.ref 101):=fnH hK 26 rfl
  have hnd:(["self", "number", "things", "is_global", "level"]:List Str).Nodup:=by decide
  unfold eM pI
  refine bp (b:=0) ok hf (names:=["self", "number", "things", "is_global", "level"]) (aH (xs:=["self", "number", "things", "is_global", "level"]) (k:=5) (ds:=[]) (dvs:=[]) hnd rfl (by kernel_rfl) rfl (fun _ _=>.nil) (fun _ _ _ _ _ _ _ _ _ _ X=>BindsTo.of_eq (by kernel_rfl))) (by kernel_rfl) (by kernel_rfl) (by kernel_rfl) (aQ (by kernel_rfl)) (fun A₀ L outer G=>?_)
  have hl:=lok G (by kernel_rfl)
  have V {k:Nat} {x:Str} {pos:Pos}:=Vx (k:=k) (x:=x) (pos:=pos) G hl
  exact ai (aV hK G (k:=5) (by decide) (by decide) rfl ((V rfl)) ((V rfl)) (by kernel_rfl))
      (ai (aV hK G (k:=6) (by decide) (by decide) rfl ((V rfl)) (iJ G (fQ hK) (io G rfl) (by kernel_rfl) (by decide) (ae ((V rfl)) aj aD) rfl rfl) (by kernel_rfl))
      (ai (aV hK G (k:=7) (by decide) (by decide) rfl ((V rfl)) ((V rfl)) (by kernel_rfl))
      (ar (yd hK G rfl ((V rfl)) ((V rfl)) (by kernel_rfl)))))
theorem iz {c:Cx} (ok:c.Ok) (hK:Facts c.K):SFn c 5 (.ref 568) bw:=by
  have hf:FnAt c.K 568 "BodyMaker.make_row" (dP (dS 38 7)) (dB (dS 38 7)) (dC (dS 38 7)) .none (.ref 567):=fnH hK 41 rfl
  have hfi:FnAt c.K 36 "PostError.__init__" (dP (dS 3 0)) (dB (dS 3 0)) (dC (dS 3 0)) (.ref 29) (.ref 35):=fnH hK 0 rfl
  have hnd:(["self", "things", "thing"]:List Str).Nodup:=by decide
  unfold bw iO
  refine bp (b:=4) ok hf (names:=["self", "things", "thing"]) (aH (xs:=["self", "things"]) (k:=2) (ds:=[]) (dvs:=[]) hnd rfl (by kernel_rfl) rfl (fun _ _=>.nil) (fun _ _ _ _ _ _ _ _ _ _ X=>BindsTo.of_eq (by kernel_rfl))) (by kernel_rfl) (by kernel_rfl) (by kernel_rfl) (aQ (by kernel_rfl)) (fun A₀ L outer G=>?_)
  obtain ⟨_,e_ITEM_COST⟩:=nH hK
  have hl:=lok G (by kernel_rfl)
  have KL {k:Nat} {x:Str}:=KLx (k:=k) (x:=x) hl
  have V {k:Nat} {x:Str} {pos:Pos}:=Vx (k:=k) (x:=x) (pos:=pos) G hl
  exact ai (bY (bD (uy G (pQ hK) (jg hK) (uK hK) (by kernel_rfl) (by decide) (by kernel_rfl) (by decide) ((V rfl)) rfl rfl) (fun _=>rfl)) fK cj)
      (ai (bM G (aU G rfl (b:=3) (Nat.le_of_ble_eq_true rfl) (dD hK) (dG ok hK) (by kernel_rfl) (by decide) (ae (fX G (eR hK) gD (by kernel_rfl) (by decide) (ae ((V rfl)) aj aD) rfl rfl) (ae (aN hK G (k:=37) (by decide) (by decide) rfl (aN hK G (k:=44) (by decide) (by decide) rfl ((V rfl)) rfl) rfl) aj aJ) bE) rfl rfl) (by kernel_rfl))
      (ai (bY (bD (aN hK G (k:=7) (by decide) (by decide) rfl ((V rfl)) rfl) (fun _=>rfl)) (ar (iM G rfl rfl (kx:=2) rfl hnd (KL (k:=2) rfl) ((V rfl)) (ar (bY (bD (aU G rfl (b:=3) (Nat.le_of_ble_eq_true rfl) (gG hK) (gJ ok hK) (by kernel_rfl) (by decide) (ae ((V rfl)) aj aD) rfl rfl) (fun _=>rfl)) (ar (fJ G rfl (Nat.le_of_ble_eq_true rfl) hK.ex (dj hK) hfi (fun _ _ _ _ _ _ _ _ _ _ _ X=>binds_K X rfl (dvH hK 0 rfl) rfl rfl rfl) rfl rfl rfl (aQ (by kernel_rfl)) (by kernel_rfl) (by kernel_rfl) (by kernel_rfl) (by decide) (k:=0) (by decide) rfl rfl rfl)) cj)) (fun _=>rfl))) cj)
      (ar (aP (aU G rfl (b:=2) (Nat.le_of_ble_eq_true rfl) (xX hK) (dc ok (xY hK) (oK ok hK)) (by kernel_rfl) (by decide) (ae (cw G rfl (b:=4) (Nat.le_of_ble_eq_true rfl) (dQ hK) hZ (dR ok hK) ((V rfl)) (ae (dt (jz G e_ITEM_COST ⟨_,rfl⟩ (by kernel_rfl) (by decide)) (fX G (eR hK) gD (by kernel_rfl) (by decide) (ae ((V rfl)) aj aD) rfl rfl)) aj lm) rfl rfl rfl) (ae ((V rfl)) (ae (aN hK G (k:=7) (by decide) (by decide) rfl ((V rfl)) rfl) (ae (il G rfl (b:=2) (Nat.le_of_ble_eq_true rfl) (dF hK) gw (dH ok hK) ((V rfl)) rfl) aj bE) aJ) aD) bE) rfl rfl)))))
theorem hM {c:Cx} (ok:c.Ok) (hK:Facts c.K):SFn c 6 (.ref 568) dO:=by
  have hf:FnAt c.K 568 "BodyMaker.make_row" (dP (dS 38 7)) (dB (dS 38 7)) (dC (dS 38 7)) .none (.ref 567):=fnH hK 41 rfl
  have hfi:FnAt c.K 36 "PostError.__init__" (dP (dS 3 0)) (dB (dS 3 0)) (dC (dS 3 0)) (.ref 29) (.ref 35):=fnH hK 0 rfl
  have hnd:(["self", "things", "thing"]:List Str).Nodup:=by decide
  unfold dO ix
  refine bp (b:=5) ok hf (names:=["self", "things", "thing"]) (aH (xs:=["self", "things"]) (k:=2) (ds:=[]) (dvs:=[]) hnd rfl (by kernel_rfl) rfl (fun _ _=>.nil) (fun _ _ _ _ _ _ _ _ _ _ X=>BindsTo.of_eq (by kernel_rfl))) (by kernel_rfl) (by kernel_rfl) (by kernel_rfl) (aQ (by kernel_rfl)) (fun A₀ L outer G=>?_)
  obtain ⟨_,e_ITEM_COST⟩:=nH hK
  have hl:=lok G (by kernel_rfl)
  have KL {k:Nat} {x:Str}:=KLx (k:=k) (x:=x) hl
  have V {k:Nat} {x:Str} {pos:Pos}:=Vx (k:=k) (x:=x) (pos:=pos) G hl
  exact ai (bY (bD (uy G (pQ hK) (jg hK) (uK hK) (by kernel_rfl) (by decide) (by kernel_rfl) (by decide) ((V rfl)) rfl rfl) (fun _=>rfl)) (ai (bM G (aU G rfl (b:=3) (Nat.le_of_ble_eq_true rfl) (dD hK) (dG ok hK) (by kernel_rfl) (by decide) (ae ((V rfl)) (ae (aN hK G (k:=37) (by decide) (by decide) rfl (aN hK G (k:=44) (by decide) (by decide) rfl ((V rfl)) rfl) rfl) aj aJ) aD) rfl rfl) (by kernel_rfl))
      (ar (aP (cw G rfl (b:=5) (Nat.le_of_ble_eq_true rfl) (ed hK) iZ (iz ok hK) ((V rfl)) (ae (dt (cm (ae (pc G rfl (b:=3) (Nat.le_of_ble_eq_true rfl) (zH hK) (zN ok hK) (by kernel_rfl) (by decide)) aj bE)) ((V rfl))) aj lm) rfl rfl rfl)))) cj)
      (ai (bM G (aU G rfl (b:=3) (Nat.le_of_ble_eq_true rfl) (dD hK) (dG ok hK) (by kernel_rfl) (by decide) (ae (fX G (eR hK) gD (by kernel_rfl) (by decide) (ae ((V rfl)) aj aD) rfl rfl) (ae (aN hK G (k:=37) (by decide) (by decide) rfl (aN hK G (k:=44) (by decide) (by decide) rfl ((V rfl)) rfl) rfl) aj aJ) bE) rfl rfl) (by kernel_rfl))
      (ai (bY (bD (aN hK G (k:=7) (by decide) (by decide) rfl ((V rfl)) rfl) (fun _=>rfl)) (ar (iM G rfl rfl (kx:=2) rfl hnd (KL (k:=2) rfl) ((V rfl)) (ar (bY (bD (aU G rfl (b:=3) (Nat.le_of_ble_eq_true rfl) (gG hK) (gJ ok hK) (by kernel_rfl) (by decide) (ae ((V rfl)) aj aD) rfl rfl) (fun _=>rfl)) (ar (fJ G rfl (Nat.le_of_ble_eq_true rfl) hK.ex (dj hK) hfi (fun _ _ _ _ _ _ _ _ _ _ _ X=>binds_K X rfl (dvH hK 0 rfl) rfl rfl rfl) rfl rfl rfl (aQ (by kernel_rfl)) (by kernel_rfl) (by kernel_rfl) (by kernel_rfl) (by decide) (k:=0) (by decide) rfl rfl rfl)) cj)) (fun _=>rfl))) cj)
      (ar (aP (aU G rfl (b:=2) (Nat.le_of_ble_eq_true rfl) (xX hK) (dc ok (xY hK) (oK ok hK)) (by kernel_rfl) (by decide) (ae (cw G rfl (b:=4) (Nat.le_of_ble_eq_true rfl) (dQ hK) hZ (dR ok hK) ((V rfl)) (ae (dt (jz G e_ITEM_COST ⟨_,rfl⟩ (by kernel_rfl) (by decide)) (fX G (eR hK) gD (by kernel_rfl) (by decide) (ae ((V rfl)) aj aD) rfl rfl)) aj lm) rfl rfl rfl) (ae ((V rfl)) (ae (aN hK G (k:=7) (by decide) (by decide) rfl ((V rfl)) rfl) (ae (il G rfl (b:=2) (Nat.le_of_ble_eq_true rfl) (dF hK) gw (dH ok hK) ((V rfl)) rfl) aj bE) aJ) aD) bE) rfl rfl)))))
theorem sq {c:Cx} (ok:c.Ok) (hK:Facts c.K):SFn c 1 (.ref 158) jK:=by
  have hf:FnAt c.K 158 "Span.__init__" (dP (dS 13 0)) (dB (dS 13 0)) (dC (dS 13 0)) .none (.ref 157):=fnH hK 28 rfl
  have hnd:(["self", "body", "start", "many"]:List Str).Nodup:=by decide
  unfold jK oH
  refine bp (b:=0) ok hf (names:=["self", "body", "start", "many"]) (aH (xs:=["self", "body", "start", "many"]) (k:=4) (ds:=[]) (dvs:=[]) hnd rfl (by kernel_rfl) rfl (fun _ _=>.nil) (fun _ _ _ _ _ _ _ _ _ _ X=>BindsTo.of_eq (by kernel_rfl))) (by kernel_rfl) (by kernel_rfl) (by kernel_rfl) (aQ (by kernel_rfl)) (fun A₀ L outer G=>?_)
  have hl:=lok G (by kernel_rfl)
  have V {k:Nat} {x:Str} {pos:Pos}:=Vx (k:=k) (x:=x) (pos:=pos) G hl
  exact ai (aV hK G (k:=11) (by decide) (by decide) rfl ((V rfl)) ((V rfl)) (by kernel_rfl))
      (ai (aV hK G (k:=12) (by decide) (by decide) rfl ((V rfl)) ((V rfl)) (by kernel_rfl))
      (ar (aV hK G (k:=13) (by decide) (by decide) rfl ((V rfl)) ((V rfl)) (by kernel_rfl))))
theorem wP {c:Cx} (ok:c.Ok) (hK:Facts c.K):SFn c 3 (.ref 187) nZ:=by
  have hf:FnAt c.K 187 "of_row" (dP (dS 16 0)) (dB (dS 16 0)) (dC (dS 16 0)) (.ref 180) (.ref 186):=fnH hK 3 rfl
  have hnd:(["row", "is_exec", "access"]:List Str).Nodup:=by decide
  unfold nZ tF
  refine bp (b:=2) ok hf (names:=["row", "is_exec", "access"]) (aH (xs:=["row", "is_exec", "access"]) (k:=1) (ds:=[.bool false,.int 3]) (dvs:=[.bool false,.int 3 260]) hnd rfl (by kernel_rfl) rfl (fun _ _=>.cons rfl (.cons ⟨_,rfl⟩ (.nil))) (fun _ _ _ _ _ _ _ _ _ _ X=>binds_K X rfl (dvH hK 2 rfl) rfl rfl (by kernel_rfl))) (by kernel_rfl) (by kernel_rfl) (by kernel_rfl) (aQ (by kernel_rfl)) (fun A₀ L outer G=>?_)
  have hl:=lok G (by kernel_rfl)
  have V {k:Nat} {x:Str} {pos:Pos}:=Vx (k:=k) (x:=x) (pos:=pos) G hl
  exact ar (aP (aU G rfl (b:=2) (Nat.le_of_ble_eq_true rfl) (k9 hK) (dc ok (la hK) (fu ok hK)) (by kernel_rfl) (by decide) (ae (aK (j:=61) (by decide) rfl) (ae (aU G rfl (b:=2) (Nat.le_of_ble_eq_true rfl) (zI hK) (dc ok (zJ hK) (sq ok hK)) (by kernel_rfl) (by decide) (ae ((V rfl)) (ae aI (ae (fX G (eR hK) gD (by kernel_rfl) (by decide) (ae (aN hK G (k:=6) (by decide) (by decide) rfl ((V rfl)) rfl) aj aJ) rfl rfl) aj bE) ax) aD) rfl rfl) (ae ((V rfl)) (ae ((V rfl)) aj aD) aD) bE) ax) rfl rfl))
theorem nJ {c:Cx} (ok:c.Ok) (hK:Facts c.K):SFn c 1 (.ref 237) eX:=by
  have hf:FnAt c.K 237 "Path.__init__" (dP (dS 24 0)) (dB (dS 24 0)) (dC (dS 24 0)) (.ref 230) (.ref 236):=fnH hK 29 rfl
  have hnd:(["self", "most"]:List Str).Nodup:=by decide
  unfold eX iP
  refine bp (b:=0) ok hf (names:=["self", "most"]) (aH (xs:=["self", "most"]) (k:=2) (ds:=[]) (dvs:=[]) hnd rfl (by kernel_rfl) rfl (fun _ _=>.nil) (fun _ _ _ _ _ _ _ _ _ _ X=>binds_K X rfl (dvH hK 3 rfl) rfl rfl (by kernel_rfl))) (by kernel_rfl) (by kernel_rfl) (by kernel_rfl) (aQ (by kernel_rfl)) (fun A₀ L outer G=>?_)
  have hl:=lok G (by kernel_rfl)
  have V {k:Nat} {x:Str} {pos:Pos}:=Vx (k:=k) (x:=x) (pos:=pos) G hl
  exact ai (aV hK G (k:=9) (by decide) (by decide) rfl ((V rfl)) ((V rfl)) (by kernel_rfl))
      (ai (aV hK G (k:=14) (by decide) (by decide) rfl ((V rfl)) (cm aj) (by kernel_rfl))
      (ai (aV hK G (k:=15) (by decide) (by decide) rfl ((V rfl)) cM (by kernel_rfl))
      (ar (aV hK G (k:=16) (by decide) (by decide) rfl ((V rfl)) cM (by kernel_rfl)))))
theorem iD {c:Cx} (ok:c.Ok) (hK:Facts c.K):SFn c 3 (.ref 378) cP:=by
  have hf:FnAt c.K 378 "GState.__init__" (dP (dS 28 0)) (dB (dS 28 0)) (dC (dS 28 0)) (.ref 371) (.ref 377):=fnH hK 30 rfl
  have hnd:(["self", "matrix", "colour", "number", "is_global", "most"]:List Str).Nodup:=by decide
  unfold cP jf
  refine bp (b:=2) ok hf (names:=["self", "matrix", "colour", "number", "is_global", "most"]) (pZ (aH (xs:=["self", "matrix", "colour", "number", "is_global", "most"]) (k:=3) (ds:=[.int 0,.bool false,.int 1500]) (dvs:=[.int 0 668,.bool false,.int 1500 477]) hnd rfl (by kernel_rfl) rfl (fun _ _=>.cons ⟨_,rfl⟩ (.cons rfl (.cons ⟨_,rfl⟩ (.nil)))) (fun _ _ _ _ _ _ _ _ _ _ X=>binds_K X rfl (dvH hK 4 rfl) rfl rfl (by kernel_rfl))) (aH (xs:=["self", "matrix", "colour", "number", "is_global", "most"]) (k:=5) (ds:=[.int 1500]) (dvs:=[.int 1500 477]) hnd rfl (by kernel_rfl) rfl (fun _ _=>.cons ⟨_,rfl⟩ (.nil)) (fun _ _ _ _ _ _ _ _ _ _ X=>binds_K X rfl (dvH hK 4 rfl) rfl rfl (by kernel_rfl)))) (by kernel_rfl) (by kernel_rfl) (by kernel_rfl) (aQ (by kernel_rfl)) (fun A₀ L outer G=>?_)
  obtain ⟨_,e_GRAIN⟩:=xZ hK
  obtain ⟨_,e_GSTATE_MITER⟩:=oO hK
  have hl:=lok G (by kernel_rfl)
  have V {k:Nat} {x:Str} {pos:Pos}:=Vx (k:=k) (x:=x) (pos:=pos) G hl
  exact ai (aV hK G (k:=5) (by decide) (by decide) rfl ((V rfl)) ((V rfl)) (by kernel_rfl))
      (ai (aV hK G (k:=7) (by decide) (by decide) rfl ((V rfl)) ((V rfl)) (by kernel_rfl))
      (ai (aV hK G (k:=17) (by decide) (by decide) rfl ((V rfl)) (iJ G (fQ hK) (io G rfl) (by kernel_rfl) (by decide) (ae ((V rfl)) aj aD) rfl rfl) (by kernel_rfl))
      (ai (aV hK G (k:=18) (by decide) (by decide) rfl ((V rfl)) (aU G rfl (b:=2) (Nat.le_of_ble_eq_true rfl) (vJ hK) (dc ok (vK hK) (nJ ok hK)) (by kernel_rfl) (by decide) (ae ((V rfl)) aj aD) rfl rfl) (by kernel_rfl))
      (ai (aV hK G (k:=19) (by decide) (by decide) rfl ((V rfl)) (cm aj) (by kernel_rfl))
      (ai (aV hK G (k:=20) (by decide) (by decide) rfl ((V rfl)) ((V rfl)) (by kernel_rfl))
      (ai (aV hK G (k:=21) (by decide) (by decide) rfl ((V rfl)) (jz G e_GRAIN ⟨_,rfl⟩ (by kernel_rfl) (by decide)) (by kernel_rfl))
      (ai (aV hK G (k:=22) (by decide) (by decide) rfl ((V rfl)) aI (by kernel_rfl))
      (ai (aV hK G (k:=23) (by decide) (by decide) rfl ((V rfl)) aI (by kernel_rfl))
      (ai (aV hK G (k:=24) (by decide) (by decide) rfl ((V rfl)) (jz G e_GSTATE_MITER ⟨_,rfl⟩ (by kernel_rfl) (by decide)) (by kernel_rfl))
      (ai (aV hK G (k:=25) (by decide) (by decide) rfl ((V rfl)) (cm aj) (by kernel_rfl))
      (ai (aV hK G (k:=26) (by decide) (by decide) rfl ((V rfl)) aI (by kernel_rfl))
      (ai (aV hK G (k:=27) (by decide) (by decide) rfl ((V rfl)) (jz G e_GRAIN ⟨_,rfl⟩ (by kernel_rfl) (by decide)) (by kernel_rfl))
      (ai (aV hK G (k:=28) (by decide) (by decide) rfl ((V rfl)) cZ (by kernel_rfl))
      (ai (aV hK G (k:=29) (by decide) (by decide) rfl ((V rfl)) cZ (by kernel_rfl))
      (ai (aV hK G (k:=30) (by decide) (by decide) rfl ((V rfl)) cM (by kernel_rfl))
      (ar (aV hK G (k:=0) (by decide) (by decide) rfl ((V rfl)) (no (k:=1)) (by kernel_rfl))))))))))))))))))
theorem sr {c:Cx} (ok:c.Ok) (hK:Facts c.K):SFn c 7 (.ref 811) fn_law_world:=by
  have hf:FnAt c.K 811 "_law_world" (dP (dS 45 0)) (dB (dS 45 0)) (dC (dS 45 0)) .none (.ref 810):=fnH hK 15 rfl
  have hnd:(["is_global", "told", "memory", "near", "gs", "rows"]:List Str).Nodup:=by decide
  unfold fn_law_world oI
  refine bp (b:=6) ok hf (names:=["is_global", "told", "memory", "near", "gs", "rows"]) (aH (xs:=[]) (k:=0) (ds:=[]) (dvs:=[]) hnd rfl (by kernel_rfl) rfl (fun _ _=>.nil) (fun _ _ _ _ _ _ _ _ _ _ X=>BindsTo.of_eq (by kernel_rfl))) (by kernel_rfl) (by kernel_rfl) (by kernel_rfl) (aQ (by kernel_rfl)) (fun A₀ L outer G=>?_)
  have hl:=lok G (by kernel_rfl)
  have KL {k:Nat} {x:Str}:=KLx (k:=k) (x:=x) hl
  have V {k:Nat} {x:Str} {pos:Pos}:=Vx (k:=k) (x:=x) (pos:=pos) G hl
  exact ai (eW rfl (n:=2) (names:=["memory", "near"]) (cq (ae (aU G rfl (b:=2) (Nat.le_of_ble_eq_true rfl) (wK hK) (dc ok (wN hK) (p9 ok hK)) (by kernel_rfl) (by decide) (ae (pc G rfl (b:=2) (Nat.le_of_ble_eq_true rfl) (wI hK) (dc ok (wL hK) (p8 ok hK)) (by kernel_rfl) (by decide)) aj bE) rfl rfl) (ae (cm aj) aj i0) bE)) (show STg _ _ _ [bindName _ "near",bindName _ "memory"] from bh (bW G (k:=3) rfl hnd (KL (k:=3) rfl)) (bh (bW G (k:=2) rfl hnd (KL (k:=2) rfl)) dZ)) rfl (by kernel_rfl) (by kernel_rfl))
      (ai (iM G rfl rfl (kx:=0) rfl hnd (KL (k:=0) rfl) (cq (ae cZ (ae cZ aj ax) ax)) (ai (aV hK G (k:=7) (by decide) (by decide) rfl ((V rfl)) ((V rfl)) (by kernel_rfl))
      (ar (bM G (jn eV fq ((V rfl)) (ae (cm (ae (aU G rfl (b:=3) (Nat.le_of_ble_eq_true rfl) (uJ hK) (uN ok hK) (by kernel_rfl) (by decide) (ae (cw G rfl (b:=5) (Nat.le_of_ble_eq_true rfl) (lW hK) si (lY ok hK) ((V rfl)) (ae aI aj ax) rfl rfl rfl) aj bE) rfl rfl) (ae (aU G rfl (b:=3) (Nat.le_of_ble_eq_true rfl) (wH hK) (wP ok hK) (by kernel_rfl) (by decide) (ae (cw G rfl (b:=6) (Nat.le_of_ble_eq_true rfl) (ed hK) iZ (hM ok hK) ((V rfl)) (ae aI aj ax) rfl rfl rfl) aj bE) rfl rfl) (ae (cw G rfl (b:=6) (Nat.le_of_ble_eq_true rfl) (ed hK) iZ (hM ok hK) ((V rfl)) (ae aI aj ax) rfl rfl rfl) aj bE) bE) bE)) aj i0) rfl rfl rfl) (by kernel_rfl)))) (fun _=>rfl))
      (ai (aV hK G (k:=7) (by decide) (by decide) rfl ((V rfl)) cZ (by kernel_rfl))
      (ai (eW rfl (n:=2) (names:=["gs", "rows"]) (cq (ae (aU G rfl (b:=4) (Nat.le_of_ble_eq_true rfl) (oj hK) (dc ok (om hK) (iD ok hK)) (by kernel_rfl) (by decide) (ae (cm (ae aI (ae aI (ae aI (ae aI (ae aI (ae aI aj ax) ax) ax) ax) ax) ax)) (ae cM aj ax) i0) rfl rfl) (ae (cm (ae (aG (aG ((V rfl)) aI (fun _ _=>rfl)) aI (fun _ _=>rfl)) (ae (aG (aG ((V rfl)) aI (fun _ _=>rfl)) aI (fun _ _=>rfl)) aj az) az)) aj i0) bE)) (show STg _ _ _ [bindName _ "rows",bindName _ "gs"] from bh (bW G (k:=5) rfl hnd (KL (k:=5) rfl)) (bh (bW G (k:=4) rfl hnd (KL (k:=4) rfl)) dZ)) rfl (by kernel_rfl) (by kernel_rfl))
      (ai (bG G (k:=1) (cm (ae (no (k:=1)) (ae (pD rfl rfl (by simp) (by decide) (dY (mD (j:=1) (by decide) rfl) (aG ((V rfl)) aI (fun _ _=>rfl)) pq)) (ae (pD rfl rfl (by simp) (by decide) (dY (mD (j:=1) (by decide) rfl) (aG ((V rfl)) aI (fun _ _=>rfl)) pq)) (ae (pD rfl rfl (by simp) (by decide) (dY (mD (j:=1) (by decide) rfl) (aG ((V rfl)) aI (fun _ _=>rfl)) (dY (mD (j:=2) (by decide) rfl) (cq (ae (aG ((V rfl)) aI (fun _ _=>rfl)) (ae (aG ((V rfl)) aI (fun _ _=>rfl)) aj az) az)) pq))) aj oX) oX) oX) oX)) rfl hnd (KL (k:=1) rfl) (by kernel_rfl))
      (ar (aP (tz rfl rfl (by simp) (by decide) (dY (aK (j:=51) (by decide) rfl) ((V rfl)) (dY (aK (j:=52) (by decide) rfl) ((V rfl)) (dY (aK (j:=53) (by decide) rfl) ((V rfl)) (dY (aK (j:=54) (by decide) rfl) (cm (ae cM (ae (aG (aG ((V rfl)) aI (fun _ _=>rfl)) aI (fun _ _=>rfl)) (ae (aG (aG ((V rfl)) aI (fun _ _=>rfl)) aI (fun _ _=>rfl)) aj az) az) ax)) (dY (aK (j:=0) (by decide) rfl) ((V rfl)) (dY (aK (j:=55) (by decide) rfl) (cm (ae aI (ae aI (ae (aN hK G (k:=21) (by decide) (by decide) rfl ((V rfl)) rfl) aj aJ) ax) ax)) (dY (aK (j:=56) (by decide) rfl) (cm aj) (dY (aK (j:=34) (by decide) rfl) (cm aj) pq)))))))))))))))
theorem ot {c:Cx} (ok:c.Ok) (hK:Facts c.K):SFn c 1 (.ref 449) dU:=by
  have hf:FnAt c.K 449 "gstate_things" (dP (dS 29 0)) (dB (dS 29 0)) (dC (dS 29 0)) .none (.ref 448):=fnH hK 9 rfl
  have hnd:(["gs", "found", "word", "value"]:List Str).Nodup:=by decide
  unfold dU kj
  refine bp (b:=0) ok hf (names:=["gs", "found", "word", "value"]) (aH (xs:=["gs"]) (k:=1) (ds:=[]) (dvs:=[]) hnd rfl (by kernel_rfl) rfl (fun _ _=>.nil) (fun _ _ _ _ _ _ _ _ _ _ X=>BindsTo.of_eq (by kernel_rfl))) (by kernel_rfl) (by kernel_rfl) (by kernel_rfl) (aQ (by kernel_rfl)) (fun A₀ L outer G=>?_)
  have hl:=lok G (by kernel_rfl)
  have KL {k:Nat} {x:Str}:=KLx (k:=k) (x:=x) hl
  have V {k:Nat} {x:Str} {pos:Pos}:=Vx (k:=k) (x:=x) (pos:=pos) G hl
  exact ai (bG G (k:=1) (gA (bN G (aN hK G (k:=30) (by decide) (by decide) rfl ((V rfl)) rfl) cM rfl) (cm aj) (cm (ae (aN hK G (k:=30) (by decide) (by decide) rfl ((V rfl)) rfl) aj aJ))) rfl hnd (KL (k:=1) rfl) (by kernel_rfl))
      (ai (bY (bN G (aN hK G (k:=20) (by decide) (by decide) rfl ((V rfl)) rfl) cM rfl) fK cj)
      (ai (iM G rfl rfl (kx:=2) rfl hnd (KL (k:=2) rfl) (fX G (wO hK) (xM G rfl) (by kernel_rfl) (by decide) (ae (aN hK G (k:=0) (by decide) (by decide) rfl ((V rfl)) rfl) aj aJ) rfl rfl) (ai (bG G (k:=3) (aG (aN hK G (k:=0) (by decide) (by decide) rfl ((V rfl)) rfl) ((V rfl)) (fun _ _=>rfl)) rfl hnd (KL (k:=3) rfl) (by kernel_rfl))
      (ar (bY (bD (uy G (pQ hK) (jg hK) (ya hK) (by kernel_rfl) (by decide) (by kernel_rfl) (by decide) ((V rfl)) rfl rfl) (fun _=>rfl)) (ar (bM G (jn wq xH ((V rfl)) (ae ((V rfl)) aj aD) rfl rfl rfl) (by kernel_rfl))) (ar (bM G (jn eV fq ((V rfl)) (ae ((V rfl)) aj aD) rfl rfl rfl) (by kernel_rfl)))))) (fun _=>rfl))
      (ar (aP ((V rfl))))))
theorem fS {c:Cx} (ok:c.Ok) (hK:Facts c.K):SFn c 4 (.ref 454) bv:=by
  have hf:FnAt c.K 454 "gstate_check_global" (dP (dS 30 0)) (dB (dS 30 0)) (dC (dS 30 0)) .none (.ref 453):=fnH hK 10 rfl
  have hfi:FnAt c.K 36 "PostError.__init__" (dP (dS 3 0)) (dB (dS 3 0)) (dC (dS 3 0)) (.ref 29) (.ref 35):=fnH hK 0 rfl
  have hnd:(["is_global", "gs"]:List Str).Nodup:=by decide
  unfold bv fY
  refine bp (b:=3) ok hf (names:=["is_global", "gs"]) (aH (xs:=["is_global", "gs"]) (k:=2) (ds:=[]) (dvs:=[]) hnd rfl (by kernel_rfl) rfl (fun _ _=>.nil) (fun _ _ _ _ _ _ _ _ _ _ X=>BindsTo.of_eq (by kernel_rfl))) (by kernel_rfl) (by kernel_rfl) (by kernel_rfl) (aQ (by kernel_rfl)) (fun A₀ L outer G=>?_)
  have hl:=lok G (by kernel_rfl)
  have V {k:Nat} {x:Str} {pos:Pos}:=Vx (k:=k) (x:=x) (pos:=pos) G hl
  exact ar (bY (fw (dN (bD ((V rfl)) (fun _=>rfl)) (dN (bN G (rS G rfl (so (by kernel_rfl)) (aQ (by kernel_rfl)) (by kernel_rfl) (p7 (by kernel_rfl)) (by kernel_rfl) (aU G rfl (b:=1) (Nat.le_of_ble_eq_true rfl) (oh hK) (ot ok hK) (by kernel_rfl) (by decide) (ae ((V rfl)) aj aD) rfl rfl) (fun C G'=>xQ (bD (aU G' rfl (b:=3) (Nat.le_of_ble_eq_true rfl) (gG hK) (gJ ok hK) (by kernel_rfl) (by decide) (ae (ij (k:=0) G' rfl (by kernel_rfl) (by decide)) aj aD) rfl rfl) (fun _=>rfl))) (fun C G'=>ij (k:=0) G' rfl (by kernel_rfl) (by decide)) (fun _=>rfl)) (cm aj) rfl) kP))) (ar (fJ G rfl (Nat.le_of_ble_eq_true rfl) hK.ex (dj hK) hfi (fun _ _ _ _ _ _ _ _ _ _ _ X=>binds_K X rfl (dvH hK 0 rfl) rfl rfl rfl) rfl rfl rfl (aQ (by kernel_rfl)) (by kernel_rfl) (by kernel_rfl) (by kernel_rfl) (by decide) (k:=0) (by decide) rfl rfl rfl)) cj)
theorem qd {c:Cx} (ok:c.Ok) (hK:Facts c.K):SFn c 1 (.ref 818) fz:=by
  have hf:FnAt c.K 818 "_law_due" (dP (dS 46 0)) (dB (dS 46 0)) (dC (dS 46 0)) .none (.ref 817):=fnH hK 16 rfl
  have hnd:(["is_global", "content"]:List Str).Nodup:=by decide
  unfold fz rh
  refine bp (b:=0) ok hf (names:=["is_global", "content"]) (aH (xs:=["is_global", "content"]) (k:=2) (ds:=[]) (dvs:=[]) hnd rfl (by kernel_rfl) rfl (fun _ _=>.nil) (fun _ _ _ _ _ _ _ _ _ _ X=>BindsTo.of_eq (by kernel_rfl))) (by kernel_rfl) (by kernel_rfl) (by kernel_rfl) (aQ (by kernel_rfl)) (fun A₀ L outer G=>?_)
  have hl:=lok G (by kernel_rfl)
  have V {k:Nat} {x:Str} {pos:Pos}:=Vx (k:=k) (x:=x) (pos:=pos) G hl
  exact ar (aP (gA (fw (dN (bD ((V rfl)) (fun _=>rfl)) (dN (fw (iI (bN G (aG ((V rfl)) aI (fun _ _=>rfl)) aI rfl) (iI (bN G (dt (aG ((V rfl)) aI (fun _ _=>rfl)) aI) aI rfl) rQ))) kP))) (mD (j:=0) (by decide) rfl) cM))
theorem su {c:Cx} (ok:c.Ok) (hK:Facts c.K):SFn c 3 (.ref 265) eY:=by
  have hf:FnAt c.K 265 "Path.copy" (dP (dS 24 4)) (dB (dS 24 4)) (dC (dS 24 4)) .none (.ref 264):=fnH hK 36 rfl
  have hnd:(["self", "found"]:List Str).Nodup:=by decide
  unfold eY kY
  refine bp (b:=2) ok hf (names:=["self", "found"]) (aH (xs:=["self"]) (k:=1) (ds:=[]) (dvs:=[]) hnd rfl (by kernel_rfl) rfl (fun _ _=>.nil) (fun _ _ _ _ _ _ _ _ _ _ X=>BindsTo.of_eq (by kernel_rfl))) (by kernel_rfl) (by kernel_rfl) (by kernel_rfl) (aQ (by kernel_rfl)) (fun A₀ L outer G=>?_)
  have hl:=lok G (by kernel_rfl)
  have KL {k:Nat} {x:Str}:=KLx (k:=k) (x:=x) hl
  have V {k:Nat} {x:Str} {pos:Pos}:=Vx (k:=k) (x:=x) (pos:=pos) G hl
  exact ai (bG G (k:=1) (aU G rfl (b:=2) (Nat.le_of_ble_eq_true rfl) (vJ hK) (dc ok (vK hK) (nJ ok hK)) (by kernel_rfl) (by decide) (ae (aN hK G (k:=9) (by decide) (by decide) rfl ((V rfl)) rfl) aj aJ) rfl rfl) rfl hnd (KL (k:=1) rfl) (by kernel_rfl))
      (ai (aV hK G (k:=14) (by decide) (by decide) rfl ((V rfl)) (iJ G (fQ hK) (io G rfl) (by kernel_rfl) (by decide) (ae (aN hK G (k:=14) (by decide) (by decide) rfl ((V rfl)) rfl) aj aJ) rfl rfl) (by kernel_rfl))
      (ai (aV hK G (k:=15) (by decide) (by decide) rfl ((V rfl)) (aN hK G (k:=15) (by decide) (by decide) rfl ((V rfl)) rfl) (by kernel_rfl))
      (ai (aV hK G (k:=16) (by decide) (by decide) rfl ((V rfl)) (aN hK G (k:=16) (by decide) (by decide) rfl ((V rfl)) rfl) (by kernel_rfl))
      (ar (aP ((V rfl)))))))
theorem fT {c:Cx} (ok:c.Ok) (hK:Facts c.K):SFn c 4 (.ref 393) bZ:=by
  have hf:FnAt c.K 393 "GState.take" (dP (dS 28 2)) (dB (dS 28 2)) (dC (dS 28 2)) .none (.ref 392):=fnH hK 35 rfl
  have hnd:(["self", "other"]:List Str).Nodup:=by decide
  unfold bZ mo
  refine bp (b:=3) ok hf (names:=["self", "other"]) (aH (xs:=["self", "other"]) (k:=2) (ds:=[]) (dvs:=[]) hnd rfl (by kernel_rfl) rfl (fun _ _=>.nil) (fun _ _ _ _ _ _ _ _ _ _ X=>BindsTo.of_eq (by kernel_rfl))) (by kernel_rfl) (by kernel_rfl) (by kernel_rfl) (aQ (by kernel_rfl)) (fun A₀ L outer G=>?_)
  have hl:=lok G (by kernel_rfl)
  have V {k:Nat} {x:Str} {pos:Pos}:=Vx (k:=k) (x:=x) (pos:=pos) G hl
  exact ai (aV hK G (k:=17) (by decide) (by decide) rfl ((V rfl)) (iJ G (fQ hK) (io G rfl) (by kernel_rfl) (by decide) (ae (aN hK G (k:=17) (by decide) (by decide) rfl ((V rfl)) rfl) aj aJ) rfl rfl) (by kernel_rfl))
      (ai (aV hK G (k:=18) (by decide) (by decide) rfl ((V rfl)) (il G rfl (b:=3) (Nat.le_of_ble_eq_true rfl) (sg hK) sh (su ok hK) (aN hK G (k:=18) (by decide) (by decide) rfl ((V rfl)) rfl) rfl) (by kernel_rfl))
      (ai (aV hK G (k:=19) (by decide) (by decide) rfl ((V rfl)) (iJ G (fQ hK) (io G rfl) (by kernel_rfl) (by decide) (ae (aN hK G (k:=19) (by decide) (by decide) rfl ((V rfl)) rfl) aj aJ) rfl rfl) (by kernel_rfl))
      (ai (aV hK G (k:=20) (by decide) (by decide) rfl ((V rfl)) (aN hK G (k:=20) (by decide) (by decide) rfl ((V rfl)) rfl) (by kernel_rfl))
      (ai (aV hK G (k:=21) (by decide) (by decide) rfl ((V rfl)) (aN hK G (k:=21) (by decide) (by decide) rfl ((V rfl)) rfl) (by kernel_rfl))
      (ai (aV hK G (k:=22) (by decide) (by decide) rfl ((V rfl)) (aN hK G (k:=22) (by decide) (by decide) rfl ((V rfl)) rfl) (by kernel_rfl))
      (ai (aV hK G (k:=23) (by decide) (by decide) rfl ((V rfl)) (aN hK G (k:=23) (by decide) (by decide) rfl ((V rfl)) rfl) (by kernel_rfl))
      (ai (aV hK G (k:=24) (by decide) (by decide) rfl ((V rfl)) (aN hK G (k:=24) (by decide) (by decide) rfl ((V rfl)) rfl) (by kernel_rfl))
      (ai (aV hK G (k:=25) (by decide) (by decide) rfl ((V rfl)) (iJ G (fQ hK) (io G rfl) (by kernel_rfl) (by decide) (ae (aN hK G (k:=25) (by decide) (by decide) rfl ((V rfl)) rfl) aj aJ) rfl rfl) (by kernel_rfl))
      (ai (aV hK G (k:=26) (by decide) (by decide) rfl ((V rfl)) (aN hK G (k:=26) (by decide) (by decide) rfl ((V rfl)) rfl) (by kernel_rfl))
      (ai (aV hK G (k:=27) (by decide) (by decide) rfl ((V rfl)) (aN hK G (k:=27) (by decide) (by decide) rfl ((V rfl)) rfl) (by kernel_rfl))
      (ai (aV hK G (k:=28) (by decide) (by decide) rfl ((V rfl)) (aN hK G (k:=28) (by decide) (by decide) rfl ((V rfl)) rfl) (by kernel_rfl))
      (ai (aV hK G (k:=29) (by decide) (by decide) rfl ((V rfl)) (aN hK G (k:=29) (by decide) (by decide) rfl ((V rfl)) rfl) (by kernel_rfl))
      (ai (aV hK G (k:=30) (by decide) (by decide) rfl ((V rfl)) (aN hK G (k:=30) (by decide) (by decide) rfl ((V rfl)) rfl) (by kernel_rfl))
      (ar (aV hK G (k:=0) (by decide) (by decide) rfl ((V rfl)) (iJ G (vM hK) (xC G) (by kernel_rfl) (by decide) (ae (aN hK G (k:=0) (by decide) (by decide) rfl ((V rfl)) rfl) aj aJ) rfl rfl) (by kernel_rfl))))))))))))))))
theorem lr {c:Cx} (ok:c.Ok) (hK:Facts c.K):SFn c 5 (.ref 386) de:=by
  have hf:FnAt c.K 386 "GState.copy" (dP (dS 28 1)) (dB (dS 28 1)) (dC (dS 28 1)) (.ref 379) (.ref 385):=fnH hK 34 rfl
  have hnd:(["self", "number", "is_global", "other"]:List Str).Nodup:=by decide
  unfold de mq
  refine bp (b:=4) ok hf (names:=["self", "number", "is_global", "other"]) (pZ (aH (xs:=["self", "number", "is_global"]) (k:=1) (ds:=[.int 0,.bool false]) (dvs:=[.int 0 681,.bool false]) hnd rfl (by kernel_rfl) rfl (fun _ _=>.cons ⟨_,rfl⟩ (.cons rfl (.nil))) (fun _ _ _ _ _ _ _ _ _ _ X=>binds_K X rfl (dvH hK 5 rfl) rfl rfl (by kernel_rfl))) (aH (xs:=["self", "number", "is_global"]) (k:=3) (ds:=[]) (dvs:=[]) hnd rfl (by kernel_rfl) rfl (fun _ _=>.nil) (fun _ _ _ _ _ _ _ _ _ _ X=>binds_K X rfl (dvH hK 5 rfl) rfl rfl (by kernel_rfl)))) (by kernel_rfl) (by kernel_rfl) (by kernel_rfl) (aQ (by kernel_rfl)) (fun A₀ L outer G=>?_)
  have hl:=lok G (by kernel_rfl)
  have KL {k:Nat} {x:Str}:=KLx (k:=k) (x:=x) hl
  have V {k:Nat} {x:Str} {pos:Pos}:=Vx (k:=k) (x:=x) (pos:=pos) G hl
  exact ai (bG G (k:=3) (aU G rfl (b:=4) (Nat.le_of_ble_eq_true rfl) (oj hK) (dc ok (om hK) (iD ok hK)) (by kernel_rfl) (by decide) (ae (aN hK G (k:=17) (by decide) (by decide) rfl ((V rfl)) rfl) (ae (aN hK G (k:=20) (by decide) (by decide) rfl ((V rfl)) rfl) (ae ((V rfl)) (ae ((V rfl)) aj aD) aD) aJ) aJ) rfl rfl) rfl hnd (KL (k:=3) rfl) (by kernel_rfl))
      (ai (bM G (cw G rfl (b:=4) (Nat.le_of_ble_eq_true rfl) (fR hK) oW (fT ok hK) ((V rfl)) (ae ((V rfl)) aj aD) rfl rfl rfl) (by kernel_rfl))
      (ar (aP ((V rfl)))))
theorem sw {c:Cx} (ok:c.Ok) (hK:Facts c.K):SFn c 3 (.ref 201) d7:=by
  have hf:FnAt c.K 201 "of_gstate" (dP (dS 18 0)) (dB (dS 18 0)) (dC (dS 18 0)) .none (.ref 200):=fnH hK 5 rfl
  have hnd:(["state"]:List Str).Nodup:=by decide
  unfold d7 oJ
  refine bp (b:=2) ok hf (names:=["state"]) (aH (xs:=["state"]) (k:=1) (ds:=[]) (dvs:=[]) hnd rfl (by kernel_rfl) rfl (fun _ _=>.nil) (fun _ _ _ _ _ _ _ _ _ _ X=>BindsTo.of_eq (by kernel_rfl))) (by kernel_rfl) (by kernel_rfl) (by kernel_rfl) (aQ (by kernel_rfl)) (fun A₀ L outer G=>?_)
  have hl:=lok G (by kernel_rfl)
  have V {k:Nat} {x:Str} {pos:Pos}:=Vx (k:=k) (x:=x) (pos:=pos) G hl
  exact ar (aP (aU G rfl (b:=2) (Nat.le_of_ble_eq_true rfl) (k9 hK) (dc ok (la hK) (fu ok hK)) (by kernel_rfl) (by decide) (ae (aK (j:=63) (by decide) rfl) (ae ((V rfl)) aj aD) ax) rfl rfl))
theorem ls {c:Cx} (ok:c.Ok) (hK:Facts c.K):SFn c 6 (.ref 680) cC:=by
  have hf:FnAt c.K 680 "BodyChanger.note_state" (dP (dS 39 12)) (dB (dS 39 12)) (dC (dS 39 12)) .none (.ref 679):=fnH hK 47 rfl
  have hnd:(["self", "state", "cost", "is_global", "level"]:List Str).Nodup:=by decide
  unfold cC hG
  refine bp (b:=5) ok hf (names:=["self", "state", "cost", "is_global", "level"]) (aH (xs:=["self", "state"]) (k:=2) (ds:=[]) (dvs:=[]) hnd rfl (by kernel_rfl) rfl (fun _ _=>.nil) (fun _ _ _ _ _ _ _ _ _ _ X=>BindsTo.of_eq (by kernel_rfl))) (by kernel_rfl) (by kernel_rfl) (by kernel_rfl) (aQ (by kernel_rfl)) (fun A₀ L outer G=>?_)
  have hl:=lok G (by kernel_rfl)
  have KL {k:Nat} {x:Str}:=KLx (k:=k) (x:=x) hl
  have V {k:Nat} {x:Str} {pos:Pos}:=Vx (k:=k) (x:=x) (pos:=pos) G hl
  exact ai (ii rfl (n:=3) (jn xG (AH G) (aN hK G (k:=46) (by decide) (by decide) rfl ((V rfl)) rfl) (ae (aN hK G (k:=5) (by decide) (by decide) rfl ((V rfl)) rfl) (ae (cq (ae aI (ae cZ (ae aI aj ax) ax) ax)) aj lp) aJ) rfl rfl rfl) (bh (eB G (k:=2) rfl hnd (KL (k:=2) rfl)) (bh (eB G (k:=3) rfl hnd (KL (k:=3) rfl)) (bh (eB G (k:=4) rfl hnd (KL (k:=4) rfl)) dZ))) rfl rfl (by kernel_rfl) (by kernel_rfl))
      (ar (bY (fw (dN (kO (bD ((V rfl)) (fun _=>rfl))) (dN (bN G ((V rfl)) (oU G rfl (b:=1) (Nat.le_of_ble_eq_true rfl) hK.pr (fx ok hK) ((V rfl)) rfl) rfl) kP))) (ar (bM G (jn eV fq (aN hK G (k:=45) (by decide) (by decide) rfl ((V rfl)) rfl) (ae (cq (ae (aK (j:=67) (by decide) rfl) (ae ((V rfl)) (ae (il G rfl (b:=5) (Nat.le_of_ble_eq_true rfl) (lb hK) sh (lr ok hK) ((V rfl)) rfl) aj bE) aD) ax)) aj lp) rfl rfl rfl) (by kernel_rfl))) cj))
theorem qe {c:Cx} (ok:c.Ok) (hK:Facts c.K):SFn c 7 (.ref 461) eN:=by
  have hf:FnAt c.K 461 "gstate_fill" (dP (dS 31 0)) (dB (dS 31 0)) (dC (dS 31 0)) .none (.ref 460):=fnH hK 11 rfl
  have hnd:(["memory", "target", "source"]:List Str).Nodup:=by decide
  unfold eN mr
  refine bp (b:=6) ok hf (names:=["memory", "target", "source"]) (aH (xs:=["memory", "target", "source"]) (k:=3) (ds:=[]) (dvs:=[]) hnd rfl (by kernel_rfl) rfl (fun _ _=>.nil) (fun _ _ _ _ _ _ _ _ _ _ X=>BindsTo.of_eq (by kernel_rfl))) (by kernel_rfl) (by kernel_rfl) (by kernel_rfl) (aQ (by kernel_rfl)) (fun A₀ L outer G=>?_)
  have hl:=lok G (by kernel_rfl)
  have V {k:Nat} {x:Str} {pos:Pos}:=Vx (k:=k) (x:=x) (pos:=pos) G hl
  exact ai (bM G (aU G rfl (b:=4) (Nat.le_of_ble_eq_true rfl) (fP hK) (fS ok hK) (by kernel_rfl) (by decide) (ae (aN hK G (k:=7) (by decide) (by decide) rfl ((V rfl)) rfl) (ae ((V rfl)) aj aD) aJ) rfl rfl) (by kernel_rfl))
      (ai (bM G (cw G rfl (b:=6) (Nat.le_of_ble_eq_true rfl) (lf hK) qO (ls ok hK) ((V rfl)) (ae ((V rfl)) aj aD) rfl rfl rfl) (by kernel_rfl))
      (ar (bM G (cw G rfl (b:=4) (Nat.le_of_ble_eq_true rfl) (fR hK) oW (fT ok hK) ((V rfl)) (ae ((V rfl)) aj aD) rfl rfl rfl) (by kernel_rfl))))
theorem mz {c:Cx} (ok:c.Ok) (hK:Facts c.K):SFn c 8 (.ref 846) cg:=by
  have hf:FnAt c.K 846 "_law_filled" (dP (dS 50 0)) (dB (dS 50 0)) (dC (dS 50 0)) .none (.ref 845):=fnH hK 20 rfl
  have hnd:(["w", "state", "source", "e"]:List Str).Nodup:=by decide
  unfold cg ny
  refine bp (b:=7) ok hf (names:=["w", "state", "source", "e"]) (aH (xs:=["w", "state", "source"]) (k:=3) (ds:=[]) (dvs:=[]) hnd rfl (by kernel_rfl) rfl (fun _ _=>.nil) (fun _ _ _ _ _ _ _ _ _ _ X=>BindsTo.of_eq (by kernel_rfl))) (by kernel_rfl) (by kernel_rfl) (by kernel_rfl) (aQ (by kernel_rfl)) (fun A₀ L outer G=>?_)
  have hl:=lok G (by kernel_rfl)
  have KL {k:Nat} {x:Str}:=KLx (k:=k) (x:=x) hl
  have V {k:Nat} {x:Str} {pos:Pos}:=Vx (k:=k) (x:=x) (pos:=pos) G hl
  have HV w {k:Nat} {x:Str} {pos:Pos}:=Vx (k:=k) (x:=x) (pos:=pos) (fs G w) hl
  exact ai (uC G rfl rfl hK.ex (dj hK) (ke:=3) rfl hnd (KL (k:=3) rfl) (by kernel_rfl) (by decide) (ar (bM G (aU G rfl (b:=7) (Nat.le_of_ble_eq_true rfl) (pU hK) (qe ok hK) (by kernel_rfl) (by decide) (ae (aG ((V rfl)) (aK (j:=51) (by decide) rfl) (fun _ _=>rfl)) (ae (aN hK G (k:=2) (by decide) (by decide) rfl (aG ((V rfl)) (aK (j:=57) (by decide) rfl) (fun _ _=>rfl)) rfl) (ae ((V rfl)) aj aD) aJ) az) rfl rfl) (by kernel_rfl))) (fun w=>ar (aP (rT (fs G w) hK.ex rfl ((HV w rfl)) rfl))))
      (ar (aP cM))
theorem ja {c:Cx} (ok:c.Ok) (hK:Facts c.K):SFn c 9 (.ref 853) cQ:=by
  have hf:FnAt c.K 853 "_law_made_right" (dP (dS 51 0)) (dB (dS 51 0)) (dC (dS 51 0)) .none (.ref 852):=fnH hK 21 rfl
  have hnd:(["w", "e", "memory", "is_refused", "thing", "state"]:List Str).Nodup:=by decide
  unfold cQ gj
  refine bp (b:=8) ok hf (names:=["w", "e", "memory", "is_refused", "thing", "state"]) (aH (xs:=["w"]) (k:=1) (ds:=[]) (dvs:=[]) hnd rfl (by kernel_rfl) rfl (fun _ _=>.nil) (fun _ _ _ _ _ _ _ _ _ _ X=>BindsTo.of_eq (by kernel_rfl))) (by kernel_rfl) (by kernel_rfl) (by kernel_rfl) (aQ (by kernel_rfl)) (fun A₀ L outer G=>?_)
  have hl:=lok G (by kernel_rfl)
  have KL {k:Nat} {x:Str}:=KLx (k:=k) (x:=x) hl
  have V {k:Nat} {x:Str} {pos:Pos}:=Vx (k:=k) (x:=x) (pos:=pos) G hl
  have HV w {k:Nat} {x:Str} {pos:Pos}:=Vx (k:=k) (x:=x) (pos:=pos) (fs G w) hl
  exact ai (eW rfl (n:=2) (names:=["memory", "is_refused"]) (cq (ae (aG ((V rfl)) (aK (j:=51) (by decide) rfl) (fun _ _=>rfl)) (ae cZ aj ax) az)) (show STg _ _ _ [bindName _ "is_refused",bindName _ "memory"] from bh (bW G (k:=3) rfl hnd (KL (k:=3) rfl)) (bh (bW G (k:=2) rfl hnd (KL (k:=2) rfl)) dZ)) rfl (by kernel_rfl) (by kernel_rfl))
      (ai (uC G rfl rfl hK.ex (dj hK) (ke:=1) rfl hnd (KL (k:=1) rfl) (by kernel_rfl) (by decide) (ar (bM G (aU G rfl (b:=4) (Nat.le_of_ble_eq_true rfl) (fP hK) (fS ok hK) (by kernel_rfl) (by decide) (ae (aN hK G (k:=7) (by decide) (by decide) rfl ((V rfl)) rfl) (ae (aG ((V rfl)) (aK (j:=52) (by decide) rfl) (fun _ _=>rfl)) aj az) aJ) rfl rfl) (by kernel_rfl))) (fun w=>ar (bG (fs G w) (k:=3) (dK (fs G w) (rT (fs G w) hK.ex rfl ((HV w rfl)) rfl) (mD (j:=0) (by decide) rfl) rfl) rfl hnd (KL (k:=3) rfl) (by kernel_rfl))))
      (ai (bY (bN G ((V rfl)) (dK G (aU G rfl (b:=1) (Nat.le_of_ble_eq_true rfl) (pV hK) (qd ok hK) (by kernel_rfl) (by decide) (ae (aN hK G (k:=7) (by decide) (by decide) rfl ((V rfl)) rfl) (ae (aG ((V rfl)) (aK (j:=55) (by decide) rfl) (fun _ _=>rfl)) aj az) aJ) rfl rfl) cM rfl) rfl) (ar (aP cZ)) cj)
      (ai (bY (kO (bD ((V rfl)) (fun _=>rfl))) (ai (bG G (k:=4) (aU G rfl (b:=3) (Nat.le_of_ble_eq_true rfl) (r9 hK) (sw ok hK) (by kernel_rfl) (by decide) (ae (cw G rfl (b:=5) (Nat.le_of_ble_eq_true rfl) (lb hK) sh (lr ok hK) (aU G rfl (b:=4) (Nat.le_of_ble_eq_true rfl) (oj hK) (dc ok (om hK) (iD ok hK)) (by kernel_rfl) (by decide) (ae (cm (ae aI (ae aI (ae aI (ae aI (ae aI (ae aI aj ax) ax) ax) ax) ax) ax)) (ae cM aj ax) i0) rfl rfl) (ae (cw G rfl (b:=4) (Nat.le_of_ble_eq_true rfl) (dQ hK) hZ (dR ok hK) ((V rfl)) (ae aI aj ax) rfl rfl rfl) (ae (aN hK G (k:=7) (by decide) (by decide) rfl ((V rfl)) rfl) aj aJ) bE) rfl rfl rfl) aj bE) rfl rfl) rfl hnd (KL (k:=4) rfl) (by kernel_rfl))
      (ai (bG G (k:=5) (tz rfl rfl (by simp) (by decide) (dY (aK (j:=57) (by decide) rfl) ((V rfl)) (dY (aK (j:=7) (by decide) rfl) (aN hK G (k:=7) (by decide) (by decide) rfl ((V rfl)) rfl) (dY (aK (j:=58) (by decide) rfl) (iJ G (fQ hK) (io G rfl) (by kernel_rfl) (by decide) (ae (aG ((V rfl)) (aK (j:=55) (by decide) rfl) (fun _ _=>rfl)) aj az) rfl rfl) pq)))) rfl hnd (KL (k:=5) rfl) (by kernel_rfl))
      (ai (bM G (jn eV fq (aG ((V rfl)) (aK (j:=56) (by decide) rfl) (fun _ _=>rfl)) (ae ((V rfl)) aj aD) rfl rfl rfl) (by kernel_rfl))
      (ar (aP (dK G (aU G rfl (b:=8) (Nat.le_of_ble_eq_true rfl) (mw hK) (mz ok hK) (by kernel_rfl) (by decide) (ae ((V rfl)) (ae ((V rfl)) (ae (aG ((V rfl)) (aK (j:=52) (by decide) rfl) (fun _ _=>rfl)) aj az) aD) aD) rfl rfl) cM rfl)))))) cj)
      (ar (aP cZ)))))
theorem dI {c:Cx} (ok:c.Ok) (hK:Facts c.K):SFn c 1 (.ref 804) bu:=by
  have hf:FnAt c.K 804 "_law_next" (dP (dS 44 0)) (dB (dS 44 0)) (dC (dS 44 0)) .none (.ref 803):=fnH hK 14 rfl
  have hnd:(["hand", "many", "at"]:List Str).Nodup:=by decide
  unfold bu pN
  refine bp (b:=0) ok hf (names:=["hand", "many", "at"]) (aH (xs:=["hand", "many"]) (k:=2) (ds:=[]) (dvs:=[]) hnd rfl (by kernel_rfl) rfl (fun _ _=>.nil) (fun _ _ _ _ _ _ _ _ _ _ X=>BindsTo.of_eq (by kernel_rfl))) (by kernel_rfl) (by kernel_rfl) (by kernel_rfl) (aQ (by kernel_rfl)) (fun A₀ L outer G=>?_)
  have hl:=lok G (by kernel_rfl)
  have KL {k:Nat} {x:Str}:=KLx (k:=k) (x:=x) hl
  have V {k:Nat} {x:Str} {pos:Pos}:=Vx (k:=k) (x:=x) (pos:=pos) G hl
  exact ai (bG G (k:=2) (aG ((V rfl)) aI (fun _ _=>rfl)) rfl hnd (KL (k:=2) rfl) (by kernel_rfl))
      (ai (eU ((V rfl)) aI (dt ((V rfl)) aI) (by kernel_rfl))
      (ar (aP (dt (gA (bN G ((V rfl)) (fX G (eR hK) gD (by kernel_rfl) (by decide) (ae (aG ((V rfl)) aI (fun _ _=>rfl)) aj az) rfl rfl) rfl) (aG (aG ((V rfl)) aI (fun _ _=>rfl)) ((V rfl)) (fun _ _=>rfl)) (dt (dt (dt aI ((V rfl))) (dt (dt ((V rfl)) ((V rfl))) aI)) aI)) ((V rfl))))))
theorem qP {c:Cx} (ok:c.Ok) (hK:Facts c.K):SFn c 2 (.ref 839) c7:=by
  have hf:FnAt c.K 839 "_law_turned" (dP (dS 49 0)) (dB (dS 49 0)) (dC (dS 49 0)) .none (.ref 838):=fnH hK 19 rfl
  have hnd:(["w", "way", "hand"]:List Str).Nodup:=by decide
  unfold c7 nA
  refine bp (b:=1) ok hf (names:=["w", "way", "hand"]) (aH (xs:=["w", "way", "hand"]) (k:=3) (ds:=[]) (dvs:=[]) hnd rfl (by kernel_rfl) rfl (fun _ _=>.nil) (fun _ _ _ _ _ _ _ _ _ _ X=>BindsTo.of_eq (by kernel_rfl))) (by kernel_rfl) (by kernel_rfl) (by kernel_rfl) (aQ (by kernel_rfl)) (fun A₀ L outer G=>?_)
  have hl:=lok G (by kernel_rfl)
  have V {k:Nat} {x:Str} {pos:Pos}:=Vx (k:=k) (x:=x) (pos:=pos) G hl
  exact ai (bY (bN G ((V rfl)) aI rfl) (ai (aV hK G (k:=7) (by decide) (by decide) rfl (aG ((V rfl)) (aK (j:=51) (by decide) rfl) (fun _ _=>rfl)) (nV (aN hK G (k:=7) (by decide) (by decide) rfl (aG ((V rfl)) (aK (j:=51) (by decide) rfl) (fun _ _=>rfl)) rfl)) (by kernel_rfl))
      (ar uk)) cj)
      (ai (eU (aG ((V rfl)) (aK (j:=55) (by decide) rfl) (fun _ _=>rfl)) ((V rfl)) (aU G rfl (b:=1) (Nat.le_of_ble_eq_true rfl) (dE hK) (dI ok hK) (by kernel_rfl) (by decide) (ae ((V rfl)) (ae (aG (cm (ae aI (ae aI (ae aI aj ax) ax) ax)) ((V rfl)) (fun _ _=>rfl)) aj az) aD) rfl rfl) (by kernel_rfl))
      (ai (ii rfl (n:=2) (cq (ae (aG (aG ((V rfl)) (aK (j:=54) (by decide) rfl) (fun _ _=>rfl)) (aG (aG ((V rfl)) (aK (j:=55) (by decide) rfl) (fun _ _=>rfl)) aI (fun _ _=>rfl)) (fun _ _=>rfl)) (ae (aG (aG ((V rfl)) (aK (j:=55) (by decide) rfl) (fun _ _=>rfl)) aI (fun _ _=>rfl)) aj az) az)) (bh (AL hK G (k:=30) (by decide) (by decide) rfl (aG ((V rfl)) (aK (j:=52) (by decide) rfl) (fun _ _=>rfl))) (bh (AL hK G (k:=21) (by decide) (by decide) rfl (aG ((V rfl)) (aK (j:=52) (by decide) rfl) (fun _ _=>rfl))) dZ)) rfl rfl (by kernel_rfl) (by kernel_rfl))
      (ar (aV hK G (k:=0) (by decide) (by decide) rfl (aG ((V rfl)) (aK (j:=52) (by decide) rfl) (fun _ _=>rfl)) (iJ G (vM hK) (xC G) (by kernel_rfl) (by decide) (ae (aG (aG ((V rfl)) (aK (j:=0) (by decide) rfl) (fun _ _=>rfl)) (aG (aG ((V rfl)) (aK (j:=55) (by decide) rfl) (fun _ _=>rfl)) aI (fun _ _=>rfl)) (fun _ _=>rfl)) aj az) rfl rfl) (by kernel_rfl)))))
theorem nL {c:Cx} (ok:c.Ok) (hK:Facts c.K):SFn c 9 (.ref 860) cy:=by
  have hf:FnAt c.K 860 "_law_laid_right" (dP (dS 52 0)) (dB (dS 52 0)) (dC (dS 52 0)) .none (.ref 859):=fnH hK 22 rfl
  have hnd:(["w", "way", "hand", "state", "due", "source", "content", "other"]:List Str).Nodup:=by decide
  unfold cy jq
  refine bp (b:=8) ok hf (names:=["w", "way", "hand", "state", "due", "source", "content", "other"]) (aH (xs:=["w", "way", "hand"]) (k:=3) (ds:=[]) (dvs:=[]) hnd rfl (by kernel_rfl) rfl (fun _ _=>.nil) (fun _ _ _ _ _ _ _ _ _ _ X=>BindsTo.of_eq (by kernel_rfl))) (by kernel_rfl) (by kernel_rfl) (by kernel_rfl) (aQ (by kernel_rfl)) (fun A₀ L outer G=>?_)
  have hl:=lok G (by kernel_rfl)
  have KL {k:Nat} {x:Str}:=KLx (k:=k) (x:=x) hl
  have V {k:Nat} {x:Str} {pos:Pos}:=Vx (k:=k) (x:=x) (pos:=pos) G hl
  exact ai (bG G (k:=3) (aG (aG ((V rfl)) (aK (j:=56) (by decide) rfl) (fun _ _=>rfl)) (aU G rfl (b:=1) (Nat.le_of_ble_eq_true rfl) (dE hK) (dI ok hK) (by kernel_rfl) (by decide) (ae ((V rfl)) (ae (fX G (eR hK) gD (by kernel_rfl) (by decide) (ae (aG ((V rfl)) (aK (j:=56) (by decide) rfl) (fun _ _=>rfl)) aj az) rfl rfl) aj bE) aD) rfl rfl) (fun _ _=>rfl)) rfl hnd (KL (k:=3) rfl) (by kernel_rfl))
      (ai (bY (bN G ((V rfl)) aI rfl) (ai (eU ((V rfl)) (aK (j:=55) (by decide) rfl) (iJ G (fQ hK) (io G rfl) (by kernel_rfl) (by decide) (ae (aG ((V rfl)) (aK (j:=58) (by decide) rfl) (fun _ _=>rfl)) aj az) rfl rfl) (by kernel_rfl))
      (ai (bM G (cw G rfl (b:=4) (Nat.le_of_ble_eq_true rfl) (fR hK) oW (fT ok hK) (aG ((V rfl)) (aK (j:=52) (by decide) rfl) (fun _ _=>rfl)) (ae (aN hK G (k:=2) (by decide) (by decide) rfl (aG ((V rfl)) (aK (j:=57) (by decide) rfl) (fun _ _=>rfl)) rfl) aj aJ) rfl rfl rfl) (by kernel_rfl))
      (ar (aP cZ)))) cj)
      (ai (eW rfl (n:=2) (names:=["source", "content"]) (cq (ae (aG ((V rfl)) (aK (j:=52) (by decide) rfl) (fun _ _=>rfl)) (ae (aG ((V rfl)) (aK (j:=55) (by decide) rfl) (fun _ _=>rfl)) aj az) az)) (show STg _ _ _ [bindName _ "content",bindName _ "source"] from bh (bW G (k:=6) rfl hnd (KL (k:=6) rfl)) (bh (bW G (k:=5) rfl hnd (KL (k:=5) rfl)) dZ)) rfl (by kernel_rfl) (by kernel_rfl))
      (ai (bY (bN G ((V rfl)) aI rfl) (ai (bG G (k:=7) (aG (aG ((V rfl)) (aK (j:=56) (by decide) rfl) (fun _ _=>rfl)) (aU G rfl (b:=1) (Nat.le_of_ble_eq_true rfl) (dE hK) (dI ok hK) (by kernel_rfl) (by decide) (ae ((V rfl)) (ae (fX G (eR hK) gD (by kernel_rfl) (by decide) (ae (aG ((V rfl)) (aK (j:=56) (by decide) rfl) (fun _ _=>rfl)) aj az) rfl rfl) aj bE) aD) rfl rfl) (fun _ _=>rfl)) rfl hnd (KL (k:=7) rfl) (by kernel_rfl))
      (ar (eW rfl (n:=2) (names:=["source", "content"]) (cq (ae (aN hK G (k:=2) (by decide) (by decide) rfl (aG ((V rfl)) (aK (j:=57) (by decide) rfl) (fun _ _=>rfl)) rfl) (ae (aG ((V rfl)) (aK (j:=58) (by decide) rfl) (fun _ _=>rfl)) aj az) aJ)) (show STg _ _ _ [bindName _ "content",bindName _ "source"] from bh (bW G (k:=6) rfl hnd (KL (k:=6) rfl)) (bh (bW G (k:=5) rfl hnd (KL (k:=5) rfl)) dZ)) rfl (by kernel_rfl) (by kernel_rfl)))) cj)
      (ai (bG G (k:=4) (aU G rfl (b:=1) (Nat.le_of_ble_eq_true rfl) (pV hK) (qd ok hK) (by kernel_rfl) (by decide) (ae (aG ((V rfl)) (aK (j:=7) (by decide) rfl) (fun _ _=>rfl)) (ae ((V rfl)) aj aD) az) rfl rfl) rfl hnd (KL (k:=4) rfl) (by kernel_rfl))
      (ai (bY (bN G (aU G rfl (b:=8) (Nat.le_of_ble_eq_true rfl) (mw hK) (mz ok hK) (by kernel_rfl) (by decide) (ae ((V rfl)) (ae ((V rfl)) (ae ((V rfl)) aj aD) aD) aD) rfl rfl) ((V rfl)) rfl) (ar (aP cZ)) cj)
      (ai (bY (bN G ((V rfl)) cM rfl) (ar (eU ((V rfl)) (aK (j:=58) (by decide) rfl) (iJ G (fQ hK) (io G rfl) (by kernel_rfl) (by decide) (ae ((V rfl)) aj aD) rfl rfl) (by kernel_rfl))) cj)
      (ar (aP cZ))))))))
theorem uO {c:Cx} (ok:c.Ok) (hK:Facts c.K):SFn c 3 (.ref 172) fA:=by
  have hf:FnAt c.K 172 "integer" (dP (dS 14 0)) (dB (dS 14 0)) (dC (dS 14 0)) .none (.ref 171):=fnH hK 1 rfl
  have hnd:(["number"]:List Str).Nodup:=by decide
  unfold fA ri
  refine bp (b:=2) ok hf (names:=["number"]) (aH (xs:=["number"]) (k:=1) (ds:=[]) (dvs:=[]) hnd rfl (by kernel_rfl) rfl (fun _ _=>.nil) (fun _ _ _ _ _ _ _ _ _ _ X=>BindsTo.of_eq (by kernel_rfl))) (by kernel_rfl) (by kernel_rfl) (by kernel_rfl) (aQ (by kernel_rfl)) (fun A₀ L outer G=>?_)
  have hl:=lok G (by kernel_rfl)
  have V {k:Nat} {x:Str} {pos:Pos}:=Vx (k:=k) (x:=x) (pos:=pos) G hl
  exact ar (aP (aU G rfl (b:=2) (Nat.le_of_ble_eq_true rfl) (k9 hK) (dc ok (la hK) (fu ok hK)) (by kernel_rfl) (by decide) (ae (aK (j:=59) (by decide) rfl) (ae ((V rfl)) aj aD) ax) rfl rfl))
theorem ku {c:Cx} (ok:c.Ok) (hK:Facts c.K):SFn c 4 (.ref 603) ez:=by
  have hf:FnAt c.K 603 "BodyChanger.check_holds" (dP (dS 39 1)) (dB (dS 39 1)) (dC (dS 39 1)) .none (.ref 602):=fnH hK 44 rfl
  have hfi:FnAt c.K 36 "PostError.__init__" (dP (dS 3 0)) (dB (dS 3 0)) (dC (dS 3 0)) (.ref 29) (.ref 35):=fnH hK 0 rfl
  have hnd:(["self", "body", "thing"]:List Str).Nodup:=by decide
  unfold ez gE
  refine bp (b:=3) ok hf (names:=["self", "body", "thing"]) (aH (xs:=["self", "body", "thing"]) (k:=3) (ds:=[]) (dvs:=[]) hnd rfl (by kernel_rfl) rfl (fun _ _=>.nil) (fun _ _ _ _ _ _ _ _ _ _ X=>BindsTo.of_eq (by kernel_rfl))) (by kernel_rfl) (by kernel_rfl) (by kernel_rfl) (aQ (by kernel_rfl)) (fun A₀ L outer G=>?_)
  have hl:=lok G (by kernel_rfl)
  have V {k:Nat} {x:Str} {pos:Pos}:=Vx (k:=k) (x:=x) (pos:=pos) G hl
  exact ar (bY (fw (dN (bD (aN hK G (k:=7) (by decide) (by decide) rfl ((V rfl)) rfl) (fun _=>rfl)) (dN (bD (aU G rfl (b:=3) (Nat.le_of_ble_eq_true rfl) (gG hK) (gJ ok hK) (by kernel_rfl) (by decide) (ae ((V rfl)) aj aD) rfl rfl) (fun _=>rfl)) kP))) (ar (fJ G rfl (Nat.le_of_ble_eq_true rfl) hK.ex (dj hK) hfi (fun _ _ _ _ _ _ _ _ _ _ _ X=>binds_K X rfl (dvH hK 0 rfl) rfl rfl rfl) rfl rfl rfl (aQ (by kernel_rfl)) (by kernel_rfl) (by kernel_rfl) (by kernel_rfl) (by decide) (k:=0) (by decide) rfl rfl rfl)) cj)
theorem mV {c:Cx} (ok:c.Ok) (hK:Facts c.K):SFn c 2 (.ref 596) fB:=by
  have hf:FnAt c.K 596 "BodyChanger.is_elder" (dP (dS 39 0)) (dB (dS 39 0)) (dC (dS 39 0)) .none (.ref 595):=fnH hK 43 rfl
  have hnd:(["self", "body"]:List Str).Nodup:=by decide
  unfold fB iQ
  refine bp (b:=1) ok hf (names:=["self", "body"]) (aH (xs:=["self", "body"]) (k:=2) (ds:=[]) (dvs:=[]) hnd rfl (by kernel_rfl) rfl (fun _ _=>.nil) (fun _ _ _ _ _ _ _ _ _ _ X=>BindsTo.of_eq (by kernel_rfl))) (by kernel_rfl) (by kernel_rfl) (by kernel_rfl) (aQ (by kernel_rfl)) (fun A₀ L outer G=>?_)
  have hl:=lok G (by kernel_rfl)
  have V {k:Nat} {x:Str} {pos:Pos}:=Vx (k:=k) (x:=x) (pos:=pos) G hl
  exact ar (aP (fp (jD (nV (aN hK G (k:=7) (by decide) (by decide) rfl ((V rfl)) rfl)) (je (dK G (yc hK G rfl ((V rfl)) rfl) (oU G rfl (b:=1) (Nat.le_of_ble_eq_true rfl) hK.pr (fx ok hK) ((V rfl)) rfl) rfl)))))
theorem lZ {c:Cx} (ok:c.Ok) (hK:Facts c.K):SFn c 5 (.ref 617) fj:=by
  have hf:FnAt c.K 617 "BodyChanger.put_items" (dP (dS 39 3)) (dB (dS 39 3)) (dC (dS 39 3)) .none (.ref 616):=fnH hK 46 rfl
  have hnd:(["self", "row", "at", "things", "thing", "step"]:List Str).Nodup:=by decide
  unfold fj iy
  refine bp (b:=4) ok hf (names:=["self", "row", "at", "things", "thing", "step"]) (aH (xs:=["self", "row", "at", "things"]) (k:=4) (ds:=[]) (dvs:=[]) hnd rfl (by kernel_rfl) rfl (fun _ _=>.nil) (fun _ _ _ _ _ _ _ _ _ _ X=>BindsTo.of_eq (by kernel_rfl))) (by kernel_rfl) (by kernel_rfl) (by kernel_rfl) (aQ (by kernel_rfl)) (fun A₀ L outer G=>?_)
  have hl:=lok G (by kernel_rfl)
  have KL {k:Nat} {x:Str}:=KLx (k:=k) (x:=x) hl
  have V {k:Nat} {x:Str} {pos:Pos}:=Vx (k:=k) (x:=x) (pos:=pos) G hl
  exact ai (iM G rfl rfl (kx:=4) rfl hnd (KL (k:=4) rfl) ((V rfl)) (ar (bM G (cw G rfl (b:=4) (Nat.le_of_ble_eq_true rfl) (kt hK) pY (ku ok hK) ((V rfl)) (ae ((V rfl)) (ae ((V rfl)) aj aD) aD) rfl rfl rfl) (by kernel_rfl))) (fun _=>rfl))
      (ar (pn G rfl rfl (jP hK) (k1:=5) (k2:=4) rfl rfl hnd (KL (k:=5) rfl) (KL (k:=4) rfl) (by kernel_rfl) (by decide) ((V rfl)) (ai (bY (bD (cw G rfl (b:=2) (Nat.le_of_ble_eq_true rfl) (mS hK) tK (mV ok hK) ((V rfl)) (ae ((V rfl)) aj aD) rfl rfl rfl) (fun _=>rfl)) (ar (bM G (jn eV fq (aN hK G (k:=45) (by decide) (by decide) rfl ((V rfl)) rfl) (ae (cq (ae (aK (j:=66) (by decide) rfl) (ae ((V rfl)) (ae (dt ((V rfl)) ((V rfl))) (ae (aG (aN hK G (k:=6) (by decide) (by decide) rfl ((V rfl)) rfl) (dt ((V rfl)) ((V rfl))) (fun _ _=>rfl)) aj az) lm) aD) ax)) aj lp) rfl rfl rfl) (by kernel_rfl))) cj)
      (ar (eU (aN hK G (k:=6) (by decide) (by decide) rfl ((V rfl)) rfl) (dt ((V rfl)) ((V rfl))) ((V rfl)) (by kernel_rfl)))) rfl (fun _=>rfl)))
theorem mW {c:Cx} (ok:c.Ok) (hK:Facts c.K):SFn c 6 (.ref 610) bf:=by
  have hf:FnAt c.K 610 "BodyChanger.put_item" (dP (dS 39 2)) (dB (dS 39 2)) (dC (dS 39 2)) .none (.ref 609):=fnH hK 45 rfl
  have hnd:(["self", "row", "at", "thing"]:List Str).Nodup:=by decide
  unfold bf iR
  refine bp (b:=5) ok hf (names:=["self", "row", "at", "thing"]) (aH (xs:=["self", "row", "at", "thing"]) (k:=4) (ds:=[]) (dvs:=[]) hnd rfl (by kernel_rfl) rfl (fun _ _=>.nil) (fun _ _ _ _ _ _ _ _ _ _ X=>BindsTo.of_eq (by kernel_rfl))) (by kernel_rfl) (by kernel_rfl) (by kernel_rfl) (aQ (by kernel_rfl)) (fun A₀ L outer G=>?_)
  have hl:=lok G (by kernel_rfl)
  have V {k:Nat} {x:Str} {pos:Pos}:=Vx (k:=k) (x:=x) (pos:=pos) G hl
  exact ar (bM G (cw G rfl (b:=5) (Nat.le_of_ble_eq_true rfl) (lX hK) sj (lZ ok hK) ((V rfl)) (ae ((V rfl)) (ae ((V rfl)) (ae (cm (ae ((V rfl)) aj aD)) aj i0) aD) aD) rfl rfl rfl) (by kernel_rfl))
theorem nM {c:Cx} (ok:c.Ok) (hK:Facts c.K):SFn c 7 (.ref 867) dh:=by
  have hf:FnAt c.K 867 "_law_held_right" (dP (dS 53 0)) (dB (dS 53 0)) (dC (dS 53 0)) .none (.ref 866):=fnH hK 23 rfl
  have hnd:(["w", "hand", "row", "e", "due", "state", "memory", "is_far", "is_new", "was", "before", "told"]:List Str).Nodup:=by decide
  unfold dh jt
  refine bp (b:=6) ok hf (names:=["w", "hand", "row", "e", "due", "state", "memory", "is_far", "is_new", "was", "before", "told"]) (aH (xs:=["w", "hand"]) (k:=2) (ds:=[]) (dvs:=[]) hnd rfl (by kernel_rfl) rfl (fun _ _=>.nil) (fun _ _ _ _ _ _ _ _ _ _ X=>BindsTo.of_eq (by kernel_rfl))) (by kernel_rfl) (by kernel_rfl) (by kernel_rfl) (aQ (by kernel_rfl)) (fun A₀ L outer G=>?_)
  have hl:=lok G (by kernel_rfl)
  have KL {k:Nat} {x:Str}:=KLx (k:=k) (x:=x) hl
  have V {k:Nat} {x:Str} {pos:Pos}:=Vx (k:=k) (x:=x) (pos:=pos) G hl
  have HV w {k:Nat} {x:Str} {pos:Pos}:=Vx (k:=k) (x:=x) (pos:=pos) (fs G w) hl
  exact ai (eW rfl (n:=2) (names:=["state", "memory"]) (cq (ae (aG (aG ((V rfl)) (aK (j:=56) (by decide) rfl) (fun _ _=>rfl)) (aU G rfl (b:=1) (Nat.le_of_ble_eq_true rfl) (dE hK) (dI ok hK) (by kernel_rfl) (by decide) (ae ((V rfl)) (ae (fX G (eR hK) gD (by kernel_rfl) (by decide) (ae (aG ((V rfl)) (aK (j:=56) (by decide) rfl) (fun _ _=>rfl)) aj az) rfl rfl) aj bE) aD) rfl rfl) (fun _ _=>rfl)) (ae (aG ((V rfl)) (aK (j:=51) (by decide) rfl) (fun _ _=>rfl)) aj az) az)) (show STg _ _ _ [bindName _ "memory",bindName _ "state"] from bh (bW G (k:=6) rfl hnd (KL (k:=6) rfl)) (bh (bW G (k:=5) rfl hnd (KL (k:=5) rfl)) dZ)) rfl (by kernel_rfl) (by kernel_rfl))
      (ai (eW rfl (n:=3) (names:=["is_far", "is_new", "was"]) (cq (ae (dK G (aU G rfl (b:=1) (Nat.le_of_ble_eq_true rfl) (dE hK) (dI ok hK) (by kernel_rfl) (by decide) (ae ((V rfl)) (ae aI aj ax) aD) rfl rfl) aI rfl) (ae (dK G (aU G rfl (b:=1) (Nat.le_of_ble_eq_true rfl) (dE hK) (dI ok hK) (by kernel_rfl) (by decide) (ae ((V rfl)) (ae aI aj ax) aD) rfl rfl) aI rfl) (ae (aN hK G (k:=7) (by decide) (by decide) rfl (aG ((V rfl)) (aK (j:=51) (by decide) rfl) (fun _ _=>rfl)) rfl) aj aJ) mU) mU)) (show STg _ _ _ [bindName _ "was",bindName _ "is_new",bindName _ "is_far"] from bh (bW G (k:=9) rfl hnd (KL (k:=9) rfl)) (bh (bW G (k:=8) rfl hnd (KL (k:=8) rfl)) (bh (bW G (k:=7) rfl hnd (KL (k:=7) rfl)) dZ))) rfl (by kernel_rfl) (by kernel_rfl))
      (ai (bG G (k:=2) (aG (aG (aG ((V rfl)) (aK (j:=53) (by decide) rfl) (fun _ _=>rfl)) (iJ G (uK hK) Ci (by kernel_rfl) (by decide) (ae ((V rfl)) aj aD) rfl rfl) (fun _ _=>rfl)) aI (fun _ _=>rfl)) rfl hnd (KL (k:=2) rfl) (by kernel_rfl))
      (ai (eW rfl (n:=2) (names:=["before", "told"]) (cq (ae (aG (aN hK G (k:=6) (by decide) (by decide) rfl ((V rfl)) rfl) aI (fun _ _=>rfl)) (ae cM aj ax) az)) (show STg _ _ _ [bindName _ "told",bindName _ "before"] from bh (bW G (k:=11) rfl hnd (KL (k:=11) rfl)) (bh (bW G (k:=10) rfl hnd (KL (k:=10) rfl)) dZ)) rfl (by kernel_rfl) (by kernel_rfl))
      (ai (aV hK G (k:=7) (by decide) (by decide) rfl ((V rfl)) ((V rfl)) (by kernel_rfl))
      (ai (uC G rfl rfl hK.ex (dj hK) (ke:=3) rfl hnd (KL (k:=3) rfl) (by kernel_rfl) (by decide) (ar (bY (bD ((V rfl)) (fun _=>rfl)) (ar (bM G (cw G rfl (b:=5) (Nat.le_of_ble_eq_true rfl) (ed hK) iZ (iz ok hK) ((V rfl)) (ae (cm (ae (aU G rfl (b:=3) (Nat.le_of_ble_eq_true rfl) (uI hK) (uO ok hK) (by kernel_rfl) (by decide) (ae aI aj ax) rfl rfl) (ae (aG ((V rfl)) (aK (j:=57) (by decide) rfl) (fun _ _=>rfl)) aj az) bE)) aj i0) rfl rfl rfl) (by kernel_rfl))) (ar (bM G (cw G rfl (b:=6) (Nat.le_of_ble_eq_true rfl) (mT hK) tL (mW ok hK) ((V rfl)) (ae ((V rfl)) (ae aI (ae (aG ((V rfl)) (aK (j:=57) (by decide) rfl) (fun _ _=>rfl)) aj az) ax) aD) rfl rfl rfl) (by kernel_rfl))))) (fun w=>ar (bG (fs G w) (k:=11) (rT (fs G w) hK.ex rfl ((HV w rfl)) rfl) rfl hnd (KL (k:=11) rfl) (by kernel_rfl))))
      (ai (aV hK G (k:=7) (by decide) (by decide) rfl ((V rfl)) ((V rfl)) (by kernel_rfl))
      (ai (bG G (k:=4) (gA (fw (dN (bD ((V rfl)) (fun _=>rfl)) (dN (kO (bD (aG ((V rfl)) (aK (j:=7) (by decide) rfl) (fun _ _=>rfl)) (fun _=>rfl))) kP))) (mD (j:=0) (by decide) rfl) cM) rfl hnd (KL (k:=4) rfl) (by kernel_rfl))
      (ar (aP (fp (jD (dK G ((V rfl)) ((V rfl)) rfl) (je (fp (xA (dK G ((V rfl)) cM rfl) (je (dK G (aG (aN hK G (k:=6) (by decide) (by decide) rfl ((V rfl)) rfl) aI (fun _ _=>rfl)) ((V rfl)) rfl))))))))))))))))
theorem qf {c:Cx} (ok:c.Ok) (hK:Facts c.K):SFn c 1 (.ref 497) eO:=by
  have hf:FnAt c.K 497 "VmSave.__init__" (dP (dS 37 0)) (dB (dS 37 0)) (dC (dS 37 0)) .none (.ref 496):=fnH hK 32 rfl
  have hnd:(["self", "number", "many", "used", "note"]:List Str).Nodup:=by decide
  unfold eO ms
  refine bp (b:=0) ok hf (names:=["self", "number", "many", "used", "note"]) (aH (xs:=["self", "number", "many", "used", "note"]) (k:=5) (ds:=[]) (dvs:=[]) hnd rfl (by kernel_rfl) rfl (fun _ _=>.nil) (fun _ _ _ _ _ _ _ _ _ _ X=>BindsTo.of_eq (by kernel_rfl))) (by kernel_rfl) (by kernel_rfl) (by kernel_rfl) (aQ (by kernel_rfl)) (fun A₀ L outer G=>?_)
  have hl:=lok G (by kernel_rfl)
  have V {k:Nat} {x:Str} {pos:Pos}:=Vx (k:=k) (x:=x) (pos:=pos) G hl
  exact ai (aV hK G (k:=5) (by decide) (by decide) rfl ((V rfl)) ((V rfl)) (by kernel_rfl))
      (ai (aV hK G (k:=13) (by decide) (by decide) rfl ((V rfl)) ((V rfl)) (by kernel_rfl))
      (ai (aV hK G (k:=42) (by decide) (by decide) rfl ((V rfl)) ((V rfl)) (by kernel_rfl))
      (ar (aV hK G (k:=43) (by decide) (by decide) rfl ((V rfl)) ((V rfl)) (by kernel_rfl)))))
theorem qg {c:Cx} (ok:c.Ok) (hK:Facts c.K):SFn c 3 (.ref 700) eP:=by
  have hf:FnAt c.K 700 "Memory.save" (dP (dS 40 0)) (dB (dS 40 0)) (dC (dS 40 0)) (.ref 693) (.ref 699):=fnH hK 48 rfl
  have hfi:FnAt c.K 36 "PostError.__init__" (dP (dS 3 0)) (dB (dS 3 0)) (dC (dS 3 0)) (.ref 29) (.ref 35):=fnH hK 0 rfl
  have hnd:(["self", "note"]:List Str).Nodup:=by decide
  unfold eP mv
  refine bp (b:=2) ok hf (names:=["self", "note"]) (aH (xs:=["self", "note"]) (k:=1) (ds:=[.none]) (dvs:=[.none]) hnd rfl (by kernel_rfl) rfl (fun _ _=>.cons rfl (.nil)) (fun _ _ _ _ _ _ _ _ _ _ X=>binds_K X rfl (dvH hK 7 rfl) rfl rfl (by kernel_rfl))) (by kernel_rfl) (by kernel_rfl) (by kernel_rfl) (aQ (by kernel_rfl)) (fun A₀ L outer G=>?_)
  have hl:=lok G (by kernel_rfl)
  have V {k:Nat} {x:Str} {pos:Pos}:=Vx (k:=k) (x:=x) (pos:=pos) G hl
  exact ai (bY (bN G (oU G rfl (b:=1) (Nat.le_of_ble_eq_true rfl) hK.pr (fx ok hK) ((V rfl)) rfl) (aN hK G (k:=34) (by decide) (by decide) rfl (aN hK G (k:=44) (by decide) (by decide) rfl ((V rfl)) rfl) rfl) rfl) (ar (fJ G rfl (Nat.le_of_ble_eq_true rfl) hK.ex (dj hK) hfi (fun _ _ _ _ _ _ _ _ _ _ _ X=>binds_K X rfl (dvH hK 0 rfl) rfl rfl rfl) rfl rfl rfl (aQ (by kernel_rfl)) (by kernel_rfl) (by kernel_rfl) (by kernel_rfl) (by decide) (k:=5) (by decide) rfl rfl rfl)) cj)
      (ai (aV hK G (k:=50) (by decide) (by decide) rfl ((V rfl)) (dt (aN hK G (k:=50) (by decide) (by decide) rfl ((V rfl)) rfl) aI) (by kernel_rfl))
      (ai (bM G (jn eV fq (aN hK G (k:=34) (by decide) (by decide) rfl ((V rfl)) rfl) (ae (aU G rfl (b:=2) (Nat.le_of_ble_eq_true rfl) (wJ hK) (dc ok (wM hK) (qf ok hK)) (by kernel_rfl) (by decide) (ae (aN hK G (k:=50) (by decide) (by decide) rfl ((V rfl)) rfl) (ae (fX G (eR hK) gD (by kernel_rfl) (by decide) (ae (aN hK G (k:=45) (by decide) (by decide) rfl ((V rfl)) rfl) aj aJ) rfl rfl) (ae (aN hK G (k:=42) (by decide) (by decide) rfl ((V rfl)) rfl) (ae ((V rfl)) aj aD) aJ) bE) aJ) rfl rfl) aj bE) rfl rfl rfl) (by kernel_rfl))
      (ar (aP (aN hK G (k:=50) (by decide) (by decide) rfl ((V rfl)) rfl)))))
theorem jw {c:Cx} (ok:c.Ok) (hK:Facts c.K):SFn c 1 (.ref 707) cD:=by
  have hf:FnAt c.K 707 "Memory.place_of_save" (dP (dS 40 1)) (dB (dS 40 1)) (dC (dS 40 1)) .none (.ref 706):=fnH hK 49 rfl
  have hnd:(["self", "number", "place", "saved"]:List Str).Nodup:=by decide
  unfold cD d9
  refine bp (b:=0) ok hf (names:=["self", "number", "place", "saved"]) (aH (xs:=["self", "number"]) (k:=2) (ds:=[]) (dvs:=[]) hnd rfl (by kernel_rfl) rfl (fun _ _=>.nil) (fun _ _ _ _ _ _ _ _ _ _ X=>BindsTo.of_eq (by kernel_rfl))) (by kernel_rfl) (by kernel_rfl) (by kernel_rfl) (aQ (by kernel_rfl)) (fun A₀ L outer G=>?_)
  have hl:=lok G (by kernel_rfl)
  have KL {k:Nat} {x:Str}:=KLx (k:=k) (x:=x) hl
  have V {k:Nat} {x:Str} {pos:Pos}:=Vx (k:=k) (x:=x) (pos:=pos) G hl
  exact ai (pn G rfl rfl (jP hK) (k1:=2) (k2:=3) rfl rfl hnd (KL (k:=2) rfl) (KL (k:=3) rfl) (by kernel_rfl) (by decide) (aN hK G (k:=34) (by decide) (by decide) rfl ((V rfl)) rfl) (ar (bY (bN G (aN hK G (k:=5) (by decide) (by decide) rfl ((V rfl)) rfl) ((V rfl)) rfl) (ar (aP ((V rfl)))) cj)) rfl (fun _=>rfl))
      (ar (aP cM))
theorem gK {c:Cx} (ok:c.Ok) (hK:Facts c.K):SFn c 3 (.ref 728) cK:=by
  have hf:FnAt c.K 728 "Memory.sure_place" (dP (dS 40 4)) (dB (dS 40 4)) (dC (dS 40 4)) .none (.ref 727):=fnH hK 50 rfl
  have hfi:FnAt c.K 36 "PostError.__init__" (dP (dS 3 0)) (dB (dS 3 0)) (dC (dS 3 0)) (.ref 29) (.ref 35):=fnH hK 0 rfl
  have hnd:(["self", "number", "place"]:List Str).Nodup:=by decide
  unfold cK hH
  refine bp (b:=2) ok hf (names:=["self", "number", "place"]) (aH (xs:=["self", "number"]) (k:=2) (ds:=[]) (dvs:=[]) hnd rfl (by kernel_rfl) rfl (fun _ _=>.nil) (fun _ _ _ _ _ _ _ _ _ _ X=>BindsTo.of_eq (by kernel_rfl))) (by kernel_rfl) (by kernel_rfl) (by kernel_rfl) (aQ (by kernel_rfl)) (fun A₀ L outer G=>?_)
  have hl:=lok G (by kernel_rfl)
  have KL {k:Nat} {x:Str}:=KLx (k:=k) (x:=x) hl
  have V {k:Nat} {x:Str} {pos:Pos}:=Vx (k:=k) (x:=x) (pos:=pos) G hl
  exact ai (bG G (k:=2) (cw G rfl (b:=1) (Nat.le_of_ble_eq_true rfl) (jv hK) on (jw ok hK) ((V rfl)) (ae ((V rfl)) aj aD) rfl rfl rfl) rfl hnd (KL (k:=2) rfl) (by kernel_rfl))
      (ai (bY (bN G ((V rfl)) cM rfl) (ar (fJ G rfl (Nat.le_of_ble_eq_true rfl) hK.ex (dj hK) hfi (fun _ _ _ _ _ _ _ _ _ _ _ X=>binds_K X rfl (dvH hK 0 rfl) rfl rfl rfl) rfl rfl rfl (aQ (by kernel_rfl)) (by kernel_rfl) (by kernel_rfl) (by kernel_rfl) (by decide) (k:=6) (by decide) rfl rfl rfl)) cj)
      (ar (aP ((V rfl)))))
theorem lu {c:Cx} (ok:c.Ok) (hK:Facts c.K):SFn c 4 (.ref 735) b9:=by
  have hf:FnAt c.K 735 "Memory.newer_than" (dP (dS 40 5)) (dB (dS 40 5)) (dC (dS 40 5)) .none (.ref 734):=fnH hK 51 rfl
  have hnd:(["self", "number", "thing", "body", "place", "cost", "is_global", "level"]:List Str).Nodup:=by decide
  unfold b9 hJ
  refine bp (b:=3) ok hf (names:=["self", "number", "thing", "body", "place", "cost", "is_global", "level"]) (aH (xs:=["self", "number", "thing"]) (k:=3) (ds:=[]) (dvs:=[]) hnd rfl (by kernel_rfl) rfl (fun _ _=>.nil) (fun _ _ _ _ _ _ _ _ _ _ X=>BindsTo.of_eq (by kernel_rfl))) (by kernel_rfl) (by kernel_rfl) (by kernel_rfl) (aQ (by kernel_rfl)) (fun A₀ L outer G=>?_)
  have hl:=lok G (by kernel_rfl)
  have KL {k:Nat} {x:Str}:=KLx (k:=k) (x:=x) hl
  have V {k:Nat} {x:Str} {pos:Pos}:=Vx (k:=k) (x:=x) (pos:=pos) G hl
  exact ai (eW rfl (n:=2) (names:=["body", "place"]) (cq (ae (aU G rfl (b:=2) (Nat.le_of_ble_eq_true rfl) (pS hK) (qc ok hK) (by kernel_rfl) (by decide) (ae ((V rfl)) aj aD) rfl rfl) (ae (cw G rfl (b:=3) (Nat.le_of_ble_eq_true rfl) (gH hK) my (gK ok hK) ((V rfl)) (ae ((V rfl)) aj aD) rfl rfl rfl) aj bE) bE)) (show STg _ _ _ [bindName _ "place",bindName _ "body"] from bh (bW G (k:=4) rfl hnd (KL (k:=4) rfl)) (bh (bW G (k:=3) rfl hnd (KL (k:=3) rfl)) dZ)) rfl (by kernel_rfl) (by kernel_rfl))
      (ai (bY (bN G (aN hK G (k:=1) (by decide) (by decide) rfl ((V rfl)) rfl) (aK (j:=63) (by decide) rfl) rfl) (ai (ii rfl (n:=3) (jn xG (AH G) (aN hK G (k:=46) (by decide) (by decide) rfl ((V rfl)) rfl) (ae (aN hK G (k:=5) (by decide) (by decide) rfl (aN hK G (k:=2) (by decide) (by decide) rfl ((V rfl)) rfl) rfl) (ae (cq (ae aI (ae cZ (ae aI aj ax) ax) ax)) aj lp) aJ) rfl rfl rfl) (bh (eB G (k:=5) rfl hnd (KL (k:=5) rfl)) (bh (eB G (k:=6) rfl hnd (KL (k:=6) rfl)) (bh (eB G (k:=7) rfl hnd (KL (k:=7) rfl)) dZ))) rfl rfl (by kernel_rfl) (by kernel_rfl))
      (ar (aP (fp (jD (nV ((V rfl))) (je (dK G ((V rfl)) ((V rfl)) rfl))))))) cj)
      (ar (aP (fp (jD (dK G ((V rfl)) cM rfl) (jD (nV (aN hK G (k:=7) (by decide) (by decide) rfl ((V rfl)) rfl)) (je (dK G (yc hK G rfl ((V rfl)) rfl) ((V rfl)) rfl))))))))
theorem mX {c:Cx} (ok:c.Ok) (hK:Facts c.K):SFn c 5 (.ref 797) bP:=by
  have hf:FnAt c.K 797 "memory_put_back" (dP (dS 42 0)) (dB (dS 42 0)) (dC (dS 42 0)) .none (.ref 796):=fnH hK 13 rfl
  have hnd:(["change", "word", "body", "key", "entries", "keys"]:List Str).Nodup:=by decide
  unfold bP iS
  refine bp (b:=4) ok hf (names:=["change", "word", "body", "key", "entries", "keys"]) (aH (xs:=["change"]) (k:=1) (ds:=[]) (dvs:=[]) hnd rfl (by kernel_rfl) rfl (fun _ _=>.nil) (fun _ _ _ _ _ _ _ _ _ _ X=>BindsTo.of_eq (by kernel_rfl))) (by kernel_rfl) (by kernel_rfl) (by kernel_rfl) (aQ (by kernel_rfl)) (fun A₀ L outer G=>?_)
  have hl:=lok G (by kernel_rfl)
  have KL {k:Nat} {x:Str}:=KLx (k:=k) (x:=x) hl
  have V {k:Nat} {x:Str} {pos:Pos}:=Vx (k:=k) (x:=x) (pos:=pos) G hl
  exact ai (eW rfl (n:=2) (names:=["word", "body"]) (cq (ae (aG ((V rfl)) aI (fun _ _=>rfl)) (ae (aG ((V rfl)) aI (fun _ _=>rfl)) aj az) az)) (show STg _ _ _ [bindName _ "body",bindName _ "word"] from bh (bW G (k:=2) rfl hnd (KL (k:=2) rfl)) (bh (bW G (k:=1) rfl hnd (KL (k:=1) rfl)) dZ)) rfl (by kernel_rfl) (by kernel_rfl))
      (ar (bY (bN G ((V rfl)) (aK (j:=66) (by decide) rfl) rfl) (ar (eU (aN hK G (k:=6) (by decide) (by decide) rfl ((V rfl)) rfl) (aG ((V rfl)) aI (fun _ _=>rfl)) (aG ((V rfl)) aI (fun _ _=>rfl)) (by kernel_rfl))) (ar (bY (bN G ((V rfl)) (aK (j:=9) (by decide) rfl) rfl) fK (ar (bY (bN G ((V rfl)) (aK (j:=4) (by decide) rfl) rfl) fK (ar (bY (bN G ((V rfl)) (aK (j:=67) (by decide) rfl) rfl) (ar (bM G (cw G rfl (b:=4) (Nat.le_of_ble_eq_true rfl) (fR hK) oW (fT ok hK) ((V rfl)) (ae (aG ((V rfl)) aI (fun _ _=>rfl)) aj az) rfl rfl rfl) (by kernel_rfl))) (ar (bY (bN G ((V rfl)) (aK (j:=68) (by decide) rfl) rfl) fK (ar (bY (bN G (aG ((V rfl)) aI (fun _ _=>rfl)) cM rfl) fK fK))))))))))))
theorem jR {c:Cx} (ok:c.Ok) (hK:Facts c.K):SFn c 1 (.ref 749) cR:=by
  have hf:FnAt c.K 749 "Memory.settle_costs" (dP (dS 40 7)) (dB (dS 40 7)) (dC (dS 40 7)) .none (.ref 748):=fnH hK 53 rfl
  have hnd:(["self", "undone", "change", "cost", "is_global", "level"]:List Str).Nodup:=by decide
  unfold cR fZ
  refine bp (b:=0) ok hf (names:=["self", "undone", "change", "cost", "is_global", "level"]) (aH (xs:=["self", "undone"]) (k:=2) (ds:=[]) (dvs:=[]) hnd rfl (by kernel_rfl) rfl (fun _ _=>.nil) (fun _ _ _ _ _ _ _ _ _ _ X=>BindsTo.of_eq (by kernel_rfl))) (by kernel_rfl) (by kernel_rfl) (by kernel_rfl) (aQ (by kernel_rfl)) (fun A₀ L outer G=>?_)
  have hl:=lok G (by kernel_rfl)
  have KL {k:Nat} {x:Str}:=KLx (k:=k) (x:=x) hl
  have V {k:Nat} {x:Str} {pos:Pos}:=Vx (k:=k) (x:=x) (pos:=pos) G hl
  exact ar (iM G rfl rfl (kx:=2) rfl hnd (KL (k:=2) rfl) ((V rfl)) (ar (bY (fw (dN (bN G (aG ((V rfl)) aI (fun _ _=>rfl)) (aK (j:=9) (by decide) rfl) rfl) (dN fK kP))) fK cj)) (fun _=>rfl))
theorem nN {c:Cx} (ok:c.Ok) (hK:Facts c.K):SFn c 6 (.ref 742) cS:=by
  have hf:FnAt c.K 742 "Memory.restore" (dP (dS 40 6)) (dB (dS 40 6)) (dC (dS 40 6)) .none (.ref 741):=fnH hK 52 rfl
  have hnd:(["self", "number", "place", "saved", "undone", "body", "cost", "is_global", "level"]:List Str).Nodup:=by decide
  unfold cS gp
  refine bp (b:=5) ok hf (names:=["self", "number", "place", "saved", "undone", "body", "cost", "is_global", "level"]) (aH (xs:=["self", "number"]) (k:=2) (ds:=[]) (dvs:=[]) hnd rfl (by kernel_rfl) rfl (fun _ _=>.nil) (fun _ _ _ _ _ _ _ _ _ _ X=>BindsTo.of_eq (by kernel_rfl))) (by kernel_rfl) (by kernel_rfl) (by kernel_rfl) (aQ (by kernel_rfl)) (fun A₀ L outer G=>?_)
  have hl:=lok G (by kernel_rfl)
  have KL {k:Nat} {x:Str}:=KLx (k:=k) (x:=x) hl
  have V {k:Nat} {x:Str} {pos:Pos}:=Vx (k:=k) (x:=x) (pos:=pos) G hl
  exact ai (bG G (k:=2) (cw G rfl (b:=3) (Nat.le_of_ble_eq_true rfl) (gH hK) my (gK ok hK) ((V rfl)) (ae ((V rfl)) aj aD) rfl rfl rfl) rfl hnd (KL (k:=2) rfl) (by kernel_rfl))
      (ai (bG G (k:=3) (aG (aN hK G (k:=34) (by decide) (by decide) rfl ((V rfl)) rfl) ((V rfl)) (fun _ _=>rfl)) rfl hnd (KL (k:=3) rfl) (by kernel_rfl))
      (ai (bG G (k:=4) (cm aj) rfl hnd (KL (k:=4) rfl) (by kernel_rfl))
      (ai (xN G rfl (bN G (fX G (eR hK) gD (by kernel_rfl) (by decide) (ae (aN hK G (k:=45) (by decide) (by decide) rfl ((V rfl)) rfl) aj aJ) rfl rfl) (aN hK G (k:=13) (by decide) (by decide) rfl ((V rfl)) rfl) rfl) (ai (bM G (jn eV fq ((V rfl)) (ae (xE xF AG (aN hK G (k:=45) (by decide) (by decide) rfl ((V rfl)) rfl) rfl) aj bE) rfl rfl rfl) (by kernel_rfl))
      (ar (bM G (aU G rfl (b:=5) (Nat.le_of_ble_eq_true rfl) (mQ hK) (mX ok hK) (by kernel_rfl) (by decide) (ae (aG ((V rfl)) (Bo aI) (fun _ _=>rfl)) aj az) rfl rfl) (by kernel_rfl)))))
      (ai (aV hK G (k:=34) (by decide) (by decide) rfl ((V rfl)) (vB (aN hK G (k:=34) (by decide) (by decide) rfl ((V rfl)) rfl) ((V rfl))) (by kernel_rfl))
      (ai (aV hK G (k:=47) (by decide) (by decide) rfl ((V rfl)) (cm aj) (by kernel_rfl))
      (ai (iM G rfl rfl (kx:=5) rfl hnd (KL (k:=5) rfl) (iJ G (fQ hK) (io G rfl) (by kernel_rfl) (by decide) (ae (aN hK G (k:=46) (by decide) (by decide) rfl ((V rfl)) rfl) aj aJ) rfl rfl) (ai (ii rfl (n:=3) (aG (aN hK G (k:=46) (by decide) (by decide) rfl ((V rfl)) rfl) ((V rfl)) (fun _ _=>rfl)) (bh (eB G (k:=6) rfl hnd (KL (k:=6) rfl)) (bh (eB G (k:=7) rfl hnd (KL (k:=7) rfl)) (bh (eB G (k:=8) rfl hnd (KL (k:=8) rfl)) dZ))) rfl rfl (by kernel_rfl) (by kernel_rfl))
      (ar (bY (fw (dN (kO (bD ((V rfl)) (fun _=>rfl))) (dN (bN G ((V rfl)) ((V rfl)) rfl) kP))) (ai (bM G (jn zo Bl (aN hK G (k:=46) (by decide) (by decide) rfl ((V rfl)) rfl) (ae ((V rfl)) aj aD) rfl rfl rfl) (by kernel_rfl))
      (ar (bM G (jn eV fq (aN hK G (k:=47) (by decide) (by decide) rfl ((V rfl)) rfl) (ae ((V rfl)) aj aD) rfl rfl rfl) (by kernel_rfl)))) cj))) (fun _=>rfl))
      (ai (bM G (cw G rfl (b:=1) (Nat.le_of_ble_eq_true rfl) (jQ hK) oP (jR ok hK) ((V rfl)) (ae ((V rfl)) aj aD) rfl rfl rfl) (by kernel_rfl))
      (ai (aV hK G (k:=42) (by decide) (by decide) rfl ((V rfl)) (aN hK G (k:=42) (by decide) (by decide) rfl ((V rfl)) rfl) (by kernel_rfl))
      (ar (aP ((V rfl))))))))))))
theorem mY {c:Cx} (ok:c.Ok) (hK:Facts c.K):SFn c 7 (.ref 872) bQ:=by
  have hf:FnAt c.K 872 "_law_saved_right" (dP (dS 54 0)) (dB (dS 54 0)) (dC (dS 54 0)) .none (.ref 871):=fnH hK 24 rfl
  have hnd:(["w", "is_new", "states", "saves", "memory", "number", "kept", "at", "state", "content"]:List Str).Nodup:=by decide
  unfold bQ fL
  refine bp (b:=6) ok hf (names:=["w", "is_new", "states", "saves", "memory", "number", "kept", "at", "state", "content"]) (aH (xs:=["w", "is_new"]) (k:=2) (ds:=[]) (dvs:=[]) hnd rfl (by kernel_rfl) rfl (fun _ _=>.nil) (fun _ _ _ _ _ _ _ _ _ _ X=>BindsTo.of_eq (by kernel_rfl))) (by kernel_rfl) (by kernel_rfl) (by kernel_rfl) (aQ (by kernel_rfl)) (fun A₀ L outer G=>?_)
  have hl:=lok G (by kernel_rfl)
  have KL {k:Nat} {x:Str}:=KLx (k:=k) (x:=x) hl
  have V {k:Nat} {x:Str} {pos:Pos}:=Vx (k:=k) (x:=x) (pos:=pos) G hl
  exact ai (eW rfl (n:=3) (names:=["states", "saves", "memory"]) (cq (ae (aG ((V rfl)) (aK (j:=56) (by decide) rfl) (fun _ _=>rfl)) (ae (aG ((V rfl)) (aK (j:=34) (by decide) rfl) (fun _ _=>rfl)) (ae (aG ((V rfl)) (aK (j:=51) (by decide) rfl) (fun _ _=>rfl)) aj az) az) az)) (show STg _ _ _ [bindName _ "memory",bindName _ "saves",bindName _ "states"] from bh (bW G (k:=4) rfl hnd (KL (k:=4) rfl)) (bh (bW G (k:=3) rfl hnd (KL (k:=3) rfl)) (bh (bW G (k:=2) rfl hnd (KL (k:=2) rfl)) dZ))) rfl (by kernel_rfl) (by kernel_rfl))
      (ai (bY (fw (dN (bD ((V rfl)) (fun _=>rfl)) (dN (bN G (fX G (eR hK) gD (by kernel_rfl) (by decide) (ae ((V rfl)) aj aD) rfl rfl) aI rfl) kP))) (ar (bM G (jn eV fq ((V rfl)) (ae (cq (ae (il G rfl (b:=3) (Nat.le_of_ble_eq_true rfl) (pX hK) zK (qg ok hK) ((V rfl)) rfl) (ae (rS G rfl (so (by kernel_rfl)) (aQ (by kernel_rfl)) (by kernel_rfl) (p7 (by kernel_rfl)) (by kernel_rfl) ((V rfl)) (fun C G'=>Bm) (fun C G'=>iJ G' (fQ hK) (io G' rfl) (by kernel_rfl) (by decide) (ae (aG (ij (k:=0) G' rfl (by kernel_rfl) (by decide)) (aK (j:=58) (by decide) rfl) (fun _ _=>rfl)) aj az) rfl rfl) (fun _=>rfl)) aj tM) bE)) aj lp) rfl rfl rfl) (by kernel_rfl))) (ar (bY (bN G ((V rfl)) (cm aj) rfl) (ai (ii rfl (n:=2) (xE xF AG ((V rfl)) rfl) (bh (eB G (k:=5) rfl hnd (KL (k:=5) rfl)) (bh (eB G (k:=6) rfl hnd (KL (k:=6) rfl)) dZ)) rfl rfl (by kernel_rfl) (by kernel_rfl))
      (ai (pn G rfl rfl (jP hK) (k1:=7) (k2:=8) rfl rfl hnd (KL (k:=7) rfl) (KL (k:=8) rfl) (by kernel_rfl) (by decide) ((V rfl)) (ar (bY (bN G (cw G rfl (b:=4) (Nat.le_of_ble_eq_true rfl) (lh hK) qN (lu ok hK) ((V rfl)) (ae ((V rfl)) (ae (aG ((V rfl)) (aK (j:=57) (by decide) rfl) (fun _ _=>rfl)) aj az) aD) rfl rfl rfl) (fp (jD (dK G ((V rfl)) (fX G (eR hK) gD (by kernel_rfl) (by decide) (ae ((V rfl)) aj aD) rfl rfl) rfl) (je (nV (aG ((V rfl)) (aK (j:=7) (by decide) rfl) (fun _ _=>rfl)))))) rfl) (ar (aP cZ)) cj)) rfl (fun _=>rfl))
      (ai (bM G (cw G rfl (b:=6) (Nat.le_of_ble_eq_true rfl) (nI hK) uL (nN ok hK) ((V rfl)) (ae ((V rfl)) aj aD) rfl rfl rfl) (by kernel_rfl))
      (ai (zr G rfl rfl (Bz hK) (k1:=8) (k2:=9) rfl rfl hnd (KL (k:=8) rfl) (KL (k:=9) rfl) (by kernel_rfl) (by decide) ((V rfl)) ((V rfl)) (ar (eU ((V rfl)) (aK (j:=58) (by decide) rfl) (gA (bD (aG ((V rfl)) (aK (j:=7) (by decide) rfl) (fun _ _=>rfl)) (fun _=>rfl)) (aG ((V rfl)) (aK (j:=58) (by decide) rfl) (fun _ _=>rfl)) ((V rfl))) (by kernel_rfl))) rfl rfl (fun _=>rfl))
      (ar (eU ((V rfl)) (aK (j:=56) (by decide) rfl) (dt (vB ((V rfl)) (fX G (eR hK) gD (by kernel_rfl) (by decide) (ae ((V rfl)) aj aD) rfl rfl)) (rS G rfl (so (by kernel_rfl)) (aQ (by kernel_rfl)) (by kernel_rfl) (p7 (by kernel_rfl)) (by kernel_rfl) (zm ((V rfl)) (fX G (eR hK) gD (by kernel_rfl) (by decide) (ae ((V rfl)) aj aD) rfl rfl)) (fun C G'=>xQ (bD (aG (ij (k:=0) G' rfl (by kernel_rfl) (by decide)) (aK (j:=7) (by decide) rfl) (fun _ _=>rfl)) (fun _=>rfl))) (fun C G'=>ij (k:=0) G' rfl (by kernel_rfl) (by decide)) (fun _=>rfl))) (by kernel_rfl))))))) cj)))
      (ar (aP cZ)))
theorem qh {c:Cx} (ok:c.Ok) (hK:Facts c.K):SFn c 1 (.ref 825) eQ:=by
  have hf:FnAt c.K 825 "_law_has" (dP (dS 47 0)) (dB (dS 47 0)) (dC (dS 47 0)) .none (.ref 824):=fnH hK 17 rfl
  have hnd:(["w", "gs", "content", "font", "told", "width"]:List Str).Nodup:=by decide
  unfold eQ rl
  refine bp (b:=0) ok hf (names:=["w", "gs", "content", "font", "told", "width"]) (aH (xs:=["w", "gs", "content"]) (k:=3) (ds:=[]) (dvs:=[]) hnd rfl (by kernel_rfl) rfl (fun _ _=>.nil) (fun _ _ _ _ _ _ _ _ _ _ X=>BindsTo.of_eq (by kernel_rfl))) (by kernel_rfl) (by kernel_rfl) (by kernel_rfl) (aQ (by kernel_rfl)) (fun A₀ L outer G=>?_)
  have hl:=lok G (by kernel_rfl)
  have KL {k:Nat} {x:Str}:=KLx (k:=k) (x:=x) hl
  have V {k:Nat} {x:Str} {pos:Pos}:=Vx (k:=k) (x:=x) (pos:=pos) G hl
  exact ai (ii rfl (n:=3) ((V rfl)) (bh (eB G (k:=3) rfl hnd (KL (k:=3) rfl)) (bh (eB G (k:=4) rfl hnd (KL (k:=4) rfl)) (bh (eB G (k:=5) rfl hnd (KL (k:=5) rfl)) dZ))) rfl rfl (by kernel_rfl) (by kernel_rfl))
      (ar (aP (fp (jD (dK G (aN hK G (k:=30) (by decide) (by decide) rfl ((V rfl)) rfl) (aG (aG ((V rfl)) (aK (j:=54) (by decide) rfl) (fun _ _=>rfl)) ((V rfl)) (fun _ _=>rfl)) rfl) (jD (dK G (aN hK G (k:=0) (by decide) (by decide) rfl ((V rfl)) rfl) (aG (aG ((V rfl)) (aK (j:=0) (by decide) rfl) (fun _ _=>rfl)) ((V rfl)) (fun _ _=>rfl)) rfl) (je (dK G (aN hK G (k:=21) (by decide) (by decide) rfl ((V rfl)) rfl) ((V rfl)) rfl)))))))
theorem qQ {c:Cx} (ok:c.Ok) (hK:Facts c.K):SFn c 4 (.ref 832) eo:=by
  have hf:FnAt c.K 832 "_law_stands" (dP (dS 48 0)) (dB (dS 48 0)) (dC (dS 48 0)) .none (.ref 831):=fnH hK 18 rfl
  have hnd:(["w", "state"]:List Str).Nodup:=by decide
  unfold eo jO
  refine bp (b:=3) ok hf (names:=["w", "state"]) (aH (xs:=["w"]) (k:=1) (ds:=[]) (dvs:=[]) hnd rfl (by kernel_rfl) rfl (fun _ _=>.nil) (fun _ _ _ _ _ _ _ _ _ _ X=>BindsTo.of_eq (by kernel_rfl))) (by kernel_rfl) (by kernel_rfl) (by kernel_rfl) (aQ (by kernel_rfl)) (fun A₀ L outer G=>?_)
  have hl:=lok G (by kernel_rfl)
  have KL {k:Nat} {x:Str}:=KLx (k:=k) (x:=x) hl
  have V {k:Nat} {x:Str} {pos:Pos}:=Vx (k:=k) (x:=x) (pos:=pos) G hl
  exact ai (iM G rfl rfl (kx:=1) rfl hnd (KL (k:=1) rfl) (aG ((V rfl)) (aK (j:=56) (by decide) rfl) (fun _ _=>rfl)) (ar (bY (fw (iI (kO (bD (aU G rfl (b:=1) (Nat.le_of_ble_eq_true rfl) (pW hK) (qh ok hK) (by kernel_rfl) (by decide) (ae ((V rfl)) (ae (aN hK G (k:=2) (by decide) (by decide) rfl (aG ((V rfl)) (aK (j:=57) (by decide) rfl) (fun _ _=>rfl)) rfl) (ae (aG ((V rfl)) (aK (j:=58) (by decide) rfl) (fun _ _=>rfl)) aj az) aJ) aD) rfl rfl) (fun _=>rfl))) (iI (bN G (aU G rfl (b:=3) (Nat.le_of_ble_eq_true rfl) (gG hK) (gJ ok hK) (by kernel_rfl) (by decide) (ae (aG ((V rfl)) (aK (j:=57) (by decide) rfl) (fun _ _=>rfl)) aj az) rfl rfl) (aG ((V rfl)) (aK (j:=7) (by decide) rfl) (fun _ _=>rfl)) rfl) rQ))) (ar (aP cZ)) cj)) (fun _=>rfl))
      (ar (aP (aU G rfl (b:=1) (Nat.le_of_ble_eq_true rfl) (pW hK) (qh ok hK) (by kernel_rfl) (by decide) (ae ((V rfl)) (ae (aG ((V rfl)) (aK (j:=52) (by decide) rfl) (fun _ _=>rfl)) (ae (aG ((V rfl)) (aK (j:=55) (by decide) rfl) (fun _ _=>rfl)) aj az) az) aD) rfl rfl)))
end Lw
end SF3
section SP0
namespace Lw
open St
noncomputable def ov (σ:St) (U:List (Nat×AO)) (L:List AO):St :=
  ⟨σ.next+L.length,fun j=>if j<σ.next then (match U.lookup j with | some o=>some o | none=>σ.get j) else match L[j - σ.next]? with | some o=>some o | none=>σ.get j⟩
noncomputable def upU:List (Nat×AO)→Nat→AO→List (Nat×AO)
  | [],a,o=>[(a,o)]
  | (b,x)::U,a,o=>if b=a then (a,o)::U else (b,x)::upU U a o
noncomputable def gU:List (Nat×AO)→Nat→Option AO→Option AO
  | [],_,d=>d
  | (b,x)::U,a,d=>if b=a then some x else gU U a d
theorem ou (U:List (Nat×AO)) (a:Nat) (d:Option AO):(match U.lookup a with | some o=>some o | none=>d)=gU U a d:=by
  induction U with
  | nil=>rfl
  | cons p U ih =>
    obtain ⟨b,x⟩:=p
    rw [List.lookup_cons,gU]
    by_cases q:b=a
    · subst q; simp
    · rw [if_neg q,beq_eq_false_iff_ne.mpr (Ne.symm q)]; exact ih
theorem gx (σ:St) (U:List (Nat×AO)) (L:List AO):(ov σ U L).next=σ.next+L.length:=rfl
theorem df {α:Type} {C:α→Prop} {a:α} (h:C a):∀ q∈[a],C q:=fun q hq=>by rw [List.mem_singleton.mp hq]; exact h
theorem ch {α:Type} {C:α→Prop} {a:α} {l:List α} (h:C a) (hl:∀ q∈l,C q):∀ q∈a::l,C q:=List.forall_mem_cons.mpr ⟨h,hl⟩
theorem bz (σ:St):ov σ [] []=σ:=by
  obtain ⟨n,g⟩:=σ
  unfold ov
  simp
theorem bb {σ:St} {a:Nat} (h:a<σ.next) (U:List (Nat×AO)) (L:List AO):(ov σ U L).get a=gU U a (σ.get a):=by
  show (if a<σ.next then _ else _)=_
  rw [if_pos h]; exact ou ..
theorem sy {σ:St} {U:List (Nat×AO)} {L:List AO} {k:Nat} (h:k<L.length):(ov σ U L).get (σ.next+k)=some L[k]:=by
  show (if σ.next+k<σ.next then _ else _)=_
  rw [if_neg (Nat.not_lt.mpr (Nat.le_add_right _ _)),Nat.add_sub_cancel_left,List.getElem?_eq_getElem h]
theorem oY {σ:St} {U:List (Nat×AO)} {o:AO} {L:List AO}:(ov σ U (o::L)).get σ.next=some o:=sy (L:=o::L) (k:=0) (by simp)
theorem dx (σ:St) (U:List (Nat×AO)) (L:List AO) (o:AO):(ov σ U L).push o=ov σ U (L++[o]):=by
  unfold ov St.push
  simp only [List.length_append,List.length_cons,List.length_nil,St.mk.injEq]
  refine ⟨rfl,?_⟩
  funext j
  by_cases q:j=σ.next+L.length
  · subst q
    rw [if_pos rfl,if_neg (Nat.not_lt.mpr (Nat.le_add_right _ _)),Nat.add_sub_cancel_left,List.getElem?_append_right (Nat.le_refl _)]
    simp
  · rw [if_neg q]
    by_cases q':j<σ.next
    · rw [if_pos q',if_pos q']
    · rw [if_neg q',if_neg q']
      by_cases q2:j - σ.next<L.length
      · rw [List.getElem?_append_left q2]
      · rw [List.getElem?_eq_none (Nat.not_lt.mp q2),List.getElem?_eq_none (by rw [List.length_append]; exact i8 q q2 q')]
theorem jS {σ:St} {U:List (Nat×AO)} {L:List AO} {k:Nat} {o:AO} (h:k<L.length):(ov σ U L).set (σ.next+k) o=ov σ U (L.set k o):=by
  unfold ov St.set
  simp only [List.length_set,St.mk.injEq,true_and]
  funext j
  by_cases q:j=σ.next+k
  · subst q
    rw [if_pos rfl,if_neg (Nat.not_lt.mpr (Nat.le_add_right _ _)),Nat.add_sub_cancel_left,List.getElem?_set_self h]
  · rw [if_neg q]
    by_cases q':j<σ.next
    · rw [if_pos q',if_pos q']
    · rw [if_neg q',if_neg q',List.getElem?_set_ne (i7 q q')]
theorem jb {σ:St} {U:List (Nat×AO)} {x:AO} {L:List AO} {o:AO}:(ov σ U (x::L)).set σ.next o=ov σ U (o::L):=jS (L:=x::L) (k:=0) (by simp)
theorem Ct (U:List (Nat×AO)) (a j:Nat) (o:AO) (d:Option AO):gU (upU U a o) j d=if j=a then some o else gU U j d:=by
  induction U with
  | nil =>
    unfold upU gU gU
    by_cases q:a=j
    · rw [if_pos q,if_pos q.symm]
    · rw [if_neg q,if_neg (Ne.symm q)]
  | cons p U ih =>
    obtain ⟨b,x⟩:=p
    unfold upU
    by_cases q:b=a
    · rw [if_pos q]
      subst q
      unfold gU
      by_cases q:b=j
      · rw [if_pos q,if_pos q.symm]
      · rw [if_neg q,if_neg (Ne.symm q)]
        rw [if_neg q]
    · rw [if_neg q]
      unfold gU
      by_cases q2:b=j
      · rw [if_pos q2,if_pos q2,if_neg (fun z=>q (q2.trans z))]
      · rw [if_neg q2,if_neg q2]; exact ih
theorem bF {σ:St} {a:Nat} (h:a<σ.next) (U:List (Nat×AO)) (L:List AO) (o:AO):(ov σ U L).set a o=ov σ (upU U a o) L:=by
  unfold ov St.set
  simp only [St.mk.injEq,true_and]
  funext j
  rw [ou,ou,Ct]
  by_cases q:j=a
  · subst q
    rw [if_pos rfl,if_pos h,if_pos rfl]
  · rw [if_neg q,if_neg q]
theorem ov_ov (σ:St) (U:List (Nat×AO)) (L L':List AO):ov (ov σ U L) [] L'=ov σ U (L++L'):=by
  unfold ov
  simp only [List.length_append,St.mk.injEq,Nat.add_assoc,true_and,List.lookup_nil]
  funext j
  by_cases q:j<σ.next
  · have q':j<σ.next+L.length:=Nat.lt_of_lt_of_le q (Nat.le_add_right _ _)
    simp only [q,q',if_true]
  · by_cases q':j<σ.next+L.length
    · have q2:j - σ.next<L.length:=Nat.sub_lt_left_of_lt_add (Nat.not_lt.mp q) q'
      simp only [q,q',if_true,if_false]
      rw [List.getElem?_append_left q2]
    · have q2:L.length≤j - σ.next:=Nat.le_sub_of_add_le (by rw [Nat.add_comm]; exact Nat.not_lt.mp q')
      simp only [q,q',if_false]
      rw [List.getElem?_append_right q2,List.getElem?_eq_none q2,Nat.sub_sub]
end Lw
end SP0
section SPK
namespace Lw
open St
section
variable {α β:Type} {l:Loc} {σ:St}
noncomputable def bk (g:α→M β):Option (Res α×Loc×St)→Option (Res β×Loc×St)
  | some (.ok a,l,σ)=>g a l σ
  | some (.exc i,l,σ)=>some (.exc i,l,σ)
  | none=>none
theorem zk0 (g:α→M β) (a:α):bk g (some (.ok a,l,σ))=g a l σ:=rfl
theorem zk2 (f:M α) (g:α→M β):au f g l σ=bk g (f l σ):=rfl
noncomputable def sk (g:M AF):AF→M AF
  | .next=>g
  | .ret a=>ret (.ret a)
theorem zk3 (g:M AF):sk g .next=g:=rfl
theorem zk5 (f g:M AF):ay f g l σ=bk (sk g) (f l σ):=rfl
theorem zk6 (a:α):ret a l σ=some (.ok a,l,σ):=rfl
noncomputable def rk:Option (Res AF×Loc×St)→Option (Res AV×St)
  | some (.ok (.ret a),_,σ)=>some (.ok a,σ)
  | some (.ok .next,_,σ)=>some (.ok .none,σ)
  | some (.exc i,_,σ)=>some (.exc i,σ)
  | none=>none
noncomputable def rj (f:M AF) (σ:St):Option Loc→Option (Res AV×St)
  | some l=>rk (f l σ)
  | none=>none
theorem zk7 (a:AV):rk (some (.ok (.ret a),l,σ))=some (.ok a,σ):=rfl
theorem zk8:rk (some (.ok .next,l,σ))=some (.ok .none,σ):=rfl
theorem ye (bd:List AV→Option Loc) (f:M AF) (as:List AV):bx bd f as σ=rj f σ (bd as):=rfl
theorem yf (f:M AF):rj f σ (some l)=rk (f l σ):=rfl
noncomputable def ck (l:Loc):Option (Res AV×St)→Option (Res AV×Loc×St)
  | some (r,σ)=>some (r,l,σ)
  | none=>none
theorem tN (g:Fn) (as:List AV):kQ g as l σ=ck l (g as σ):=rfl
theorem Cu (r:Res AV):ck l (some (r,σ))=some (r,l,σ):=rfl
theorem yg (g:Fn) (f:M (List AV)):aZ g f l σ=bk (kQ g) (f l σ):=rfl
theorem yh (f:M AV) (g:M (List AV)):ah f g l σ=bk (fun a=>au g fun as=>ret (a::as)) (f l σ):=rfl
theorem Cv:aq l σ=some (.ok [],l,σ):=rfl
theorem BB (f:M AV):cu f l σ=bk (fun a=>ret (.ret a)) (f l σ):=rfl
theorem BC (f:M α):bS f l σ=bk (fun _=>ret .next) (f l σ):=rfl
noncomputable def upL (l:Loc) (k:Nat) (a:AV):Loc:=fun j=>match j==k with
  | true=>some a
  | false=>l j
theorem yi (l:Loc) (k:Nat) (a:AV):(fun j=>if j=k then some a else l j)=upL l k a:=by
  funext j
  unfold upL
  by_cases h:j=k
  · rw [if_pos h,beq_iff_eq.mpr h]
  · rw [if_neg h,beq_eq_false_iff_ne.mpr h]
theorem BD (k:Nat) (a:AV):bU k a l σ=some (.ok (),upL l k a,σ):=by unfold bU; rw [yi]
theorem zO (k j:Nat) (a:AV):upL l k a j=match j==k with | true=>some a | false=>l j:=rfl
theorem Cw (as:List AV) (a:AV):cY (a::as) 0=some a:=rfl
theorem Cy (as:List AV) (a:AV) (k:Nat):cY (a::as) (k+1)=cY as k:=rfl
noncomputable def lo (l:Loc) (σ:St):Option AV→Option (Res AV×Loc×St)
  | some a=>some (.ok a,l,σ)
  | none=>none
theorem zP (k:Nat):ac k l σ=lo l σ (l k):=rfl
theorem Cz (a:AV):lo l σ (some a)=some (.ok a,l,σ):=rfl
noncomputable def nx (k:Nat):Option (Res AV×Loc×St)→Option (Res AF×Loc×St)
  | some (.ok a,l,σ)=>some (.ok .next,upL l k a,σ)
  | some (.exc i,l,σ)=>some (.exc i,l,σ)
  | none=>none
theorem BE (f:M AV) (k:Nat):bn f k l σ=nx k (f l σ):=by
  show bk (fun a=>au (bU k a) fun _=>ret AF.next) (f l σ)=_
  cases f l σ with
  | none=>rfl
  | some p =>
    obtain ⟨r,l',σ'⟩:=p
    cases r with
    | exc i=>rfl
    | ok a=>rw [zk0,zk2,BD]; rfl
theorem Ei (k:Nat) (a:AV):nx k (some (.ok a,l,σ))=some (.ok .next,upL l k a,σ):=rfl
noncomputable def lk:List (Nat×AV)→Nat→Option AV
  | [],_=>none
  | (a,v)::t,k=>match a==k with
    | true=>some v
    | false=>lk t k
theorem oZ (t:List (Nat×AV)) (k:Nat):look t k=lk t k:=by
  induction t with
  | nil=>rfl
  | cons p t ih =>
    obtain ⟨a,v⟩:=p
    show (List.find? _ _).map _=(match a==k with | true=>some v | false=>lk t k)
    by_cases h:a=k
    · rw [List.find?_cons_of_pos (by simpa using h),beq_iff_eq.mpr h]; rfl
    · rw [List.find?_cons_of_neg (by simpa using h),beq_eq_false_iff_ne.mpr h]; exact ih
theorem Ej (a k:Nat) (v:AV) (t:List (Nat×AV)):lk ((a,v)::t) k=match a==k with | true=>some v | false=>lk t k:=rfl
noncomputable def anK:List (Nat×AV)→Nat→Bool
  | [],_=>false
  | (a,_)::t,k=>match a==k with
    | true=>true
    | false=>anK t k
noncomputable def maK:List (Nat×AV)→Nat→AV→List (Nat×AV)
  | [],_,_=>[]
  | (a,v)::t,k,w=>(a,match a==k with | true=>w | false=>v)::maK t k w
noncomputable def stK (t:List (Nat×AV)) (k:Nat) (w:AV):List (Nat×AV):=match anK t k with
  | true=>maK t k w
  | false=>t++[(k,w)]
theorem BF (t:List (Nat×AV)) (k:Nat):t.any (fun p=>p.1=k)=anK t k:=by
  induction t with
  | nil=>rfl
  | cons p t ih =>
    obtain ⟨a,v⟩:=p
    rw [List.any_cons,ih]
    show _=(match a==k with | true=>true | false=>anK t k)
    by_cases h:a=k
    · rw [beq_iff_eq.mpr h]; simp [h]
    · rw [beq_eq_false_iff_ne.mpr h]; simp [h]
theorem BG (t:List (Nat×AV)) (k:Nat) (w:AV):t.map (fun p=>if p.1=k then (p.1,w) else p)=maK t k w:=by
  induction t with
  | nil=>rfl
  | cons p t ih =>
    obtain ⟨a,v⟩:=p
    rw [List.map_cons,ih]
    show _=(a,match a==k with | true=>w | false=>v)::maK t k w
    by_cases h:a=k
    · rw [if_pos h,beq_iff_eq.mpr h]
    · rw [if_neg h,beq_eq_false_iff_ne.mpr h]
theorem rm (t:List (Nat×AV)) (k:Nat) (w:AV):store t k w=stK t k w:=by
  unfold store stK
  rw [BF,BG]
  cases anK t k <;> rfl
theorem CA (t:List (Nat×AV)) (k:Nat) (w:AV):stK t k w=match anK t k with | true=>maK t k w | false=>t++[(k,w)]:=rfl
theorem CB (k:Nat):anK [] k=false:=rfl
theorem CC (a k:Nat) (v:AV) (t:List (Nat×AV)):anK ((a,v)::t) k=match a==k with | true=>true | false=>anK t k:=rfl
theorem Ek (k:Nat) (w:AV):maK [] k w=[]:=rfl
theorem El (a k:Nat) (v w:AV) (t:List (Nat×AV)):maK ((a,v)::t) k w=(a,match a==k with | true=>w | false=>v)::maK t k w:=rfl
noncomputable def ltB {γ:Type}:List γ→Nat→Bool
  | _,0=>false
  | [],_+1=>true
  | _::t,n+1=>ltB t n
theorem ib {γ:Type}:∀ (t:List γ) (n:Nat),ltB t n=decide (t.length<n)
  | _,0=>by simp [ltB]
  | [],n+1=>by simp [ltB]
  | _::t,n+1=>by rw [ltB,ib t n]; simp
noncomputable def aX (k:Nat) (l:Loc) (σ:St):Bool→Option AO→Option (Res AV×Loc×St)
  | true,some (.sdict kvs)=>lo l σ (lk kvs k)
  | _,_=>none
noncomputable def aW (cs:Cls) (k:Nat) (l:Loc) (σ:St):Option AO→Option (Res AV×Loc×St)
  | some (.inst C d)=>aX k l σ (cs.contains C) (σ.get d)
  | _=>none
theorem BH (cs:Cls) (k i:Nat):kf cs k (.ref i) l σ=aW cs k l σ (σ.get i):=by
  show (match σ.get i with | some (.inst C d)=>_ | _=>none)=aW cs k l σ (σ.get i)
  cases σ.get i with
  | none=>rfl
  | some o =>
    cases o with
    | inst C d =>
      show (if cs.contains C then _ else _)=aX k l σ (cs.contains C) (σ.get d)
      cases cs.contains C with
      | false=>rfl
      | true =>
        show (match σ.get d with | some (.sdict kvs)=>_ | _=>none)=aX k l σ true (σ.get d)
        cases σ.get d with
        | none=>rfl
        | some o =>
          cases o with
          | sdict kvs =>
            show (match look kvs k with | some v=>_ | none=>none)=lo l σ (lk kvs k)
            rw [oZ]
            cases lk kvs k <;> rfl
          | _=>rfl
    | _=>rfl
theorem BI (cs:Cls) (k:Nat) (C d:Nat):aW cs k l σ (some (.inst C d))=aX k l σ (cs.contains C) (σ.get d):=rfl
theorem zQ (k:Nat) (kvs:List (Nat×AV)):aX k l σ true (some (.sdict kvs))=lo l σ (lk kvs k):=rfl
theorem zR (cs:Cls) (k:Nat) (f:M AV):aw cs k f l σ=bk (kf cs k) (f l σ):=rfl
noncomputable def sY (v:List (Nat×AV)) (l:Loc) (σ:St) (d:Nat):Bool→Option (Res Unit×Loc×St)
  | true=>some (.ok (),l,σ.set d (.sdict v))
  | false=>none
noncomputable def sX (k:Nat) (v:AV) (l:Loc) (σ:St) (d:Nat):Bool→Option AO→Option (Res Unit×Loc×St)
  | true,some (.sdict kvs)=>sY (stK kvs k v) l σ d (ltB kvs 900)
  | _,_=>none
noncomputable def sW (cs:Cls) (k:Nat) (v:AV) (l:Loc) (σ:St):Option AO→Option (Res Unit×Loc×St)
  | some (.inst C d)=>sX k v l σ d (cs.contains C) (σ.get d)
  | _=>none
theorem zS (cs:Cls) (k i:Nat) (v:AV):kq cs k (.ref i) v l σ=sW cs k v l σ (σ.get i):=by
  show (match σ.get i with | some (.inst C d)=>_ | _=>none)=sW cs k v l σ (σ.get i)
  cases σ.get i with
  | none=>rfl
  | some o =>
    cases o with
    | inst C d =>
      show (if cs.contains C then _ else _)=sX k v l σ d (cs.contains C) (σ.get d)
      cases cs.contains C with
      | false=>rfl
      | true =>
        show (match σ.get d with | some (.sdict kvs)=>_ | _=>none)=sX k v l σ d true (σ.get d)
        cases σ.get d with
        | none=>rfl
        | some o =>
          cases o with
          | sdict kvs =>
            show (if kvs.length<900 then _ else _)=sY (stK kvs k v) l σ d (ltB kvs 900)
            rw [ib,rm]
            by_cases h:kvs.length<900
            · rw [if_pos h,decide_eq_true h]; rfl
            · rw [if_neg h,decide_eq_false h]; rfl
          | _=>rfl
    | _=>rfl
theorem zT (cs:Cls) (k:Nat) (v:AV) (C d:Nat):sW cs k v l σ (some (.inst C d))=sX k v l σ d (cs.contains C) (σ.get d):=rfl
theorem BJ (k:Nat) (v:AV) (d:Nat) (kvs:List (Nat×AV)):sX k v l σ d true (some (.sdict kvs))=sY (stK kvs k v) l σ d (ltB kvs 900):=rfl
theorem CD (v:List (Nat×AV)) (d:Nat):sY v l σ d true=some (.ok (),l,σ.set d (.sdict v)):=rfl
theorem yj (cs:Cls) (k:Nat) (fo fv:M AV):bg cs k fo fv l σ=bk (fun v=>au fo fun o=>au (kq cs k o v) fun _=>ret .next) (fv l σ):=rfl
noncomputable def gN:List AO→Nat→Option AO→Option AO
  | [],_,d=>d
  | o::_,0,_=>some o
  | _::L,k+1,d=>gN L k d
theorem AM:∀ (L:List AO) (k:Nat) (d:Option AO),gN L k d=match L[k]? with | some o=>some o | none=>d
  | [],_,_=>rfl
  | _::_,0,_=>rfl
  | _::L,k+1,d=>AM L k d
theorem CE (o:AO) (L:List AO) (d:Option AO):gN (o::L) 0 d=some o:=rfl
theorem CF (o:AO) (L:List AO) (k:Nat) (d:Option AO):gN (o::L) (k+1) d=gN L k d:=rfl
theorem zU (U:List (Nat×AO)) (L:List AO) (k:Nat):(ov σ U L).get (σ.next+k)=gN L k (σ.get (σ.next+k)):=by
  rw [AM]
  show (if σ.next+k<σ.next then _ else _)=_
  rw [if_neg (by omega),Nat.add_sub_cancel_left]
  try rfl
theorem CG (U:List (Nat×AO)) (L:List AO):(ov σ U L).get σ.next=gN L 0 (σ.get σ.next):=zU U L 0
noncomputable def sN:List AO→Nat→AO→List AO
  | [],_,_=>[]
  | _::L,0,o=>o::L
  | x::L,k+1,o=>x::sN L k o
noncomputable def hN:List AO→Nat→Bool
  | [],_=>false
  | _::_,0=>true
  | _::L,k+1=>hN L k
theorem AN:∀ (L:List AO) (k:Nat) (o:AO),sN L k o=L.set k o
  | [],_,_=>rfl
  | _::_,0,_=>rfl
  | x::L,k+1,o=>congrArg (x::·) (AN L k o)
theorem AP:∀ (L:List AO) (k:Nat),hN L k=true→k<L.length
  | [],_,h=>by cases h
  | _::_,0,_=>Nat.succ_pos _
  | _::L,k+1,h=>Nat.succ_lt_succ (AP L k h)
noncomputable def oS (σ:St) (U:List (Nat×AO)) (L:List AO) (k:Nat) (o:AO):Bool→St
  | true=>ov σ U (sN L k o)
  | false=>(ov σ U L).set (σ.next+k) o
theorem CH (U:List (Nat×AO)) (L:List AO) (k:Nat) (o:AO):(ov σ U L).set (σ.next+k) o=oS σ U L k o (hN L k):=by
  cases h:hN L k with
  | true=>exact (jS (AP L k h)).trans (by rw [← AN]; rfl)
  | false=>rfl
theorem Em (U:List (Nat×AO)) (L:List AO) (k:Nat) (o:AO):oS σ U L k o true=ov σ U (sN L k o):=rfl
theorem CI (U:List (Nat×AO)) (x:AO) (L:List AO) (o:AO):(ov σ U (x::L)).set σ.next o=ov σ U (o::L):=jb
theorem Eo (L:List AO) (x o:AO):sN (x::L) 0 o=o::L:=rfl
theorem Ep (L:List AO) (k:Nat) (x o:AO):sN (x::L) (k+1) o=x::sN L k o:=rfl
theorem Er (x:AO) (L:List AO):hN (x::L) 0=true:=rfl
theorem Es (x:AO) (L:List AO) (k:Nat):hN (x::L) (k+1)=hN L k:=rfl
theorem Et (n k:Nat):n+k+1=n+(k+1):=rfl
theorem CK (a:Nat) (d:Option AO):gU [] a d=d:=rfl
theorem Eu (o:AO):cV o l σ=some (.ok (.ref σ.next),l,σ.push o):=rfl
noncomputable def mk (n:Nat):Option (Res AV×St)→Option (Res AV×St)
  | some (.ok .none,σ)=>some (.ok (.ref (n+1)),σ)
  | some (.exc i,σ)=>some (.exc i,σ)
  | _=>none
theorem BK (C:Nat) (g:Fn) (as:List AV):cN C g as σ=mk σ.next (g (.ref (σ.next+1)::as) ((σ.push (.sdict [])).push (.inst C σ.next))):=rfl
theorem CL (n:Nat):mk n (some (.ok .none,σ))=some (.ok (.ref (n+1)),σ):=rfl
noncomputable def nK (o:List AV→AO) (l:Loc) (σ:St) (as:List AV):Bool→Option (Res AV×Loc×St)
  | true=>some (.ok (.ref σ.next),l,σ.push (o as))
  | false=>none
theorem AQ (o:List AV→AO) (as:List AV):(if as.length<1000 then cV (o as) else fun _ _=>none) l σ=nK o l σ as (ltB as 1000):=by
  rw [ib]
  by_cases h:as.length<1000
  · rw [if_pos h,decide_eq_true h]; rfl
  · rw [if_neg h,decide_eq_false h]; rfl
noncomputable def nB (o:List AV→AO) (as:List AV):M AV:=fun l σ=>nK o l σ as (ltB as 1000)
theorem BL (f:M (List AV)):dJ f l σ=bk (nB .list) (f l σ):=by
  unfold dJ au
  cases f l σ with
  | none=>rfl
  | some p=>obtain ⟨r,l',σ'⟩:=p; cases r with
    | exc i=>rfl
    | ok a=>exact AQ ..
theorem Ev (f:M (List AV)):eH f l σ=bk (nB .tup) (f l σ):=by
  unfold eH au
  cases f l σ with
  | none=>rfl
  | some p=>obtain ⟨r,l',σ'⟩:=p; cases r with
    | exc i=>rfl
    | ok a=>exact AQ ..
theorem zV (o:List AV→AO) (as:List AV):nB o as l σ=nK o l σ as (ltB as 1000):=rfl
theorem CM (o:List AV→AO) (as:List AV):nK o l σ as true=some (.ok (.ref σ.next),l,σ.push (o as)):=rfl
noncomputable def iX (l:Loc) (σ:St):Bool→Option AO→Option (Res Unit×Loc×St)
  | true,some (.sdict _)=>some (.ok (),l,σ)
  | _,_=>none
noncomputable def iW (C:Nat) (l:Loc) (σ:St):Option AO→Option (Res Unit×Loc×St)
  | some (.inst C' d)=>iX l σ (C'==C) (σ.get d)
  | _=>none
theorem CN (C i:Nat):jH C (.ref i) l σ=iW C l σ (σ.get i):=by
  show (match σ.get i with | some (.inst C' d)=>_ | _=>none)=iW C l σ (σ.get i)
  cases σ.get i with
  | none=>rfl
  | some o =>
    cases o with
    | inst C' d =>
      show (if C'=C then _ else _)=iX l σ (C'==C) (σ.get d)
      by_cases h:C'=C
      · rw [if_pos h,beq_iff_eq.mpr h]
        show (match σ.get d with | some (.sdict _)=>_ | _=>none)=iX l σ true (σ.get d)
        cases σ.get d with
        | none=>rfl
        | some o=>cases o <;> rfl
      · rw [if_neg h,beq_eq_false_iff_ne.mpr h]; rfl
    | _=>rfl
theorem CO (C C' d:Nat):iW C l σ (some (.inst C' d))=iX l σ (C'==C) (σ.get d):=rfl
theorem Ew (kvs:List (Nat×AV)):iX l σ true (some (.sdict kvs))=some (.ok (),l,σ):=rfl
theorem BO (C:Nat) (g:Fn) (fo:M AV) (f:M (List AV)):bT C g fo f l σ=bk (fun o=>au (jH C o) fun _=>au f fun as=>kQ g (o::as)) (fo l σ):=rfl
theorem Ex (C:Nat) (g:Fn) (f:M AV):pe C g f l σ=bk (xB C g) (f l σ):=rfl
noncomputable def pk (l:Loc):Option (Res AV×St)→Option (Res AV×Loc×St)
  | some (.ok a,σ)=>some (.ok a,l,σ)
  | _=>none
theorem Ey (C:Nat) (g:Fn) (o:AV):xB C g o l σ=bk (fun _ l σ=>pk l (g [o] σ)) (jH C o l σ):=rfl
theorem jT {γ:Type} {t:List γ} {n:Nat} (h:t.length<n):ltB t n=true:=by rw [ib]; exact decide_eq_true h
theorem mZ {γ δ:Type} (t:List γ) (n:Nat) (x y:δ) (f:Bool→δ) (h1:f true=x) (h2:f false=y):(if t.length<n then x else y)=f (ltB t n):=by
  rw [ib]
  by_cases h:t.length<n
  · rw [if_pos h,decide_eq_true h,h1]
  · rw [if_neg h,decide_eq_false h,h2]
noncomputable def vL (l:Loc) (σ:St):Option AO→Option (Res AV×Loc×St)
  | some (.list xs)=>nK .list l σ xs (ltB xs 16777216)
  | some (.idict kvs)=>nK (fun _=>.list (fc .int kvs)) l σ [] (ltB kvs 16777216)
  | _=>none
theorem CP (i:Nat):du [.ref i] l σ=vL l σ (σ.get i):=by
  show (match σ.get i with | some (.list xs)=>_ | some (.idict kvs)=>_ | _=>none)=vL l σ (σ.get i)
  cases σ.get i with
  | none=>rfl
  | some o =>
    cases o with
    | list xs=>exact mZ xs 16777216 _ _ (nK .list l σ xs) rfl rfl
    | idict kvs=>exact mZ kvs 16777216 _ _ (nK (fun _=>.list (fc .int kvs)) l σ []) rfl rfl
    | _=>rfl
theorem CQ (xs:List AV):vL l σ (some (.list xs))=nK .list l σ xs (ltB xs 16777216):=rfl
noncomputable def vD (l:Loc) (σ:St):Option AO→Option (Res AV×Loc×St)
  | some (.bdict xs)=>nK (fun _=>.bdict xs) l σ [] (ltB xs 1000)
  | _=>none
theorem CR (i:Nat):mh [.ref i] l σ=vD l σ (σ.get i):=by
  show (match σ.get i with | some (.bdict xs)=>_ | _=>none)=vD l σ (σ.get i)
  cases σ.get i with
  | none=>rfl
  | some o =>
    cases o with
    | bdict xs=>exact mZ xs 1000 _ _ (nK (fun _=>.bdict xs) l σ []) rfl rfl
    | _=>rfl
theorem CS (xs:List (Nat×AV)):vD l σ (some (.bdict xs))=nK (fun _=>.bdict xs) l σ [] (ltB xs 1000):=rfl
noncomputable def vI (l:Loc) (σ:St) (a:AV):Bool→Option (Res AV×Loc×St)
  | true=>some (.ok a,l,σ)
  | false=>none
noncomputable def vN (l:Loc) (σ:St):Option AO→Option (Res AV×Loc×St)
  | some (.list xs)=>vI l σ (.int xs.length) (ltB xs 16777216)
  | _=>none
theorem Ez (i:Nat):em [.ref i] l σ=vN l σ (σ.get i):=by
  show (match σ.get i with | some (.list xs)=>_ | _=>none)=vN l σ (σ.get i)
  cases σ.get i with
  | none=>rfl
  | some o =>
    cases o with
    | list xs=>exact mZ xs 16777216 _ _ (vI l σ (.int xs.length)) rfl rfl
    | _=>rfl
theorem EA (xs:List AV):vN l σ (some (.list xs))=vI l σ (.int xs.length) (ltB xs 16777216):=rfl
noncomputable def vS (l:Loc) (σ:St) (a:AV) (i:Nat) (o:AO):Bool→Option (Res AV×Loc×St)
  | true=>some (.ok a,l,σ.set i o)
  | false=>none
noncomputable def vA (a:AV) (l:Loc) (σ:St) (i:Nat):Option AO→Option (Res AV×Loc×St)
  | some (.list xs)=>vS l σ .none i (.list (xs++[a])) (ltB xs 2000)
  | _=>none
theorem EB (i:Nat) (a:AV):bI [.ref i,a] l σ=vA a l σ i (σ.get i):=by
  show (match σ.get i with | some (.list xs)=>_ | _=>none)=vA a l σ i (σ.get i)
  cases σ.get i with
  | none=>rfl
  | some o =>
    cases o with
    | list xs=>exact mZ xs 2000 _ _ (vS l σ .none i (.list (xs++[a]))) rfl rfl
    | _=>rfl
theorem EC (i:Nat) (a:AV) (xs:List AV):vA a l σ i (some (.list xs))=vS l σ .none i (.list (xs++[a])) (ltB xs 2000):=rfl
noncomputable def iB (f g:M α):Option (Res Bool×Loc×St)→Option (Res α×Loc×St):=bk fun b=>if b then f else g
theorem CT (t:M Bool) (f g:M AF):ifX t f g l σ=iB f g (t l σ):=rfl
theorem CU (t:M Bool) (f g:M AV):ifE t f g l σ=iB f g (t l σ):=rfl
theorem CV (t u:M Bool):fW t u l σ=iB u (ret false) (t l σ):=rfl
theorem CW (t u:M Bool):orT t u l σ=iB (ret true) u (t l σ):=rfl
theorem CX (t:M Bool):jC t l σ=bk (fun b=>ret (!b)) (t l σ):=rfl
noncomputable def aB:Option (Res AV×Loc×St)→Option (Res Bool×Loc×St):=bk fun a=>match a with
  | .bool b=>ret b
  | _=>fun _ _=>none
theorem CY (f:M AV):asB f l σ=aB (f l σ):=rfl
theorem CZ (op:PySem.CmpOp) (f g:M AV):eG op f g l σ=bk (fun a=>au g fun b=>zh op a b) (f l σ):=rfl
theorem C0 (op:PySem.Operator) (f g:M AV):fH op f g l σ=bk (fun a=>au g fun b=>kJ op a b) (f l σ):=rfl
theorem C1 (f g:M AV):aO f g l σ=bk (fun a=>au g fun b=>gC a b) (f l σ):=rfl
noncomputable def ED (g:M AV):AV→M AV
  | .bool true=>g
  | .bool false=>ret (.bool false)
  | _=>fun _ _=>none
noncomputable def orK (g:M AV):AV→M AV
  | .bool true=>ret (.bool true)
  | .bool false=>g
  | _=>fun _ _=>none
theorem AR (f g:M AV):lQ f g l σ=bk (ED g) (f l σ):=rfl
theorem AS (f g:M AV):orE f g l σ=bk (orK g) (f l σ):=rfl
theorem C2 (f:M AV):o8 f l σ=bk (fun b=>ret (.bool (!b))) (aB (f l σ)):=by
  show bk _ (f l σ)=bk _ (bk _ (f l σ))
  cases f l σ with
  | none=>rfl
  | some p =>
    obtain ⟨r,l',σ'⟩:=p
    cases r with
    | exc i=>rfl
    | ok a=>cases a <;> rfl
section
open PySem
end
noncomputable def suL (l:Loc) (σ:St) (v:Option AV):Bool→Option (Res AV×Loc×St)
  | true=>v.map fun v=>(.ok v,l,σ)
  | false=>none
noncomputable def suI (k:Int) (l:Loc) (σ:St):Option AO→Option (Res AV×Loc×St)
  | some (.list xs)=>suL l σ (at1 xs k) (ltB xs 2000)
  | some (.tup xs)=>suL l σ (at1 xs k) (ltB xs 2000)
  | some (.idict kvs)=>(look kvs k).map fun v=>(.ok v,l,σ)
  | _=>none
theorem AT (i:Nat) (k:Int):gC (.ref i) (.int k) l σ=suI k l σ (σ.get i):=by
  show (match σ.get i with | some (.list xs)=>_ | some (.tup xs)=>_ | some (.idict kvs)=>_ | _=>none)=suI k l σ (σ.get i)
  cases σ.get i with
  | none=>rfl
  | some o =>
    cases o with
    | list xs=>exact mZ xs 2000 _ _ (suL l σ (at1 xs k)) rfl rfl
    | tup xs=>exact mZ xs 2000 _ _ (suL l σ (at1 xs k)) rfl rfl
    | _=>rfl
theorem C4 (xs:List AV) (k:Int):suI k l σ (some (.list xs))=suL l σ (at1 xs k) (ltB xs 2000):=rfl
theorem C5 (xs:List AV) (k:Int):suI k l σ (some (.tup xs))=suL l σ (at1 xs k) (ltB xs 2000):=rfl
noncomputable def suS (k:Nat) (l:Loc) (σ:St):Option AO→Option (Res AV×Loc×St)
  | some (.sdict kvs)=>lo l σ (lk kvs k)
  | _=>none
noncomputable def suB (k:Nat) (l:Loc) (σ:St):Option AO→Option (Res AV×Loc×St)
  | some (.bdict kvs)=>lo l σ (lk kvs k)
  | _=>none
theorem C6 (i k:Nat):gC (.ref i) (.str k) l σ=suS k l σ (σ.get i):=by
  show (match σ.get i with | some (.sdict kvs)=>_ | _=>none)=suS k l σ (σ.get i)
  cases σ.get i with
  | none=>rfl
  | some o =>
    cases o with
    | sdict kvs =>
      show (look kvs k).map _=lo l σ (lk kvs k)
      rw [oZ]
      cases lk kvs k <;> rfl
    | _=>rfl
theorem C7 (i k:Nat):gC (.ref i) (.byt k) l σ=suB k l σ (σ.get i):=by
  show (match σ.get i with | some (.bdict kvs)=>_ | _=>none)=suB k l σ (σ.get i)
  cases σ.get i with
  | none=>rfl
  | some o =>
    cases o with
    | bdict kvs =>
      show (look kvs k).map _=lo l σ (lk kvs k)
      rw [oZ]
      cases lk kvs k <;> rfl
    | _=>rfl
theorem C8 (kvs:List (Nat×AV)) (k:Nat):suS k l σ (some (.sdict kvs))=lo l σ (lk kvs k):=rfl
theorem C9 (kvs:List (Nat×AV)) (k:Nat):suB k l σ (some (.bdict kvs))=lo l σ (lk kvs k):=rfl
noncomputable def ssI (i:Nat) (k:Int) (v:AV) (l:Loc) (σ:St):Option AO→Option (Res Unit×Loc×St)
  | some (.list xs)=>if 0≤k∧k<1000∧k<xs.length then some (.ok (),l,σ.set i (.list (xs.set k.toNat v))) else none
  | some (.idict kvs)=>if kvs.length<1000 then some (.ok (),l,σ.set i (.idict (store kvs k v))) else none
  | _=>none
theorem AU (i:Nat) (k:Int) (v:AV):dX (.ref i) (.int k) v l σ=ssI i k v l σ (σ.get i):=rfl
theorem Da (i:Nat) (k:Int) (v:AV) (xs:List AV):ssI i k v l σ (some (.list xs))=if 0≤k∧k<1000∧k<xs.length then some (.ok (),l,σ.set i (.list (xs.set k.toNat v))) else none:=rfl
theorem Db (i:Nat) (k:Int) (v:AV) (kvs:List (Int×AV)):ssI i k v l σ (some (.idict kvs))=if kvs.length<1000 then some (.ok (),l,σ.set i (.idict (store kvs k v))) else none:=rfl
theorem Dc (fo fi fv:M AV):dw fo fi fv l σ=bk (fun v=>au fo fun o=>au fi fun i=>au (dX o i v) fun _=>ret .next) (fv l σ):=rfl
theorem AW (k:MK) (val:List AV→M AV) (fo:M AV) (fas:M (List AV)):bmE k val fo fas l σ=bk (fun o=>au (xD k o) fun _=>au fas fun as=>val (o::as)) (fo l σ):=rfl
noncomputable def mL (k:MK) (l:Loc) (σ:St) (o:Option AO):Option (Res Unit×Loc×St):=match k,o with
    | .list,some (.list _)=>some (.ok (),l,σ)
    | .dict,some (.idict _)=>some (.ok (),l,σ)
    | _,_=>none
theorem AX (k:MK) (i:Nat):xD k (.ref i) l σ=mL k l σ (σ.get i):=rfl
theorem Dd (xs:List AV):mL .list l σ (some (.list xs))=some (.ok (),l,σ):=rfl
theorem De (kvs:List (Int×AV)):mL .dict l σ (some (.idict kvs))=some (.ok (),l,σ):=rfl
theorem Df (n:Nat) (f:M AV) (g:List AV→M Unit):nq n f g l σ=bk (fun a=>au (mI n a) fun as=>au (g as) fun _=>ret .next) (f l σ):=rfl
theorem Dg (n:Nat) (f:M AV) (g:List AV→M Unit):gQ n f g l σ=bk (fun a=>au (mI n a) fun as=>au (g as.reverse) fun _=>ret .next) (f l σ):=rfl
noncomputable def uQ (l:Loc) (σ:St) (xs:List AV):Bool→Option (Res (List AV)×Loc×St)
  | true=>some (.ok xs,l,σ)
  | false=>none
noncomputable def uP (n:Nat) (l:Loc) (σ:St):Option AO→Option (Res (List AV)×Loc×St)
  | some (.tup xs)=>uQ l σ xs (xs.length==n)
  | some (.list xs)=>uQ l σ xs (xs.length==n)
  | _=>none
theorem yk {δ:Type} (m n:Nat) (x y:δ) (f:Bool→δ) (h1:f true=x) (h2:f false=y):(if m=n then x else y)=f (m==n):=by
  by_cases h:m=n
  · rw [if_pos h,beq_iff_eq.mpr h,h1]
  · rw [if_neg h,beq_eq_false_iff_ne.mpr h,h2]
theorem AY (n i:Nat):mI n (.ref i) l σ=uP n l σ (σ.get i):=by
  show (match σ.get i with | some (.tup xs)=>_ | some (.list xs)=>_ | _=>none)=uP n l σ (σ.get i)
  cases σ.get i with
  | none=>rfl
  | some o =>
    cases o with
    | tup xs=>exact yk _ _ _ _ (uQ l σ xs) rfl rfl
    | list xs=>exact yk _ _ _ _ (uQ l σ xs) rfl rfl
    | _=>rfl
theorem Dh (n:Nat) (xs:List AV):uP n l σ (some (.tup xs))=uQ l σ xs (xs.length==n):=rfl
theorem Di (n:Nat) (xs:List AV):uP n l σ (some (.list xs))=uQ l σ xs (xs.length==n):=rfl
theorem Dj (g:AV→M Unit) (gs:List AV→M Unit) (a:AV) (as:List AV):bq g gs (a::as) l σ=bk (fun _=>gs as) (g a l σ):=rfl
theorem Dk (cs:Cls) (k:Nat) (fo:M AV) (v:AV):atG cs k fo v l σ=bk (fun o=>kq cs k o v) (fo l σ):=rfl
theorem AZ (C k:Nat):gf C k l σ=some (.exc (σ.next+1),l,(σ.push (.sdict [(0,.byt k)])).push (.inst C σ.next)):=rfl
theorem ro (k:Nat) (ks:List Nat) (a:AV) (as:List AV):jp (k::ks) (a::as) l σ=jp ks as (upL l k a) σ:=by
  show bk (fun _=>jp ks as) (bU k a l σ)=_
  rw [BD]
  rfl
theorem vO (as:List AV):jp [] as l σ=some (.ok (),l,σ):=rfl
theorem A0:lR l=upL l:=by funext k a; exact yi l k a
noncomputable def iL (o:Option AO) (p:Nat):Option (Option (List AV)):=match o with
  | some (.list xs)=>some (xs[p]?.map fun a=>[a])
  | _=>none
theorem A3 (i p:Nat):bH (.list i) σ p=iL (σ.get i) p:=rfl
noncomputable def lpB (k:IK) (ks:List Nat) (body:M AF) (n p:Nat) (l:Loc) (σ:St):Option (Option (List AV))→Option (Res AF×Loc×St)
  | some none=>some (.ok .next,l,σ)
  | some (some vs)=>bk (fun _=>ay body (cz k ks body n (p+1))) (jp ks vs l σ)
  | none=>none
theorem tO (k:IK) (ks:List Nat) (body:M AF) (n p:Nat):cz k ks body (n+1) p l σ=lpB k ks body n p l σ (bH k σ p):=by
  show (match bH k σ p with | none=>none | some none=>_ | some (some vs)=>_)=lpB k ks body n p l σ (bH k σ p)
  cases bH k σ p with
  | none=>rfl
  | some o=>cases o <;> rfl
theorem vR (k:IK) (ks:List Nat) (body:M AF) (n p:Nat) (vs:List AV):lpB k ks body n p l σ (some (some vs))=bk (fun _=>ay body (cz k ks body n (p+1))) (jp ks vs l σ):=rfl
noncomputable def fO (i kx:Nat) (body:M AF) (N:Nat) (l:Loc) (σ:St):Option AO→Option (Res AF×Loc×St)
  | some (.list _)=>cz (.list i) [kx] body N 0 l σ
  | some (.tup _)=>cz (.tup i) [kx] body N 0 l σ
  | _=>none
noncomputable def fE (kx:Nat) (body:M AF) (N:Nat):AV→M AF
  | .ref i=>fun l σ=>fO i kx body N l σ (σ.get i)
  | _=>fun _ _=>none
theorem Dl (f:M AV) (kx:Nat) (body:M AF) (N:Nat):nk f kx body N l σ=bk (fE kx body N) (f l σ):=by
  show bk _ (f l σ)=_
  congr 1
theorem Dm (kx:Nat) (body:M AF) (N i:Nat):fE kx body N (.ref i) l σ=fO i kx body N l σ (σ.get i):=rfl
noncomputable def cJ (i acc:Nat) (t:M Bool) (e:M AV) (n p:Nat):Option (Res AV×Loc×St)→Option St
  | some (.ok _,l,σ)=>dT i acc t e n (p+1) l σ
  | _=>none
noncomputable def cI (i acc:Nat) (t:M Bool) (e:M AV) (n p:Nat):Option (Res AV×Loc×St)→Option St
  | some (.ok v,l,σ)=>cJ i acc t e n p (bI [.ref acc,v] l σ)
  | _=>none
noncomputable def cH (i acc:Nat) (t:M Bool) (e:M AV) (n p:Nat):Option (Res Bool×Loc×St)→Option St
  | some (.ok true,l,σ)=>cI i acc t e n p (e l σ)
  | some (.ok false,l,σ)=>dT i acc t e n (p+1) l σ
  | _=>none
noncomputable def cG (i acc:Nat) (t:M Bool) (e:M AV) (n p:Nat) (l:Loc) (σ:St):Option (Option (List AV))→Option St
  | some none=>some σ
  | some (some [a])=>cH i acc t e n p (t (upL l 0 a) σ)
  | _=>none
theorem A4 (i acc:Nat) (t:M Bool) (e:M AV) (n p:Nat):dT i acc t e (n+1) p l σ=cG i acc t e n p l σ (bH (.list i) σ p):=by
  show (match bH (.list i) σ p with | some none=>some σ | some (some [a])=>_ | _=>none)=_
  rcases bH (.list i) σ p with _ | _ | _ | ⟨a,_ | _⟩ <;> try rfl
  show (match t (lR l 0 a) σ with | some (.ok true,l1,σ1)=>_ | some (.ok false,l1,σ1)=>_ | _=>none)=cH i acc t e n p (t (upL l 0 a) σ)
  rw [A0]
  rcases t (upL l 0 a) σ with _ | ⟨(_ | _) | _,l1,σ1⟩ <;> try rfl
theorem Dn (i acc:Nat) (t:M Bool) (e:M AV) (n p:Nat):cH i acc t e n p (some (.ok true,l,σ))=cI i acc t e n p (e l σ):=rfl
theorem Do (i acc:Nat) (t:M Bool) (e:M AV) (n p:Nat):cH i acc t e n p (some (.ok false,l,σ))=dT i acc t e n (p+1) l σ:=rfl
theorem Dp (i acc:Nat) (t:M Bool) (e:M AV) (n p:Nat) (v:AV):cJ i acc t e n p (some (.ok v,l,σ))=dT i acc t e n (p+1) l σ:=rfl
noncomputable def cF (n:Nat) (l:Loc):Option St→Option (Res AV×Loc×St)
  | some σ=>some (.ok (.ref n),l,σ)
  | none=>none
noncomputable def cO (i:Nat) (t:M Bool) (e:M AV) (N:Nat) (l:Loc) (σ:St):Option AO→Option (Res AV×Loc×St)
  | some (.list _)=>cF σ.next l (dT i σ.next t e N 0 (fun _=>none) (σ.push (.list [])))
  | _=>none
noncomputable def cE (t:M Bool) (e:M AV) (N:Nat):AV→M AV
  | .ref i=>fun l σ=>cO i t e N l σ (σ.get i)
  | _=>fun _ _=>none
theorem Dq (f:M AV) (t:M Bool) (e:M AV) (N:Nat):kg f t e N l σ=bk (cE t e N) (f l σ):=by
  show bk _ (f l σ)=_
  congr 1
theorem Dr (i:Nat) (t:M Bool) (e:M AV) (N:Nat):cE t e N (.ref i) l σ=cO i t e N l σ (σ.get i):=rfl
theorem Ds (i:Nat) (t:M Bool) (e:M AV) (N:Nat) (xs:List AV):cO i t e N l σ (some (.list xs))=cF σ.next l (dT i σ.next t e N 0 (fun _=>none) (σ.push (.list []))):=rfl
noncomputable def vE (l:Loc) (σ:St) (i:Nat):Option AO→Option AO→Option (Res AV×Loc×St)
  | some (.list xs),some (.tup ys)=>vS l σ .none i (.list (xs++ys)) (ltB xs 1000&&ltB ys 1000)
  | _,_=>none
theorem Dt (i j:Nat):lN [.ref i,.ref j] l σ=vE l σ i (σ.get i) (σ.get j):=by
  show (match σ.get i,σ.get j with | some (.list xs),some (.tup ys)=>_ | _,_=>none)=vE l σ i (σ.get i) (σ.get j)
  rcases σ.get i with _ | o
  · rfl
  · cases o <;> try rfl
    rcases σ.get j with _ | o'
    · rfl
    · cases o' <;> try rfl
      rename_i xs ys
      show (if xs.length<1000∧ys.length<1000 then _ else _)=vS l σ .none i (.list (xs++ys)) (ltB xs 1000&&ltB ys 1000)
      rw [ib,ib]
      by_cases h:xs.length<1000 <;> by_cases h':ys.length<1000 <;> simp [h,h',vS]
theorem Du (i:Nat) (xs ys:List AV):vE l σ i (some (.list xs)) (some (.tup ys))=vS l σ .none i (.list (xs++ys)) (ltB xs 1000&&ltB ys 1000):=rfl
noncomputable def vT (l:Loc) (σ:St):Option AO→Option (Res AV×Loc×St)
  | some (.bdict kvs)=>if kvs.map (·.1)=[]∨kvs.map (·.1)=[1]∨kvs.map (·.1)=[1,2] then some (.ok (.ref σ.next),l,σ.push (.list (fc .byt kvs))) else none
  | _=>none
theorem Dv (i:Nat):jI [.ref i] l σ=vT l σ (σ.get i):=by
  show (match σ.get i with | some (.bdict kvs)=>_ | _=>none)=_
  rcases σ.get i with _ | o
  · rfl
  · cases o <;> rfl
noncomputable def iU (l:Loc) (σ:St):Bool→Option AO→Option (Res AV×Loc×St)
  | true,some (.sdict _)=>some (.ok (.bool false),l,σ)
  | _,_=>none
noncomputable def iT (cs:Cls) (l:Loc) (σ:St):Option AO→Option (Res AV×Loc×St)
  | some (.tup _)=>some (.ok (.bool true),l,σ)
  | some (.inst C d)=>iU l σ (cs.contains C) (σ.get d)
  | _=>none
theorem A5 (cs:Cls) (i:Nat):xJ cs "tuple" (.ref i) l σ=iT cs l σ (σ.get i):=by
  show (match σ.get i with | some (.tup _)=>_ | some (.list _)=>_ | some (.inst C d)=>_ | _=>none)=iT cs l σ (σ.get i)
  rcases σ.get i with _ | o
  · rfl
  · cases o <;> try rfl
    rename_i C d
    show (if "tuple" = "tuple" ∧ cs.contains C=true then _ else _)=iU l σ (cs.contains C) (σ.get d)
    cases cs.contains C with
    | false=>rfl
    | true =>
      rw [if_pos ⟨rfl,rfl⟩]
      show (match σ.get d with | some (.sdict _)=>_ | _=>none)=iU l σ true (σ.get d)
      rcases σ.get d with _ | o
      · rfl
      · cases o <;> rfl
theorem Dw (cs:Cls) (C d:Nat):iT cs l σ (some (.inst C d))=iU l σ (cs.contains C) (σ.get d):=rfl
theorem yl (cs:Cls) (T:String) (f:M AV):rR cs T f l σ=bk (xJ cs T) (f l σ):=rfl
noncomputable def vG (k:Int) (d:AV) (l:Loc) (σ:St):Option AO→Option (Res AV×Loc×St)
  | some (.idict kvs)=>some (.ok ((look kvs k).getD d),l,σ)
  | _=>none
theorem Dx (i:Nat) (k:Int) (d:AV):wr [.ref i,.int k,d] l σ=vG k d l σ (σ.get i):=rfl
theorem Dy (k:Int) (d:AV) (kvs:List (Int×AV)):vG k d l σ (some (.idict kvs))=some (.ok ((look kvs k).getD d),l,σ):=rfl
noncomputable def tV (ke:Nat):Option (Res AF×Loc×St)→Option (Res AF×Loc×St)
  | some (.ok f,l,σ)=>some (.ok f,(fun j=>if j=ke then none else l j),σ)
  | _=>none
noncomputable def tZ (ke:Nat) (hnd:M AF) (i:Nat) (l:Loc) (σ:St):Bool→Option (Res AF×Loc×St)
  | true=>tV ke (hnd (upL l ke (.ref i)) σ)
  | false=>none
noncomputable def tY (C ke:Nat) (hnd:M AF) (i:Nat) (l:Loc) (σ:St):Option AO→Option (Res AF×Loc×St)
  | some (.inst C' _)=>tZ ke hnd i l σ (C'==C)
  | _=>none
noncomputable def tX (C ke:Nat) (hnd:M AF):Option (Res AF×Loc×St)→Option (Res AF×Loc×St)
  | some (.ok f,l,σ)=>some (.ok f,l,σ)
  | some (.exc i,l,σ)=>tY C ke hnd i l σ (σ.get i)
  | none=>none
theorem A6 (C ke:Nat) (body hnd:M AF):qE C body ke hnd l σ=tX C ke hnd (body l σ):=by
  show (match body l σ with | some (.ok f,l',σ')=>_ | some (.exc i,l',σ')=>_ | none=>none)=tX C ke hnd (body l σ)
  rcases body l σ with _ | ⟨f | i,l',σ'⟩ <;> try rfl
  show (match σ'.get i with | some (.inst C' _)=>_ | _=>none)=tY C ke hnd i l' σ' (σ'.get i)
  rcases σ'.get i with _ | o
  · rfl
  · cases o <;> try rfl
    rename_i C' d
    rw [A0]
    by_cases h:C'=C
    · show (if C'=C then _ else _)=tZ ke hnd i l' σ' (C'==C)
      rw [if_pos h,beq_iff_eq.mpr h]
      show (match hnd (upL l' ke (.ref i)) σ' with | some (.ok f,l2,σ2)=>_ | _=>none)=tV ke (hnd (upL l' ke (.ref i)) σ')
      rcases hnd (upL l' ke (.ref i)) σ' with _ | ⟨f | i,l',σ'⟩ <;> rfl
    · show (if C'=C then _ else _)=tZ ke hnd i l' σ' (C'==C)
      rw [if_neg h,beq_eq_false_iff_ne.mpr h]
      rfl
theorem Dz (C ke:Nat) (hnd:M AF) (i:Nat):tX C ke hnd (some (.exc i,l,σ))=tY C ke hnd i l σ (σ.get i):=rfl
theorem DA (C C' d ke:Nat) (hnd:M AF) (i:Nat):tY C ke hnd i l σ (some (.inst C' d))=tZ ke hnd i l σ (C'==C):=rfl
theorem DB (ke:Nat) (hnd:M AF) (i:Nat):tZ ke hnd i l σ true=tV ke (hnd (upL l ke (.ref i)) σ):=rfl
noncomputable def tW (C k:Nat) (l:Loc) (σ:St):Option AO→Option (Res AV×Loc×St)
  | some (.inst C' d)=>aX k l σ (C'==C) (σ.get d)
  | _=>none
theorem DC (C k:Nat) (f:M AV):oG C k f l σ=bk (tv C k) (f l σ):=rfl
theorem DD (C k i:Nat):tv C k (.ref i) l σ=tW C k l σ (σ.get i):=by
  show (match σ.get i with | some (.inst C' d)=>_ | _=>none)=tW C k l σ (σ.get i)
  cases σ.get i with
  | none=>rfl
  | some o =>
    cases o with
    | inst C' d =>
      show (if C'=C then _ else _)=aX k l σ (C'==C) (σ.get d)
      by_cases h:C'=C
      · rw [if_pos h,beq_iff_eq.mpr h]
        show (match σ.get d with | some (.sdict kvs)=>_ | _=>none)=aX k l σ true (σ.get d)
        cases σ.get d with
        | none=>rfl
        | some o =>
          cases o with
          | sdict kvs =>
            show (match look kvs k with | some v=>_ | none=>none)=lo l σ (lk kvs k)
            rw [oZ]
            cases lk kvs k <;> rfl
          | _=>rfl
      · rw [if_neg h,beq_eq_false_iff_ne.mpr h]; rfl
    | _=>rfl
theorem DE (C k C' d:Nat):tW C k l σ (some (.inst C' d))=aX k l σ (C'==C) (σ.get d):=rfl
noncomputable def vQ (l:Loc) (σ:St) (i:Nat) (xs:List AV):Bool→Option AV→Option (Res AV×Loc×St)
  | true,some y=>some (.ok y,l,σ.set i (.list xs.dropLast))
  | _,_=>none
noncomputable def vP (l:Loc) (σ:St) (i:Nat):Option AO→Option (Res AV×Loc×St)
  | some (.list xs)=>vQ l σ i xs (ltB xs 2000) xs.getLast?
  | _=>none
theorem DF (i:Nat):pg [.ref i] l σ=vP l σ i (σ.get i):=by
  show (match σ.get i with | some (.list xs)=>_ | _=>none)=vP l σ i (σ.get i)
  rcases σ.get i with _ | o
  · rfl
  · cases o <;> try rfl
    rename_i xs
    show (if xs.length<2000 then _ else _)=vQ l σ i xs (ltB xs 2000) xs.getLast?
    rw [ib]
    by_cases h:xs.length<2000
    · rw [if_pos h,decide_eq_true h]; cases xs.getLast? <;> rfl
    · rw [if_neg h,decide_eq_false h]; rfl
theorem DG (i:Nat) (xs:List AV):vP l σ i (some (.list xs))=vQ l σ i xs (ltB xs 2000) xs.getLast?:=rfl
noncomputable def iN (o:Option AO) (p:Nat):Option (Option (List AV)):=match o with
  | some (.list xs)=>some (xs[p]?.map fun a=>[.int p,a])
  | _=>none
theorem DH (i p:Nat):bH (.enum i) σ p=iN (σ.get i) p:=rfl
noncomputable def fM (i k1 k2:Nat) (body:M AF) (N:Nat) (l:Loc) (σ:St):Option AO→Option (Res AF×Loc×St)
  | some (.list _)=>cz (.enum i) [k1,k2] body N 0 l σ
  | _=>none
noncomputable def fN (k1 k2:Nat) (body:M AF) (N:Nat):AV→M AF
  | .ref i=>fun l σ=>fM i k1 k2 body N l σ (σ.get i)
  | _=>fun _ _=>none
theorem DI (f:M AV) (k1 k2:Nat) (body:M AF) (N:Nat):nl f k1 k2 body N l σ=bk (fN k1 k2 body N) (f l σ):=by
  show bk _ (f l σ)=_
  congr 1
end
end Lw
end SPK
section SPL
namespace Lw
open St
section
variable {l l1 l2:Loc} {σ σ1 σ2 σ3 σ4:St} {U:List (Nat×AO)} {L:List AO}
theorem av {f g:M AF} {r:Option (Res AF×Loc×St)} (h:f l σ=some (.ok .next,l1,σ1)) (h2:g l1 σ1=r):ay f g l σ=r:=by rw [zk5,h]; exact h2
theorem jW {f g:M AF} {a:AV} (h:f l σ=some (.ok (.ret a),l1,σ1)):ay f g l σ=some (.ok (.ret a),l1,σ1):=by rw [zk5,h]; rfl
theorem uR {f g:M AF} {i:Nat} (h:f l σ=some (.exc i,l1,σ1)):ay f g l σ=some (.exc i,l1,σ1):=by rw [zk5,h]; rfl
theorem ag {α:Type} (a:α):ret a l σ=some (.ok a,l,σ):=rfl
theorem aY {f:M AV} {v:AV} (h:f l σ=some (.ok v,l1,σ1)):cu f l σ=some (.ok (.ret v),l1,σ1):=by rw [BB,h]; rfl
theorem ca {f:M AV} {v:AV} (h:f l σ=some (.ok v,l1,σ1)):bS f l σ=some (.ok .next,l1,σ1):=by rw [BC,h]; rfl
theorem jX {f:M AV} {i:Nat} (h:f l σ=some (.exc i,l1,σ1)):bS f l σ=some (.exc i,l1,σ1):=by rw [BC,h]; rfl
theorem cU {f:M AV} {k:Nat} {v:AV} (h:f l σ=some (.ok v,l,σ1)):bn f k l σ=some (.ok .next,upL l k v,σ1):=by rw [BE,h]; rfl
theorem aa {k:Nat} {v:AV} (h:l k=some v):ac k l σ=some (.ok v,l,σ):=by rw [zP,h]; rfl
theorem bB {α β:Type} {f:M α} {g:α→M β} {a:α} {r:Option (Res β×Loc×St)} (h:f l σ=some (.ok a,l1,σ1)) (h2:g a l1 σ1=r):au f g l σ=r:=by rw [zk2,h]; exact h2
theorem am:aq l σ=some (.ok [],l,σ):=rfl
theorem af {f:M AV} {g:M (List AV)} {a:AV} {as:List AV} (h:f l σ=some (.ok a,l1,σ1)) (h1:g l1 σ1=some (.ok as,l2,σ2)):ah f g l σ=some (.ok (a::as),l2,σ2):=by rw [yh,h,zk0,zk2,h1]; rfl
theorem br {bd:List AV→Option Loc} {f:M AF} {as:List AV} {v:AV} (hb:bd as=some l) (h:f l σ=some (.ok (.ret v),l1,σ1)):bx bd f as σ=some (.ok v,σ1):=by rw [ye,hb,yf,h]; rfl
theorem dy {bd:List AV→Option Loc} {f:M AF} {as:List AV} (hb:bd as=some l) (h:f l σ=some (.ok .next,l1,σ1)):bx bd f as σ=some (.ok .none,σ1):=by rw [ye,hb,yf,h]; rfl
theorem rq {bd:List AV→Option Loc} {f:M AF} {as:List AV} {i:Nat} (hb:bd as=some l) (h:f l σ=some (.exc i,l1,σ1)):bx bd f as σ=some (.exc i,σ1):=by rw [ye,hb,yf,h]; rfl
theorem ba {f:M (List AV)} {g:Fn} {as:List AV} {v:AV} (h:f l σ=some (.ok as,l,σ1)) (h1:g as σ1=some (.ok v,σ2)):aZ g f l σ=some (.ok v,l,σ2):=by rw [yg,h,zk0,tN,h1]; rfl
theorem sz {f:M (List AV)} {g:Fn} {as:List AV} {i:Nat} (h:f l σ=some (.ok as,l,σ1)) (h1:g as σ1=some (.exc i,σ2)):aZ g f l σ=some (.exc i,l,σ2):=by rw [yg,h,zk0,tN,h1]; rfl
theorem sB {C:Nat} {g:Fn} {as:List AV} (h:σ.push (.sdict [])=σ1) (h1:σ1.push (.inst C σ.next)=σ2) (h2:g (.ref (σ.next+1)::as) σ2=some (.ok .none,σ3)):cN C g as σ=some (.ok (.ref (σ.next+1)),σ3):=by subst h h1; rw [BK,h2]; rfl
theorem sC {C a d:Nat} {kv:List (Nat×AV)} (h1:σ.get a=some (.inst C d)) (h2:σ.get d=some (.sdict kv)):jH C (.ref a) l σ=some (.ok (),l,σ):=by rw [CN,h1,CO,h2,beq_self_eq_true]; rfl
theorem bV {C:Nat} {g:Fn} {fo:M AV} {fas:M (List AV)} {a d:Nat} {kv:List (Nat×AV)} {as:List AV} {v:AV} (h:fo l σ=some (.ok (.ref a),l,σ1)) (h1:σ1.get a=some (.inst C d)) (h2:σ1.get d=some (.sdict kv)) (h3:fas l σ1=some (.ok as,l,σ2)) (h4:g (.ref a::as) σ2=some (.ok v,σ3)) :
    bT C g fo fas l σ=some (.ok v,l,σ3):=by rw [BO,h,zk0,zk2,sC h1 h2,zk0,zk2,h3,zk0,tN,h4]; rfl
theorem o4 {C:Nat} {g:Fn} {fo:M AV} {fas:M (List AV)} {a d:Nat} {kv:List (Nat×AV)} {as:List AV} {i:Nat} (h:fo l σ=some (.ok (.ref a),l,σ1)) (h1:σ1.get a=some (.inst C d)) (h2:σ1.get d=some (.sdict kv)) (h3:fas l σ1=some (.ok as,l,σ2)) (h4:g (.ref a::as) σ2=some (.exc i,σ3)) :
    bT C g fo fas l σ=some (.exc i,l,σ3):=by rw [BO,h,zk0,zk2,sC h1 h2,zk0,zk2,h3,zk0,tN,h4]; rfl
theorem m0 {C:Nat} {g:Fn} {f:M AV} {a d:Nat} {kv:List (Nat×AV)} {v:AV} (h:f l σ=some (.ok (.ref a),l,σ1)) (h1:σ1.get a=some (.inst C d)) (h2:σ1.get d=some (.sdict kv)) (h4:g [.ref a] σ1=some (.ok v,σ2)) :
    pe C g f l σ=some (.ok v,l,σ2):=by rw [Ex,h,zk0,Ey,sC h1 h2,zk0,h4]; rfl
theorem sE {cs:Cls} {k a C d:Nat} {kv:List (Nat×AV)} {v:AV} (h1:σ.get a=some (.inst C d)) (hc:cs.contains C=true) (h2:σ.get d=some (.sdict kv)) (hk:lk kv k=some v):kf cs k (.ref a) l σ=some (.ok v,l,σ):=by
  rw [BH,h1,BI,hc,h2,zQ,hk]; rfl
theorem ao {cs:Cls} {f:M AV} {k a C d:Nat} {kv:List (Nat×AV)} {v:AV} (h:f l σ=some (.ok (.ref a),l,σ1)) (h1:σ1.get a=some (.inst C d)) (hc:cs.contains C=true) (h2:σ1.get d=some (.sdict kv)) (hk:lk kv k=some v):aw cs k f l σ=some (.ok v,l,σ1):=by
  rw [zR,h]; exact sE h1 hc h2 hk
theorem lw {cs:Cls} {k a C d:Nat} {kv:List (Nat×AV)} {v:AV} (h1:σ.get a=some (.inst C d)) (hc:cs.contains C=true) (h2:σ.get d=some (.sdict kv)) (hl:ltB kv 900=true) (hs:σ.set d (.sdict (stK kv k v))=σ1):kq cs k (.ref a) v l σ=some (.ok (),l,σ1):=by
  subst hs
  rw [zS,h1,zT,hc,h2]
  show sY _ _ _ _ (ltB kv 900)=_
  rw [hl]; rfl
theorem dA {cs:Cls} {k a C d:Nat} {kv:List (Nat×AV)} {v:AV} {fo fv:M AV} (hv:fv l σ=some (.ok v,l,σ1)) (ho:fo l σ1=some (.ok (.ref a),l,σ2)) (h1:σ2.get a=some (.inst C d)) (hc:cs.contains C=true) (h2:σ2.get d=some (.sdict kv)) (hl:ltB kv 900=true) (hs:σ2.set d (.sdict (stK kv k v))=σ3) :
    bg cs k fo fv l σ=some (.ok .next,l,σ3):=by rw [yj,hv,zk0,zk2,ho,zk0,zk2,lw h1 hc h2 hl hs]; rfl
theorem vU {cs:Cls} {f:M AV} {k:Nat} {a v:AV} (h:f l σ=some (.ok a,l,σ1)) (h1:kf cs k a l σ1=some (.ok v,l,σ1)):aw cs k f l σ=some (.ok v,l,σ1):=by rw [zR,h]; exact h1
theorem jc {cs:Cls} {k:Nat} {a v:AV} {fo fv:M AV} (hv:fv l σ=some (.ok v,l,σ1)) (ho:fo l σ1=some (.ok a,l,σ2)) (h1:kq cs k a v l σ2=some (.ok (),l,σ3)):bg cs k fo fv l σ=some (.ok .next,l,σ3):=by rw [yj,hv,zk0,zk2,ho,zk0,zk2,h1]; rfl
theorem A7 {cs:Cls} {k a C d:Nat} {kv:List (Nat×AV)} {v:AV} {fo:M AV} (ho:fo l σ=some (.ok (.ref a),l,σ2)) (h1:σ2.get a=some (.inst C d)) (hc:cs.contains C=true) (h2:σ2.get d=some (.sdict kv)) (hl:ltB kv 900=true) (hs:σ2.set d (.sdict (stK kv k v))=σ3) :
    atG cs k fo v l σ=some (.ok (),l,σ3):=by rw [Dk,ho]; exact lw h1 hc h2 hl hs
theorem uS {i:Nat} {xs:List AV} (h:σ.get i=some (.list xs)) (hl:ltB xs 16777216=true) (hs:σ.push (.list xs)=σ1):du [.ref i] l σ=some (.ok (.ref σ.next),l,σ1):=by rw [CP,h,CQ,hl,← hs]; rfl
theorem BP {i:Nat} {xs:List (Nat×AV)} (h:σ.get i=some (.bdict xs)) (hl:ltB xs 1000=true) (hs:σ.push (.bdict xs)=σ1):mh [.ref i] l σ=some (.ok (.ref σ.next),l,σ1):=by rw [CR,h,CS,hl,← hs]; rfl
theorem km {i:Nat} {xs:List AV} (h:σ.get i=some (.list xs)) (hl:ltB xs 16777216=true):em [.ref i] l σ=some (.ok (.int xs.length),l,σ):=by rw [Ez,h,EA,hl]; rfl
theorem fC {f:M (List AV)} {as:List AV} (h:f l σ=some (.ok as,l1,σ1)) (hl:ltB as 1000=true) (hs:σ1.push (.list as)=σ2):dJ f l σ=some (.ok (.ref σ1.next),l1,σ2):=by rw [BL,h,zk0,zV,hl,← hs]; rfl
theorem cL {f:M (List AV)} {as:List AV} (h:f l σ=some (.ok as,l1,σ1)) (hl:ltB as 1000=true) (hs:σ1.push (.tup as)=σ2):eH f l σ=some (.ok (.ref σ1.next),l1,σ2):=by rw [Ev,h,zk0,zV,hl,← hs]; rfl
theorem aF {f g:M AV} {a b v:AV} (h:f l σ=some (.ok a,l,σ1)) (h1:g l σ1=some (.ok b,l,σ2)) (h2:gC a b l σ2=some (.ok v,l,σ2)):aO f g l σ=some (.ok v,l,σ2):=by rw [C1,h,zk0,zk2,h1]; exact h2
theorem bR {i:Nat} {k:Int} {xs:List AV} {v:AV} (h:σ.get i=some (.list xs)) (hl:ltB xs 2000=true) (hk:at1 xs k=some v):gC (.ref i) (.int k) l σ=some (.ok v,l,σ):=by rw [AT,h,C4,hl,hk]; rfl
theorem lx {i:Nat} {k:Int} {xs:List AV} {v:AV} (h:σ.get i=some (.tup xs)) (hl:ltB xs 2000=true) (hk:at1 xs k=some v):gC (.ref i) (.int k) l σ=some (.ok v,l,σ):=by rw [AT,h,C5,hl,hk]; rfl
theorem aM {i k:Nat} {kv:List (Nat×AV)} {v:AV} (h:σ.get i=some (.sdict kv)) (hk:lk kv k=some v):gC (.ref i) (.str k) l σ=some (.ok v,l,σ):=by rw [C6,h,C8,hk]; rfl
theorem ym {i k:Nat} {kv:List (Nat×AV)} {v:AV} (h:σ.get i=some (.bdict kv)) (hk:lk kv k=some v):gC (.ref i) (.byt k) l σ=some (.ok v,l,σ):=by rw [C7,h,C9,hk]; rfl
theorem gr {fo fi fv:M AV} {o i v:AV} (hv:fv l σ=some (.ok v,l,σ1)) (ho:fo l σ1=some (.ok o,l,σ2)) (hi:fi l σ2=some (.ok i,l,σ3)) (h:dX o i v l σ3=some (.ok (),l,σ4)):dw fo fi fv l σ=some (.ok .next,l,σ4):=by
  rw [Dc,hv,zk0,zk2,ho,zk0,zk2,hi,zk0,zk2,h]; rfl
theorem jY {i:Nat} {k:Int} {xs:List AV} {v:AV} (h:σ.get i=some (.list xs)) (hk:(decide (0≤k)&&decide (k<1000)&&Nat.blt k.toNat xs.length)=true) (hs:σ.set i (.list (xs.set k.toNat v))=σ1):dX (.ref i) (.int k) v l σ=some (.ok (),l,σ1):=by
  simp only [Bool.and_eq_true,decide_eq_true_eq,Nat.blt_eq] at hk
  rw [AU,h,Da,if_pos ⟨hk.1.1,hk.1.2,iBk hk.1 hk.2⟩,hs]
theorem vV {i:Nat} {k:Int} {kv:List (Int×AV)} {v:AV} (h:σ.get i=some (.idict kv)) (hk:kv.length<1000) (hs:σ.set i (.idict (store kv k v))=σ1):dX (.ref i) (.int k) v l σ=some (.ok (),l,σ1):=by rw [AU,h,Db,if_pos hk,hs]
theorem vW {i k:Nat} {kv:List (Nat×AV)} {v:AV} (h:σ.get i=some (.sdict kv)) (hk:ltB kv 1000=true) (hs:σ.set i (.sdict (stK kv k v))=σ1):dX (.ref i) (.str k) v l σ=some (.ok (),l,σ1):=by
  show (match σ.get i with | some (.sdict kvs)=>_ | _=>none)=_
  rw [h,← hs,← rm]
  show (if kv.length<1000 then _ else _)=_
  rw [ib] at hk
  rw [if_pos (of_decide_eq_true hk)]
theorem BQ {op:PySem.CmpOp} {a b:AV} {z:Bool} (h:dk σ op a b=some z):zh op a b l σ=some (.ok (.bool z),l,σ):=by
  show (dk σ op a b).bind _=_
  rw [h]; rfl
theorem cX {op:PySem.CmpOp} {f g:M AV} {a b:AV} {z:Bool} (h:f l σ=some (.ok a,l,σ1)) (h1:g l σ1=some (.ok b,l,σ2)) (h2:dk σ2 op a b=some z):eG op f g l σ=some (.ok (.bool z),l,σ2):=by rw [CZ,h,zk0,zk2,h1]; exact BQ h2
theorem dg {op:PySem.Operator} {f g:M AV} {a b v:AV} (h:f l σ=some (.ok a,l,σ1)) (h1:g l σ1=some (.ok b,l,σ2)) (h2:kJ op a b l σ2=some (.ok v,l,σ3)):fH op f g l σ=some (.ok v,l,σ3):=by rw [C0,h,zk0,zk2,h1]; exact h2
theorem eC {f g:M AV} {r:Option (Res AV×Loc×St)} (h:f l σ=some (.ok (.bool true),l,σ1)) (h1:g l σ1=r):lQ f g l σ=r:=by rw [AR,h]; exact h1
theorem o5 {f g:M AV} (h:f l σ=some (.ok (.bool false),l,σ1)):lQ f g l σ=some (.ok (.bool false),l,σ1):=by rw [AR,h]; rfl
theorem qi {f g:M AV} (h:f l σ=some (.ok (.bool true),l,σ1)):orE f g l σ=some (.ok (.bool true),l,σ1):=by rw [AS,h]; rfl
theorem sG {f g:M AV} {r:Option (Res AV×Loc×St)} (h:f l σ=some (.ok (.bool false),l,σ1)) (h1:g l σ1=r):orE f g l σ=r:=by rw [AS,h]; exact h1
theorem gV {f:M AV} {b c:Bool} (h:f l σ=some (.ok (.bool b),l,σ1)) (hb:(!b)=c):o8 f l σ=some (.ok (.bool c),l,σ1):=by rw [C2,h,← hb]; rfl
theorem DJ {cs:Cls} {f:M AV} {a d:Nat} {C:Nat} {kv:List (Nat×AV)} (h:f l σ=some (.ok (.ref a),l,σ1)) (h1:σ1.get a=some (.inst C d)) (hc:cs.contains C=true) (h2:σ1.get d=some (.sdict kv)):rR cs "tuple" f l σ=some (.ok (.bool false),l,σ1):=by
  rw [yl,h,zk0,A5,h1,Dw,hc,h2]; rfl
theorem BR {cs:Cls} {f:M AV} {a:Nat} {xs:List AV} (h:f l σ=some (.ok (.ref a),l,σ1)) (h1:σ1.get a=some (.tup xs)):rR cs "tuple" f l σ=some (.ok (.bool true),l,σ1):=by
  rw [yl,h,zk0,A5,h1]; rfl
theorem rt {x y:Int}:kJ .Add (.int x) (.int y) l σ=some (.ok (.int (x+y)),l,σ):=rfl
theorem bj {f:M AV} {b:Bool} (h:f l σ=some (.ok (.bool b),l,σ1)):asB f l σ=some (.ok b,l,σ1):=by rw [CY,h]; rfl
theorem aE {op:PySem.CmpOp} {f g:M AV} {a b:AV} {z:Bool} (h:f l σ=some (.ok a,l,σ1)) (h1:g l σ1=some (.ok b,l,σ2)) (h2:dk σ2 op a b=some z):bA op f g l σ=some (.ok z,l,σ2):=bj (cX h h1 h2)
theorem jd {t:M Bool} {b c:Bool} (h:t l σ=some (.ok b,l1,σ1)) (hb:(!b)=c):jC t l σ=some (.ok c,l1,σ1):=by rw [CX,h,← hb]; rfl
theorem cA {t u:M Bool} {r:Option (Res Bool×Loc×St)} (h:t l σ=some (.ok true,l1,σ1)) (h1:u l1 σ1=r):fW t u l σ=r:=by rw [CV,h]; exact h1
theorem dM {t u:M Bool} (h:t l σ=some (.ok false,l1,σ1)):fW t u l σ=some (.ok false,l1,σ1):=by rw [CV,h]; rfl
theorem qj {t u:M Bool} (h:t l σ=some (.ok true,l1,σ1)):orT t u l σ=some (.ok true,l1,σ1):=by rw [CW,h]; rfl
theorem fe {t u:M Bool} {r:Option (Res Bool×Loc×St)} (h:t l σ=some (.ok false,l1,σ1)) (h1:u l1 σ1=r):orT t u l σ=r:=by rw [CW,h]; exact h1
theorem dm {t:M Bool} {f g:M AF} {r:Option (Res AF×Loc×St)} (h:t l σ=some (.ok true,l1,σ1)) (h1:f l1 σ1=r):ifX t f g l σ=r:=by rw [CT,h]; exact h1
theorem bc {t:M Bool} {f g:M AF} {r:Option (Res AF×Loc×St)} (h:t l σ=some (.ok false,l1,σ1)) (h1:g l1 σ1=r):ifX t f g l σ=r:=by rw [CT,h]; exact h1
theorem gu {t:M Bool} {f g:M AV} {r:Option (Res AV×Loc×St)} (h:t l σ=some (.ok true,l1,σ1)) (h1:f l1 σ1=r):ifE t f g l σ=r:=by rw [CU,h]; exact h1
theorem eg {t:M Bool} {f g:M AV} {r:Option (Res AV×Loc×St)} (h:t l σ=some (.ok false,l1,σ1)) (h1:g l1 σ1=r):ifE t f g l σ=r:=by rw [CU,h]; exact h1
theorem cT {n i:Nat} {xs:List AV} (h:σ.get i=some (.tup xs)) (hn:(xs.length==n)=true):mI n (.ref i) l σ=some (.ok xs,l,σ):=by rw [AY,h,Dh,hn]; rfl
theorem BS {n i:Nat} {xs:List AV} (h:σ.get i=some (.list xs)) (hn:(xs.length==n)=true):mI n (.ref i) l σ=some (.ok xs,l,σ):=by rw [AY,h,Di,hn]; rfl
theorem kn {n:Nat} {f:M AV} {g:List AV→M Unit} {a:AV} {xs:List AV} (h:f l σ=some (.ok a,l,σ1)) (h1:mI n a l σ1=some (.ok xs,l,σ1)) (h2:g xs l σ1=some (.ok (),l1,σ2)):nq n f g l σ=some (.ok .next,l1,σ2):=by
  rw [Df,h,zk0,zk2,h1,zk0,zk2,h2]; rfl
theorem oM {n:Nat} {f:M AV} {g:List AV→M Unit} {a:AV} {xs:List AV} (h:f l σ=some (.ok a,l,σ1)) (h1:mI n a l σ1=some (.ok xs,l,σ1)) (h2:g xs.reverse l σ1=some (.ok (),l1,σ2)):gQ n f g l σ=some (.ok .next,l1,σ2):=by
  rw [Dg,h,zk0,zk2,h1,zk0,zk2,h2]; rfl
theorem ly {f:M AV} {g:List AV→M Unit} {a x y:AV} (h:f l σ=some (.ok a,l,σ1)) (h1:mI 2 a l σ1=some (.ok [x,y],l,σ1)) (h2:g [y,x] l σ1=some (.ok (),l1,σ2)):gQ 2 f g l σ=some (.ok .next,l1,σ2):=oM h h1 h2
theorem sH {f:M AV} {g:List AV→M Unit} {a x y z:AV} (h:f l σ=some (.ok a,l,σ1)) (h1:mI 3 a l σ1=some (.ok [x,y,z],l,σ1)) (h2:g [z,y,x] l σ1=some (.ok (),l1,σ2)):gQ 3 f g l σ=some (.ok .next,l1,σ2):=oM h h1 h2
theorem be {k:Nat} {a:AV}:bU k a l σ=some (.ok (),upL l k a,σ):=BD k a
theorem aS {g:AV→M Unit} {gs:List AV→M Unit} {a:AV} {as:List AV} {r:Option (Res Unit×Loc×St)} (h:g a l σ=some (.ok (),l1,σ1)) (h1:gs as l1 σ1=r):bq g gs (a::as) l σ=r:=by rw [Dj,h]; exact h1
theorem dq:ff [] l σ=some (.ok (),l,σ):=rfl
theorem lz {val:List AV→M AV} {fo:M AV} {fas:M (List AV)} {i:Nat} {xs as:List AV} {r:Option (Res AV×Loc×St)} (h:fo l σ=some (.ok (.ref i),l,σ1)) (h1:σ1.get i=some (.list xs)) (h2:fas l σ1=some (.ok as,l,σ2)) (h3:val (.ref i::as) l σ2=r):bmE .list val fo fas l σ=r:=by
  rw [AW,h,zk0,zk2,AX,h1,Dd,zk0,zk2,h2]; exact h3
theorem ql {val:List AV→M AV} {fo:M AV} {fas:M (List AV)} {i:Nat} {kv:List (Int×AV)} {as:List AV} {r:Option (Res AV×Loc×St)} (h:fo l σ=some (.ok (.ref i),l,σ1)) (h1:σ1.get i=some (.idict kv)) (h2:fas l σ1=some (.ok as,l,σ2)) (h3:val (.ref i::as) l σ2=r):bmE .dict val fo fas l σ=r:=by
  rw [AW,h,zk0,zk2,AX,h1,De,zk0,zk2,h2]; exact h3
theorem rx {i:Nat} {a:AV} {xs:List AV} (h:σ.get i=some (.list xs)) (hl:ltB xs 2000=true) (hs:σ.set i (.list (xs++[a]))=σ1):bI [.ref i,a] l σ=some (.ok .none,l,σ1):=by rw [EB,h,EC,hl,← hs]; rfl
theorem yn {i j:Nat} {xs ys:List AV} (h:σ.get i=some (.list xs)) (h1:σ.get j=some (.tup ys)) (hl:(ltB xs 1000&&ltB ys 1000)=true) (hs:σ.set i (.list (xs++ys))=σ1):lN [.ref i,.ref j] l σ=some (.ok .none,l,σ1):=by rw [Dt,h,h1,Du,hl,← hs]; rfl
theorem rz {i:Nat} {k:Int} {d v:AV} {kv:List (Int×AV)} (h:σ.get i=some (.idict kv)) (hv:look kv k=some v):wr [.ref i,.int k,d] l σ=some (.ok v,l,σ):=by rw [Dx,h,Dy,hv]; rfl
theorem A8 {i:Nat} {xs:List AV} {y:AV} (h:σ.get i=some (.list xs)) (hl:ltB xs 2000=true) (hy:xs.getLast?=some y) (hs:σ.set i (.list xs.dropLast)=σ1):pg [.ref i] l σ=some (.ok y,l,σ1):=by rw [DF,h,DG,hl,hy,← hs]; rfl
theorem vX {C ke:Nat} {body hnd:M AF} {f:AF} (h:body l σ=some (.ok f,l1,σ1)):qE C body ke hnd l σ=some (.ok f,l1,σ1):=by rw [A6,h]; rfl
theorem uT {C ke i d:Nat} {body hnd:M AF} {f:AF} (h:body l σ=some (.exc i,l1,σ1)) (h1:σ1.get i=some (.inst C d)) (h2:hnd (upL l1 ke (.ref i)) σ1=some (.ok f,l2,σ2)):qE C body ke hnd l σ=some (.ok f,fun j=>if j=ke then none else l2 j,σ2):=by
  rw [A6,h,Dz,h1,DA,beq_self_eq_true,DB,h2]; rfl
theorem uU {C k a d:Nat} {kv:List (Nat×AV)} {f:M AV} {v:AV} (h:f l σ=some (.ok (.ref a),l,σ1)) (h1:σ1.get a=some (.inst C d)) (h2:σ1.get d=some (.sdict kv)) (hk:lk kv k=some v):oG C k f l σ=some (.ok v,l,σ1):=by
  rw [DC,h,zk0,DD,h1,DE,beq_self_eq_true,h2,zQ,hk]; rfl
theorem vY {C k:Nat}:gf C k l (ov σ U L)=some (.exc (σ.next+L.length+1),l,ov σ U (L++[.sdict [(0,.byt k)],.inst C (σ.next+L.length)])):=by
  rw [AZ,dx,dx,List.append_assoc]; rfl
theorem jx {f:M AV} {kx N i:Nat} {body:M AF} {xs:List AV} {r:Option (Res AF×Loc×St)} (h:f l σ=some (.ok (.ref i),l,σ1)) (h1:σ1.get i=some (.list xs)) (h2:cz (.list i) [kx] body N 0 l σ1=r):nk f kx body N l σ=r:=by
  rw [Dl,h,zk0,Dm,h1]; exact h2
theorem eE {k:IK} {ks:List Nat} {body:M AF} {n p:Nat} (h:bH k σ p=some none):cz k ks body (n+1) p l σ=some (.ok .next,l,σ):=by rw [tO,h]; rfl
theorem fy {k:IK} {kx:Nat} {body:M AF} {n p:Nat} {a:AV} {r:Option (Res AF×Loc×St)} (h:bH k σ p=some (some [a])) (h1:body (upL l kx a) σ=some (.ok .next,l1,σ1)) (h2:cz k [kx] body n (p+1) l1 σ1=r):cz k [kx] body (n+1) p l σ=r:=by
  rw [tO,h,vR,ro,vO,zk0,zk5,h1]; exact h2
theorem lD {k:IK} {kx ky:Nat} {body:M AF} {n p:Nat} {a b:AV} {r:Option (Res AF×Loc×St)} (h:bH k σ p=some (some [a,b])) (h1:body (upL (upL l kx a) ky b) σ=some (.ok .next,l1,σ1)) (h2:cz k [kx,ky] body n (p+1) l1 σ1=r):cz k [kx,ky] body (n+1) p l σ=r:=by
  rw [tO,h,vR,ro,ro,vO,zk0,zk5,h1]; exact h2
theorem vZ {k:IK} {kx:Nat} {body:M AF} {n p i:Nat} {a:AV} (h:bH k σ p=some (some [a])) (h1:body (upL l kx a) σ=some (.exc i,l1,σ1)):cz k [kx] body (n+1) p l σ=some (.exc i,l1,σ1):=by
  rw [tO,h,vR,ro,vO,zk0,zk5,h1]; rfl
theorem hV {i p:Nat} {xs:List AV} {r:Option (List AV)} (h:σ.get i=some (.list xs)) (h1:some (xs[p]?.map fun a=>[a])=some r):bH (.list i) σ p=some r:=by rw [A3,h]; exact h1
theorem mA {i p:Nat} {xs:List AV} {r:Option (List AV)} (h:σ.get i=some (.list xs)) (h1:some (xs[p]?.map fun a=>[.int p,a])=some r):bH (.enum i) σ p=some r:=by rw [DH,h]; exact h1
theorem nO {f:M AV} {k1 k2 N i:Nat} {body:M AF} {xs:List AV} {r:Option (Res AF×Loc×St)} (h:f l σ=some (.ok (.ref i),l,σ1)) (h1:σ1.get i=some (.list xs)) (h2:cz (.enum i) [k1,k2] body N 0 l σ1=r):nl f k1 k2 body N l σ=r:=by
  rw [DI,h]
  show fM i k1 k2 body N l σ1 (σ1.get i)=r
  rw [h1]; exact h2
theorem uV {i p:Nat} {xs:List AV} (h:σ.get i=some (.list xs)):bH (.list i) σ p=some (xs[p]?.map fun a=>[a]):=by rw [A3,h]; rfl
theorem yo {i:Nat} {kvs:List (Nat×AV)} (h:σ.get i=some (.bdict kvs)) (hk:kvs.map (·.1)=[]∨kvs.map (·.1)=[1]∨kvs.map (·.1)=[1,2]) (hs:σ.push (.list (fc .byt kvs))=σ1):jI [.ref i] l σ=some (.ok (.ref σ.next),l,σ1):=by
  rw [Dv,h]
  show (if _ then _ else _)=_
  rw [if_pos hk,hs]
theorem uW {f:M AV} {t:M Bool} {e:M AV} {N i:Nat} {xs:List AV} (h:f l σ=some (.ok (.ref i),l,σ1)) (h1:σ1.get i=some (.list xs)) (h2:dT i σ1.next t e N 0 (fun _=>none) (σ1.push (.list []))=some σ2):kg f t e N l σ=some (.ok (.ref σ1.next),l,σ2):=by
  rw [Dq,h,zk0,Dr,h1,Ds,h2]; rfl
theorem tP {i acc:Nat} {t:M Bool} {xs:List AV} {keep:AV→Bool} {S:List AV→St} (h1:∀ ys,(S ys).get i=some (.list xs)) (h2:∀ ys,(S ys).get acc=some (.list ys)) (h3:∀ ys zs,(S ys).set acc (.list zs)=S zs) (ht:∀ a∈xs,∀ ys l,t (upL l 0 a) (S ys)=some (.ok (keep a),upL l 0 a,S ys)) :
    ∀ (m N p:Nat) (ys:List AV) (l:Loc),p+m=xs.length→m<N→ys.length+m<2000→dT i acc t (ac 0) N p l (S ys)=some (S (ys++(xs.drop p).filter keep)):=by
  intro m
  induction m with
  | zero =>
    intro N p ys l e hN hy
    obtain ⟨N,rfl⟩:∃ k,N=k+1:=⟨N - 1,i6 hN⟩
    have e:p=xs.length:=e
    rw [A4,uV (h1 ys),List.getElem?_eq_none (Nat.le_of_eq e.symm),List.drop_eq_nil_of_le (Nat.le_of_eq e.symm),List.filter_nil,List.append_nil]
    rfl
  | succ m ih =>
    intro N p ys l e hN hy
    obtain ⟨N,rfl⟩:∃ k,N=k+1:=⟨N - 1,i6 hN⟩
    have hp:p<xs.length:=q17 e
    have e:p+1+m=xs.length:=(Nat.add_right_comm p 1 m).trans e
    have hN:=Nat.lt_of_succ_lt_succ hN
    rw [A4,uV (h1 ys),List.getElem?_eq_getElem hp,List.drop_eq_getElem_cons hp]
    show cH i acc t (ac 0) N p (t (upL l 0 xs[p]) (S ys))=_
    rw [ht _ (List.getElem_mem hp)]
    cases q:keep xs[p] with
    | true =>
      rw [Dn]
      show cJ i acc t (ac 0) N p (bI [.ref acc,xs[p]] _ (S ys))=_
      rw [rx (h2 ys) (jT (Nat.lt_of_le_of_lt (Nat.le_add_right _ _) hy)) (h3 ys _),Dp,ih N (p+1) _ _ e hN (by rw [List.length_append,List.length_singleton,Nat.add_right_comm]; exact hy),List.filter_cons_of_pos q,List.append_assoc]
      rfl
    | false =>
      rw [Do,ih N (p+1) _ _ e hN (Nat.lt_of_succ_lt hy),List.filter_cons_of_neg (by rw [q]; exact Bool.false_ne_true)]
theorem sI {cs:Cls} {f:M AV} {i:Nat} {xs:List AV} (h:f l σ=some (.ok (.ref i),l,σ1)) (h1:σ1.get i=some (.list xs)):rR cs "int" f l σ=some (.ok (.bool false),l,σ1):=by
  rw [yl,h]
  show (match σ1.get i with | some (.tup _)=>_ | some (.list _)=>_ | some (.inst C d)=>_ | _=>none)=_
  rw [h1]; rfl
theorem yp {C k:Nat} (h:(σ.push (.sdict [(0,.byt k)])).push (.inst C σ.next)=σ1):gf C k l σ=some (.exc (σ.next+1),l,σ1):=by rw [AZ,h]
theorem ak {a:Nat} {o:AO} (h:a<σ.next) (e:gU U a (σ.get a)=some o):(ov σ U L).get a=some o:=(bb h U L).trans e
theorem gM {k:Nat} {o:AO} (e:gN L k none=some o):(ov σ U L).get (σ.next+k)=some o:=by
  rw [zU]
  revert k
  induction L with
  | nil=>intro k e; cases e
  | cons x L ih =>
    intro k e
    cases k with
    | zero=>exact e
    | succ k =>
      have:∀ (L:List AO) (k:Nat) (d:Option AO) (o:AO),gN L k none=some o→gN L k d=some o:=by
        intro L
        induction L with
        | nil=>intro k d o e; cases e
        | cons x L ih=>intro k d o e; cases k with
          | zero=>exact e
          | succ k=>exact ih k d o e
      exact this L k _ o e
theorem ce {o:AO} (e:gN L 0 none=some o):(ov σ U L).get σ.next=some o:=gM (k:=0) e
theorem co {o:AO}:(ov σ U L).push o=ov σ U (L++[o]):=dx ..
theorem m9 {a:Nat} {o:AO} (h:a<σ.next):(ov σ U L).set a o=ov σ (upU U a o) L:=bF h ..
theorem DK {k:Nat} {o:AO} (h:hN L k=true):(ov σ U L).set (σ.next+k) o=ov σ U (sN L k o):=by rw [CH,h]; rfl
theorem f0 {o:AO} (h:hN L 0=true):(ov σ U L).set σ.next o=ov σ U (sN L 0 o):=DK (k:=0) h
theorem ow {a:Nat} {x:AO} {d:Option AO}:gU ((a,x)::U) a d=some x:=if_pos rfl
theorem jh {a b:Nat} {x:AO} {d r:Option AO} (h:b≠a) (e:gU U a d=r):gU ((b,x)::U) a d=r:=(if_neg h).trans e
theorem uX {α:Type} {xs:List α} {n m:Nat} (h:xs.length<m) (hm:Nat.ble m n=true):ltB xs n=true:=jT (Nat.lt_of_lt_of_le h (Nat.le_of_ble_eq_true hm))
end
end Lw
end SPL
section SP1
namespace Lw
open St
theorem rbn (i:Nat):(AV.ref i==AV.none)=false:=rfl
theorem nbn:(AV.none==AV.none)=true:=rfl
theorem ibn (i:Int):(AV.int i==AV.none)=false:=rfl
theorem bbn (i:Nat):(AV.byt i==AV.none)=false:=rfl
structure GR where
  num:Int
  glob:Bool
  mx:Nat
  path:Nat
  clip:Nat
  width:AV
  cap:AV
  join:AV
  miter:AV
  dash:Nat
  doff:AV
  flat:AV
  adj:AV
  over:AV
  font:AV
  told:Nat
noncomputable def gkv (r:GR):List (Nat×AV):=[(5,.int r.num),(7,.bool r.glob),(17,.ref r.mx),(18,.ref r.path),(19,.ref r.clip),(20,.none),(21,r.width),(22,r.cap),(23,r.join),(24,r.miter),(25,.ref r.dash),(26,r.doff),(27,r.flat),(28,r.adj),(29,r.over),(30,r.font),(0,.ref r.told)]
structure Aux where
  xm:List AV
  xc:List AV
  xd:List AV
  T:List (Nat×AV)
  pd:Nat
  pk:Nat
  pm:AV
  px:AV
  py:AV
  xk:List AV
structure AuxAt (σ:St) (r:GR) (x:Aux):Prop where
  m:σ.get r.mx=some (.list x.xm)
  ml:x.xm.length<2 ^ 24
  m':r.mx<σ.next
  p:σ.get r.path=some (.inst 352 x.pd)
  p':r.path<σ.next
  pd:σ.get x.pd=some (.sdict [(9,x.pm),(14,.ref x.pk),(15,x.px),(16,x.py)])
  pd':x.pd<σ.next
  pk:σ.get x.pk=some (.list x.xk)
  pk':x.pk<σ.next
  pl:x.xk.length<2 ^ 24
  c:σ.get r.clip=some (.list x.xc)
  cl:x.xc.length<2 ^ 24
  c':r.clip<σ.next
  d:σ.get r.dash=some (.list x.xd)
  dl:x.xd.length<2 ^ 24
  d':r.dash<σ.next
  t:σ.get r.told=some (.bdict x.T)
  tl:x.T.length<1000
  t':r.told<σ.next
structure GAt (σ:St) (a da:Nat) (r:GR):Prop where
  i:σ.get a=some (.inst 438 da)
  i':a<σ.next
  o:σ.get da=some (.sdict (gkv r))
  o':da<σ.next
noncomputable def GR.taken (r q:GR) (n:Nat):GR:={ q with num:=r.num,glob:=r.glob,mx:=n,path:=n+2,clip:=n+5,dash:=n+6,told:=n+7 }
noncomputable def Aux.news (x:Aux) (n:Nat):List AO:=[.list x.xm,.sdict [(9,x.pm),(14,.ref (n+4)),(15,x.px),(16,x.py)],.inst 352 (n+1),.list [],.list x.xk,.list x.xc,.list x.xd,.bdict x.T]
structure OA (σ:St) (a d C:Nat) (kv:List (Nat×AV)):Prop where
  i:σ.get a=some (.inst C d)
  o:σ.get d=some (.sdict kv)
theorem v5 {C:Nat} {g:Fn} {fo:M AV} {fas:M (List AV)} {l:Loc} {σ σ1:St} {a d:Nat} {kv:List (Nat×AV)} {as:List AV} {v:AV} (h1:fo l σ=some (.ok (.ref a),l,σ)) (A:OA σ a d C kv) (h2:fas l σ=some (.ok as,l,σ)) (h3:g (.ref a::as) σ=some (.ok v,σ1)) :
    bT C g fo fas l σ=some (.ok v,l,σ1):=by
  rw [BO,h1,zk0,zk2,CN,A.i,CO,A.o,beq_self_eq_true,Ew,zk0,zk2,h2,zk0,tN,h3]; rfl
theorem nP {f:M AV} {g:M (List AV)} {l:Loc} {σ σ1 σ2:St} {a:AV} {as:List AV} (h:f l σ=some (.ok a,l,σ1)) (h1:g l σ1=some (.ok as,l,σ2)):ah f g l σ=some (.ok (a::as),l,σ2):=by
  rw [yh,h,zk0,zk2,h1]; rfl
theorem zW {f:M (List AV)} {g:Fn} {l:Loc} {σ σ1 σ2:St} {as:List AV} {v:AV} (h:f l σ=some (.ok as,l,σ1)) (h1:g as σ1=some (.ok v,σ2)):aZ g f l σ=some (.ok v,l,σ2):=by
  rw [yg,h,zk0,tN,h1]; rfl
theorem BU {f:M AV} {k:Nat} {l:Loc} {σ σ1:St} {v:AV} (h:f l σ=some (.ok v,l,σ1)):bn f k l σ=some (.ok .next,upL l k v,σ1):=by rw [BE,h]; rfl
theorem zX {f:M AV} {l:Loc} {σ σ1:St} {v:AV} (h:f l σ=some (.ok v,l,σ1)):bS f l σ=some (.ok .next,l,σ1):=by rw [BC,h]; rfl
theorem BV {f:M AV} {l:Loc} {σ σ1:St} {v:AV} (h:f l σ=some (.ok v,l,σ1)):cu f l σ=some (.ok (.ret v),l,σ1):=by rw [BB,h]; rfl
noncomputable def tS (σ:St) (da:Nat) (kv:List (Nat×AV)) (L:List AO):St:=ov σ [(da,.sdict kv)] L
section
variable {σ:St} {da:Nat} {kv kv':List (Nat×AV)} {L L':List AO} {l:Loc}
theorem fn {f g:M AF} {l1:Loc} {σ1:St} {r:Option (Res AF×Loc×St)} (h:f l σ=some (.ok .next,l1,σ1)) (h2:g l1 σ1=r):ay f g l σ=r:=by
  rw [zk5,h]; exact h2
theorem v6 (o:AO):(tS σ da kv L).push o=tS σ da kv (L++[o]):=dx ..
theorem BW (hd:da<σ.next):(tS σ da kv L).set da (.sdict kv')=tS σ da kv' L:=by
  unfold tS; rw [bF hd,upU,if_pos rfl]
theorem A9 (hd:da<σ.next):(tS σ da kv L).get da=some (.sdict kv):=by
  unfold tS; rw [bb hd,gU,if_pos rfl]
theorem iE {i:Nat} {o:AO} (hi:i<σ.next) (ho:σ.get i=some o) (hn:da≠i):(tS σ da kv L).get i=some o:=by
  unfold tS; rw [bb hi,gU,if_neg hn]; exact ho
theorem DL (L2:List AO):ov (tS σ da kv L) [] L2=tS σ da kv (L++L2):=ov_ov ..
theorem zY {cs:Cls} {k a d C:Nat} {v:AV} (A:OA σ a d C kv) (hc:cs.contains C=true) (hk:lk kv k=some v):kf cs k (.ref a) l σ=some (.ok v,l,σ):=by
  rw [BH,A.i,BI,hc,A.o,zQ,hk]; rfl
theorem qm {cs:Cls} {k a d C:Nat} {v:AV} {f:M AV} (h:f l σ=some (.ok (.ref a),l,σ)) (A:OA σ a d C kv) (hc:cs.contains C=true) (hk:lk kv k=some v):aw cs k f l σ=some (.ok v,l,σ):=by
  rw [zR,h]; exact zY A hc hk
theorem zZ {cs:Cls} {k a d C:Nat} {v:AV} (A:OA σ a d C kv) (hc:cs.contains C=true) (hl:ltB kv 900=true):kq cs k (.ref a) v l σ=some (.ok (),l,σ.set d (.sdict (stK kv k v))):=by
  have hl':sY (stK kv k v) l σ d (ltB kv 900)=some (.ok (),l,σ.set d (.sdict (stK kv k v))):=by rw [hl]; rfl
  have hl:ltB (kv:List (Nat×AV)) 900=true:=hl
  rw [zS,A.i,zT,hc,A.o,BJ]; exact hl'
theorem z0 {cs:Cls} {k a d C:Nat} {v:AV} {fo fv:M AV} {σ1:St} (h1:fv l σ=some (.ok v,l,σ1)) (h2:fo l σ1=some (.ok (.ref a),l,σ1)) (A:OA σ1 a d C kv) (hc:cs.contains C=true) (hl:ltB kv 900=true) :
    bg cs k fo fv l σ=some (.ok .next,l,σ1.set d (.sdict (stK kv k v))):=by
  rw [yj,h1,zk0,zk2,h2,zk0,zk2,zZ A hc hl]; rfl
theorem z4 {i:Nat} {xs:List AV} (h:σ.get i=some (.list xs)) (hl:xs.length<2 ^ 24):du [.ref i] l σ=some (.ok (.ref σ.next),l,σ.push (.list xs)):=by
  rw [CP,h,CQ,jT hl]; rfl
theorem z5 {i:Nat} {xs:List (Nat×AV)} (h:σ.get i=some (.bdict xs)) (hl:xs.length<1000):mh [.ref i] l σ=some (.ok (.ref σ.next),l,σ.push (.bdict xs)):=by
  rw [CR,h,CS,jT hl]; rfl
theorem ic {k:Nat} {v:AV} (h:l k=some v):ac k l σ=some (.ok v,l,σ):=by rw [zP,h]; rfl
theorem tQ {f:M AV} {g:List AV→M AV} {v w:AV} {σ1:St} (h:f l σ=some (.ok v,l,σ)) (h1:g [v] l σ=some (.ok w,l,σ1)):au (ah f aq) g l σ=some (.ok w,l,σ1):=by
  rw [zk2,yh,h]; exact h1
structure Tk (σ:St) (a da b db:Nat) (src:List (Nat×AV)→List (Nat×AV)):Prop where
  hd:da<σ.next
  A:∀ kv L,OA (tS σ da kv L) a da 438 kv
  B:∀ kv L,OA (tS σ da kv L) b db 438 (src kv)
variable {a b db:Nat} {src:List (Nat×AV)→List (Nat×AV)}
noncomputable def goT (σ:St) (da:Nat) (l:Loc) (f:M AF) (kv:List (Nat×AV)) (L:List AO) (kv':List (Nat×AV)) (L':List AO):Prop:=f l (tS σ da kv L)=some (.ok .next,l,tS σ da kv' L')
theorem sJ (T:Tk σ a da b db src) (l0:l 0=some (.ref a)) {k:Nat} {v:AV} {fv:M AV} (h1:fv l (tS σ da kv L)=some (.ok v,l,tS σ da kv L')) (hl:ltB kv 900=true):goT σ da l (bg cs9 k (ac 0) fv) kv L (stK kv k v) L':=by
  unfold goT
  rw [z0 h1 (ic l0) (T.A kv L') rfl hl,BW T.hd]
theorem z6 (T:Tk σ a da b db src) (l1:l 1=some (.ref b)) {k:Nat} {v:AV} (hk:lk (src kv) k=some v):aw cs9 k (ac 1) l (tS σ da kv L)=some (.ok v,l,tS σ da kv L) :=
  qm (ic l1) (T.B kv L) rfl hk
theorem DM (T:Tk σ a da b db src) (l0:l 0=some (.ref a)) (l1:l 1=some (.ref b)) {k:Nat} {v:AV} (hk:lk (src kv) k=some v) (hl:ltB kv 900=true):goT σ da l (bg cs9 k (ac 0) (aw cs9 k (ac 1))) kv L (stK kv k v) L :=
  sJ T l0 (z6 T l1 hk) hl
theorem sK (T:Tk σ a da b db src) (l0:l 0=some (.ref a)) (l1:l 1=some (.ref b)) {k i:Nat} {xs:List AV} (hk:lk (src kv) k=some (.ref i)) (hi:i<σ.next) (ho:σ.get i=some (.list xs)) (hn:da≠i) (hx:xs.length<2 ^ 24) (hl:ltB kv 900=true) :
    goT σ da l (bg cs9 k (ac 0) (au (ah (aw cs9 k (ac 1)) aq) du)) kv L (stK kv k (.ref (σ.next+L.length))) (L++[.list xs]):=by
  refine sJ T l0 (tQ (z6 T l1 hk) ?_) hl
  rw [z4 (iE hi ho hn) hx,v6]; rfl
theorem z7 (T:Tk σ a da b db src) (l0:l 0=some (.ref a)) (l1:l 1=some (.ref b)) {k i:Nat} {xs:List (Nat×AV)} (hk:lk (src kv) k=some (.ref i)) (hi:i<σ.next) (ho:σ.get i=some (.bdict xs)) (hn:da≠i) (hx:xs.length<1000) (hl:ltB kv 900=true) :
    goT σ da l (bg cs9 k (ac 0) (au (ah (aw cs9 k (ac 1)) aq) mh)) kv L (stK kv k (.ref (σ.next+L.length))) (L++[.bdict xs]):=by
  refine sJ T l0 (tQ (z6 T l1 hk) ?_) hl
  rw [z5 (iE hi ho hn) hx,v6]; rfl
end
theorem wQ {σ:St} {p pd pk:Nat} {pm px py:AV} {xk:List AV} (h1:σ.get p=some (.inst 352 pd)) (h1':p<σ.next) (h2:σ.get pd=some (.sdict [(9,pm),(14,.ref pk),(15,px),(16,py)])) (h2':pd<σ.next) (h3:σ.get pk=some (.list xk)) (h3':pk<σ.next) (hl:xk.length<2 ^ 24) :
    eY [.ref p] (ov σ [] [])=some (.ok (.ref (σ.next+1)),ov σ [] [.sdict [(9,pm),(14,.ref (σ.next+3)),(15,px),(16,py)],.inst 352 σ.next,.list [],.list xk]):=by
  simp [eY,nv,kY,eX,jL,iP,ye,zb1,yf,zk5,BE,yg,yh,zR,zP,Cw,Cz,zk0,BH,bb h1',h1,CK,BI,List.contains_eq_mem,List.mem_cons,Nat.reduceEqDiff,List.not_mem_nil,or_self,or_false,or_true,decide_true,bb h2',h2,zQ,Ej,BEq.rfl,zk2,Cv,zk6,tN,BK,gx,List.length_nil,Nat.add_zero,dx,List.nil_append,List.cons_append,zb2,yj,Cy,zS,zU,CF,CE,zT,CG,BJ,CA,CB,Nat.zero_lt_succ,jT,CD,CI,zk3,BL,zV,CM,List.length_cons,Nat.zero_add,Nat.reduceAdd,CC,Nat.reduceBEq,Nat.reduceLT,zk8,CL,Cu,Ei,zO,du,bb h3',h3,Nat.reducePow,hl,↓reduceIte,El,Ek,BB,zk7]
theorem z8 {σ:St} {a da b db:Nat} {src:List (Nat×AV)→List (Nat×AV)} {kv:List (Nat×AV)} {L:List AO} {l:Loc} (T:Tk σ a da b db src) (l0:l 0=some (.ref a)) (l1:l 1=some (.ref b)) {q:GR} {x:Aux} (X:AuxAt σ q x) (hk:lk (src kv) 18=some (.ref q.path)) (n1:da≠q.path) (n2:da≠x.pd) (n3:da≠x.pk) (hl:ltB kv 900=true) :
    goT σ da l (bg cs9 18 (ac 0) (bT 352 eY (aw cs9 18 (ac 1)) aq)) kv L (stK kv 18 (.ref (σ.next+L.length+1))) (L++[.sdict [(9,x.pm),(14,.ref (σ.next+L.length+3)),(15,x.px),(16,x.py)],.inst 352 (σ.next+L.length),.list [],.list x.xk]):=by
  refine sJ T l0 ?_ hl
  have up:∀ {i:Nat},i<σ.next→i<(tS σ da kv L).next:=fun h=>Nat.lt_of_lt_of_le h (Nat.le_add_right _ _)
  have h:=wQ (iE X.p' X.p n1) (up X.p') (iE X.pd' X.pd n2) (up X.pd') (iE X.pk' X.pk n3) (up X.pk') X.pl (σ:=tS σ da kv L)
  rw [bz,DL] at h
  exact v5 (z6 T l1 hk) ⟨iE X.p' X.p n1,iE X.pd' X.pd n2⟩ rfl h
noncomputable def GR.part (r q:GR) (n j:Nat):GR:=⟨r.num,r.glob,cond (Nat.blt 0 j) n r.mx,cond (Nat.blt 1 j) (n+2) r.path,cond (Nat.blt 2 j) (n+5) r.clip,cond (Nat.blt 4 j) q.width r.width,cond (Nat.blt 5 j) q.cap r.cap,cond (Nat.blt 6 j) q.join r.join,cond (Nat.blt 7 j) q.miter r.miter,
  cond (Nat.blt 8 j) (n+6) r.dash,cond (Nat.blt 9 j) q.doff r.doff,cond (Nat.blt 10 j) q.flat r.flat,cond (Nat.blt 11 j) q.adj r.adj,cond (Nat.blt 12 j) q.over r.over,cond (Nat.blt 13 j) q.font r.font,cond (Nat.blt 14 j) (n+7) r.told⟩
noncomputable def goP (σ:St) (da:Nat) (l:Loc) (r q:GR) (j:Nat) (f:M AF) (L L':List AO):Prop:=f l (tS σ da (gkv (r.part q σ.next j)) L)=some (.ok .next,l,tS σ da (gkv (r.part q σ.next (j+1))) L')
theorem oy {σ:St} {da:Nat} {l:Loc} {r q:GR} {j k:Nat} {v:AV} {f:M AF} {L L':List AO} (h:goT σ da l f (gkv (r.part q σ.next j)) L (stK (gkv (r.part q σ.next j)) k v) L') (e:stK (gkv (r.part q σ.next j)) k v=gkv (r.part q σ.next (j+1))):goP σ da l r q j f L L':=by
  unfold goT at h; rw [e] at h; exact h
theorem tR {σ:St} {a da b db:Nat} {src:List (Nat×AV)→List (Nat×AV)} {r q:GR} {x:Aux} (T:Tk σ a da b db src) (X:AuxAt σ q x) (hn:∀ i∈[q.mx,q.path,x.pd,x.pk,q.clip,q.dash,q.told],da≠i)
    (hs:∀ j k v,(lk (gkv q) k=some v∧lk (gkv (q.part q σ.next j)) k=some v)→lk (src (gkv (r.part q σ.next j))) k=some v) :
    bZ [.ref a,.ref b] (tS σ da (gkv r) [])=some (.ok .none,tS σ da (gkv (r.taken q σ.next)) (x.news σ.next)):=by
  have n1:=hn _ (List.mem_of_getElem? (i:=0) rfl)
  have n2:=hn _ (List.mem_of_getElem? (i:=1) rfl)
  have n3:=hn _ (List.mem_of_getElem? (i:=2) rfl)
  have n4:=hn _ (List.mem_of_getElem? (i:=3) rfl)
  have n5:=hn _ (List.mem_of_getElem? (i:=4) rfl)
  have n6:=hn _ (List.mem_of_getElem? (i:=5) rfl)
  have n7:=hn _ (List.mem_of_getElem? (i:=6) rfl)
  have l0:cY [AV.ref a,.ref b] 0=some (.ref a):=rfl
  have l1:cY [AV.ref a,.ref b] 1=some (.ref b):=rfl
  have cp:∀ (j k:Nat) (v:AV) (L:List AO),(lk (gkv q) k=some v∧lk (gkv (q.part q σ.next j)) k=some v)→ltB (gkv (r.part q σ.next j)) 900=true→stK (gkv (r.part q σ.next j)) k v=gkv (r.part q σ.next (j+1)) →
      goP σ da (cY [AV.ref a,.ref b]) r q j (bg cs9 k (ac 0) (aw cs9 k (ac 1))) L L:=fun j k v L h hl e=>oy (DM T l0 l1 (hs j k v h) hl) e
  have h0:goP σ da _ r q 0 _ [] _:=oy (sK T l0 l1 (hs 0 17 _ ⟨rfl,rfl⟩) X.m' X.m n1 X.ml rfl) rfl
  have h1:goP σ da _ r q 1 _ _ _:=oy (z8 (L:=[.list x.xm]) T l0 l1 X (hs 1 18 _ ⟨rfl,rfl⟩) n2 n3 n4 rfl) rfl
  have h2:goP σ da _ r q 2 _ ((x.news σ.next).take 5) _:=oy (sK T l0 l1 (hs 2 19 _ ⟨rfl,rfl⟩) X.c' X.c n5 X.cl rfl) rfl
  have h3:=cp 3 20 _ ((x.news σ.next).take 6) ⟨rfl,rfl⟩ rfl rfl
  have h4:=cp 4 21 _ ((x.news σ.next).take 6) ⟨rfl,rfl⟩ rfl rfl
  have h5:=cp 5 22 _ ((x.news σ.next).take 6) ⟨rfl,rfl⟩ rfl rfl
  have h6:=cp 6 23 _ ((x.news σ.next).take 6) ⟨rfl,rfl⟩ rfl rfl
  have h7:=cp 7 24 _ ((x.news σ.next).take 6) ⟨rfl,rfl⟩ rfl rfl
  have h8:goP σ da _ r q 8 _ ((x.news σ.next).take 6) _:=oy (sK T l0 l1 (hs 8 25 _ ⟨rfl,rfl⟩) X.d' X.d n6 X.dl rfl) rfl
  have h9:=cp 9 26 _ ((x.news σ.next).take 7) ⟨rfl,rfl⟩ rfl rfl
  have h10:=cp 10 27 _ ((x.news σ.next).take 7) ⟨rfl,rfl⟩ rfl rfl
  have h11:=cp 11 28 _ ((x.news σ.next).take 7) ⟨rfl,rfl⟩ rfl rfl
  have h12:=cp 12 29 _ ((x.news σ.next).take 7) ⟨rfl,rfl⟩ rfl rfl
  have h13:=cp 13 30 _ ((x.news σ.next).take 7) ⟨rfl,rfl⟩ rfl rfl
  have h14:bg cs9 0 (ac 0) (au (ah (aw cs9 0 (ac 1)) aq) mh) (cY [.ref a,.ref b]) (tS σ da (gkv (r.part q σ.next 14)) ((x.news σ.next).take 7))=some (.ok .next,cY [.ref a,.ref b],tS σ da (gkv (r.taken q σ.next)) (x.news σ.next)) :=
    oy (z7 T l0 l1 (hs 14 0 _ ⟨rfl,rfl⟩) X.t' X.t n7 X.tl rfl) rfl
  exact congrArg rk (a₂:=some (.ok .next,cY [.ref a,.ref b],tS σ da (gkv (r.taken q σ.next)) (x.news σ.next)))
    (fn h0 (fn h1 (fn h2 (fn h3 (fn h4 (fn h5 (fn h6 (fn h7 (fn h8 (fn h9 (fn h10 (fn h11 (fn h12 (fn h13 h14))))))))))))))
theorem eu {σ:St} {i j:Nat} {o o':AO} (h:σ.get i=some o) (h':σ.get j=some o') (hn:o≠o'):i≠j:=fun e=>by
  rw [e,h'] at h; exact hn (Option.some.inj h).symm
theorem yq {σ:St} {da:Nat} {r q:GR} {x:Aux} (X:AuxAt σ q x) (h:σ.get da=some (.sdict (gkv r))):∀ i∈[q.mx,q.path,x.pd,x.pk,q.clip,q.dash,q.told],da≠i:=by
  refine List.forall_mem_cons.mpr ⟨eu h X.m nofun,List.forall_mem_cons.mpr ⟨eu h X.p nofun,List.forall_mem_cons.mpr ⟨eu h X.pd nofun,List.forall_mem_cons.mpr ⟨eu h X.pk nofun,List.forall_mem_cons.mpr ⟨eu h X.c nofun,List.forall_mem_cons.mpr ⟨eu h X.d nofun,List.forall_mem_cons.mpr ⟨eu h X.t nofun,nofun⟩⟩⟩⟩⟩⟩⟩
theorem yr {σ:St} {da:Nat} {kv:List (Nat×AV)} (h:σ.get da=some (.sdict kv)) (hd:da<σ.next):tS σ da kv []=σ:=by
  have e:tS σ da kv []=σ.set da (.sdict kv):=by
    have:=bF hd [] [] (.sdict kv)
    rw [bz] at this
    exact this.symm
  rw [e]
  show St.mk _ _=σ
  congr 1
  funext j
  by_cases q:j=da
  · rw [if_pos q,q,h]
  · exact if_neg q
theorem v7 {σ:St} {a da b db:Nat} {r q:GR} {x:Aux} (A:GAt σ a da r) (B:GAt σ b db q) (X:AuxAt σ q x) (hne:da≠db) :
    bZ [.ref a,.ref b] σ=some (.ok .none,ov σ [(da,.sdict (gkv (r.taken q σ.next)))] (x.news σ.next)):=by
  have T:Tk σ a da b db fun _=>gkv q:=⟨A.o',fun kv L=>⟨iE A.i' A.i (eu A.o A.i nofun),A9 A.o'⟩,fun kv L=>⟨iE B.i' B.i (eu A.o B.i nofun),iE B.o' B.o hne⟩⟩
  have h:=tR T X (r:=r) (yq X A.o) fun _ _ _ h=>h.1
  rwa [yr A.o A.o'] at h
theorem wR {σ:St} {a da:Nat} {q:GR} {x:Aux} (A:GAt σ a da q) (X:AuxAt σ q x) :
    bZ [.ref a,.ref a] σ=some (.ok .none,ov σ [(da,.sdict (gkv (q.taken q σ.next)))] (x.news σ.next)):=by
  have h1:∀ kv L,OA (tS σ da kv L) a da 438 kv:=fun kv L=>⟨iE A.i' A.i (eu A.o A.i nofun),A9 A.o'⟩
  have T:Tk σ a da a da id:=⟨A.o',h1,h1⟩
  have h:=tR T X (r:=q) (yq X A.o) fun _ _ _ h=>h.2
  rwa [yr A.o A.o'] at h
noncomputable def newR (n:Nat) (k:Int) (g:Bool):GR:=⟨k,g,n+2,n+4,n+6,.int 1000000,.int 0,.int 0,.int 10000000,n+7,.int 0,.int 1000000,.bool false,.bool false,.none,n+8⟩
noncomputable def newX (n:Nat) (xm:List AV):Aux:=⟨xm,[],[],[],n+3,n+5,.int 1500,.none,.none,[]⟩
noncomputable def newO (n:Nat) (xm:List AV) (k:Int) (g:Bool):List AO:=[.sdict (gkv (newR n k g)),.inst 438 n,.list xm,.sdict [(9,.int 1500),(14,.ref (n+5)),(15,.none),(16,.none)],.inst 352 (n+3),.list [],.list [],.list [],.bdict []]
theorem Ba {σ:St} {m:Nat} {xm:List AV} (h:σ.get m=some (.list xm)) (hl:xm.length<2 ^ 24) (hm:m<σ.next) (k:Int) (g:Bool) :
    cN 438 cP [.ref m,.none,.int k,.bool g] (ov σ [] [])=some (.ok (.ref (σ.next+1)),ov σ [] (newO σ.next xm k g)):=by
  simp [cP,kX,jf,eX,jL,iP,BK,gx,List.length_nil,Nat.add_zero,dx,List.nil_append,List.cons_append,ye,zb8,yf,zk5,yj,zP,Cy,Cw,Cz,zk0,zk2,zS,zU,CF,CE,zT,List.contains_eq_mem,List.mem_cons,Nat.reduceEqDiff,List.not_mem_nil,or_self,or_false,or_true,decide_true,CG,BJ,CA,CB,Nat.zero_lt_succ,jT,CD,CI,zk6,zk3,CC,Nat.reduceBEq,List.length_cons,Nat.zero_add,Nat.reduceLT,yh,Cv,du,bb hm,h,CK,Nat.reducePow,hl,↓reduceIte,Nat.reduceAdd,yg,tN,Et,zb2,CH,Es,Er,Em,Ep,Eo,BL,zV,CM,zk8,CL,Cu,Eu,newO,gkv,newR]
theorem DN {σ:St} {m:Nat} {xm:List AV} (h:σ.get m=some (.list xm)) (hl:xm.length<2 ^ 24) (hm:m<σ.next) :
    cN 438 cP [.ref m,.none] (ov σ [] [])=some (.ok (.ref (σ.next+1)),ov σ [] (newO σ.next xm 0 false)):=Ba h hl hm 0 false
noncomputable def GR.copied (q:GR) (n:Nat) (k:Int) (g:Bool):GR:={ q with num:=k,glob:=g,mx:=n+9,path:=n+11,clip:=n+14,dash:=n+15,told:=n+16 }
noncomputable def fU (q:GR) (x:Aux) (n:Nat) (k:Int) (g:Bool):List AO:=[.sdict (gkv (q.copied n k g)),.inst 438 n,.list x.xm,.sdict [(9,.int 1500),(14,.ref (n+5)),(15,.none),(16,.none)],.inst 352 (n+3),.list [],.list [],.list [],.bdict [],
  .list x.xm,.sdict [(9,x.pm),(14,.ref (n+13)),(15,x.px),(16,x.py)],.inst 352 (n+10),.list [],.list x.xk,.list x.xc,.list x.xd,.bdict x.T]
theorem z9 (σ:St) (y o:AO) (L L':List AO):ov (ov σ [] (y::L)) [(σ.next,o)] L'=ov σ [] (o::L++L'):=by
  have h1:=bF (σ:=ov σ [] (y::L)) (a:=σ.next) (Nat.lt_add_of_pos_right (Nat.succ_pos _)) [] L' o
  rw [ov_ov] at h1
  exact h1.symm.trans jb
theorem Bb {σ:St} {a da:Nat} {q:GR} {x:Aux} (B:GAt σ a da q) (X:AuxAt σ q x) (k:Int) (g:Bool) :
    de [.ref a,.int k,.bool g] (ov σ [] [])=some (.ok (.ref (σ.next+1)),ov σ [] (fU q x σ.next k g)):=by
  have e1:=Ba X.m X.ml X.m' k g
  have up:∀ {i:Nat},i<σ.next→i<(ov σ [] (newO σ.next x.xm k g)).next:=fun h=>Nat.lt_of_lt_of_le h (Nat.le_add_right _ _)
  have ol:∀ {i:Nat} {o:AO},i<σ.next→σ.get i=some o→(ov σ [] (newO σ.next x.xm k g)).get i=some o:=fun h e=>(bb h _ _).trans e
  have nw:∀ (j:Nat) {o:AO},(newO σ.next x.xm k g)[j]?=some o→(ov σ [] (newO σ.next x.xm k g)).get (σ.next+j)=some o:=fun j o h=>by
    obtain ⟨hk,e⟩:=List.getElem?_eq_some_iff.mp h
    rw [sy hk,e]
  have A1:GAt (ov σ [] (newO σ.next x.xm k g)) (σ.next+1) σ.next (newR σ.next k g):=⟨nw 1 rfl,Nat.add_lt_add_left (show 1<9 by decide) _,nw 0 rfl,Nat.lt_add_of_pos_right (Nat.succ_pos _)⟩
  have e2:=v7 A1 ⟨ol B.i' B.i,up B.i',ol B.o' B.o,up B.o'⟩ ⟨ol X.m' X.m,X.ml,up X.m',ol X.p' X.p,up X.p',ol X.pd' X.pd,up X.pd',ol X.pk' X.pk,up X.pk',X.pl,ol X.c' X.c,X.cl,up X.c',ol X.d' X.d,X.dl,up X.d',ol X.t' X.t,X.tl,up X.t'⟩ (Nat.ne_of_gt B.o')
  have O:OA (ov σ [] []) a da 438 (gkv q):=by rw [bz]; exact ⟨B.i,B.o⟩
  have l0:cY [AV.ref a,.int k,.bool g] 0=some (.ref a):=rfl
  refine congrArg rk (a₂:=some (.ok (.ret (.ref (σ.next+1))),upL (cY [.ref a,.int k,.bool g]) 3 (.ref (σ.next+1)),ov σ [] (fU q x σ.next k g))) ?_
  refine fn (BU (zW (nP (qm (ic l0) O rfl rfl) (nP (qm (ic l0) O rfl rfl) (nP (ic rfl) (nP (ic rfl) rfl)))) e1)) ?_
  refine fn (zX (v5 (ic rfl) ⟨A1.i,A1.o⟩ (nP (ic rfl) rfl) e2)) ?_
  refine BV (ic rfl) |>.trans ?_
  rw [show newO σ.next x.xm k g=_::_ from rfl,z9]
  rfl
theorem DO {σ:St} {a da:Nat} {q:GR} {x:Aux} (B:GAt σ a da q) (X:AuxAt σ q x) :
    de [.ref a] (ov σ [] [])=some (.ok (.ref (σ.next+1)),ov σ [] (fU q x σ.next 0 false)):=Bb B X 0 false
end Lw
end SP1
section SP2
namespace Lw
open St
noncomputable def worldT:List AO:=[
  .sdict [(31,.int 500),(32,.int 20),(33,.int 250),(34,.int 15),(35,.int 31),(36,.int 65535),(37,.int 65535),(10,.int 65535),(39,.int 127),(18,.int 1500),(25,.int 11),(38,.int 15),(40,.int 600),(41,.int 16777216)],
  .inst 479 3,
  .sdict [(44,.ref 4),(7,.bool false),(34,.ref 7),(45,.ref 8),(46,.ref 9),(47,.ref 10),(42,.int 80),(48,.int 80),(49,.int 6),(50,.int 0)],
  .inst 781 5,
  .list [],
  .list [],
  .idict [(1,.ref 14),(2,.ref 24),(3,.ref 36),(4,.ref 41),(5,.ref 51),(6,.ref 63)],
  .list [],
  .list [.ref 40,.ref 67],
  .tup [.ref 6,.ref 11],
  .tup [.bool false,.bool true],
  .tup [.int 48,.bool false,.int 0],
  .sdict [(5,.int 1),(9,.int 3),(7,.bool false),(8,.int 0),(4,.int 3),(10,.ref 17)],
  .inst 140 15,
  .sdict [],
  .sdict [(1,.str 62),(2,.ref 16),(3,.bool false),(4,.int 3)],
  .inst 84 18,
  .sdict [(1,.str 60),(2,.none),(3,.bool false),(4,.int 3)],
  .inst 84 20,
  .list [.ref 21],
  .list [.ref 21,.ref 21],
  .tup [.int 16,.bool false,.int 0],
  .sdict [(5,.int 2),(6,.ref 27),(7,.bool false),(8,.int 0)],
  .inst 105 25,
  .list [.ref 21,.ref 21],
  .sdict [(11,.ref 26),(12,.int 0),(13,.int 2)],
  .inst 161 28,
  .sdict [(1,.str 61),(2,.ref 29),(3,.bool false),(4,.int 3)],
  .inst 84 30,
  .sdict [(1,.str 60),(2,.none),(3,.bool false),(4,.int 3)],
  .inst 84 32,
  .list [.ref 33],
  .list [.ref 33,.ref 33],
  .tup [.int 16,.bool false,.int 0],
  .sdict [(5,.int 3),(6,.ref 39),(7,.bool false),(8,.int 0)],
  .inst 105 37,
  .list [.ref 33,.ref 33],
  .list [.ref 19,.ref 31,.ref 38],
  .tup [.int 48,.bool true,.int 0],
  .sdict [(5,.int 4),(9,.int 3),(7,.bool true),(8,.int 0),(4,.int 3),(10,.ref 44)],
  .inst 140 42,
  .sdict [],
  .sdict [(1,.str 62),(2,.ref 43),(3,.bool false),(4,.int 3)],
  .inst 84 45,
  .sdict [(1,.str 60),(2,.none),(3,.bool false),(4,.int 3)],
  .inst 84 47,
  .list [.ref 48],
  .list [.ref 48,.ref 48],
  .tup [.int 16,.bool true,.int 0],
  .sdict [(5,.int 5),(6,.ref 54),(7,.bool true),(8,.int 0)],
  .inst 105 52,
  .list [.ref 48,.ref 48],
  .sdict [(11,.ref 53),(12,.int 0),(13,.int 2)],
  .inst 161 55,
  .sdict [(1,.str 61),(2,.ref 56),(3,.bool false),(4,.int 3)],
  .inst 84 57,
  .sdict [(1,.str 60),(2,.none),(3,.bool false),(4,.int 3)],
  .inst 84 59,
  .list [.ref 60],
  .list [.ref 60,.ref 60],
  .tup [.int 16,.bool true,.int 0],
  .sdict [(5,.int 6),(6,.ref 66),(7,.bool true),(8,.int 0)],
  .inst 105 64,
  .list [.ref 60,.ref 60],
  .list [.ref 46,.ref 58,.ref 65],
  .list [.int 1000000,.int 0,.int 0,.int 1000000,.int 0,.int 0],
  .sdict [(5,.int 0),(7,.bool false),(17,.ref 71),(18,.ref 73),(19,.ref 75),(20,.none),(21,.int 1000000),(22,.int 0),(23,.int 0),(24,.int 10000000),(25,.ref 76),(26,.int 0),(27,.int 1000000),(28,.bool false),(29,.bool false),(30,.none),(0,.ref 77)],
  .inst 438 69,
  .list [.int 1000000,.int 0,.int 0,.int 1000000,.int 0,.int 0],
  .sdict [(9,.int 1500),(14,.ref 74),(15,.none),(16,.none)],
  .inst 352 72,
  .list [],
  .list [],
  .list [],
  .bdict [],
  .list [.ref 31,.ref 58],
  .tup [.ref 70,.ref 78],
  .bdict [],
  .bdict [(1,.ref 31)],
  .bdict [(1,.ref 58)],
  .bdict [(1,.ref 58),(2,.ref 84)],
  .tup [.ref 58,.ref 31],
  .list [.ref 80,.ref 81,.ref 82,.ref 83],
  .sdict [(51,.ref 6),(52,.ref 70),(53,.ref 11),(54,.ref 87),(0,.ref 85),(55,.ref 88),(56,.ref 89),(34,.ref 90)],
  .list [.none,.ref 19,.ref 46],
  .list [.int 0,.int 0,.int 1000000],
  .list [],
  .list []]
noncomputable def stOf:Option (Res AV×St)→St
  | some (_,σ)=>σ
  | none=>⟨0,fun _=>none⟩
theorem yt (g:Nat→Option AO):fn_law_world [] ⟨3,g⟩=some (.ok (.ref 86),stOf (fn_law_world [] ⟨3,g⟩)):=by kernel_rfl
theorem uY (g:Nat→Option AO):(stOf (fn_law_world [] ⟨3,g⟩)).next=91:=by kernel_rfl
theorem rB (g:Nat→Option AO):(stOf (fn_law_world [] ⟨3,g⟩)).get 0=g 0∧(stOf (fn_law_world [] ⟨3,g⟩)).get 1=g 1∧(stOf (fn_law_world [] ⟨3,g⟩)).get 2=g 2:=⟨by kernel_rfl,by kernel_rfl,by kernel_rfl⟩
theorem wS (g:Nat→Option AO):(List.range 88).map (fun j=>(stOf (fn_law_world [] ⟨3,g⟩)).get (3+j))=worldT.map some:=by kernel_rfl
theorem yu (g:Nat→Option AO) {j:Nat} (h:j<88) {o:AO} (e:worldT[j]?=some o):(stOf (fn_law_world [] ⟨3,g⟩)).get (3+j)=some o:=by
  have:=congrArg (fun l=>l[j]?) (wS g)
  simp only [List.getElem?_map,e,Option.map_some] at this
  rw [List.getElem?_range h] at this
  exact Option.some.inj this
structure Fx (σ:St):Prop where
  hn:91≤σ.next
  f3:σ.get 3=some (.sdict [(31,.int 500),(32,.int 20),(33,.int 250),(34,.int 15),(35,.int 31),(36,.int 65535),(37,.int 65535),(10,.int 65535),(39,.int 127),(18,.int 1500),(25,.int 11),(38,.int 15),(40,.int 600),(41,.int 16777216)])
  f4:σ.get 4=some (.inst 479 3)
  f6:σ.get 6=some (.inst 781 5)
  f11:σ.get 11=some (.list [.ref 40,.ref 67])
  f15:σ.get 15=some (.sdict [(5,.int 1),(9,.int 3),(7,.bool false),(8,.int 0),(4,.int 3),(10,.ref 17)])
  f16:σ.get 16=some (.inst 140 15)
  f18:σ.get 18=some (.sdict [(1,.str 62),(2,.ref 16),(3,.bool false),(4,.int 3)])
  f19:σ.get 19=some (.inst 84 18)
  f25:σ.get 25=some (.sdict [(5,.int 2),(6,.ref 27),(7,.bool false),(8,.int 0)])
  f26:σ.get 26=some (.inst 105 25)
  f28:σ.get 28=some (.sdict [(11,.ref 26),(12,.int 0),(13,.int 2)])
  f29:σ.get 29=some (.inst 161 28)
  f30:σ.get 30=some (.sdict [(1,.str 61),(2,.ref 29),(3,.bool false),(4,.int 3)])
  f31:σ.get 31=some (.inst 84 30)
  f37:σ.get 37=some (.sdict [(5,.int 3),(6,.ref 39),(7,.bool false),(8,.int 0)])
  f38:σ.get 38=some (.inst 105 37)
  f40:σ.get 40=some (.list [.ref 19,.ref 31,.ref 38])
  f42:σ.get 42=some (.sdict [(5,.int 4),(9,.int 3),(7,.bool true),(8,.int 0),(4,.int 3),(10,.ref 44)])
  f43:σ.get 43=some (.inst 140 42)
  f45:σ.get 45=some (.sdict [(1,.str 62),(2,.ref 43),(3,.bool false),(4,.int 3)])
  f46:σ.get 46=some (.inst 84 45)
  f52:σ.get 52=some (.sdict [(5,.int 5),(6,.ref 54),(7,.bool true),(8,.int 0)])
  f53:σ.get 53=some (.inst 105 52)
  f55:σ.get 55=some (.sdict [(11,.ref 53),(12,.int 0),(13,.int 2)])
  f56:σ.get 56=some (.inst 161 55)
  f57:σ.get 57=some (.sdict [(1,.str 61),(2,.ref 56),(3,.bool false),(4,.int 3)])
  f58:σ.get 58=some (.inst 84 57)
  f64:σ.get 64=some (.sdict [(5,.int 6),(6,.ref 66),(7,.bool true),(8,.int 0)])
  f65:σ.get 65=some (.inst 105 64)
  f67:σ.get 67=some (.list [.ref 46,.ref 58,.ref 65])
  f70:σ.get 70=some (.inst 438 69)
  f80:σ.get 80=some (.bdict [])
  f81:σ.get 81=some (.bdict [(1,.ref 31)])
  f82:σ.get 82=some (.bdict [(1,.ref 58)])
  f83:σ.get 83=some (.bdict [(1,.ref 58),(2,.ref 84)])
  f84:σ.get 84=some (.tup [.ref 58,.ref 31])
  f85:σ.get 85=some (.list [.ref 80,.ref 81,.ref 82,.ref 83])
  f87:σ.get 87=some (.list [.none,.ref 19,.ref 46])
theorem Fx.lt {σ:St} (F:Fx σ) (k:Nat) (h:k<91):k<σ.next:=Nat.lt_of_lt_of_le h F.hn
noncomputable def fixL:List Nat:=[3,4,6,11,15,16,18,19,25,26,28,29,30,31,37,38,40,42,43,45,46,52,53,55,56,57,58,64,65,67,70,80,81,82,83,84,85,87]
theorem Fx.go {σ σ':St} (F:Fx σ) (hn:σ.next≤σ'.next) (h:∀ i∈fixL,σ'.get i=σ.get i):Fx σ' where
  hn:=Nat.le_trans F.hn hn
  f3:=(h 3 (by decide)).trans F.f3
  f4:=(h 4 (by decide)).trans F.f4
  f6:=(h 6 (by decide)).trans F.f6
  f11:=(h 11 (by decide)).trans F.f11
  f15:=(h 15 (by decide)).trans F.f15
  f16:=(h 16 (by decide)).trans F.f16
  f18:=(h 18 (by decide)).trans F.f18
  f19:=(h 19 (by decide)).trans F.f19
  f25:=(h 25 (by decide)).trans F.f25
  f26:=(h 26 (by decide)).trans F.f26
  f28:=(h 28 (by decide)).trans F.f28
  f29:=(h 29 (by decide)).trans F.f29
  f30:=(h 30 (by decide)).trans F.f30
  f31:=(h 31 (by decide)).trans F.f31
  f37:=(h 37 (by decide)).trans F.f37
  f38:=(h 38 (by decide)).trans F.f38
  f40:=(h 40 (by decide)).trans F.f40
  f42:=(h 42 (by decide)).trans F.f42
  f43:=(h 43 (by decide)).trans F.f43
  f45:=(h 45 (by decide)).trans F.f45
  f46:=(h 46 (by decide)).trans F.f46
  f52:=(h 52 (by decide)).trans F.f52
  f53:=(h 53 (by decide)).trans F.f53
  f55:=(h 55 (by decide)).trans F.f55
  f56:=(h 56 (by decide)).trans F.f56
  f57:=(h 57 (by decide)).trans F.f57
  f58:=(h 58 (by decide)).trans F.f58
  f64:=(h 64 (by decide)).trans F.f64
  f65:=(h 65 (by decide)).trans F.f65
  f67:=(h 67 (by decide)).trans F.f67
  f70:=(h 70 (by decide)).trans F.f70
  f80:=(h 80 (by decide)).trans F.f80
  f81:=(h 81 (by decide)).trans F.f81
  f82:=(h 82 (by decide)).trans F.f82
  f83:=(h 83 (by decide)).trans F.f83
  f84:=(h 84 (by decide)).trans F.f84
  f85:=(h 85 (by decide)).trans F.f85
  f87:=(h 87 (by decide)).trans F.f87
theorem DP {σ:St} (hn:91≤σ.next) (h:∀ j o,j<88→worldT[j]?=some o→σ.get (3+j)=some o):Fx σ where
  hn:=hn
  f3:=h 0 _ (by decide) rfl
  f4:=h 1 _ (by decide) rfl
  f6:=h 3 _ (by decide) rfl
  f11:=h 8 _ (by decide) rfl
  f15:=h 12 _ (by decide) rfl
  f16:=h 13 _ (by decide) rfl
  f18:=h 15 _ (by decide) rfl
  f19:=h 16 _ (by decide) rfl
  f25:=h 22 _ (by decide) rfl
  f26:=h 23 _ (by decide) rfl
  f28:=h 25 _ (by decide) rfl
  f29:=h 26 _ (by decide) rfl
  f30:=h 27 _ (by decide) rfl
  f31:=h 28 _ (by decide) rfl
  f37:=h 34 _ (by decide) rfl
  f38:=h 35 _ (by decide) rfl
  f40:=h 37 _ (by decide) rfl
  f42:=h 39 _ (by decide) rfl
  f43:=h 40 _ (by decide) rfl
  f45:=h 42 _ (by decide) rfl
  f46:=h 43 _ (by decide) rfl
  f52:=h 49 _ (by decide) rfl
  f53:=h 50 _ (by decide) rfl
  f55:=h 52 _ (by decide) rfl
  f56:=h 53 _ (by decide) rfl
  f57:=h 54 _ (by decide) rfl
  f58:=h 55 _ (by decide) rfl
  f64:=h 61 _ (by decide) rfl
  f65:=h 62 _ (by decide) rfl
  f67:=h 64 _ (by decide) rfl
  f70:=h 67 _ (by decide) rfl
  f80:=h 77 _ (by decide) rfl
  f81:=h 78 _ (by decide) rfl
  f82:=h 79 _ (by decide) rfl
  f83:=h 80 _ (by decide) rfl
  f84:=h 81 _ (by decide) rfl
  f85:=h 82 _ (by decide) rfl
  f87:=h 84 _ (by decide) rfl
end Lw
end SP2
section SP3
set_option maxHeartbeats 4000000
namespace Lw
open St
noncomputable def dW:Nat→AV
  | 0=>.none
  | 1=>.ref 19
  | _=>.ref 46
noncomputable def gP:Nat→List (Nat×AV)
  | 0=>[]
  | 1=>[(1,.ref 31)]
  | 2=>[(1,.ref 58)]
  | _=>[(1,.ref 58),(2,.ref 84)]
noncomputable def lE (f:Nat):List AV:=match f with | 0=>[] | 1=>[.ref 19] | _=>[.ref 46]
noncomputable def foundL (f t:Nat):List AV:=lE f++(match t with | 0=>[] | 1=>[.ref 31] | 2=>[.ref 58] | _=>[.ref 58,.ref 58,.ref 31])
noncomputable def uZ (f t:Nat):List AV:=(match f with | 1=>[.ref 19] | _=>[])++(match t with | 1=>[.ref 31] | 3=>[.ref 31] | _=>[])
noncomputable def kw (g:Bool) (f t:Nat):Bool:=g&&(f==1||t % 2==1)
noncomputable def u7 (f t:Nat):List AO:=[.list (foundL f t),.list (fc .byt (gP t)),.list (uZ f t),.list []]
theorem c3:∀ {f:Nat},f<3→f=0∨f=1∨f=2
  | 0,_=>.inl rfl
  | 1,_=>.inr (.inl rfl)
  | 2,_=>.inr (.inr rfl)
theorem c4:∀ {f:Nat},f<4→f=0∨f=1∨f=2∨f=3
  | 0,_=>.inl rfl
  | 1,_=>.inr (.inl rfl)
  | 2,_=>.inr (.inr (.inl rfl))
  | 3,_=>.inr (.inr (.inr rfl))
noncomputable def yv:M AF:=ay (bn (aO (aw cs9 0 (ac 0)) (ac 2)) 3)
  (ifX (asB (rR [84] "tuple" (ac 3))) (bS (bmE .list lN (ac 1) (ah (ac 3) aq))) (bS (bmE .list bI (ac 1) (ah (ac 3) aq))))
section
variable {σ:St} {b db:Nat} {q:GR} {T:List (Nat×AV)}
theorem Aa (B:GAt σ b db q) {f:Nat} (hf:f<3) (ef:q.font=dW f) {l:Loc} (l0:l 0=some (.ref b)):bn (ifE (bA .Is (aw cs9 30 (ac 0)) (ret .none)) (dJ aq) (dJ (ah (aw cs9 30 (ac 0)) aq))) 1 l (ov σ [] [])=some (.ok .next,upL l 1 (.ref σ.next),ov σ [] [.list (lE f)]):=by
  have hq:∀ v,q.font=v→lk (gkv q) 30=some v:=fun v e=>e▸rfl
  have b1:=B.i; have b2:=B.i'; have b3:=B.o; have b4:=B.o'
  rcases c3 hf with rfl | rfl | rfl
  · have h30:=hq _ ef
    exact Eq.trans (cU (gu (aE (ao (aa l0) (ak b2 b1) rfl (ak b4 b3) h30) (ag _) rfl) (fC am rfl co))) rfl
  · have h30:=hq _ ef
    exact Eq.trans (cU (eg (aE (ao (aa l0) (ak b2 b1) rfl (ak b4 b3) h30) (ag _) rfl) (fC (af (ao (aa l0) (ak b2 b1) rfl (ak b4 b3) h30) am) rfl co))) rfl
  · have h30:=hq _ ef
    exact Eq.trans (cU (eg (aE (ao (aa l0) (ak b2 b1) rfl (ak b4 b3) h30) (ag _) rfl) (fC (af (ao (aa l0) (ak b2 b1) rfl (ak b4 b3) h30) am) rfl co))) rfl
theorem yw (B:GAt σ b db q) (t1:σ.get q.told=some (.bdict T)) (t2:q.told<σ.next) {l:Loc} (l0:l 0=some (.ref b)) (l1:l 1=some (.ref σ.next)) {k:Nat} (l2:l 2=some (.byt k)) {v d:Nat} {kv:List (Nat×AV)} (hk:lk T k=some (.ref v)) (v1:σ.get v=some (.inst 84 d)) (v2:σ.get d=some (.sdict kv)) (v3:v<σ.next) (v4:d<σ.next) {xs:List AV} {L:List AO} (hx:ltB xs 2000=true) :
    yv l (ov σ [] (.list xs::L))=some (.ok .next,upL l 3 (.ref v),ov σ [] (.list (xs++[.ref v])::L)):=by
  have b1:=B.i; have b2:=B.i'; have b3:=B.o; have b4:=B.o'
  exact Eq.trans (av (cU (aF (ao (aa l0) (ak b2 b1) rfl (ak b4 b3) rfl) (aa l2) (ym (ak t2 t1) hk))) (bc (bj (DJ (aa rfl) (ak v3 v1) rfl (ak v4 v2))) (ca (lz (aa l1) (ce rfl) (af (aa rfl) am) (rx (ce rfl) hx (f0 rfl)))))) rfl
theorem DQ (B:GAt σ b db q) (t1:σ.get q.told=some (.bdict T)) (t2:q.told<σ.next) {l:Loc} (l0:l 0=some (.ref b)) (l1:l 1=some (.ref σ.next)) {k:Nat} (l2:l 2=some (.byt k)) {v:Nat} {ys:List AV} (hk:lk T k=some (.ref v)) (v1:σ.get v=some (.tup ys)) (v3:v<σ.next) {xs:List AV} {L:List AO} (hx:(ltB xs 1000&&ltB ys 1000)=true) :
    yv l (ov σ [] (.list xs::L))=some (.ok .next,upL l 3 (.ref v),ov σ [] (.list (xs++ys)::L)):=by
  have b1:=B.i; have b2:=B.i'; have b3:=B.o; have b4:=B.o'
  exact Eq.trans (av (cU (aF (ao (aa l0) (ak b2 b1) rfl (ak b4 b3) rfl) (aa l2) (ym (ak t2 t1) hk))) (dm (bj (BR (aa rfl) (ak v3 v1))) (ca (lz (aa l1) (ce rfl) (af (aa rfl) am) (yn (ce rfl) (ak v3 v1) hx (f0 rfl)))))) rfl
theorem u8 {i j:Nat} {xs:List AV} (h1:σ.get i=some (.list xs)) (h2:σ.get j=some (.list [])):dk σ .NotEq (.ref i) (.ref j)=some (!xs.isEmpty):=by
  show ((σ.get i).bind AO.gL).bind _=_
  rw [h1]
  show ((σ.get j).bind AO.gL).bind _=_
  rw [h2]; rfl
theorem wT (B:GAt σ b db q) (F:Fx σ) (e2:σ.get q.told=some (.bdict T)) (e3:q.told<σ.next) {f t:Nat} (hf:f<3) (ht:t<4) (ef:q.font=dW f) (et:T=gP t) :
    dU [.ref b] (ov σ [] [])=some (.ok (.ref σ.next),ov σ [] [.list (foundL f t),.list (fc .byt (gP t))]):=by
  have b1:=B.i; have b2:=B.i'; have b3:=B.o; have b4:=B.o'
  have h1:=Aa B hf ef (l:=cY [.ref b]) rfl
  have h2:ifX (bA .IsNot (aw cs9 20 (ac 0)) (ret .none)) stuck (ret .next) (upL (cY [.ref b]) 1 (.ref σ.next)) (ov σ [] [.list (lE f)])=some (.ok .next,upL (cY [.ref b]) 1 (.ref σ.next),ov σ [] [.list (lE f)]):=by
    exact Eq.trans (bc (aE (ao (aa rfl) (ak b2 b1) rfl (ak b4 b3) rfl) (ag _) rfl) (ag _)) rfl
  have hk:T.map (·.1)=[]∨T.map (·.1)=[1]∨T.map (·.1)=[1,2]:=by
    rcases c4 ht with rfl | rfl | rfl | rfl <;> subst et
    · exact .inl rfl
    · exact .inr (.inl rfl)
    · exact .inr (.inl rfl)
    · exact .inr (.inr rfl)
  have h3:au (ah (aw cs9 0 (ac 0)) aq) jI (upL (cY [.ref b]) 1 (.ref σ.next)) (ov σ [] [.list (lE f)])=some (.ok (.ref (σ.next+1)),upL (cY [.ref b]) 1 (.ref σ.next),ov σ [] [.list (lE f),.list (fc .byt T)]):=by
    exact Eq.trans (bB (af (ao (aa rfl) (ak b2 b1) rfl (ak b4 b3) rfl) am) (yo (ak e3 e2) hk co)) rfl
  have i:∀ {p:Nat} {xs:List AV},bH (.list (σ.next+1)) (ov σ [] [.list xs,.list (fc .byt T)]) p=some ((fc .byt T)[p]?.map fun a=>[a]):=uV (gM (k:=1) rfl)
  have s31:=F.f31; have s30:=F.f30; have s58:=F.f58; have s57:=F.f57; have s84:=F.f84
  have l31:=F.lt 31 (by decide); have l30:=F.lt 30 (by decide); have l58:=F.lt 58 (by decide); have l57:=F.lt 57 (by decide); have l84:=F.lt 84 (by decide)
  have fl:(lE f).length≤1:=by rcases c3 hf with rfl | rfl | rfl <;> decide
  have h4:∃ l',nk (au (ah (aw cs9 0 (ac 0)) aq) jI) 2 yv 100 (upL (cY [.ref b]) 1 (.ref σ.next)) (ov σ [] [.list (lE f)])=some (.ok .next,l',ov σ [] [.list (foundL f t),.list (fc .byt T)])∧l' 1=some (.ref σ.next):=by
    rcases c4 ht with rfl | rfl | rfl | rfl <;> subst et
    · exact ⟨_,jx h3 (gM (k:=1) rfl) ((eE i).trans (by rw [foundL,List.append_nil])),rfl⟩
    · exact ⟨_,jx h3 (gM (k:=1) rfl) (fy i (yw B e2 e3 (k:=1) rfl rfl rfl rfl s31 s30 l31 l30 (jT (by omega))) (eE i)),rfl⟩
    · exact ⟨_,jx h3 (gM (k:=1) rfl) (fy i (yw B e2 e3 (k:=1) rfl rfl rfl rfl s58 s57 l58 l57 (jT (by omega))) (eE i)),rfl⟩
    · refine ⟨_,jx h3 (gM (k:=1) rfl) (fy i (yw B e2 e3 (k:=1) rfl rfl rfl rfl s58 s57 l58 l57 (jT (by omega))) (fy i (DQ B e2 e3 (k:=2) rfl rfl rfl rfl s84 l84 ?_) ((eE i).trans (by rw [List.append_assoc]; rfl)))),rfl⟩
      rw [jT (by rw [List.length_append,List.length_singleton]; omega)]; rfl
  obtain ⟨l',h4,hl⟩:=h4
  rw [et] at h4
  exact br rfl (av h1 (av h2 (av h4 (aY (aa hl)))))
theorem tT:bv [.bool false,.ref b] (ov σ [] [])=some (.ok .none,ov σ [] []):=by
  exact Eq.trans (dy rfl (bc (dM (bj (aa rfl))) (ag _))) rfl
theorem DR (F:Fx σ) (L:List AO):bi [.ref 19] (ov σ [] L)=some (.ok (.bool true),ov σ [] L):=by
  have a1:=F.f19; have a2:=F.f18; have a3:=F.f16; have a4:=F.f15
  exact Eq.trans (br rfl (av (cU (eg (aE (ao (aa rfl) (ak (Fx.lt F 19 (by decide)) a1) rfl (ak (Fx.lt F 18 (by decide)) a2) rfl) (ag _) rfl) (ba (af (aa rfl) am) (br rfl (jW (dm (aE (ao (aa rfl) (ak (Fx.lt F 19 (by decide)) a1) rfl (ak (Fx.lt F 18 (by decide)) a2) rfl) (ag _) rfl) (aY (ao (aa rfl) (ak (Fx.lt F 19 (by decide)) a1) rfl (ak (Fx.lt F 18 (by decide)) a2) rfl)))))))) (aY (eC (cX (aa rfl) (ag _) rfl) (gV (ao (aa rfl) (ak (Fx.lt F 16 (by decide)) a3) rfl (ak (Fx.lt F 15 (by decide)) a4) rfl) rfl))))) rfl
theorem DS (F:Fx σ) (L:List AO):bi [.ref 31] (ov σ [] L)=some (.ok (.bool true),ov σ [] L):=by
  have a1:=F.f31; have a2:=F.f30; have a3:=F.f29; have a4:=F.f28; have a5:=F.f26; have a6:=F.f25
  exact Eq.trans (br rfl (av (cU (eg (aE (ao (aa rfl) (ak (Fx.lt F 31 (by decide)) a1) rfl (ak (Fx.lt F 30 (by decide)) a2) rfl) (ag _) rfl) (ba (af (aa rfl) am) (br rfl (av (bc (aE (ao (aa rfl) (ak (Fx.lt F 31 (by decide)) a1) rfl (ak (Fx.lt F 30 (by decide)) a2) rfl) (ag _) rfl) (ag _)) (aY (gu (fe (aE (ao (aa rfl) (ak (Fx.lt F 31 (by decide)) a1) rfl (ak (Fx.lt F 30 (by decide)) a2) rfl) (ag _) rfl) (qj (bj (ba (af (aa rfl) am) (br rfl (aY (qi (cX (ao (aa rfl) (ak (Fx.lt F 31 (by decide)) a1) rfl (ak (Fx.lt F 30 (by decide)) a2) rfl) (ag _) rfl)))))))) (ao (ao (aa rfl) (ak (Fx.lt F 31 (by decide)) a1) rfl (ak (Fx.lt F 30 (by decide)) a2) rfl) (ak (Fx.lt F 29 (by decide)) a3) rfl (ak (Fx.lt F 28 (by decide)) a4) rfl)))))))) (aY (eC (cX (aa rfl) (ag _) rfl) (gV (ao (aa rfl) (ak (Fx.lt F 26 (by decide)) a5) rfl (ak (Fx.lt F 25 (by decide)) a6) rfl) rfl))))) rfl
theorem DT (F:Fx σ) (L:List AO):bi [.ref 46] (ov σ [] L)=some (.ok (.bool false),ov σ [] L):=by
  have a1:=F.f46; have a2:=F.f45; have a3:=F.f43; have a4:=F.f42
  exact Eq.trans (br rfl (av (cU (eg (aE (ao (aa rfl) (ak (Fx.lt F 46 (by decide)) a1) rfl (ak (Fx.lt F 45 (by decide)) a2) rfl) (ag _) rfl) (ba (af (aa rfl) am) (br rfl (jW (dm (aE (ao (aa rfl) (ak (Fx.lt F 46 (by decide)) a1) rfl (ak (Fx.lt F 45 (by decide)) a2) rfl) (ag _) rfl) (aY (ao (aa rfl) (ak (Fx.lt F 46 (by decide)) a1) rfl (ak (Fx.lt F 45 (by decide)) a2) rfl)))))))) (aY (eC (cX (aa rfl) (ag _) rfl) (gV (ao (aa rfl) (ak (Fx.lt F 43 (by decide)) a3) rfl (ak (Fx.lt F 42 (by decide)) a4) rfl) rfl))))) rfl
theorem DU (F:Fx σ) (L:List AO):bi [.ref 58] (ov σ [] L)=some (.ok (.bool false),ov σ [] L):=by
  have a1:=F.f58; have a2:=F.f57; have a3:=F.f56; have a4:=F.f55; have a5:=F.f53; have a6:=F.f52
  exact Eq.trans (br rfl (av (cU (eg (aE (ao (aa rfl) (ak (Fx.lt F 58 (by decide)) a1) rfl (ak (Fx.lt F 57 (by decide)) a2) rfl) (ag _) rfl) (ba (af (aa rfl) am) (br rfl (av (bc (aE (ao (aa rfl) (ak (Fx.lt F 58 (by decide)) a1) rfl (ak (Fx.lt F 57 (by decide)) a2) rfl) (ag _) rfl) (ag _)) (aY (gu (fe (aE (ao (aa rfl) (ak (Fx.lt F 58 (by decide)) a1) rfl (ak (Fx.lt F 57 (by decide)) a2) rfl) (ag _) rfl) (qj (bj (ba (af (aa rfl) am) (br rfl (aY (qi (cX (ao (aa rfl) (ak (Fx.lt F 58 (by decide)) a1) rfl (ak (Fx.lt F 57 (by decide)) a2) rfl) (ag _) rfl)))))))) (ao (ao (aa rfl) (ak (Fx.lt F 58 (by decide)) a1) rfl (ak (Fx.lt F 57 (by decide)) a2) rfl) (ak (Fx.lt F 56 (by decide)) a3) rfl (ak (Fx.lt F 55 (by decide)) a4) rfl)))))))) (aY (eC (cX (aa rfl) (ag _) rfl) (gV (ao (aa rfl) (ak (Fx.lt F 53 (by decide)) a5) rfl (ak (Fx.lt F 52 (by decide)) a6) rfl) rfl))))) rfl
noncomputable def yx (a:AV):Bool:=a==.ref 19||a==.ref 31
theorem BX (F:Fx σ) (L:List AO) {a:AV} (h:a∈[AV.ref 19,.ref 31,.ref 46,.ref 58]):bi [a] (ov σ [] L)=some (.ok (.bool (yx a)),ov σ [] L):=by
  rcases List.mem_cons.mp h with rfl | h
  · exact DR F L
  rcases List.mem_cons.mp h with rfl | h
  · exact DS F L
  rcases List.mem_cons.mp h with rfl | h
  · exact DT F L
  · rw [List.mem_singleton.mp h]; exact DU F L
theorem u9 (F:Fx σ) (B:GAt σ b db q) (e2:σ.get q.told=some (.bdict T)) (e3:q.told<σ.next) {f t:Nat} (hf:f<3) (ht:t<4) (ef:q.font=dW f) (et:T=gP t) :
    bv [.bool true,.ref b] (ov σ [] [])=if kw true f t then some (.exc (σ.next+5),ov σ [] (u7 f t++[.sdict [(0,.byt 0)],.inst 52 (σ.next+4)])) else some (.ok .none,ov σ [] (u7 f t)):=by
  have h0:=wT B F e2 e3 hf ht ef et
  have all:(∀ a∈foundL f t,a∈[AV.ref 19,.ref 31,.ref 46,.ref 58])∧(foundL f t).filter yx=uZ f t∧(foundL f t).length≤4∧(!(uZ f t).isEmpty)=kw true f t:=by
    rcases c3 hf with rfl | rfl | rfl <;> rcases c4 ht with rfl | rfl | rfl | rfl <;> decide
  obtain ⟨m1,m2,m3,m4⟩:=all
  have h1:=tP (i:=σ.next) (acc:=σ.next+2) (t:=asB (aZ bi (ah (ac 0) aq))) (xs:=foundL f t) (keep:=yx) (S:=fun ys=>ov σ [] [.list (foundL f t),.list (fc .byt (gP t)),.list ys])
    (fun _=>ce rfl) (fun _=>gM (k:=2) rfl) (fun _ _=>DK (k:=2) rfl) (fun a ha ys l=>bj (ba (af (aa rfl) am) (BX F _ (m1 a ha)))) (foundL f t).length 100 0 [] (fun _=>none) (Nat.zero_add _) (by omega) (by rw [List.length_nil]; omega)
  rw [List.drop_zero,List.nil_append,m2] at h1
  have h2:bA .NotEq (kg (aZ dU (ah (ac 1) aq)) (asB (aZ bi (ah (ac 0) aq))) (ac 0) 100) (dJ aq) (cY [.bool true,.ref b]) (ov σ [] [])=some (.ok (kw true f t),cY [.bool true,.ref b],ov σ [] (u7 f t)):=by
    refine aE (uW (ba (af (aa rfl) am) h0) (ce rfl) ((congrArg _ co).trans h1)) (fC am rfl co) ?_
    rw [← m4]
    exact u8 (gM (k:=2) rfl) (gM (k:=3) rfl)
  cases hd:kw true f t with
  | true =>
    rw [hd] at h2
    exact rq rfl (dm (cA (bj (aa rfl)) (cA h2 (ag true))) vY)
  | false =>
    rw [hd] at h2
    exact dy rfl (bc (cA (bj (aa rfl)) (dM h2)) (ag _))
end
end Lw
end SP3
section SP4
set_option maxHeartbeats 4000000
namespace Lw
open St
structure MR where
  isG:Bool
  sv:Nat
  fr:Nat
  used:Int
  usedG:Int
  lastB:Int
  lastS:Int
noncomputable def mkv (m:MR):List (Nat×AV):=[(44,.ref 4),(7,.bool m.isG),(34,.ref m.sv),(45,.ref 8),(46,.ref 9),(47,.ref m.fr),(42,.int m.used),(48,.int m.usedG),(49,.int m.lastB),(50,.int m.lastS)]
noncomputable def wkv (now st:Nat):List (Nat×AV):=[(51,.ref 6),(52,.ref 70),(53,.ref 11),(54,.ref 87),(0,.ref 85),(55,.ref now),(56,.ref st),(34,.ref 90)]
theorem sL {σ:St} {c:Nat} {f t:Nat} {w:Int} (h:σ.get c=some (.list [.int f,.int t,.int w])) (hc:c<σ.next) (hf:f<3) (ht:t<4) (g:Bool) :
    fz [.bool g,.ref c] (ov σ [] [])=some (.ok (if kw g f t then .byt 0 else .none),ov σ [] []):=by
  cases g with
  | false =>
    exact Eq.trans (br rfl (aY (eg (dM (bj (aa rfl))) (ag _)))) rfl
  | true =>
    rcases c3 hf with rfl | rfl | rfl
    · rcases c4 ht with rfl | rfl | rfl | rfl
      · exact Eq.trans (br rfl (aY (eg (cA (bj (aa rfl)) (dM (fe (aE (aF (aa rfl) (ag _) (bR (ak hc h) rfl rfl)) (ag _) rfl) (fe (aE (dg (aF (aa rfl) (ag _) (bR (ak hc h) rfl rfl)) (ag _) rfl) (ag _) rfl) (ag _))))) (ag _)))) rfl
      · exact Eq.trans (br rfl (aY (gu (cA (bj (aa rfl)) (cA (fe (aE (aF (aa rfl) (ag _) (bR (ak hc h) rfl rfl)) (ag _) rfl) (qj (aE (dg (aF (aa rfl) (ag _) (bR (ak hc h) rfl rfl)) (ag _) rfl) (ag _) rfl))) (ag _))) (ag _)))) rfl
      · exact Eq.trans (br rfl (aY (eg (cA (bj (aa rfl)) (dM (fe (aE (aF (aa rfl) (ag _) (bR (ak hc h) rfl rfl)) (ag _) rfl) (fe (aE (dg (aF (aa rfl) (ag _) (bR (ak hc h) rfl rfl)) (ag _) rfl) (ag _) rfl) (ag _))))) (ag _)))) rfl
      · exact Eq.trans (br rfl (aY (gu (cA (bj (aa rfl)) (cA (fe (aE (aF (aa rfl) (ag _) (bR (ak hc h) rfl rfl)) (ag _) rfl) (qj (aE (dg (aF (aa rfl) (ag _) (bR (ak hc h) rfl rfl)) (ag _) rfl) (ag _) rfl))) (ag _))) (ag _)))) rfl
    · exact Eq.trans (br rfl (aY (gu (cA (bj (aa rfl)) (cA (qj (aE (aF (aa rfl) (ag _) (bR (ak hc h) rfl rfl)) (ag _) rfl)) (ag _))) (ag _)))) rfl
    · rcases c4 ht with rfl | rfl | rfl | rfl
      · exact Eq.trans (br rfl (aY (eg (cA (bj (aa rfl)) (dM (fe (aE (aF (aa rfl) (ag _) (bR (ak hc h) rfl rfl)) (ag _) rfl) (fe (aE (dg (aF (aa rfl) (ag _) (bR (ak hc h) rfl rfl)) (ag _) rfl) (ag _) rfl) (ag _))))) (ag _)))) rfl
      · exact Eq.trans (br rfl (aY (gu (cA (bj (aa rfl)) (cA (fe (aE (aF (aa rfl) (ag _) (bR (ak hc h) rfl rfl)) (ag _) rfl) (qj (aE (dg (aF (aa rfl) (ag _) (bR (ak hc h) rfl rfl)) (ag _) rfl) (ag _) rfl))) (ag _))) (ag _)))) rfl
      · exact Eq.trans (br rfl (aY (eg (cA (bj (aa rfl)) (dM (fe (aE (aF (aa rfl) (ag _) (bR (ak hc h) rfl rfl)) (ag _) rfl) (fe (aE (dg (aF (aa rfl) (ag _) (bR (ak hc h) rfl rfl)) (ag _) rfl) (ag _) rfl) (ag _))))) (ag _)))) rfl
      · exact Eq.trans (br rfl (aY (gu (cA (bj (aa rfl)) (cA (fe (aE (aF (aa rfl) (ag _) (bR (ak hc h) rfl rfl)) (ag _) rfl) (qj (aE (dg (aF (aa rfl) (ag _) (bR (ak hc h) rfl rfl)) (ag _) rfl) (ag _) rfl))) (ag _))) (ag _)))) rfl
theorem v8 {f:Nat} (hf:f<3):at1 [.none,.ref 19,.ref 46] f=some (dW f):=by
  rcases c3 hf with rfl | rfl | rfl <;> rfl
theorem tU {t:Nat} (ht:t<4):at1 [.ref 80,.ref 81,.ref 82,.ref 83] t=some (.ref (80+t)):=by
  rcases c4 ht with rfl | rfl | rfl | rfl <;> rfl
theorem yy {σ:St} (F:Fx σ) {t:Nat} (ht:t<4):σ.get (80+t)=some (.bdict (gP t))∧80+t<σ.next∧nT (gP t)=true:=by
  refine ⟨?_,Nat.lt_of_lt_of_le (Nat.add_lt_add_left ht 80) (Nat.le_trans (by decide) F.hn),?_⟩ <;> rcases c4 ht with rfl | rfl | rfl | rfl
  · exact F.f80
  · exact F.f81
  · exact F.f82
  · exact F.f83
  · rfl
  · rfl
  · rfl
  · rfl
theorem Ab {σ:St} {i j:Nat} {xs:List (Nat×AV)} (h1:σ.get i=some (.bdict xs)) (h2:σ.get j=some (.bdict xs)) (h:nT xs=true):dk σ .Eq (.ref i) (.ref j)=some true:=by
  show ((σ.get i).bind AO.gBD).bind _=_
  rw [h1]
  show ((σ.get j).bind AO.gBD).bind _=_
  rw [h2]
  exact if_pos ⟨rfl,h⟩
theorem Ac {σ:St} {f:Nat} (hf:f<3):dk σ .Is (dW f) (dW f)=some true:=by
  rcases c3 hf with rfl | rfl | rfl <;> rfl
theorem BY {σ:St} (w:Int):dk σ .Eq (.int w) (.int w)=some true:=congrArg some (beq_self_eq_true w)
theorem yz {σ:St} (F:Fx σ) {b db c:Nat} {q:GR} (B:GAt σ b db q) {T:List (Nat×AV)} (e2:σ.get q.told=some (.bdict T)) (e3:q.told<σ.next) {now st:Nat} (hw:σ.get 86=some (.sdict (wkv now st))) {f t:Nat} {w:Int} (hf:f<3) (ht:t<4) (ef:q.font=dW f) (et:T=gP t) (ew:q.width=.int w)
    (h:σ.get c=some (.list [.int f,.int t,.int w])) (hc:c<σ.next):eQ [.ref 86,.ref b,.ref c] (ov σ [] [])=some (.ok (.bool true),ov σ [] []):=by
  have b1:=B.i; have b2:=B.i'; have b3:=B.o; have b4:=B.o'
  subst et
  have h87:=F.f87; have h85:=F.f85
  have k1:=v8 hf; have k2:=tU ht
  obtain ⟨t1,t2,t3⟩:=yy F ht
  have d0:ov σ [] []=σ:=bz σ
  have c1:=Ac (σ:=ov σ [] []) hf
  have c2:dk (ov σ [] []) .Eq (.ref q.told) (.ref (80+t))=some true:=by rw [d0]; exact Ab e2 t1 t3
  have c3:=BY (σ:=ov σ [] []) w
  have g1:lk (gkv q) 30=some (dW f):=congrArg some ef
  have g2:lk (gkv q) 21=some (.int w):=congrArg some ew
  exact Eq.trans (br rfl (av (kn (aa rfl) (BS (ak hc h) rfl) (aS be (aS be (aS be dq)))) (aY (eC (cX (ao (aa rfl) (ak b2 b1) rfl (ak b4 b3) g1) (aF (aF (aa rfl) (ag _) (aM (ak (Fx.lt F 86 (by decide)) hw) rfl)) (aa rfl) (bR (ak (Fx.lt F 87 (by decide)) h87) rfl k1)) c1) (eC (cX (ao (aa rfl) (ak b2 b1) rfl (ak b4 b3) rfl) (aF (aF (aa rfl) (ag _) (aM (ak (Fx.lt F 86 (by decide)) hw) rfl)) (aa rfl) (bR (ak (Fx.lt F 85 (by decide)) h85) rfl k2)) c2) (cX (ao (aa rfl) (ak b2 b1) rfl (ak b4 b3) g2) (aa rfl) c3)))))) rfl
theorem lF {σ:St} {tid td gid gd:Nat} {r:GR} (h1:σ.get tid=some (.inst 84 td)) (h2:tid<σ.next) (h3:σ.get td=some (.sdict [(1,.str 63),(2,.ref gid),(3,.bool false),(4,.int 3)])) (h4:td<σ.next) (G:GAt σ gid gd r) :
    bi [.ref tid] (ov σ [] [])=some (.ok (.bool (!r.glob)),ov σ [] []):=by
  have b1:=G.i; have b2:=G.i'; have b3:=G.o; have b4:=G.o'
  exact Eq.trans (br rfl (av (cU (gu (aE (ao (aa rfl) (ak h2 h1) rfl (ak h4 h3) rfl) (ag _) rfl) (ao (aa rfl) (ak h2 h1) rfl (ak h4 h3) rfl))) (aY (eC (cX (aa rfl) (ag _) rfl) (gV (ao (aa rfl) (ak b2 b1) rfl (ak b4 b3) rfl) rfl))))) rfl
theorem sM {a:Nat} (h:a<500):me (a:Int):=⟨by omega,by omega⟩
theorem yA {a:Nat} (h:a<500):me ((a:Int) * a):=by
  have h1:a * a≤500 * 500:=Nat.mul_le_mul (by omega) (by omega)
  have h2:(a:Int) * a=((a * a:Nat):Int):=by rw [Int.natCast_mul]
  rw [h2]
  generalize a * a=b at h1
  exact ⟨by omega,by omega⟩
theorem yB:me (29:Int):=⟨by decide,by decide⟩
theorem v9 {xs:List AV} {a:Nat} (h:a<500):at1 xs (a:Int)=xs[a]?:=by
  unfold at1
  rw [if_pos ⟨by omega,by omega⟩,Int.toNat_natCast]
theorem BZ {σ:St} {xs:List AV} {a:Nat} (h2:2<σ.next) (h:σ.get 2=some (.list [.ref 1,.int a])) (h1:σ.get 1=some (.list xs)) (hl:xs.length<1000) (h1':1<σ.next) (q:a<xs.length) (ha:a<500) {i:Int} (hi:xs[a]=.int i) {m:Int} (hm0:¬ m=0) :
    bu [.ref 2,.int m] (ov σ [] [])=some (.ok (.int (i.fmod m)),ov σ [(2,.list [.ref 1,.int ((a+1:Nat):Int)])] []):=by
  have e:xs[a]?=some (.int i):=by rw [List.getElem?_eq_getElem q,hi]
  have q1:xs.length<2 ^ 24:=by omega
  have q2:xs.length<2000:=by omega
  have c1:dk (ov σ [(2,.list [.ref 1,.int (a+1)])] []) .Lt (.int a) (.int xs.length)=some true:=congrArg some (decide_eq_true (Int.ofNat_lt.mpr q))
  have k1:at1 xs (a:Int)=some (.int i):=(v9 ha).trans e
  have m1:∀ l σ,kJ .Mod (.int i) (.int m) l σ=some (.ok (.int (i.fmod m)),l,σ):=fun l σ=>if_neg hm0
  have q3:ltB xs 16777216=true:=jT q1
  have q4:ltB xs 2000=true:=jT q2
  exact Eq.trans (br rfl (av (cU (aF (aa rfl) (ag _) (bR (ak h2 h) rfl rfl))) (av (gr (dg (aa rfl) (ag _) rfl) (aa rfl) (ag _) (jY (ak h2 h) rfl (m9 h2))) (aY (dg (gu (aE (aa rfl) (bB (af (aF (aa rfl) (ag _) (bR (ak h2 rfl) rfl rfl)) am) (km (ak h1' h1) q3)) c1) (aF (aF (aa rfl) (ag _) (bR (ak h2 rfl) rfl rfl)) (aa rfl) (bR (ak h1' h1) q4 k1))) (aa rfl) (m1 (upL (cY [AV.ref 2,AV.int m]) 2 (AV.int ↑a)) (ov σ (upU [] 2 (AO.list ([AV.ref 1,AV.int ↑a].set (Int.toNat 1) (AV.int (↑a+1))))) []))))))) rfl
theorem yC (x y:Int) (l:Loc) (σ:St):kJ .Add (.int x) (.int y) l σ=some (.ok (.int (x+y)),l,σ):=rfl
theorem yD {x y:Int} (h:¬ y=0) (l:Loc) (σ:St):kJ .Mod (.int x) (.int y) l σ=some (.ok (.int (x.fmod y)),l,σ):=if_neg h
theorem qn {x y:Int} (h:me x) (h':me y) (l:Loc) (σ:St):kJ .Mult (.int x) (.int y) l σ=some (.ok (.int (x * y)),l,σ):=if_pos ⟨h,h'⟩
theorem yE {x:Int} (h:me x) (l:Loc) (σ:St):kJ .FloorDiv (.int x) (.int 4) l σ=some (.ok (.int (x.fdiv 4)),l,σ):=if_pos ⟨h,rfl⟩
theorem ie {σ:St} {i:Nat} {xs:List AV} (h:σ.get i=some (.list xs)) (hl:xs.length<1000) (l:Loc):em [.ref i] l σ=some (.ok (.int xs.length),l,σ):=by
  have:xs.length<2 ^ 24:=by omega
  unfold em
  simp only [h]
  rw [if_pos this]
theorem B0 {σ:St} {xs:List AV} {z n m y1 y2 y3 y4:Int} (h2:2<σ.next) (h:σ.get 2=some (.list [.ref 1,.int z])) (h1:σ.get 1=some (.list xs)) (h1':1<σ.next) (s4:∀ l,em [.ref 1] l (ov σ [(2,.list [.ref 1,.int (z+1)])] [])=some (.ok (.int n),l,ov σ [(2,.list [.ref 1,.int (z+1)])] []))
    (q':decide (z<n)=false) (s1:∀ l σ,kJ .Mult (.int 29) (.int z) l σ=some (.ok (.int y1),l,σ)) (s2:∀ l σ,kJ .Mult (.int z) (.int z) l σ=some (.ok (.int y2),l,σ)) (s3:∀ l σ,kJ .FloorDiv (.int y2) (.int 4) l σ=some (.ok (.int y3),l,σ)) (s5:∀ l σ,kJ .Mod (.int (y1+y3+5)) (.int m) l σ=some (.ok (.int y4),l,σ)) :
    bu [.ref 2,.int m] (ov σ [] [])=some (.ok (.int y4),ov σ [(2,.list [.ref 1,.int (z+1)])] []):=by
  have c1:dk (ov σ [(2,.list [.ref 1,.int (z+1)])] []) .Lt (.int z) (.int n)=some false:=congrArg some q'
  exact Eq.trans (br rfl (av (cU (aF (aa rfl) (ag _) (bR (ak h2 h) rfl rfl))) (av (gr (dg (aa rfl) (ag _) rfl) (aa rfl) (ag _) (jY (ak h2 h) rfl (m9 h2))) (aY (dg (eg (aE (aa rfl) (bB (af (aF (aa rfl) (ag _) (bR (ak h2 rfl) rfl rfl)) am) (s4 (upL (cY [AV.ref 2,AV.int m]) 2 (AV.int z)))) c1) (dg (dg (dg (ag _) (aa rfl) (s1 (upL (cY [AV.ref 2,AV.int m]) 2 (AV.int z)) (ov σ [(2,AO.list [AV.ref 1,AV.int (z+1)])] []))) (dg (dg (aa rfl) (aa rfl) (s2 (upL (cY [AV.ref 2,AV.int m]) 2 (AV.int z)) (ov σ [(2,AO.list [AV.ref 1,AV.int (z+1)])] []))) (ag _) (s3 (upL (cY [AV.ref 2,AV.int m]) 2 (AV.int z)) (ov σ [(2,AO.list [AV.ref 1,AV.int (z+1)])] []))) rfl) (ag _) rfl)) (aa rfl) (s5 (upL (cY [AV.ref 2,AV.int m]) 2 (AV.int z)) (ov σ [(2,AO.list [AV.ref 1,AV.int (z+1)])] []))))))) rfl
theorem Ad {σ:St} {xs:List AV} {a:Nat} (h2:2<σ.next) (h:σ.get 2=some (.list [.ref 1,.int a])) (h1:σ.get 1=some (.list xs)) (hx:∀ v∈xs,∃ i,v=AV.int i) (hl:xs.length<1000) (ha:a<500) {m:Int} (hm:0<m) :
    ∃ v,0≤v∧v<m∧bu [.ref 2,.int m] (ov σ [] [])=some (.ok (.int v),ov σ [(2,.list [.ref 1,.int ((a+1:Nat):Int)])] []):=by
  by_cases q:a<xs.length
  · obtain ⟨i,hi⟩:=hx xs[a] (List.getElem_mem q)
    exact ⟨_,Int.fmod_nonneg_of_pos _ hm,Int.fmod_lt_of_pos _ hm,BZ h2 h h1 hl (by omega) q ha hi (by omega)⟩
  · exact ⟨_,Int.fmod_nonneg_of_pos _ hm,Int.fmod_lt_of_pos _ hm,B0 h2 h h1 (by omega) (ie (by rw [bb (by omega),h1]; rfl) hl) (decide_eq_false (by omega)) (qn yB (sM ha)) (qn (sM ha) (sM ha)) (yE (yA ha)) (yD (by omega))⟩
end Lw
end SP4
section SP5
set_option maxHeartbeats 4000000
namespace Lw
open St
structure MAt (σ:St) (m:MR) (svs:List AV):Prop where
  d:σ.get 5=some (.sdict (mkv m))
  s:σ.get m.sv=some (.list svs)
  s':m.sv<σ.next
  n:svs.length<1000
  ne:m.sv≠5
  ne8:m.sv≠8
  ne9:m.sv≠9
noncomputable def MR.roomed (m:MR) (c:Int):MR:={ m with lastB:=m.lastB+1,used:=if m.isG then m.used else m.used+c,usedG:=if m.isG then m.usedG+c else m.usedG }
noncomputable def bl (m:MR) (svs:List AV):Int:=if m.isG then 0 else svs.length
theorem qo {σ:St} (F:Fx σ) {m:MR} {svs:List AV} (A:MAt σ m svs):di [.ref 6] (ov σ [] [])=some (.ok (.int svs.length),ov σ [] []):=by
  have f6:=F.f6; have a1:=A.d; have a2:=A.s; have a3:=A.s'; have a4:=A.n
  exact Eq.trans (br rfl (aY (bB (af (ao (aa rfl) (ak (Fx.lt F 6 (by decide)) f6) rfl (ak (Fx.lt F 5 (by decide)) a1) rfl) am) (km (ak a3 a2) (uX a4 rfl))))) rfl
theorem Ae {σ:St} (F:Fx σ) {m:MR} {svs:List AV} (A:MAt σ m svs) {mk:List (Int×AV)} (h9:σ.get 9=some (.idict mk)) (hmk:mk.length<1000) {c:Int} (hc:¬ 16777216<m.used+m.usedG+c) :
    bJ [.ref 6,.int c] (ov σ [] [])=some (.ok (.int (m.lastB+1)),ov σ [(5,.sdict (mkv (m.roomed c))),(9,.idict (store mk (m.lastB+1) (.ref σ.next)))] [.tup [.int c,.bool m.isG,.int (bl m svs)]]):=by
  have f6:=F.f6; have f4:=F.f4; have f3:=F.f3; have a1:=A.d; have a2:=A.s; have a3:=A.s'; have a4:=A.n; have a5:=Ne.symm A.ne; have a9:=Ne.symm A.ne9
  have c1:∀ σ,dk σ .Gt (.int (m.used+m.usedG+c)) (.int 16777216)=some false:=fun _=>congrArg some (decide_eq_false hc)
  obtain ⟨isG,sv,fr,used,usedG,lastB,lastS⟩:=m
  cases isG with
  | true =>
    exact Eq.trans (br rfl (av (ca (bV (aa rfl) (ak (Fx.lt F 6 (by decide)) f6) (ak (Fx.lt F 5 (by decide)) a1) (af (aa rfl) am) (dy rfl (bc (aE (dg (dg (ao (aa rfl) (ak (Fx.lt F 6 (by decide)) f6) rfl (ak (Fx.lt F 5 (by decide)) a1) rfl) (ao (aa rfl) (ak (Fx.lt F 6 (by decide)) f6) rfl (ak (Fx.lt F 5 (by decide)) a1) rfl) rfl) (aa rfl) rfl) (ao (ao (aa rfl) (ak (Fx.lt F 6 (by decide)) f6) rfl (ak (Fx.lt F 5 (by decide)) a1) rfl) (ak (Fx.lt F 4 (by decide)) f4) rfl (ak (Fx.lt F 3 (by decide)) f3) rfl) (c1 (ov σ [] []))) (ag _))))) (av (dA (dg (ao (aa rfl) (ak (Fx.lt F 6 (by decide)) f6) rfl (ak (Fx.lt F 5 (by decide)) a1) rfl) (ag _) rfl) (aa rfl) (ak (Fx.lt F 6 (by decide)) f6) rfl (ak (Fx.lt F 5 (by decide)) a1) rfl (m9 (Fx.lt F 5 (by decide)))) (av (gr (cL (af (aa rfl) (af (ao (aa rfl) (ak (Fx.lt F 6 (by decide)) f6) rfl (ak (Fx.lt F 5 (by decide)) rfl) rfl) (af (bV (aa rfl) (ak (Fx.lt F 6 (by decide)) f6) (ak (Fx.lt F 5 (by decide)) rfl) am (br rfl (aY (gu (bj (ao (aa rfl) (ak (Fx.lt F 6 (by decide)) f6) rfl (ak (Fx.lt F 5 (by decide)) rfl) rfl)) (ag _))))) am))) rfl co) (ao (aa rfl) (ak (Fx.lt F 6 (by decide)) f6) rfl (ak (Fx.lt F 5 (by decide)) rfl) rfl) (ao (aa rfl) (ak (Fx.lt F 6 (by decide)) f6) rfl (ak (Fx.lt F 5 (by decide)) rfl) rfl) (vV (ak (Fx.lt F 9 (by decide)) h9) hmk (m9 (Fx.lt F 9 (by decide))))) (av (dm (bj (ao (aa rfl) (ak (Fx.lt F 6 (by decide)) f6) rfl (ak (Fx.lt F 5 (by decide)) rfl) rfl)) (dA (dg (ao (aa rfl) (ak (Fx.lt F 6 (by decide)) f6) rfl (ak (Fx.lt F 5 (by decide)) rfl) rfl) (aa rfl) rfl) (aa rfl) (ak (Fx.lt F 6 (by decide)) f6) rfl (ak (Fx.lt F 5 (by decide)) rfl) rfl (m9 (Fx.lt F 5 (by decide))))) (aY (ao (aa rfl) (ak (Fx.lt F 6 (by decide)) f6) rfl (ak (Fx.lt F 5 (by decide)) rfl) rfl))))))) rfl
  | false =>
    exact Eq.trans (br rfl (av (ca (bV (aa rfl) (ak (Fx.lt F 6 (by decide)) f6) (ak (Fx.lt F 5 (by decide)) a1) (af (aa rfl) am) (dy rfl (bc (aE (dg (dg (ao (aa rfl) (ak (Fx.lt F 6 (by decide)) f6) rfl (ak (Fx.lt F 5 (by decide)) a1) rfl) (ao (aa rfl) (ak (Fx.lt F 6 (by decide)) f6) rfl (ak (Fx.lt F 5 (by decide)) a1) rfl) rfl) (aa rfl) rfl) (ao (ao (aa rfl) (ak (Fx.lt F 6 (by decide)) f6) rfl (ak (Fx.lt F 5 (by decide)) a1) rfl) (ak (Fx.lt F 4 (by decide)) f4) rfl (ak (Fx.lt F 3 (by decide)) f3) rfl) (c1 (ov σ [] []))) (ag _))))) (av (dA (dg (ao (aa rfl) (ak (Fx.lt F 6 (by decide)) f6) rfl (ak (Fx.lt F 5 (by decide)) a1) rfl) (ag _) rfl) (aa rfl) (ak (Fx.lt F 6 (by decide)) f6) rfl (ak (Fx.lt F 5 (by decide)) a1) rfl (m9 (Fx.lt F 5 (by decide)))) (av (gr (cL (af (aa rfl) (af (ao (aa rfl) (ak (Fx.lt F 6 (by decide)) f6) rfl (ak (Fx.lt F 5 (by decide)) rfl) rfl) (af (bV (aa rfl) (ak (Fx.lt F 6 (by decide)) f6) (ak (Fx.lt F 5 (by decide)) rfl) am (br rfl (aY (eg (bj (ao (aa rfl) (ak (Fx.lt F 6 (by decide)) f6) rfl (ak (Fx.lt F 5 (by decide)) rfl) rfl)) (m0 (aa rfl) (ak (Fx.lt F 6 (by decide)) f6) (ak (Fx.lt F 5 (by decide)) rfl) (br rfl (aY (bB (af (ao (aa rfl) (ak (Fx.lt F 6 (by decide)) f6) rfl (ak (Fx.lt F 5 (by decide)) rfl) rfl) am) (km (ak a3 (jh a5 a2)) (uX a4 rfl)))))))))) am))) rfl co) (ao (aa rfl) (ak (Fx.lt F 6 (by decide)) f6) rfl (ak (Fx.lt F 5 (by decide)) rfl) rfl) (ao (aa rfl) (ak (Fx.lt F 6 (by decide)) f6) rfl (ak (Fx.lt F 5 (by decide)) rfl) rfl) (vV (ak (Fx.lt F 9 (by decide)) h9) hmk (m9 (Fx.lt F 9 (by decide))))) (av (bc (bj (ao (aa rfl) (ak (Fx.lt F 6 (by decide)) f6) rfl (ak (Fx.lt F 5 (by decide)) rfl) rfl)) (dA (dg (ao (aa rfl) (ak (Fx.lt F 6 (by decide)) f6) rfl (ak (Fx.lt F 5 (by decide)) rfl) rfl) (aa rfl) rfl) (aa rfl) (ak (Fx.lt F 6 (by decide)) f6) rfl (ak (Fx.lt F 5 (by decide)) rfl) rfl (m9 (Fx.lt F 5 (by decide))))) (aY (ao (aa rfl) (ak (Fx.lt F 6 (by decide)) f6) rfl (ak (Fx.lt F 5 (by decide)) rfl) rfl))))))) rfl
end Lw
end SP5
section SP6
set_option maxHeartbeats 4000000
namespace Lw
open St
theorem Af {σ:St} (F:Fx σ) {m:MR} {svs:List AV} (A:MAt σ m svs) {mk:List (Int×AV)} (h9:σ.get 9=some (.idict mk)) {gid gd:Nat} {r:GR} (G:GAt σ gid gd r) {tp:Nat} {c lv:Int} {g:Bool}
    (hl:look mk r.num=some (.ref tp)) (htp:σ.get tp=some (.tup [.int c,.bool g,.int lv])) (htl:tp<σ.next) (hno:g=true∨¬ lv<(svs.length:Int)) :
    cC [.ref 6,.ref gid] (ov σ [] [])=some (.ok .none,ov σ [] [.tup [.int 0,.bool true,.int 0]]):=by
  have f6:=F.f6; have a1:=A.d; have a2:=A.s; have a3:=A.s'; have a4:=A.n; have a9:=Ne.symm A.ne9
  have b1:=G.i; have b2:=G.i'; have b3:=G.o; have b4:=G.o'
  rcases hno with rfl | hno
  · exact Eq.trans (dy rfl (av (kn (ql (ao (aa rfl) (ak (Fx.lt F 6 (by decide)) f6) rfl (ak (Fx.lt F 5 (by decide)) a1) rfl) (ak (Fx.lt F 9 (by decide)) h9) (af (ao (aa rfl) (ak b2 b1) rfl (ak b4 b3) rfl) (af (cL (af (ag _) (af (ag _) (af (ag _) am))) rfl co) am)) (rz (ak (Fx.lt F 9 (by decide)) h9) hl)) (cT (ak htl htp) rfl) (aS be (aS be (aS be dq)))) (bc (dM (jd (bj (aa rfl)) rfl)) (ag _)))) rfl
  · have c1:∀ σ,dk σ .Lt (.int lv) (.int svs.length)=some false:=fun _=>congrArg some (decide_eq_false hno)
    cases g with
    | true =>
      exact Eq.trans (dy rfl (av (kn (ql (ao (aa rfl) (ak (Fx.lt F 6 (by decide)) f6) rfl (ak (Fx.lt F 5 (by decide)) a1) rfl) (ak (Fx.lt F 9 (by decide)) h9) (af (ao (aa rfl) (ak b2 b1) rfl (ak b4 b3) rfl) (af (cL (af (ag _) (af (ag _) (af (ag _) am))) rfl co) am)) (rz (ak (Fx.lt F 9 (by decide)) h9) hl)) (cT (ak htl htp) rfl) (aS be (aS be (aS be dq)))) (bc (dM (jd (bj (aa rfl)) rfl)) (ag _)))) rfl
    | false =>
      exact Eq.trans (dy rfl (av (kn (ql (ao (aa rfl) (ak (Fx.lt F 6 (by decide)) f6) rfl (ak (Fx.lt F 5 (by decide)) a1) rfl) (ak (Fx.lt F 9 (by decide)) h9) (af (ao (aa rfl) (ak b2 b1) rfl (ak b4 b3) rfl) (af (cL (af (ag _) (af (ag _) (af (ag _) am))) rfl co) am)) (rz (ak (Fx.lt F 9 (by decide)) h9) hl)) (cT (ak htl htp) rfl) (aS be (aS be (aS be dq)))) (bc (cA (jd (bj (aa rfl)) rfl) (dM (aE (aa rfl) (m0 (aa rfl) (ak (Fx.lt F 6 (by decide)) f6) (ak (Fx.lt F 5 (by decide)) a1) (br rfl (aY (bB (af (ao (aa rfl) (ak (Fx.lt F 6 (by decide)) f6) rfl (ak (Fx.lt F 5 (by decide)) a1) rfl) am) (km (ak a3 a2) (uX a4 rfl)))))) (c1 (ov σ [] ([]++[AO.tup [AV.int 0,AV.bool true,AV.int 0]])))))) (ag _)))) rfl
theorem yF {σ:St} (F:Fx σ) {m:MR} {svs:List AV} (A:MAt σ m svs) {mk:List (Int×AV)} (h9:σ.get 9=some (.idict mk)) {gid gd:Nat} {r:GR} {x:Aux} (G:GAt σ gid gd r) (X:AuxAt σ r x) {tp:Nat} {c lv:Int} {js:List AV}
    (hl:look mk r.num=some (.ref tp)) (htp:σ.get tp=some (.tup [.int c,.bool false,.int lv])) (htl:tp<σ.next) (hlv:lv<(svs.length:Int)) (h8:σ.get 8=some (.list js)) (hjs:js.length<1000) :
    cC [.ref 6,.ref gid] (ov σ [] [])=some (.ok .none,ov σ [(8,.list (js++[.ref (σ.next+18)]))] (.tup [.int 0,.bool true,.int 0]::fU r x (σ.next+1) 0 false++[.tup [.str 67,.ref gid,.ref (σ.next+2)]])):=by
  have hc:=DO (σ:=ov σ [] [.tup [.int 0,.bool true,.int 0]]) (a:=gid) (da:=gd) (q:=r) (x:=x) ⟨by rw [bb G.i']; exact G.i,Nat.lt_succ_of_lt G.i',by rw [bb G.o']; exact G.o,Nat.lt_succ_of_lt G.o'⟩
    ⟨by rw [bb X.m']; exact X.m,X.ml,Nat.lt_succ_of_lt X.m',by rw [bb X.p']; exact X.p,Nat.lt_succ_of_lt X.p',by rw [bb X.pd']; exact X.pd,Nat.lt_succ_of_lt X.pd',by rw [bb X.pk']; exact X.pk,Nat.lt_succ_of_lt X.pk',X.pl,by rw [bb X.c']; exact X.c,X.cl,Nat.lt_succ_of_lt X.c',by rw [bb X.d']; exact X.d,X.dl,Nat.lt_succ_of_lt X.d',by rw [bb X.t']; exact X.t,X.tl,Nat.lt_succ_of_lt X.t'⟩
  have hov:∀ L,ov (ov σ [] [.tup [.int 0,.bool true,.int 0]]) [] L=ov σ [] (.tup [.int 0,.bool true,.int 0]::L):=by intro L; rw [ov_ov]; rfl
  rw [bz,hov] at hc
  have hc':de [.ref gid] (ov σ [] [.tup [.int 0,.bool true,.int 0]])=some (.ok (.ref (σ.next+1+1)),ov σ [] (.tup [.int 0,.bool true,.int 0]::fU r x (σ.next+1) 0 false)):=hc
  have f6:=F.f6; have a1:=A.d; have a2:=A.s; have a3:=A.s'; have a4:=A.n; have a9:=Ne.symm A.ne9
  have b1:=G.i; have b2:=G.i'; have b3:=G.o; have b4:=G.o'
  have c1:∀ σ,dk σ .Lt (.int lv) (.int svs.length)=some true:=fun _=>congrArg some (decide_eq_true hlv)
  exact Eq.trans (dy rfl (av (kn (ql (ao (aa rfl) (ak (Fx.lt F 6 (by decide)) f6) rfl (ak (Fx.lt F 5 (by decide)) a1) rfl) (ak (Fx.lt F 9 (by decide)) h9) (af (ao (aa rfl) (ak b2 b1) rfl (ak b4 b3) rfl) (af (cL (af (ag _) (af (ag _) (af (ag _) am))) rfl co) am)) (rz (ak (Fx.lt F 9 (by decide)) h9) hl)) (cT (ak htl htp) rfl) (aS be (aS be (aS be dq)))) (dm (cA (jd (bj (aa rfl)) rfl) (cA (aE (aa rfl) (m0 (aa rfl) (ak (Fx.lt F 6 (by decide)) f6) (ak (Fx.lt F 5 (by decide)) a1) (br rfl (aY (bB (af (ao (aa rfl) (ak (Fx.lt F 6 (by decide)) f6) rfl (ak (Fx.lt F 5 (by decide)) a1) rfl) am) (km (ak a3 a2) (uX a4 rfl)))))) (c1 (ov σ [] ([]++[AO.tup [AV.int 0,AV.bool true,AV.int 0]])))) (ag _))) (ca (lz (ao (aa rfl) (ak (Fx.lt F 6 (by decide)) f6) rfl (ak (Fx.lt F 5 (by decide)) a1) rfl) (ak (Fx.lt F 8 (by decide)) h8) (af (cL (af (ag _) (af (aa rfl) (af (bV (aa rfl) (ak b2 b1) (ak b4 b3) am hc') am))) rfl co) am) (rx (ak (Fx.lt F 8 (by decide)) h8) (uX hjs rfl) (m9 (Fx.lt F 8 (by decide))))))))) rfl
end Lw
end SP6
section SP7
set_option maxHeartbeats 4000000
namespace Lw
open St
noncomputable def Sm (D:List Nat) (σ σ':St):Prop:=σ.next≤σ'.next∧∀ i,i<σ.next→i ∉ D→σ'.get i=σ.get i
theorem Sm.refl (D:List Nat) (σ:St):Sm D σ σ:=⟨Nat.le_refl _,fun _ _ _=>rfl⟩
theorem Sm.trans {D:List Nat} {σ σ' σ'':St} (h:Sm D σ σ') (h':Sm D σ' σ''):Sm D σ σ'' :=
  ⟨Nat.le_trans h.1 h'.1,fun i hi hd=>(h'.2 i (Nat.lt_of_lt_of_le hi h.1) hd).trans (h.2 i hi hd)⟩
theorem Sm.more {D D':List Nat} {σ σ':St} (h:Sm D σ σ') (s:∀ i∈D,i∈D'):Sm D' σ σ':=⟨h.1,fun i hi hd=>h.2 i hi fun q=>hd (s i q)⟩
theorem Ag {U:List (Nat×AO)} {a:Nat} {d:Option AO} (h:a ∉ U.map (·.1)):gU U a d=d:=by
  induction U with
  | nil=>rfl
  | cons p U ih =>
    obtain ⟨b,x⟩:=p
    rw [List.map_cons,List.mem_cons,not_or] at h
    rw [gU,if_neg (Ne.symm h.1)]
    exact ih h.2
theorem Sm.ov (σ:St) (U:List (Nat×AO)) (L:List AO):Sm (U.map (·.1)) σ (ov σ U L) :=
  ⟨Nat.le_add_right _ _,fun i hi hd=>by rw [bb hi,Ag hd]⟩
theorem GAt.go {D:List Nat} {σ σ':St} {a da:Nat} {r:GR} (h:GAt σ a da r) (s:Sm D σ σ') (h1:a ∉ D) (h2:da ∉ D):GAt σ' a da r :=
  ⟨(s.2 _ h.i' h1).trans h.i,Nat.lt_of_lt_of_le h.i' s.1,(s.2 _ h.o' h2).trans h.o,Nat.lt_of_lt_of_le h.o' s.1⟩
noncomputable def auxIds (r:GR) (x:Aux):List Nat:=[r.mx,r.path,x.pd,x.pk,r.clip,r.dash,r.told]
theorem nin {i b:Nat} {l:List Nat} (hl:l.all (Nat.blt · b)=true) (h:b≤i):i ∉ l:=fun q=>Nat.not_lt.mpr h (Nat.blt_eq.mp (List.all_eq_true.mp hl i q))
theorem wU {i a:Nat} (h:i≠a):i ∉ [a]:=fun q=>h (List.mem_singleton.mp q)
theorem AuxAt.go {D:List Nat} {σ σ':St} {r:GR} {x:Aux} (h:AuxAt σ r x) (s:Sm D σ σ') (h1:∀ i∈auxIds r x,i ∉ D):AuxAt σ' r x:=by
  have k:∀ i∈auxIds r x,i<σ.next→∀ o,σ.get i=some o→σ'.get i=some o:=fun i hi hl o e=>(s.2 i hl (h1 i hi)).trans e
  have l:∀ i,i<σ.next→i<σ'.next:=fun i hi=>Nat.lt_of_lt_of_le hi s.1
  obtain ⟨m1,m2,m3,p1,p2,pd1,pd2,pk1,pk2,pk3,c1,c2,c3,d1,d2,d3,t1,t2,t3⟩:=h
  refine ⟨k _ ?_ m3 _ m1,m2,l _ m3,k _ ?_ p2 _ p1,l _ p2,k _ ?_ pd2 _ pd1,l _ pd2,k _ ?_ pk2 _ pk1,l _ pk2,pk3,k _ ?_ c3 _ c1,c2,l _ c3,k _ ?_ d3 _ d1,d2,l _ d3,k _ ?_ t3 _ t1,t2,l _ t3⟩ <;> simp [auxIds]
theorem MAt.go {D:List Nat} {σ σ':St} {m:MR} {svs:List AV} (h:MAt σ m svs) (F:Fx σ) (s:Sm D σ σ') (h1:5 ∉ D) (h2:m.sv ∉ D):MAt σ' m svs :=
  { h with d:=(s.2 _ (F.lt 5 (by decide)) h1).trans h.d,s:=(s.2 _ h.s' h2).trans h.s,s':=Nat.lt_of_lt_of_le h.s' s.1 }
theorem Fx.sm {D:List Nat} {σ σ':St} (F:Fx σ) (s:Sm D σ σ') (h:∀ i∈D,i ∉ fixL):Fx σ' :=
  F.go s.1 fun i hi=>s.2 i (F.lt i (by revert hi; revert i; decide)) fun q=>h i q hi
noncomputable def Aux.tk (x:Aux) (n:Nat):Aux:={ x with pd:=n+1,pk:=n+4 }
noncomputable def Aux.cp (x:Aux) (n:Nat):Aux:={ x with pd:=n+10,pk:=n+13 }
theorem yG {r q:GR} {x:Aux} {n m:Nat} (h:n≤m):∀ i∈auxIds (r.taken q m) (x.tk m),n≤i:=ch h (ch (iA h 2) (ch (iA h 1) (ch (iA h 4) (ch (iA h 5) (ch (iA h 6) (df (iA h 7)))))))
theorem DV {q:GR} {x:Aux} {k:Int} {g:Bool} {n m:Nat} (h:n≤m):∀ i∈auxIds (q.copied m k g) (x.cp m),n≤i:=ch (iA h 9) (ch (iA h 11) (ch (iA h 10) (ch (iA h 13) (ch (iA h 14) (ch (iA h 15) (df (iA h 16)))))))
theorem DW {k:Int} {g:Bool} {xm:List AV} {n m:Nat} (h:n≤m):∀ i∈auxIds (newR m k g) (newX m xm),n≤i:=ch (iA h 2) (ch (iA h 4) (ch (iA h 3) (ch (iA h 5) (ch (iA h 6) (ch (iA h 7) (df (iA h 8)))))))
theorem bL {σ:St} {U:List (Nat×AO)} {L:List AO} {k:Nat} {o:AO} (h:L[k]?=some o):(ov σ U L).get (σ.next+k)=some o:=by
  obtain ⟨hk,e⟩:=List.getElem?_eq_some_iff.mp h
  rw [sy hk,e]
theorem eS {σ:St} {U:List (Nat×AO)} {L:List AO} {k:Nat} (h:k<L.length):σ.next+k<(ov σ U L).next:=Nat.add_lt_add_left h _
theorem yH {σ:St} {q:GR} {x:Aux} (X:AuxAt σ q x) (r:GR) (U:List (Nat×AO)):AuxAt (ov σ U (x.news σ.next)) (r.taken q σ.next) (x.tk σ.next) where
  m:=bL (k:=0) rfl
  ml:=X.ml
  m':=eS (k:=0) (by simp [Aux.news])
  p:=bL (k:=2) rfl
  p':=eS (k:=2) (by simp [Aux.news])
  pd:=bL (k:=1) rfl
  pd':=eS (k:=1) (by simp [Aux.news])
  pk:=bL (k:=4) rfl
  pk':=eS (k:=4) (by simp [Aux.news])
  pl:=X.pl
  c:=bL (k:=5) rfl
  cl:=X.cl
  c':=eS (k:=5) (by simp [Aux.news])
  d:=bL (k:=6) rfl
  dl:=X.dl
  d':=eS (k:=6) (by simp [Aux.news])
  t:=bL (k:=7) rfl
  tl:=X.tl
  t':=eS (k:=7) (by simp [Aux.news])
noncomputable def unG (o:Option AO):GR :=
  have f:=fun k=>(lk (match o with | some (.sdict kv)=>kv | _=>[]) k).getD .none
  ⟨(f 5).gI.getD 0,(f 7).gB.getD false,(f 17).gR.getD 0,(f 18).gR.getD 0,(f 19).gR.getD 0,f 21,f 22,f 23,f 24,(f 25).gR.getD 0,f 26,f 27,f 28,f 29,f 30,(f 0).gR.getD 0⟩
theorem sO {σ:St} {a da b db:Nat} {r q:GR} {x:Aux} (A:GAt σ a da r) (B:GAt σ b db q) (X:AuxAt σ q x) (hs:da=db→a=b) :
    ∃ σ',bZ [.ref a,.ref b] σ=some (.ok .none,σ')∧Sm [da] σ σ'∧GAt σ' a da (r.taken q σ.next)∧AuxAt σ' (r.taken q σ.next) (x.tk σ.next)∧σ'.next=σ.next+8:=by
  have key:bZ [.ref a,.ref b] σ=some (.ok .none,ov σ [(da,.sdict (gkv (r.taken q σ.next)))] (x.news σ.next)):=by
    by_cases e:da=db
    · have e':=hs e
      subst e; subst e'
      have:r=q:=congrArg unG (A.o.symm.trans B.o)
      subst this
      exact wR A X
    · exact v7 A B X e
  refine ⟨_,key,Sm.ov _ _ _,⟨?_,?_,?_,?_⟩,yH X r _,by simp [gx,Aux.news]⟩
  · rw [bb A.i',gU,if_neg,gU]
    · exact A.i
    · intro e; have:=A.i; rw [← e,A.o] at this; cases this
  · exact Nat.lt_of_lt_of_le A.i' (Nat.le_add_right _ _)
  · rw [bb A.o',gU,if_pos rfl]
  · exact Nat.lt_of_lt_of_le A.o' (Nat.le_add_right _ _)
noncomputable def Bc (σ:St) (q:GR) (x:Aux) (n:Nat) (k:Int) (g:Bool):Prop:=GAt σ (n+1) n (q.copied n k g)∧AuxAt σ (q.copied n k g) (x.cp n)
theorem Ah {σ:St} {q:GR} {x:Aux} {k:Int} {g:Bool} {n:Nat} (h:∀ j o,(fU q x n k g)[j]?=some o→σ.get (n+j)=some o) (hn:n+17≤σ.next) (X:x.xm.length<2 ^ 24∧x.xk.length<2 ^ 24∧x.xc.length<2 ^ 24∧x.xd.length<2 ^ 24∧x.T.length<1000):Bc σ q x n k g:=by
  refine ⟨⟨h 1 _ rfl,by omega,h 0 _ rfl,by omega⟩,h 9 _ rfl,X.1,?_,h 11 _ rfl,?_,h 10 _ rfl,?_,h 13 _ rfl,?_,X.2.1,h 14 _ rfl,X.2.2.1,?_,h 15 _ rfl,X.2.2.2.1,?_,h 16 _ rfl,X.2.2.2.2,?_⟩ <;> simp only [GR.copied,Aux.cp] <;> omega
end Lw
end SP7
section SP8
set_option maxHeartbeats 4000000
namespace Lw
open St
structure Con (r:GR) (x:Aux) (c:Nat×Nat×Int):Prop where
  f:r.font=dW c.1
  t:x.T=gP c.2.1
  w:r.width=.int c.2.2
  f3:c.1<3
  t4:c.2.1<4
theorem Con.taken {q:GR} {x:Aux} {c:Nat×Nat×Int} (h:Con q x c) (r:GR) (n:Nat):Con (r.taken q n) (x.tk n) c:=⟨h.f,h.t,h.w,h.f3,h.t4⟩
theorem Con.copied {q:GR} {x:Aux} {c:Nat×Nat×Int} (h:Con q x c) (n:Nat) (k:Int) (g:Bool) (m:Nat):Con (q.copied n k g) (x.cp m) c:=⟨h.f,h.t,h.w,h.f3,h.t4⟩
noncomputable def yI (n0:Nat) (σ':St) (gid:Nat) (r:GR) (x:Aux) (js:List AV):Prop :=
  ∃ e ci cd rc xc,σ'.get 8=some (.list (js++[.ref e]))∧σ'.get e=some (.tup [.str 67,.ref gid,.ref ci])∧n0≤e∧e<σ'.next∧n0≤ci∧n0≤cd∧GAt σ' ci cd rc∧AuxAt σ' rc xc∧(∀ i∈auxIds rc xc,n0≤i)∧∀ c,Con r x c→Con rc xc c
theorem Ai {σ:St} (F:Fx σ) {m:MR} {svs:List AV} (A:MAt σ m svs) {mk:List (Int×AV)} (h9:σ.get 9=some (.idict mk)) {gid gd:Nat} {r:GR} {x:Aux} (G:GAt σ gid gd r) (X:AuxAt σ r x) {tp:Nat} {c lv:Int} {js:List AV}
    (hl:look mk r.num=some (.ref tp)) (htp:σ.get tp=some (.tup [.int c,.bool r.glob,.int lv])) (htl:tp<σ.next) (h8:σ.get 8=some (.list js)) (hjs:js.length<1000) :
    ∃ σ',cC [.ref 6,.ref gid] σ=some (.ok .none,σ')∧Sm [8] σ σ'∧((¬ (r.glob=false∧lv<(svs.length:Int))∧σ'.get 8=some (.list js))∨((r.glob=false∧lv<(svs.length:Int))∧yI σ.next σ' gid r x js)):=by
  have l8:8<σ.next:=F.lt 8 (by decide)
  by_cases hn:r.glob=false∧lv<(svs.length:Int)
  · rw [hn.1] at htp
    have key:=yF F A h9 G X hl htp htl hn.2 h8 hjs
    rw [bz] at key
    refine ⟨_,key,(Sm.ov _ _ _).more (by simp),.inr ⟨hn,?_⟩⟩
    have hc:Bc (ov σ [(8,.list (js++[.ref (σ.next+18)]))] (.tup [.int 0,.bool true,.int 0]::fU r x (σ.next+1) 0 false++[.tup [.str 67,.ref gid,.ref (σ.next+2)]])) r x (σ.next+1) 0 false:=by
      refine Ah (fun j o e=>?_) (by simp [gx,fU]) ⟨X.ml,X.pl,X.cl,X.dl,X.tl⟩
      have hj:j<17:=(List.getElem?_eq_some_iff.mp e).1
      rw [Nat.add_assoc]
      refine bL ?_
      rw [Nat.add_comm 1 j,List.cons_append,List.getElem?_cons_succ,List.getElem?_append_left (by simpa [fU] using hj)]
      exact e
    refine ⟨σ.next+18,σ.next+2,σ.next+1,_,_,?_,bL (k:=18) rfl,by omega,by simp [gx,fU],by omega,by omega,hc.1,hc.2,?_,fun c h=>h.copied _ _ _ _⟩
    · rw [bb l8,gU,if_pos rfl]
    · exact DV (Nat.le_succ _)
  · have key:=Af F A h9 G hl htp htl (by
      cases hg:r.glob with
      | true=>exact .inl rfl
      | false=>exact .inr fun q=>hn ⟨hg,q⟩)
    rw [bz] at key
    refine ⟨_,key,(Sm.ov _ _ _).more (by simp),.inl ⟨hn,?_⟩⟩
    rw [bb l8]; exact h8
theorem t0 {σ:St} (F:Fx σ) {b db:Nat} {q:GR} {x:Aux} (B:GAt σ b db q) (X:AuxAt σ q x) {c:Nat×Nat×Int} (C:Con q x c) (g:Bool) :
    (kw g c.1 c.2.1=false∧∃ σ',bv [.bool g,.ref b] σ=some (.ok .none,σ')∧Sm [] σ σ') ∨
    (kw g c.1 c.2.1=true∧∃ σ' e d,bv [.bool g,.ref b] σ=some (.exc e,σ')∧Sm [] σ σ'∧σ'.get e=some (.inst 52 d)∧σ'.get d=some (.sdict [(0,.byt 0)])):=by
  cases g with
  | false =>
    refine .inl ⟨rfl,σ,?_,.refl _ _⟩
    have:=tT (σ:=σ) (b:=b)
    rwa [bz] at this
  | true =>
    have key:=u9 F B X.t X.t' C.f3 C.t4 C.f C.t
    rw [bz] at key
    cases hd:kw true c.1 c.2.1 with
    | false =>
      rw [hd,if_neg (by decide)] at key
      exact .inl ⟨rfl,_,key,Sm.ov _ _ _⟩
    | true =>
      rw [hd,if_pos rfl] at key
      exact .inr ⟨rfl,_,_,_,key,Sm.ov _ _ _,bL (k:=5) rfl,bL (k:=4) rfl⟩
theorem Aj {σ:St} (F:Fx σ) {m:MR} {svs:List AV} (A:MAt σ m svs) {mk:List (Int×AV)} (h9:σ.get 9=some (.idict mk)) {gid gd:Nat} {r:GR} {x:Aux} (G:GAt σ gid gd r) (X:AuxAt σ r x) {tp:Nat} {c lv:Int} {js:List AV}
    (hl:look mk r.num=some (.ref tp)) (htp:σ.get tp=some (.tup [.int c,.bool r.glob,.int lv])) (htl:tp<σ.next) (h8:σ.get 8=some (.list js)) (hjs:js.length<1000)
    {b db:Nat} {q:GR} {y:Aux} (B:GAt σ b db q) (Y:AuxAt σ q y) {k:Nat×Nat×Int} (C:Con q y k) (hs:gd=db→gid=b) (hgd:91≤gd) (hgy:∀ i∈auxIds q y,i≠8) (hgx:∀ i∈auxIds r x,i≠8) (hsv:m.sv≠8) (hb8:db≠8) (hgi:gid≠8) (hbi:b≠8) (htp8:tp≠8) :
    (kw r.glob k.1 k.2.1=true∧∃ σ' e d,eN [.ref 6,.ref gid,.ref b] σ=some (.exc e,σ')∧Sm [] σ σ'∧σ'.get e=some (.inst 52 d)∧σ'.get d=some (.sdict [(0,.byt 0)])) ∨
    (kw r.glob k.1 k.2.1=false∧∃ σ' r' x',eN [.ref 6,.ref gid,.ref b] σ=some (.ok .none,σ')∧Sm [8,gd] σ σ'∧GAt σ' gid gd r'∧AuxAt σ' r' x'∧(∀ i∈auxIds r' x',σ.next≤i)∧r'.num=r.num∧r'.glob=r.glob∧Con r' x' k ∧
      ((¬ (r.glob=false∧lv<(svs.length:Int))∧σ'.get 8=some (.list js))∨((r.glob=false∧lv<(svs.length:Int))∧yI σ.next σ' gid r x js))):=by
  have hgdict:look (gkv r) 7=some (.bool r.glob):=rfl
  rcases t0 F B Y C r.glob with h0q | h0q
  · obtain ⟨hd,σ1,e1,s1⟩:=h0q
    refine .inr ⟨hd,?_⟩
    have F1:=F.sm s1 (by simp)
    have G1:=G.go s1 (by simp) (by simp)
    have X1:=X.go s1 (by simp)
    have A1:=A.go F s1 (by simp) (by simp)
    have B1:=B.go s1 (by simp) (by simp)
    have Y1:=Y.go s1 (by simp)
    have h9':σ1.get 9=some (.idict mk):=(s1.2 9 (F.lt 9 (by decide)) (by simp)).trans h9
    have h8':σ1.get 8=some (.list js):=(s1.2 8 (F.lt 8 (by decide)) (by simp)).trans h8
    obtain ⟨σ2,e2,s2,hn⟩:=Ai F1 A1 h9' G1 X1 hl ((s1.2 tp htl (by simp)).trans htp) (Nat.lt_of_lt_of_le htl s1.1) h8' hjs
    have G2:=G1.go s2 (wU hgi) (wU fun q=>absurd (q▸hgd) (by decide))
    have B2:=B1.go s2 (wU hbi) (wU hb8)
    have Y2:=Y1.go s2 (by simpa using hgy)
    obtain ⟨σ3,e3,s3,G3,X3,n3⟩:=sO G2 B2 Y2 hs
    have l12:=Nat.le_trans s1.1 s2.1
    have l1:σ.next≤σ1.next:=s1.1
    have l8:8<σ2.next:=Nat.lt_of_lt_of_le (F1.lt 8 (by decide)) s2.1
    have gd8:gd≠8:=fun q=>absurd (q▸hgd) (by decide)
    have ne8:8 ∉ [gd]:=wU gd8.symm
    have neG:∀ i,σ1.next≤i→i ∉ [gd]:=fun i hi=>wU (Nat.ne_of_gt (Nat.lt_of_lt_of_le G1.o' hi))
    refine ⟨σ3,_,_,?_,((s1.more (by simp)).trans (s2.more (by simp))).trans (s3.more (by simp)),G3,X3,?_,rfl,rfl,C.taken _ _,?_⟩
    · have i6:=F1.f6; have m5:=A1.d; have gi:=G.i; have go:=G.o; have gi2:=G2.i; have go2:=G2.o
      exact Eq.trans (dy rfl (av (ca (ba (af (ao (aa rfl) gi rfl go rfl) (af (aa rfl) am)) e1)) (av (ca (bV (aa rfl) i6 m5 (af (aa rfl) am) e2)) (ca (bV (aa rfl) gi2 go2 (af (aa rfl) am) e3))))) rfl
    · exact yG l12
    · rcases hn with h0q | h0q
      · obtain ⟨hn,h⟩:=h0q
        exact .inl ⟨hn,(s3.2 8 l8 ne8).trans h⟩
      · obtain ⟨hn,ej,ci,cd,rc,xc,j1,j2,j3,j4,j5,j6,j7,j8,j9,j10⟩:=h0q
        refine .inr ⟨hn,ej,ci,cd,rc,xc,?_,?_,Nat.le_trans l1 j3,Nat.lt_of_lt_of_le j4 s3.1,Nat.le_trans l1 j5,Nat.le_trans l1 j6,j7.go s3 (neG _ j5) (neG _ j6),j8.go s3 fun i hi=>neG i (j9 i hi),fun i hi=>Nat.le_trans l1 (j9 i hi),j10⟩
        · exact (s3.2 8 l8 ne8).trans j1
        · exact (s3.2 ej j4 (neG _ j3)).trans j2
  · obtain ⟨hd,σ1,e,d,e1,s1,x1,x2⟩:=h0q
    refine .inl ⟨hd,σ1,e,d,?_,s1,x1,x2⟩
    have gi:=G.i; have go:=G.o
    exact rq rfl (uR (jX (sz (af (ao (aa rfl) gi rfl go rfl) (af (aa rfl) am)) e1)))
end Lw
end SP8
section SP9
set_option maxHeartbeats 4000000
namespace Lw
open St
noncomputable abbrev C3:=Nat×Nat×Int
noncomputable def cl (c:C3):List AV:=[.int c.1,.int c.2.1,.int c.2.2]
structure SG where
  sid:Nat
  gid:Nat
  gd:Nat
  tid:Nat
  td:Nat
  cid:Nat
  r:GR
  x:Aux
  lev:Nat
  c:C3
structure VG where
  tup:Nat
  num:Int
  kid:Nat
  vi:Nat
  vd:Nat
  many:Nat
  used:Int
  kept:List (Nat×C3)
inductive JG where
  | state (jid k gid ci cd:Nat) (r:GR) (x:Aux) (c:C3)
  | item (jid:Nat) (old:AV)
noncomputable def JG.jid:JG→Nat
  | .state j ..=>j
  | .item j _=>j
structure MG where
  k:Int
  tp:Nat
  c:Int
  g:Bool
  lv:Int
structure WG where
  now:Nat
  stL:Nat
  m:MR
  c0:C3
  r0:GR
  x0:Aux
  st:List SG
  sv:List VG
  jr:List JG
  md:List MG
  at':Nat
  xs:List AV
  a39:AV×AV
  a66:AV×AV
  tl:List Nat
noncomputable def auxF (r:GR) (x:Aux):List (Nat×AO):=[(r.mx,.list x.xm),(r.path,.inst 352 x.pd),(x.pd,.sdict [(9,x.pm),(14,.ref x.pk),(15,x.px),(16,x.py)]),(x.pk,.list x.xk),(r.clip,.list x.xc),(r.dash,.list x.xd),(r.told,.bdict x.T)]
noncomputable def Aux.ok (x:Aux):Prop:=x.xm.length<2 ^ 24∧x.xk.length<2 ^ 24∧x.xc.length<2 ^ 24∧x.xd.length<2 ^ 24∧x.T.length<1000
noncomputable def sF (s:SG):List (Nat×AO):=[(s.gid,.inst 438 s.gd),(s.tid,.inst 84 s.td),(s.td,.sdict [(1,.str 63),(2,.ref s.gid),(3,.bool false),(4,.int 3)]),(s.cid,.list (cl s.c))]++auxF s.r s.x
noncomputable def jF:JG→List (Nat×AO)
  | .state jid _ gid ci cd r x _=>[(jid,.tup [.str 67,.ref gid,.ref ci]),(ci,.inst 438 cd),(cd,.sdict (gkv r))]++auxF r x
  | .item jid old=>[(jid,.tup [.str 66,.ref 38,.int 1,old])]
noncomputable def mF (e:MG):List (Nat×AO):=[(e.tp,.tup [.int e.c,.bool e.g,.int e.lv])]
noncomputable def vF (v:VG):List (Nat×AO):=[(v.tup,.tup [.int v.num,.ref v.kid]),(v.kid,.list (v.kept.map fun p=>.ref p.1)),(v.vi,.inst 500 v.vd),(v.vd,.sdict [(5,.int v.num),(13,.int v.many),(42,.int v.used),(43,.none)])]++v.kept.map fun p=>(p.1,.list (cl p.2))
noncomputable def immF (w:WG):List (Nat×AO):=(1,.list w.xs)::auxF w.r0 w.x0++w.st.flatMap sF++w.jr.flatMap jF++w.md.flatMap mF++w.sv.flatMap vF
noncomputable def mutF (w:WG):List (Nat×AO):=[(2,.list [.ref 1,.int w.at']),(5,.sdict (mkv w.m)),(8,.list (w.jr.map fun j=>.ref j.jid)),(9,.idict (w.md.map fun e=>(e.k,.ref e.tp))),(39,.list [w.a39.1,w.a39.2]),(66,.list [w.a66.1,w.a66.2]),(69,.sdict (gkv w.r0)),(86,.sdict (wkv w.now w.stL)),
  (90,.list (w.tl.map AV.ref)),(w.now,.list (cl w.c0)),(w.stL,.list (w.st.map fun s=>.ref s.sid)),(w.m.sv,.list (w.sv.map fun v=>.ref v.vi))] ++
  w.st.flatMap fun s=>[(s.sid,.sdict [(57,.ref s.tid),(7,.bool s.r.glob),(58,.ref s.cid)]),(s.gd,.sdict (gkv s.r))]
structure At (σ:St) (mt:Nat→Bool) (w:WG):Prop where
  F:Fx σ
  fm:∀ i∈fixL,mt i=false
  im:∀ p∈immF w,σ.get p.1=some p.2∧p.1<σ.next∧mt p.1=false
  mu:∀ p∈mutF w,σ.get p.1=some p.2∧p.1<σ.next∧mt p.1=true
  nd:((mutF w).map (·.1)).Nodup
theorem At.to {σ σ':St} {mt mt':Nat→Bool} {w w':WG} {D:List Nat} (h:At σ mt w) (s:Sm D σ σ') (hD:∀ i∈D,mt i=true) (hm:∀ i,i<σ.next→mt' i=mt i)
    (hi:∀ p∈immF w',p∈immF w∨(σ'.get p.1=some p.2∧p.1<σ'.next∧mt' p.1=false))
    (hu:∀ p∈mutF w',(p∈mutF w∧p.1 ∉ D)∨(σ'.get p.1=some p.2∧p.1<σ'.next∧mt' p.1=true)) (hn:((mutF w').map (·.1)).Nodup):At σ' mt' w' where
  F:=h.F.sm s fun i hi q=>by have:=hD i hi; rw [h.fm i q] at this; cases this
  fm:=fun i hi=>by rw [hm i (h.F.lt i (by revert hi; revert i; decide))]; exact h.fm i hi
  im:=fun p hp=>by
    rcases hi p hp with q | q
    · obtain ⟨a,b,c⟩:=h.im p q
      exact ⟨(s.2 _ b fun z=>by have:=hD _ z; rw [c] at this; cases this).trans a,Nat.lt_of_lt_of_le b s.1,(hm _ b).trans c⟩
    · exact q
  mu:=fun p hp=>by
    rcases hu p hp with h0q | q
    · obtain ⟨q,z⟩:=h0q
      obtain ⟨a,b,c⟩:=h.mu p q
      exact ⟨(s.2 _ b z).trans a,Nat.lt_of_lt_of_le b s.1,(hm _ b).trans c⟩
    · exact q
  nd:=hn
theorem mi {α:Type} {l:List α} {i:Nat} {a:α} (h:l[i]?=some a):a∈l:=List.mem_of_getElem? h
noncomputable abbrev Nw (σ:St) (mt:Nat→Bool) (b:Bool) (p:Nat×AO):Prop:=σ.get p.1=some p.2∧p.1<σ.next∧mt p.1=b
theorem DX {α:Type} {C:α→Prop}:∀ q∈([]:List α),C q:=nofun
theorem va {σ:St} {mt:Nat→Bool} {r:GR} {x:Aux} (h:∀ p∈auxF r x,σ.get p.1=some p.2∧p.1<σ.next∧mt p.1=false) (k:x.ok):AuxAt σ r x :=
  have h0:=h _ (mi (i:=0) rfl)
  have h1:=h _ (mi (i:=1) rfl)
  have h2:=h _ (mi (i:=2) rfl)
  have h3:=h _ (mi (i:=3) rfl)
  have h4:=h _ (mi (i:=4) rfl)
  have h5:=h _ (mi (i:=5) rfl)
  have h6:=h _ (mi (i:=6) rfl)
  ⟨h0.1,k.1,h0.2.1,h1.1,h1.2.1,h2.1,h2.2.1,h3.1,h3.2.1,k.2.1,h4.1,k.2.2.1,h4.2.1,h5.1,k.2.2.2.1,h5.2.1,h6.1,k.2.2.2.2,h6.2.1⟩
theorem sP {σ:St} {mt:Nat→Bool} {r:GR} {x:Aux} (X:AuxAt σ r x) (h:∀ i∈auxIds r x,mt i=false):∀ p∈auxF r x,σ.get p.1=some p.2∧p.1<σ.next∧mt p.1=false :=
  ch ⟨X.m,X.m',h _ (mi (i:=0) rfl)⟩ (ch ⟨X.p,X.p',h _ (mi (i:=1) rfl)⟩ (ch ⟨X.pd,X.pd',h _ (mi (i:=2) rfl)⟩ (ch ⟨X.pk,X.pk',h _ (mi (i:=3) rfl)⟩ (ch ⟨X.c,X.c',h _ (mi (i:=4) rfl)⟩ (ch ⟨X.d,X.d',h _ (mi (i:=5) rfl)⟩ (ch ⟨X.t,X.t',h _ (mi (i:=6) rfl)⟩ DX))))))
theorem AuxAt.ok {σ:St} {r:GR} {x:Aux} (X:AuxAt σ r x):x.ok:=⟨X.ml,X.pl,X.cl,X.dl,X.tl⟩
end Lw
end SP9
section SP10
set_option maxHeartbeats 4000000
namespace Lw
open St
theorem oz {L:List (Nat×AO)} (h:(L.map (·.1)).Nodup) {p q:Nat×AO} (hp:p∈L) (hq:q∈L) (e:p.1=q.1):p=q:=by
  induction L with
  | nil=>cases hp
  | cons a L ih =>
    rw [List.map_cons,List.nodup_cons] at h
    rcases List.mem_cons.mp hp with h1 | h1 <;> rcases List.mem_cons.mp hq with h2 | h2
    · rw [h1,h2]
    · exact absurd (by rw [← h1,e]; exact List.mem_map_of_mem (f:=(·.1)) h2) h.1
    · exact absurd (by rw [← h2,← e]; exact List.mem_map_of_mem (f:=(·.1)) h1) h.1
    · exact ih h.2 h1 h2
theorem At.to2 {σ σ':St} {mt mt':Nat→Bool} {w w':WG} {D:List Nat} (N:List (Nat×AO)) (h:At σ mt w) (s:Sm D σ σ') (hm:∀ i,i<σ.next→mt' i=mt i)
    (hi:∀ p∈immF w',p∈immF w∨(σ'.get p.1=some p.2∧p.1<σ'.next∧mt' p.1=false))
    (hN:∀ q∈N,q∈mutF w'∧σ'.get q.1=some q.2∧q.1<σ'.next∧mt' q.1=true) (hD:∀ i∈D,mt i=true∧∃ q∈N,q.1=i)
    (hu:∀ p∈mutF w',p∈N∨p∈mutF w) (hn:((mutF w').map (·.1)).Nodup):At σ' mt' w':=by
  refine h.to s (fun i hi=>(hD i hi).1) hm hi (fun p hp=>?_) hn
  rcases hu p hp with q | q
  · exact .inr (hN p q).2
  · by_cases z:p.1∈D
    · obtain ⟨_,t,ht,et⟩:=hD _ z
      obtain rfl:=oz hn (hN t ht).1 hp et
      exact .inr (hN t ht).2
    · exact .inl ⟨q,z⟩
noncomputable def stM (s:SG):List (Nat×AO):=[(s.sid,.sdict [(57,.ref s.tid),(7,.bool s.r.glob),(58,.ref s.cid)]),(s.gd,.sdict (gkv s.r))]
theorem eF (w:WG):mutF w=[(2,.list [.ref 1,.int w.at']),(5,.sdict (mkv w.m)),(8,.list (w.jr.map fun j=>.ref j.jid)),(9,.idict (w.md.map fun e=>(e.k,.ref e.tp))),(39,.list [w.a39.1,w.a39.2]),(66,.list [w.a66.1,w.a66.2]),(69,.sdict (gkv w.r0)),(86,.sdict (wkv w.now w.stL)),
  (90,.list (w.tl.map AV.ref)),(w.now,.list (cl w.c0)),(w.stL,.list (w.st.map fun s=>.ref s.sid)),(w.m.sv,.list (w.sv.map fun v=>.ref v.vi))]++w.st.flatMap stM:=rfl
theorem oQ {α β:Type} {f:α→List β} {l:List α} {k:Nat} {a:α} {p:β} (h:p∈(l.set k a).flatMap f):p∈f a∨p∈l.flatMap f:=by
  obtain ⟨b,hb,hp⟩:=List.mem_flatMap.mp h
  rcases List.mem_or_eq_of_mem_set hb with q | rfl
  · exact .inr (List.mem_flatMap.mpr ⟨b,q,hp⟩)
  · exact .inl hp
theorem sQ {l:List SG} {k:Nat} {a s:SG} (h:l[k]?=some s) (h1:a.sid=s.sid) (h2:a.gd=s.gd):((l.set k a).flatMap stM).map (·.1)=(l.flatMap stM).map (·.1):=by
  have e:∀ l:List SG,(l.flatMap stM).map (·.1)=(l.map fun s=>(s.sid,s.gd)).flatMap fun p=>[p.1,p.2]:=by
    intro l
    induction l with
    | nil=>rfl
    | cons a l ih=>rw [List.flatMap_cons,List.map_append,ih]; rfl
  rw [e,e]
  congr 1
  rw [List.map_set,h1,h2]
  have:(l.map fun s=>(s.sid,s.gd))[k]?=some (s.sid,s.gd):=by rw [List.getElem?_map,h]; rfl
  obtain ⟨hk,e⟩:=List.getElem?_eq_some_iff.mp this
  rw [← e]; exact List.set_getElem_self hk
noncomputable def jy:List JG→Nat→C3→C3
  | [],_,d=>d
  | .state _ k _ _ _ _ _ c::r,i,d=>if k=i then c else jy r i d
  | .item ..::r,i,d=>jy r i d
theorem t5 {a:Int} {n:Nat} (h:a≤200+20 * n):a≤200+20 * ((n+1:Nat):Int):=by omega
structure Ok (w:WG) (n:Nat):Prop where
  x0:w.x0.ok
  con0:Con w.r0 w.x0 w.c0
  xs:(∀ v∈w.xs,∃ i,v=AV.int i)∧w.xs.length<1000
  st:∀ s∈w.st,s.x.ok∧Con s.r s.x s.c∧91≤s.gd∧91≤s.sid
  num:∀ s∈w.st,∃ e∈w.md,e.k=s.r.num∧e.g=s.r.glob∧(s.r.glob=false→e.lv=s.lev)
  mdn:(w.md.map (·.k)).Nodup
  mdb:∀ e∈w.md,e.k≤w.m.lastB
  jr:∀ jid k gid ci cd r x c,JG.state jid k gid ci cd r x c∈w.jr→x.ok∧Con r x c∧∃ s,w.st[k]?=some s∧s.gid=gid∧s.r.glob=false
  l1:w.st.length≤1+n
  l2:w.jr.length≤2 * n
  l3:w.md.length≤10+2 * n
  l4:w.sv.length≤3
  s0:1≤n→0<w.st.length
  u1:w.m.used≤200+20 * n
  u2:w.m.usedG≤200+20 * n
  u3:∀ v∈w.sv,v.used≤200+20 * n
  n1:(w.sv.map (·.num)).Pairwise (·<·)
  n2:∀ v∈w.sv,v.num≤w.m.lastS
  k1:∀ v∈w.sv,v.many≤w.jr.length∧v.kept.length≤w.st.length∧∀ p∈v.kept,p.2.1<3∧p.2.2.1<4
  k2:w.sv.Pairwise fun a b=>a.many≤b.many∧a.kept.length≤b.kept.length
  lev:∀ i (s:SG) p (v:VG),w.st[i]?=some s→s.r.glob=false→w.sv[p]?=some v→(i<v.kept.length ↔ s.lev≤p)
  lev':∀ s∈w.st,s.r.glob=false→s.lev≤w.sv.length
  K:∀ v∈w.sv,∀ i (s:SG) p,w.st[i]?=some s→s.r.glob=false→v.kept[i]?=some p→jy (w.jr.drop v.many) i s.c=p.2
  J:∀ q jid k gid ci cd r x c,w.jr[q]?=some (JG.state jid k gid ci cd r x c)→∀ v∈w.sv,q<v.many→k<v.kept.length
  svn:w.m.sv=7∨91≤w.m.sv
  nown:w.now=88∨91≤w.now
  stn:w.stL=89∨91≤w.stL
  a39:∃ i,w.a39.2=AV.ref i
  a66:∃ i,w.a66.2=AV.ref i
  kp:∀ v∈w.sv,0<v.kept.length
  tls:w.tl=w.sv.map fun v=>v.tup
  ji:∀ jid old,JG.item jid old∈w.jr→∃ i,old=AV.ref i
theorem Bd {a n:Nat} (h:a≤1+n):a≤1+(n+1):=Nat.le_succ_of_le h
theorem yJ {a n:Nat} (h:a≤2 * n):a≤2 * (n+1):=Nat.le_trans h (Nat.le_add_right (2 * n) 2)
theorem DY {a b n:Nat} (h:a≤2 * n) (h':b≤2):a+b≤2 * (n+1):=Nat.add_le_add h h'
theorem DZ {a n:Nat} (h:a≤10+2 * n):a≤10+2 * (n+1):=Nat.le_trans h (Nat.le_add_right (10+2 * n) 2)
theorem D0 {a n:Nat} (h:a≤10+2 * n):a+1≤10+2 * (n+1):=Nat.le_succ_of_le (Nat.succ_le_succ h)
theorem D1 {a c:Int} {n:Nat} (h:a≤200+20 * n) (hc:c≤20) (b:Bool):(if b=true then a else a+c)≤200+20 * ((n+1:Nat):Int):=by split <;> omega
theorem Be {a c:Int} {n:Nat} (h:a≤200+20 * n) (hc:c≤20) (b:Bool):(if b=true then a+c else a)≤200+20 * ((n+1:Nat):Int):=by split <;> omega
theorem Ok.mdb1 {w:WG} {n:Nat} (o:Ok w n) {x:MG} (hx:x.k=w.m.lastB+1):∀ e∈w.md++[x],e.k≤w.m.lastB+1:=fun e he=>(List.mem_append.mp he).elim (fun he=>Int.le_trans (o.mdb e he) (Int.le_of_lt (Int.lt_succ _))) fun he=>Int.le_of_eq (List.mem_singleton.mp he▸hx)
theorem Ok.mdn1 {w:WG} {n:Nat} (o:Ok w n) {x:MG} (hx:x.k=w.m.lastB+1):((w.md++[x]).map (·.k)).Nodup:=by
  rw [List.map_append,List.nodup_append]
  refine ⟨o.mdn,List.nodup_cons.mpr ⟨List.not_mem_nil,List.nodup_nil⟩,fun a ha b hb e=>?_⟩
  obtain ⟨z,hz,h⟩:=List.mem_map.mp ha
  have:=o.mdb z hz
  rw [show z.k=a from h,e,show b=x.k from List.mem_singleton.mp hb,hx] at this
  exact absurd this (Int.not_le.mpr (Int.lt_succ _))
section
variable {σ:St} {mt:Nat→Bool} {w:WG}
theorem At.mem (h:At σ mt w) {p:Nat×AO} (hp:p∈mutF w):σ.get p.1=some p.2:=(h.mu p hp).1
theorem At.gs (h:At σ mt w):GAt σ 70 69 w.r0:=⟨h.F.f70,h.F.lt 70 (by decide),h.mem (mi (i:=6) rfl),h.F.lt 69 (by decide)⟩
theorem jj {p:Nat×AO} (hp:p∈auxF w.r0 w.x0):p∈immF w:=List.mem_append_left _ (List.mem_append_left _ (List.mem_append_left _ (List.mem_append_left _ (List.mem_cons_of_mem _ hp))))
theorem yK:(1,AO.list w.xs)∈immF w:=List.mem_append_left _ (List.mem_append_left _ (List.mem_append_left _ (List.mem_append_left _ List.mem_cons_self)))
theorem hW {s:SG} (hs:s∈w.st) {p:Nat×AO} (hp:p∈sF s):p∈immF w:=List.mem_append_left _ (List.mem_append_left _ (List.mem_append_left _ (List.mem_append_right _ (List.mem_flatMap.mpr ⟨s,hs,hp⟩))))
theorem t6 {s:JG} (hs:s∈w.jr) {p:Nat×AO} (hp:p∈jF s):p∈immF w:=List.mem_append_left _ (List.mem_append_left _ (List.mem_append_right _ (List.mem_flatMap.mpr ⟨s,hs,hp⟩)))
theorem yL {s:MG} (hs:s∈w.md) {p:Nat×AO} (hp:p∈mF s):p∈immF w:=List.mem_append_left _ (List.mem_append_right _ (List.mem_flatMap.mpr ⟨s,hs,hp⟩))
theorem nQ {s:VG} (hs:s∈w.sv) {p:Nat×AO} (hp:p∈vF s):p∈immF w:=List.mem_append_right _ (List.mem_flatMap.mpr ⟨s,hs,hp⟩)
theorem t7 {p:Nat×AO} (h:p∈immF w):p=(1,.list w.xs)∨p∈auxF w.r0 w.x0∨(∃ s∈w.st,p∈sF s)∨(∃ s∈w.jr,p∈jF s)∨(∃ s∈w.md,p∈mF s)∨∃ s∈w.sv,p∈vF s:=by
  rcases List.mem_append.mp h with h | h
  · rcases List.mem_append.mp h with h | h
    · rcases List.mem_append.mp h with h | h
      · rcases List.mem_append.mp h with h | h
        · rcases List.mem_cons.mp h with h | h
          · exact .inl h
          · exact .inr (.inl h)
        · exact .inr (.inr (.inl (List.mem_flatMap.mp h)))
      · exact .inr (.inr (.inr (.inl (List.mem_flatMap.mp h))))
    · exact .inr (.inr (.inr (.inr (.inl (List.mem_flatMap.mp h)))))
  · exact .inr (.inr (.inr (.inr (.inr (List.mem_flatMap.mp h)))))
theorem At.X0 (h:At σ mt w) (k:w.x0.ok):AuxAt σ w.r0 w.x0:=va (mt:=mt) (fun p hp=>h.im p (jj hp)) k
theorem At.st1 (h:At σ mt w) {s:SG} (hs:s∈w.st):∀ p∈sF s,σ.get p.1=some p.2∧p.1<σ.next∧mt p.1=false:=fun p hp=>h.im p (hW hs hp)
theorem hX {s:SG} (hs:s∈w.st) {p:Nat×AO} (hp:p∈stM s):p∈mutF w:=by rw [eF]; exact List.mem_append_right _ (List.mem_flatMap.mpr ⟨s,hs,hp⟩)
theorem At.stG (h:At σ mt w) {s:SG} (hs:s∈w.st):GAt σ s.gid s.gd s.r :=
  ⟨(h.st1 hs _ (mi (i:=0) rfl)).1,(h.st1 hs _ (mi (i:=0) rfl)).2.1,(h.mu _ (hX hs (mi (i:=1) rfl))).1,(h.mu _ (hX hs (mi (i:=1) rfl))).2.1⟩
theorem At.stX (h:At σ mt w) {s:SG} (hs:s∈w.st) (k:s.x.ok):AuxAt σ s.r s.x:=va (mt:=mt) (fun p hp=>h.st1 hs p (List.mem_append_right _ hp)) k
theorem wa {r:GR} {x:Aux} {i:Nat} (h:i∈auxIds r x):∃ o,(i,o)∈auxF r x:=by
  have e:auxIds r x=(auxF r x).map (·.1):=rfl
  rw [e] at h
  obtain ⟨p,hp,rfl⟩:=List.mem_map.mp h
  exact ⟨p.2,hp⟩
theorem At.auxM (h:At σ mt w) {s:SG} (hs:s∈w.st):∀ i∈auxIds s.r s.x,mt i=false:=by
  intro i hi
  obtain ⟨o,ho⟩:=wa hi
  exact (h.st1 hs (i,o) (List.mem_append_right _ ho)).2.2
theorem At.auxM0 (h:At σ mt w):∀ i∈auxIds w.r0 w.x0,mt i=false:=by
  intro i hi
  obtain ⟨o,ho⟩:=wa hi
  exact (h.im (i,o) (jj ho)).2.2
theorem At.mAt (h:At σ mt w) (hn:w.m.sv=7∨91≤w.m.sv) (hl:w.sv.length<1000):MAt σ w.m (w.sv.map fun v=>.ref v.vi) where
  d:=h.mem (mi (i:=1) rfl)
  s:=h.mem (mi (i:=11) rfl)
  s':=(h.mu _ (mi (i:=11) rfl)).2.1
  n:=by simpa using hl
  ne:=by omega
  ne8:=by omega
  ne9:=by omega
theorem At.wd (h:At σ mt w):σ.get 86=some (.sdict (wkv w.now w.stL)):=h.mem (mi (i:=7) rfl)
theorem At.h8 (h:At σ mt w):σ.get 8=some (.list (w.jr.map fun j=>.ref j.jid)):=h.mem (mi (i:=2) rfl)
theorem At.h9 (h:At σ mt w):σ.get 9=some (.idict (w.md.map fun e=>(e.k,.ref e.tp))):=h.mem (mi (i:=3) rfl)
theorem At.stsid (h:At σ mt w) {s:SG} (hs:s∈w.st):σ.get s.sid=some (.sdict [(57,.ref s.tid),(7,.bool s.r.glob),(58,.ref s.cid)])∧s.sid<σ.next∧mt s.sid=true:=h.mu _ (hX hs (mi (i:=0) rfl))
theorem sR {md:List MG} (hn:(md.map (·.k)).Nodup) {e:MG} (he:e∈md):look (md.map fun e=>(e.k,AV.ref e.tp)) e.k=some (.ref e.tp):=by
  induction md with
  | nil=>cases he
  | cons a md ih =>
    rw [List.map_cons,List.nodup_cons] at hn
    unfold look at ih ⊢
    rcases List.mem_cons.mp he with rfl | he
    · simp
    · have:a.k≠e.k:=fun q=>hn.1 (by rw [q]; exact List.mem_map_of_mem (f:=(·.k)) he)
      rw [List.map_cons,List.find?_cons_of_neg (by simpa using this)]
      exact ih hn.2 he
theorem mu2:(2,AO.list [.ref 1,.int w.at'])∈mutF w:=mi (i:=0) rfl
theorem At.c2 (h:At σ mt w):σ.get 2=some (.list [.ref 1,.int w.at'])∧2<σ.next∧mt 2=true:=h.mu _ mu2
theorem mu5:(5,AO.sdict (mkv w.m))∈mutF w:=mi (i:=1) rfl
theorem At.c5 (h:At σ mt w):σ.get 5=some (.sdict (mkv w.m))∧5<σ.next∧mt 5=true:=h.mu _ mu5
theorem mu8:(8,AO.list (w.jr.map fun j=>.ref j.jid))∈mutF w:=mi (i:=2) rfl
theorem At.c8 (h:At σ mt w):σ.get 8=some (.list (w.jr.map fun j=>.ref j.jid))∧8<σ.next∧mt 8=true:=h.mu _ mu8
theorem mu9:(9,AO.idict (w.md.map fun e=>(e.k,.ref e.tp)))∈mutF w:=mi (i:=3) rfl
theorem At.c9 (h:At σ mt w):σ.get 9=some (.idict (w.md.map fun e=>(e.k,.ref e.tp)))∧9<σ.next∧mt 9=true:=h.mu _ mu9
theorem D2:(39,AO.list [w.a39.1,w.a39.2])∈mutF w:=mi (i:=4) rfl
theorem At.c39 (h:At σ mt w):σ.get 39=some (.list [w.a39.1,w.a39.2])∧39<σ.next∧mt 39=true:=h.mu _ D2
theorem EE:(66,AO.list [w.a66.1,w.a66.2])∈mutF w:=mi (i:=5) rfl
theorem At.c66 (h:At σ mt w):σ.get 66=some (.list [w.a66.1,w.a66.2])∧66<σ.next∧mt 66=true:=h.mu _ EE
theorem D3:(69,AO.sdict (gkv w.r0))∈mutF w:=mi (i:=6) rfl
theorem At.c69 (h:At σ mt w):σ.get 69=some (.sdict (gkv w.r0))∧69<σ.next∧mt 69=true:=h.mu _ D3
theorem D4:(86,AO.sdict (wkv w.now w.stL))∈mutF w:=mi (i:=7) rfl
theorem At.c86 (h:At σ mt w):σ.get 86=some (.sdict (wkv w.now w.stL))∧86<σ.next∧mt 86=true:=h.mu _ D4
theorem EF:(90,AO.list (w.tl.map AV.ref))∈mutF w:=mi (i:=8) rfl
theorem At.c90 (h:At σ mt w):σ.get 90=some (.list (w.tl.map AV.ref))∧90<σ.next∧mt 90=true:=h.mu _ EF
theorem yM:(w.now,AO.list (cl w.c0))∈mutF w:=mi (i:=9) rfl
theorem At.cNow (h:At σ mt w):σ.get w.now=some (.list (cl w.c0))∧w.now<σ.next∧mt w.now=true:=h.mu _ yM
theorem D5:(w.stL,AO.list (w.st.map fun s=>.ref s.sid))∈mutF w:=mi (i:=10) rfl
theorem At.cStL (h:At σ mt w):σ.get w.stL=some (.list (w.st.map fun s=>.ref s.sid))∧w.stL<σ.next∧mt w.stL=true:=h.mu _ D5
theorem EG:(w.m.sv,AO.list (w.sv.map fun v=>.ref v.vi))∈mutF w:=mi (i:=11) rfl
theorem At.cSv (h:At σ mt w):σ.get w.m.sv=some (.list (w.sv.map fun v=>.ref v.vi))∧w.m.sv<σ.next∧mt w.m.sv=true:=h.mu _ EG
theorem At.sgid (h:At σ mt w) {s:SG} (hs:s∈w.st):σ.get s.gid=some (.inst 438 s.gd)∧s.gid<σ.next∧mt s.gid=false:=h.st1 hs _ (mi (i:=0) rfl)
theorem At.stid (h:At σ mt w) {s:SG} (hs:s∈w.st):σ.get s.tid=some (.inst 84 s.td)∧s.tid<σ.next∧mt s.tid=false:=h.st1 hs _ (mi (i:=1) rfl)
theorem At.std (h:At σ mt w) {s:SG} (hs:s∈w.st):σ.get s.td=some (.sdict [(1,.str 63),(2,.ref s.gid),(3,.bool false),(4,.int 3)])∧s.td<σ.next∧mt s.td=false:=h.st1 hs _ (mi (i:=2) rfl)
theorem At.scid (h:At σ mt w) {s:SG} (hs:s∈w.st):σ.get s.cid=some (.list (cl s.c))∧s.cid<σ.next∧mt s.cid=false:=h.st1 hs _ (mi (i:=3) rfl)
theorem At.sgd (h:At σ mt w) {s:SG} (hs:s∈w.st):σ.get s.gd=some (.sdict (gkv s.r))∧s.gd<σ.next∧mt s.gd=true:=h.mu _ (hX hs (mi (i:=1) rfl))
theorem At.mtp (h:At σ mt w) {e:MG} (he:e∈w.md):σ.get e.tp=some (.tup [.int e.c,.bool e.g,.int e.lv])∧e.tp<σ.next∧mt e.tp=false:=h.im _ (yL he (mi (i:=0) rfl))
end
inductive Dif (N:List (Nat×AO)):List (Nat×AO)→List (Nat×AO)→Prop where
  | nil:Dif N [] []
  | keep {p l r}:Dif N l r→Dif N (p::l) (p::r)
  | new {p q l r}:p∈N→Dif N l r→Dif N (p::l) (q::r)
theorem Dif.mem {N l r:List (Nat×AO)} (h:Dif N l r):∀ p∈l,p∈N∨p∈r:=by
  induction h with
  | nil=>exact DX
  | keep _ ih=>exact ch (.inr List.mem_cons_self) fun p hp=>(ih p hp).imp id (List.mem_cons_of_mem _)
  | new hN _ ih=>exact ch (.inl hN) fun p hp=>(ih p hp).imp id (List.mem_cons_of_mem _)
theorem Dif.refl {N:List (Nat×AO)}:∀ l,Dif N l l
  | []=>.nil
  | _::l=>.keep (Dif.refl l)
noncomputable def rC (w:WG):List (Nat×AO):=[(2,.list [.ref 1,.int w.at']),(5,.sdict (mkv w.m)),(8,.list (w.jr.map fun j=>.ref j.jid)),(9,.idict (w.md.map fun e=>(e.k,.ref e.tp))),(39,.list [w.a39.1,w.a39.2]),(66,.list [w.a66.1,w.a66.2]),(69,.sdict (gkv w.r0)),(86,.sdict (wkv w.now w.stL)),
  (90,.list (w.tl.map AV.ref)),(w.now,.list (cl w.c0)),(w.stL,.list (w.st.map fun s=>.ref s.sid)),(w.m.sv,.list (w.sv.map fun v=>.ref v.vi))]
theorem o6 (w:WG):mutF w=rC w++w.st.flatMap stM:=rfl
section
variable {σ σ':St} {mt mt':Nat→Bool} {w w':WG} {D:List Nat}
theorem At.to3 (N:List (Nat×AO)) (h:At σ mt w) (s:Sm D σ σ') (hm:∀ i,i<σ.next→mt' i=mt i) (hx:w'.xs=w.xs)
    (ha:∀ p∈auxF w'.r0 w'.x0,p∈immF w∨Nw σ' mt' false p) (hs:∀ t∈w'.st,∀ p∈sF t,p∈immF w∨Nw σ' mt' false p)
    (hj:∀ j∈w'.jr,j∈w.jr∨∀ p∈jF j,Nw σ' mt' false p) (he:∀ e∈w'.md,e∈w.md∨∀ p∈mF e,Nw σ' mt' false p) (hv:∀ v∈w'.sv,v∈w.sv∨∀ p∈vF v,Nw σ' mt' false p)
    (hN:∀ q∈N,q∈mutF w'∧Nw σ' mt' true q) (hD:∀ i∈D,mt i=true∧i∈N.map (·.1)) (h12:Dif N (rC w') (rC w)) (hst:∀ t∈w'.st,∀ p∈stM t,p∈N∨p∈mutF w) (hn:((mutF w').map (·.1)).Nodup):At σ' mt' w':=by
  refine h.to2 N s hm (fun p hp=>?_) hN (fun i hi=>⟨(hD i hi).1,List.mem_map.mp (hD i hi).2⟩) (fun p hp=>?_) hn
  · rcases t7 hp with hp | hp | ⟨t,ht,hp⟩ | ⟨j,hjm,hp⟩ | ⟨e,hem,hp⟩ | ⟨v,hvm,hp⟩
    · rw [hp,hx]; exact .inl yK
    · exact ha p hp
    · exact hs t ht p hp
    · rcases hj j hjm with q | q
      · exact .inl (t6 q hp)
      · exact .inr (q p hp)
    · rcases he e hem with q | q
      · exact .inl (yL q hp)
      · exact .inr (q p hp)
    · rcases hv v hvm with q | q
      · exact .inl (nQ q hp)
      · exact .inr (q p hp)
  · rcases List.mem_append.mp hp with hp | hp
    · exact (h12.mem p hp).imp id (List.mem_append_left _)
    · obtain ⟨t,ht,hp⟩:=List.mem_flatMap.mp hp
      exact hst t ht p hp
theorem dv (w:WG) {P:Nat×AO→Prop}:∀ p∈auxF w.r0 w.x0,p∈immF w∨P p:=fun _ hp=>.inl (jj hp)
theorem eZ (w:WG) {P:Nat×AO→Prop}:∀ t∈w.st,∀ p∈sF t,p∈immF w∨P p:=fun _ ht _ hp=>.inl (hW ht hp)
theorem same {α:Type} {l:List α} {P:α→Prop}:∀ j∈l,j∈l∨P j:=fun _ hj=>.inl hj
theorem fD (w:WG) {N:List (Nat×AO)}:∀ t∈w.st,∀ p∈stM t,p∈N∨p∈mutF w:=fun _ ht _ hp=>.inr (hX ht hp)
theorem inM {k:Nat} {p:Nat×AO} (h:(rC w)[k]?=some p):p∈mutF w:=List.mem_append_left _ (mi h)
end
end Lw
end SP10
section SP11
set_option maxHeartbeats 4000000
namespace Lw
open St
theorem aR {α:Type} {l:List α} {k:Nat} {a:α} (h:l[k]?=some a):a∈l:=List.mem_of_getElem? h
noncomputable def mtN (mt:Nat→Bool) (n:Nat):Nat→Bool:=fun i=>if i<n then mt i else false
theorem cW {mt:Nat→Bool} {n i:Nat} (h:i<n):mtN mt n i=mt i:=if_pos h
theorem lG {mt:Nat→Bool} {n i:Nat} (h:n≤i):mtN mt n i=false:=if_neg (by omega)
noncomputable def WG.filled (w:WG) (k:Nat) (s:SG) (r:GR) (x:Aux) (js:List JG):WG:={ w with st:=w.st.set k { s with r:=r,x:=x },jr:=w.jr++js }
theorem wb {l:List SG} {k:Nat} {s a:SG} (hk:l[k]?=some s) (e:a.sid=s.sid):(l.set k a).map (fun s=>AV.ref s.sid)=l.map fun s=>AV.ref s.sid:=by
  rw [List.map_set,e]
  obtain ⟨hk',e⟩:=List.getElem?_eq_some_iff.mp (show (l.map fun s=>AV.ref s.sid)[k]?=some (.ref s.sid) by rw [List.getElem?_map,hk]; rfl)
  rw [← e]; exact List.set_getElem_self hk'
theorem sS {σ σ':St} {mt:Nat→Bool} {w:WG} {k:Nat} {s:SG} (h:At σ mt w) (hk:w.st[k]?=some s) {r':GR} {x':Aux} (sm:Sm [8,s.gd] σ σ') (G':GAt σ' s.gid s.gd r') (X':AuxAt σ' r' x') (hx:∀ i∈auxIds r' x',σ.next≤i) (hg:r'.glob=s.r.glob)
    {js:List JG} (hj:σ'.get 8=some (.list ((w.jr++js).map fun j=>.ref j.jid))) (hjs:∀ j∈js,∀ p∈jF j,σ'.get p.1=some p.2∧p.1<σ'.next∧σ.next≤p.1):At σ' (mtN mt σ.next) (w.filled k s r' x' js):=by
  have hs:=aR hk
  have l8:8<σ.next:=h.F.lt 8 (by decide)
  have m8:mt 8=true:=h.c8.2.2
  have mg:mt s.gd=true:=(h.sgd hs).2.2
  have lg:s.gd<σ.next:=(h.stG hs).o'
  refine At.to3 (D:=[8,s.gd]) [(8,.list ((w.jr++js).map fun j=>.ref j.jid)),(s.gd,.sdict (gkv r'))] h sm (fun i hi=>cW hi) rfl (dv w) (fun t ht p hp=>?_) (fun j hjm=>?_) same same
    (ch ⟨inM (k:=2) rfl,hj,Nat.lt_of_lt_of_le l8 sm.1,(cW l8).trans m8⟩ (df ⟨hX (s:={ s with r:=r',x:=x' }) (List.mem_set (List.getElem?_eq_some_iff.mp hk).1 _) (mi (i:=1) rfl),G'.o,G'.o',(cW lg).trans mg⟩))
    (ch ⟨m8,mi (i:=0) rfl⟩ (df ⟨mg,mi (i:=1) rfl⟩)) ?_ (fun t ht=>?_) ?_
  · rcases List.mem_or_eq_of_mem_set ht with ht | rfl
    · exact .inl (hW ht hp)
    · rcases List.mem_append.mp hp with hp | hp
      · exact .inl (hW hs (List.mem_append_left _ hp))
      · exact .inr (sP X' (fun i hi=>lG (hx i hi)) p hp)
  · rcases List.mem_append.mp hjm with hjm | hjm
    · exact .inl hjm
    · exact .inr fun p hp=>let ⟨a,b,c⟩:=hjs j hjm p hp; ⟨a,b,lG c⟩
  · have e:(w.st.set k { s with r:=r',x:=x' }).map (fun s=>AV.ref s.sid)=w.st.map fun s=>AV.ref s.sid:=wb hk rfl
    refine .keep (.keep (.new List.mem_cons_self (.keep (.keep (.keep (.keep (.keep (.keep (.keep ?_)))))))))
    show Dif _ ((w.stL,.list ((w.st.set k _).map fun s=>AV.ref s.sid))::_) _
    rw [e]; exact .refl _
  · rcases List.mem_or_eq_of_mem_set ht with ht | rfl
    · exact fD w t ht
    · exact ch (.inr (hX hs (mi (i:=0) (congrArg (fun g=>some (s.sid,AO.sdict [(57,.ref s.tid),(7,.bool g),(58,.ref s.cid)])) hg.symm)))) (df (.inl (mi (i:=1) rfl)))
  · have e:(mutF (w.filled k s r' x' js)).map (·.1)=(mutF w).map (·.1):=by
      rw [o6,o6,List.map_append,List.map_append]
      exact congrArg (List.map _ (rC w)++·) (sQ hk rfl rfl)
    rw [e]; exact h.nd
theorem qp {σ:St} {mt:Nat→Bool} {w:WG} {k:Nat} {s:SG} (h:At σ mt w) (sx:s.x.ok) (sc:s.r.glob=false∧s.lev<w.sv.length→Con s.r s.x s.c) (s91:91≤s.gd) (hnum:∃ e∈w.md,e.k=s.r.num∧e.g=s.r.glob∧(s.r.glob=false→e.lv=s.lev)) (hmdn:(w.md.map (·.k)).Nodup) (l2:w.jr.length<900) (l4:w.sv.length≤3) (hsvn:w.m.sv=7∨91≤w.m.sv) (hk:w.st[k]?=some s) {b db:Nat} {q:GR} {y:Aux} {c:C3} (B:GAt σ b db q) (Y:AuxAt σ q y) (C:Con q y c) (hy:∀ i∈auxIds q y,mt i=false) (hs':s.gd=db→s.gid=b) (hdb:db≠8) (hb:b≠8) :
    (kw s.r.glob c.1 c.2.1=true∧∃ σ',cg [.ref 86,.ref s.sid,.ref b] σ=some (.ok (.byt 0),σ')∧Sm [] σ σ') ∨
    (kw s.r.glob c.1 c.2.1=false∧∃ σ' r' x' js,cg [.ref 86,.ref s.sid,.ref b] σ=some (.ok .none,σ')∧At σ' (mtN mt σ.next) (w.filled k s r' x' js)∧Sm [8,s.gd] σ σ'∧x'.ok∧r'.num=s.r.num∧r'.glob=s.r.glob∧Con r' x' c ∧
      ((js=[]∧¬ (s.r.glob=false∧s.lev<w.sv.length))∨((s.r.glob=false∧s.lev<w.sv.length)∧∃ e ci cd rc xc,js=[.state e k s.gid ci cd rc xc s.c]∧xc.ok∧Con rc xc s.c))):=by
  have hs:=aR hk
  obtain ⟨e,he,e1,e2,e3⟩:=hnum
  have G:=h.stG hs
  have X:=h.stX hs sx
  have m8:mt 8=true:=h.c8.2.2
  have ne8:∀ i,mt i=false→i≠8:=fun i hi q=>by rw [q,m8] at hi; cases hi
  obtain ⟨t1,t2,t3⟩:=h.mtp he
  have hl:=sR hmdn he
  rw [e1] at hl
  have fill:=Aj h.F (h.mAt hsvn (by omega)) h.h9 G X hl (by rw [← e2]; exact t1) t2 h.h8 (by rw [List.length_map]; omega) B Y C hs' s91 (fun i hi=>ne8 i (hy i hi)) (fun i hi=>ne8 i (h.auxM hs i hi)) (by omega) hdb (ne8 _ (h.sgid hs).2.2) hb (ne8 _ t3)
  obtain ⟨d1,d2,d3⟩:=h.stsid hs
  have wd:=h.wd
  obtain ⟨i1,i2,_⟩:=h.stid hs
  obtain ⟨j1,j2,_⟩:=h.std hs
  have h6:=h.F.f6
  rcases fill with h0q | h0q
  · obtain ⟨hd,σ',e',d',f1,f2,f3,f4⟩:=h0q
    refine .inl ⟨hd,σ',?_,f2⟩
    exact Eq.trans (br rfl (jW (uT (jX (sz (af (aF (aa rfl) (ag _) (aM wd rfl)) (af (ao (aF (aa rfl) (ag _) (aM d1 rfl)) i1 rfl j1 rfl) (af (aa rfl) am))) f1)) f3 (aY (uU (aa rfl) f3 f4 rfl))))) rfl
  · obtain ⟨hd,σ',r',x',f1,f2,f3,f4,f5,f6,f7,f8,f9⟩:=h0q
    refine .inr ⟨hd,σ',r',x',?_⟩
    have go:cg [.ref 86,.ref s.sid,.ref b] σ=some (.ok .none,σ'):=by
      exact Eq.trans (br rfl (av (vX (ca (ba (af (aF (aa rfl) (ag _) (aM wd rfl)) (af (ao (aF (aa rfl) (ag _) (aM d1 rfl)) i1 rfl j1 rfl) (af (aa rfl) am))) f1))) (aY (ag _)))) rfl
    have hlt:(s.r.glob=false∧e.lv<((w.sv.map fun v=>AV.ref v.vi).length:Int))→s.lev<w.sv.length:=fun g1=>by
      have:=g1.2
      rw [e3 g1.1,List.length_map] at this
      omega
    rcases f9 with h0q | h0q
    · obtain ⟨g1,g2⟩:=h0q
      refine ⟨[],go,sS h hk f2 f3 f4 f5 f7 (by rw [List.append_nil]; exact g2) (fun _ q=>by cases q),f2,f4.ok,f6,f7,f8,.inl ⟨rfl,fun q=>g1 ⟨q.1,?_⟩⟩⟩
      rw [e3 q.1,List.length_map]; have:=q.2; omega
    · obtain ⟨g1,e',ci,cd,rc,xc,g2,g3,g4,g5,g6,g7,g8,g9,g10,g11⟩:=h0q
      refine ⟨[.state e' k s.gid ci cd rc xc s.c],go,sS h hk f2 f3 f4 f5 f7 (by rw [List.map_append]; exact g2) (fun j hj p hp=>?_),f2,f4.ok,f6,f7,f8,.inr ⟨⟨g1.1,hlt g1⟩,e',ci,cd,rc,xc,rfl,g9.ok,g11 _ (sc ⟨g1.1,hlt g1⟩)⟩⟩
      · rw [List.mem_singleton] at hj
        subst hj
        rcases List.mem_append.mp hp with hp | hp
        · simp only [List.mem_cons,List.not_mem_nil,or_false] at hp
          rcases hp with rfl | rfl | rfl
          · exact ⟨g3,g5,g4⟩
          · exact ⟨g8.i,g8.i',g6⟩
          · exact ⟨g8.o,g8.o',g7⟩
        · obtain ⟨a1,a2,_⟩:=sP (mt:=fun _=>false) g9 (fun _ _=>rfl) p hp
          refine ⟨a1,a2,g10 _ ?_⟩
          have e:auxIds rc xc=(auxF rc xc).map (·.1):=rfl
          rw [e]; exact List.mem_map_of_mem (f:=(·.1)) hp
theorem wV {σ:St} {mt:Nat→Bool} {w:WG} {n k:Nat} {s:SG} (h:At σ mt w) (o:Ok w n) (hn:n≤20) (hk:w.st[k]?=some s) {b db:Nat} {q:GR} {y:Aux} {c:C3} (B:GAt σ b db q) (Y:AuxAt σ q y) (C:Con q y c) (hy:∀ i∈auxIds q y,mt i=false) (hs':s.gd=db→s.gid=b) (hdb:db≠8) (hb:b≠8) :
    (kw s.r.glob c.1 c.2.1=true∧∃ σ',cg [.ref 86,.ref s.sid,.ref b] σ=some (.ok (.byt 0),σ')∧Sm [] σ σ') ∨
    (kw s.r.glob c.1 c.2.1=false∧∃ σ' r' x' js,cg [.ref 86,.ref s.sid,.ref b] σ=some (.ok .none,σ')∧At σ' (mtN mt σ.next) (w.filled k s r' x' js)∧Sm [8,s.gd] σ σ'∧x'.ok∧r'.num=s.r.num∧r'.glob=s.r.glob∧Con r' x' c ∧
      ((js=[]∧¬ (s.r.glob=false∧s.lev<w.sv.length))∨((s.r.glob=false∧s.lev<w.sv.length)∧∃ e ci cd rc xc,js=[.state e k s.gid ci cd rc xc s.c]∧xc.ok∧Con rc xc s.c))) :=
  qp h (o.st s (aR hk)).1 (fun _=>(o.st s (aR hk)).2.1) (o.st s (aR hk)).2.2.1 (o.num s (aR hk)) o.mdn (by have:=o.l2; omega) o.l4 o.svn hk B Y C hy hs' hdb hb
end Lw
end SP11
section SP12
set_option maxHeartbeats 4000000
namespace Lw
open St
theorem ig {l:List SG} {k:Nat} {s a:SG} (h:l[k]?=some s):(l.set k a)[k]?=some a:=by
  obtain ⟨hk,_⟩:=List.getElem?_eq_some_iff.mp h
  rw [List.getElem?_set_self hk]
theorem rD {l:List SG} {k i:Nat} {a t:SG} (h:(l.set k a)[i]?=some t):(i=k∧t=a)∨(i≠k∧l[i]?=some t):=by
  by_cases q:i=k
  · subst q
    have hk:i<(l.set i a).length:=(List.getElem?_eq_some_iff.mp h).1
    rw [List.length_set] at hk
    rw [List.getElem?_set_self hk] at h
    exact .inl ⟨rfl,(Option.some.inj h).symm⟩
  · rw [List.getElem?_set_ne (Ne.symm q)] at h
    exact .inr ⟨q,h⟩
theorem lH (a b:List JG) (i:Nat) (d:C3):jy (a++b) i d=jy a i (jy b i d):=by
  induction a with
  | nil=>rfl
  | cons j a ih =>
    cases j with
    | state jid k gid ci cd r x c =>
      simp only [List.cons_append,jy,ih]
    | item jid old=>simp only [List.cons_append,jy,ih]
noncomputable def WG.drawn (w:WG):WG:={ w with at':=w.at'+1 }
theorem Ok.drawn {w:WG} {n:Nat} (o:Ok w n):Ok w.drawn n:={ o with }
theorem jZ {σ:St} {mt:Nat→Bool} {w:WG} {n:Nat} (h:At σ mt w) (o:Ok w n) (ha:w.at'<490) {m:Int} (hm:0<m) :
    ∃ v σ',0≤v∧v<m∧bu [.ref 2,.int m] σ=some (.ok (.int v),σ')∧At σ' mt w.drawn∧Sm [2] σ σ':=by
  obtain ⟨v,h1,h2,h3⟩:=Ad (h.F.lt 2 (by decide)) h.c2.1 (h.im _ yK).1 o.xs.1 o.xs.2 (by omega) hm
  rw [bz] at h3
  have s:=Sm.ov σ [(2,.list [.ref 1,.int ((w.at'+1:Nat):Int)])] []
  refine ⟨v,_,h1,h2,h3,?_,s⟩
  have l2:=h.F.lt 2 (by decide)
  exact At.to3 (D:=[2]) [(2,.list [.ref 1,.int ((w.at'+1:Nat):Int)])] h s (fun _ _=>rfl) rfl (dv w) (eZ w) same same same (df ⟨inM (k:=0) rfl,by rw [bb l2]; exact ow,l2,h.c2.2.2⟩) (df ⟨h.c2.2.2,mi (i:=0) rfl⟩) (.new List.mem_cons_self (.refl _)) (fD w) h.nd
noncomputable def WG.told (w:WG) (k:Nat) (s:SG) (cid:Nat) (c:C3):WG:={ w with st:=w.st.set k { s with cid:=cid,c:=c } }
theorem Ak {σ σ':St} {mt:Nat→Bool} {w:WG} {k:Nat} {s:SG} (h:At σ mt w) (hk:w.st[k]?=some s) {cid:Nat} {c:C3} (sm:Sm [s.sid] σ σ') (hd:σ'.get s.sid=some (.sdict [(57,.ref s.tid),(7,.bool s.r.glob),(58,.ref cid)])) (hc:σ'.get cid=some (.list (cl c))) (hc1:σ.next≤cid) (hc2:cid<σ'.next) :
    At σ' (mtN mt σ.next) (w.told k s cid c):=by
  have hs:=aR hk
  obtain ⟨d1,d2,d3⟩:=h.stsid hs
  refine At.to3 (D:=[s.sid]) [(s.sid,.sdict [(57,.ref s.tid),(7,.bool s.r.glob),(58,.ref cid)])] h sm (fun i hi=>cW hi) rfl (dv w) (fun t ht p hp=>?_) same same same
    (df ⟨hX (s:={ s with cid:=cid,c:=c }) (List.mem_set (List.getElem?_eq_some_iff.mp hk).1 _) (mi (i:=0) rfl),hd,Nat.lt_of_lt_of_le d2 sm.1,(cW d2).trans d3⟩) (df ⟨d3,mi (i:=0) rfl⟩) ?_ (fun t ht=>?_) ?_
  · rcases List.mem_or_eq_of_mem_set ht with ht | rfl
    · exact .inl (hW ht hp)
    · exact ch (C:=fun p=>p∈immF w∨Nw σ' (mtN mt σ.next) false p) (.inl (hW hs (mi (i:=0) rfl))) (ch (.inl (hW hs (mi (i:=1) rfl))) (ch (.inl (hW hs (mi (i:=2) rfl))) (ch (.inr ⟨hc,hc2,lG hc1⟩) fun p hp=>.inl (hW hs (List.mem_append_right _ hp))))) p hp
  · refine .keep (.keep (.keep (.keep (.keep (.keep (.keep (.keep (.keep (.keep ?_)))))))))
    show Dif _ ((w.stL,.list ((w.st.set k _).map fun s=>AV.ref s.sid))::_) _
    rw [wb (a:={ s with cid:=cid,c:=c }) hk rfl]; exact .refl _
  · rcases List.mem_or_eq_of_mem_set ht with ht | rfl
    · exact fD w t ht
    · exact ch (.inl (mi (i:=0) rfl)) (df (.inr (hX hs (mi (i:=1) rfl))))
  · have e:(mutF (w.told k s cid c)).map (·.1)=(mutF w).map (·.1):=by
      rw [o6,o6,List.map_append,List.map_append]
      exact congrArg (List.map _ (rC w)++·) (sQ hk rfl rfl)
    rw [e]; exact h.nd
theorem Ok.fill {w w':WG} {n k:Nat} {s s':SG} (o:Ok w n) (hk:w.st[k]?=some s) {js:List JG} (hw:w'={ w with st:=w.st.set k s',jr:=w.jr++js }) (h1:s'.x.ok) (h2:Con s'.r s'.x s'.c) (h3:s'.sid=s.sid) (h4:s'.gd=s.gd) (h5:s'.gid=s.gid) (h6:s'.r.num=s.r.num) (h7:s'.r.glob=s.r.glob) (h8:s'.lev=s.lev)
    (hj:(js=[]∧¬ (s.r.glob=false∧s.lev<w.sv.length))∨((s.r.glob=false∧s.lev<w.sv.length)∧∃ e ci cd rc xc,js=[.state e k s.gid ci cd rc xc s.c]∧xc.ok∧Con rc xc s.c)):Ok w' (n+1):=by
  subst hw
  have hs:=aR hk
  have all':∀ {P:SG→Prop},P s'→(∀ t∈w.st,P t)→∀ t∈w.st.set k s',P t:=fun a b t ht=>(List.mem_or_eq_of_mem_set ht).elim (b t) fun e=>e▸a
  have jA:∀ j∈js,s.r.glob=false∧∃ e ci cd rc xc,j=.state e k s.gid ci cd rc xc s.c∧xc.ok∧Con rc xc s.c:=fun j hm=>hj.elim (fun h=>absurd (h.1▸hm) List.not_mem_nil) fun h=>exE5 h.2 fun e ci cd rc xc q=>⟨h.1.1,e,ci,cd,rc,xc,List.mem_singleton.mp (q.1▸hm),q.2⟩
  have jl:js.length≤1:=hj.elim (fun h=>h.1▸Nat.zero_le 1) fun h=>exE5 h.2 fun e ci cd rc xc q=>q.1▸Nat.le_refl 1
  have jU:∀ i d,i≠k→jy js i d=d:=fun i d hne=>hj.elim (fun h=>h.1▸rfl) fun h=>exE5 h.2 fun e ci cd rc xc q=>q.1▸if_neg (Ne.symm hne)
  have jV:∀ d,s.r.glob=false→s.lev<w.sv.length→jy js k d=s.c:=fun d hg hl=>hj.elim (fun h=>absurd ⟨hg,hl⟩ h.2) fun h=>exE5 h.2 fun e ci cd rc xc q=>q.1▸if_pos rfl
  have sl:(w.st.set k s').length=w.st.length:=List.length_set ..
  have keep:∀ (k':Nat) (s0:SG),w.st[k']?=some s0→∃ s1:SG,(w.st.set k s')[k']?=some s1∧s1.gid=s0.gid∧s1.r.glob=s0.r.glob:=by
    intro k' s0 e
    by_cases q:k'=k
    · have e0:s=s0:=Option.some.inj (hk.symm.trans (q▸e))
      exact ⟨s',by rw [q]; exact ig hk,e0▸h5,e0▸h7⟩
    · exact ⟨s0,by rw [List.getElem?_set_ne (Ne.symm q)]; exact e,rfl,rfl⟩
  exact {
    x0:=o.x0
    con0:=o.con0
    xs:=o.xs
    st:=all' ⟨h1,h2,h4.symm▸(o.st s hs).2.2.1,h3.symm▸(o.st s hs).2.2.2⟩ o.st
    num:=all' (exE1 (o.num s hs) fun e q=>⟨e,q.1,q.2.1.trans h6.symm,q.2.2.1.trans h7.symm,fun z=>by rw [h8]; exact q.2.2.2 (h7▸z)⟩) o.num
    mdn:=o.mdn
    mdb:=o.mdb
    jr:=fun jid k' gid ci cd r x c hm=>by
      rcases List.mem_append.mp hm with hm | hm
      · obtain ⟨a,b,s0,e0,e1,e2⟩:=o.jr _ _ _ _ _ _ _ _ hm
        obtain ⟨s1,e3,e4,e5⟩:=keep k' s0 e0
        exact ⟨a,b,s1,e3,e4.trans e1,e5.trans e2⟩
      · obtain ⟨hl,_,_,_,_,_,q,a,b⟩:=jA _ hm
        cases q
        exact ⟨a,b,s',ig hk,h5,h7.trans hl⟩
    l1:=Nat.le_trans (Nat.le_of_eq sl) (Nat.le_succ_of_le o.l1)
    l2:=by
      show (w.jr++js).length≤2 * n+2
      rw [List.length_append]
      exact Nat.add_le_add o.l2 (Nat.le_trans jl (by decide))
    l3:=Nat.le_trans o.l3 (Nat.le_add_right (10+2 * n) 2)
    l4:=o.l4
    s0:=fun _=>Nat.lt_of_lt_of_le (Nat.lt_of_le_of_lt (Nat.zero_le k) (List.getElem?_eq_some_iff.mp hk).1) (Nat.le_of_eq sl.symm)
    u1:=t5 o.u1
    u2:=t5 o.u2
    u3:=fun v hv=>t5 (o.u3 v hv)
    n1:=o.n1
    n2:=o.n2
    k1:=fun v hv=>⟨Nat.le_trans (o.k1 v hv).1 (Nat.le_trans (Nat.le_add_right _ _) (Nat.le_of_eq (List.length_append ..).symm)),Nat.le_trans (o.k1 v hv).2.1 (Nat.le_of_eq sl.symm),(o.k1 v hv).2.2⟩
    k2:=o.k2
    lev:=fun i t p v ht hg hv=>by
      rcases rD ht with e | e
      · rw [e.2] at hg
        rw [e.1,e.2,h8]; exact o.lev k s p v hk (h7▸hg) hv
      · exact o.lev i t p v e.2 hg hv
    lev':=all' (fun hg=>by rw [h8]; exact o.lev' s hs (h7▸hg)) o.lev'
    K:=fun v hv i t p ht hg hp=>by
      show jy ((w.jr++js).drop v.many) i t.c=p.2
      rw [List.drop_append_of_le_length (o.k1 v hv).1,lH]
      rcases rD ht with e | e
      · rw [e.1] at hp ⊢
        rw [e.2,h7] at hg
        obtain ⟨q,hq⟩:=List.getElem?_of_mem hv
        rw [jV _ hg (Nat.lt_of_le_of_lt ((o.lev k s q v hk hg hq).mp (List.getElem?_eq_some_iff.mp hp).1) (List.getElem?_eq_some_iff.mp hq).1)]
        exact o.K v hv k s p hk hg hp
      · rw [jU _ _ e.1]
        exact o.K v hv i t p e.2 hg hp
    J:=fun q jid k' gid ci cd r x c hq v hv hlt=>o.J q jid k' gid ci cd r x c ((List.getElem?_append_left (Nat.lt_of_lt_of_le hlt (o.k1 v hv).1)).symm.trans hq) v hv hlt
    svn:=o.svn
    nown:=o.nown
    stn:=o.stn
    a39:=o.a39
    a66:=o.a66
    kp:=o.kp
    tls:=o.tls
    ji:=fun jid old hm=>(List.mem_append.mp hm).elim (o.ji _ _) fun hm=>by
      obtain ⟨_,_,_,_,_,_,q,_⟩:=jA _ hm
      exact nomatch q }
end Lw
end SP12
section SP13
set_option maxHeartbeats 4000000
namespace Lw
open St
theorem na {A C:List Nat} {b n:Nat} (h:(A++b::C).Nodup) (h1:n ∉ A) (h2:n ∉ C):(A++n::C).Nodup:=by
  rw [List.nodup_append] at h ⊢
  obtain ⟨a,b',c⟩:=h
  rw [List.nodup_cons] at b'
  refine ⟨a,List.nodup_cons.mpr ⟨h2,b'.2⟩,fun x hx y hy e=>?_⟩
  subst e
  rcases List.mem_cons.mp hy with rfl | hy
  · exact h1 hx
  · exact c x hx x (List.mem_cons_of_mem _ hy) rfl
noncomputable def mtM (mt:Nat→Bool) (n:Nat) (l:List Nat):Nat→Bool:=fun i=>if i<n then mt i else l.contains i
theorem fF {mt:Nat→Bool} {n i:Nat} {l:List Nat} (h:i<n):mtM mt n l i=mt i:=if_pos h
theorem qr {mt:Nat→Bool} {n i:Nat} {l:List Nat} (h:n≤i) (k:i∈l):mtM mt n l i=true:=by
  unfold mtM; rw [if_neg (by omega)]; simpa using k
theorem wc {mt:Nat→Bool} {n i:Nat} {l:List Nat} (h:n≤i) (k:i ∉ l):mtM mt n l i=false:=by
  unfold mtM; rw [if_neg (by omega)]; simpa using k
noncomputable def WG.back (w:WG) (now:Nat) (c:C3) (r:GR) (x:Aux):WG:={ w with now:=now,c0:=c,r0:=r,x0:=x }
theorem Al {σ σ':St} {mt:Nat→Bool} {w:WG} (h:At σ mt w) {now:Nat} {c:C3} {r:GR} {x:Aux} (sm:Sm [86,69] σ σ') (hw:σ'.get 86=some (.sdict (wkv now w.stL))) (hn:σ'.get now=some (.list (cl c))) (hn1:σ.next≤now) (hn2:now<σ'.next) (G:GAt σ' 70 69 r) (X:AuxAt σ' r x) (hx:∀ i∈auxIds r x,σ.next≤i∧i≠now) :
    At σ' (mtM mt σ.next [now]) (w.back now c r x):=by
  have l86:=h.F.lt 86 (by decide)
  have l69:=h.F.lt 69 (by decide)
  refine At.to3 (D:=[86,69]) [(86,.sdict (wkv now w.stL)),(now,.list (cl c)),(69,.sdict (gkv r))] h sm (fun i hi=>fF hi) rfl (fun p hp=>.inr (sP X (fun i hi=>wc (hx i hi).1 fun q=>(hx i hi).2 (List.mem_singleton.mp q)) p hp)) (eZ w) same same same
    (ch ⟨inM (k:=7) rfl,hw,Nat.lt_of_lt_of_le l86 sm.1,(fF l86).trans h.c86.2.2⟩ (ch ⟨inM (k:=9) rfl,hn,hn2,qr hn1 (mi (i:=0) rfl)⟩ (df ⟨inM (k:=6) rfl,G.o,G.o',(fF l69).trans h.c69.2.2⟩)))
    (ch ⟨h.c86.2.2,mi (i:=0) rfl⟩ (df ⟨h.c69.2.2,mi (i:=2) rfl⟩)) (.keep (.keep (.keep (.keep (.keep (.keep (.new (mi (i:=2) rfl) (.new (mi (i:=0) rfl) (.keep (.new (mi (i:=1) rfl) (.refl _))))))))))) (fD w) ?_
  · have all:∀ i∈(mutF w).map (·.1),i<σ.next:=fun i hi=>by
      obtain ⟨p,hp,rfl⟩:=List.mem_map.mp hi
      exact (h.mu p hp).2.1
    have nd:=h.nd
    rw [show (mutF w).map (·.1)=[2,5,8,9,39,66,69,86,90]++w.now::([w.stL,w.m.sv]++(w.st.flatMap stM).map (·.1)) by rw [eF,List.map_append]; rfl] at nd all
    rw [show (mutF (w.back now c r x)).map (·.1)=[2,5,8,9,39,66,69,86,90]++now::([w.stL,w.m.sv]++(w.st.flatMap stM).map (·.1)) by rw [eF,List.map_append]; rfl]
    refine na nd (fun q=>?_) (fun q=>?_)
    · have:=all now (List.mem_append_left _ q); omega
    · have:=all now (List.mem_append_right _ (List.mem_cons_of_mem _ q)); omega
theorem Ok.back {w:WG} {n:Nat} (o:Ok w n) {now:Nat} {c:C3} {r:GR} {x:Aux} (hn:91≤now) (hx:x.ok) (hc:Con r x c):Ok (w.back now c r x) n :=
  { o with x0:=hx,con0:=hc,nown:=.inr hn }
theorem Ok.up {w:WG} {n:Nat} (o:Ok w n) (h0:0<w.st.length):Ok w (n+1) :=
  { o with
    s0:=fun _=>h0
    l1:=Bd o.l1
    l2:=yJ o.l2
    l3:=DZ o.l3
    u1:=t5 o.u1
    u2:=t5 o.u2
    u3:=fun v hv=>t5 (o.u3 v hv) }
theorem rE {σ:St} {i:Nat} {xs:List AV} {a:Nat} {v:AV} {l:Loc} (h1:σ.get i=some (.list xs)) (q2:xs.length<2000) (e:xs[a]?=some v) (h:a<500):gC (.ref i) (.int a) l σ=some (.ok v,l,σ):=by
  unfold gC
  simp [h1,q2,v9 h,e]
theorem sT {σ:St} {i k:Nat} {kvs:List (Nat×AV)} {v:AV} (h1:σ.get i=some (.sdict kvs)) (e:look kvs k=some v) (l:Loc):gC (.ref i) (.str k) l σ=some (.ok v,l,σ):=by
  unfold gC
  simp [h1,e]
theorem iF {σ:St} {mt:Nat→Bool} {w:WG} {n:Nat} (h:At σ mt w) (o:Ok w n) (h0:0<w.st.length) (hn:n≤20) (ha:w.at'<490) :
    ∃ (k:Nat) (s:SG) (σ':St),w.st[k]?=some s∧bu [.ref 2,.int w.st.length] σ=some (.ok (.int k),σ')∧At σ' mt w.drawn∧Sm [2] σ σ'∧(∀ l,em [.ref w.stL] l σ=some (.ok (.int w.st.length),l,σ))∧(∀ l,gC (.ref w.stL) (.int k) l σ'=some (.ok (.ref s.sid),l,σ')):=by
  have l1:=o.l1
  obtain ⟨v,σ',v0,v1,e,h',s'⟩:=jZ h o ha (m:=w.st.length) (by omega)
  obtain ⟨k,rfl⟩:=Int.eq_ofNat_of_zero_le v0
  have hk:k<w.st.length:=by omega
  refine ⟨k,w.st[k],σ',List.getElem?_eq_getElem hk,e,h',s',fun l=>?_,fun l=>?_⟩
  · have:=ie (h.cStL).1 (by rw [List.length_map]; omega) l
    rwa [List.length_map] at this
  · have c:σ'.get w.stL=some (.list (w.st.map fun s=>AV.ref s.sid)):=h'.cStL.1
    exact rE (xs:=w.st.map fun s=>AV.ref s.sid) c (by rw [List.length_map]; omega) (by rw [List.getElem?_map,List.getElem?_eq_getElem hk]; rfl) (by omega)
theorem D6 {σ:St} {mt:Nat→Bool} {w:WG} {n:Nat} (h:At σ mt w) (o:Ok w n) (h0:0<w.st.length) (hn:n≤20) (ha:w.at'<480) :
    ∃ σ' mt' w',cy [.ref 86,.int 7,.ref 2] σ=some (.ok (.bool true),σ')∧At σ' mt' w'∧Ok w' (n+1)∧w'.at'≤w.at'+2:=by
  obtain ⟨k,s,σ1,hk,e1,h1,s1,l1,l2⟩:=iF h o h0 hn (by omega)
  have hs:s∈w.drawn.st:=aR hk
  have hs':=aR hk
  obtain ⟨sx,sc,s91,ss91⟩:=o.st s hs'
  have wd:=h.wd
  have wd1:σ1.get 86=some (.sdict (wkv w.now w.stL)):=h1.wd
  obtain ⟨d1,d2,d3⟩:=h1.stsid hs
  obtain ⟨i1,i2,i3⟩:=h1.stid hs
  obtain ⟨j1,j2,j3⟩:=h1.std hs
  obtain ⟨c1,c2,c3⟩:=h1.scid hs
  have l86:=h1.F.lt 86 (by decide)
  have hlist:∀ l,du [.ref s.cid] l σ1=some (.ok (.ref σ1.next),l,σ1.push (.list (cl s.c))):=fun l=>by simp [du,c1,cl]
  have e2:(σ1.push (.list (cl s.c))).set 86 (.sdict (wkv σ1.next w.stL))=ov σ1 [(86,.sdict (wkv σ1.next w.stL))] [.list (cl s.c)]:=by
    have:=dx σ1 [] [] (.list (cl s.c))
    rw [bz] at this
    rw [this,bF l86]; rfl
  have s2:=Sm.ov σ1 [(86,.sdict (wkv σ1.next w.stL))] [.list (cl s.c)]
  generalize e3:ov σ1 [(86,.sdict (wkv σ1.next w.stL))] [.list (cl s.c)]=σ2 at e2 s2
  have n2:σ2.next=σ1.next+1:=by rw [← e3]; rfl
  have w2:σ2.get 86=some (.sdict (wkv σ1.next w.stL)):=by rw [← e3,bb l86,gU,if_pos rfl]
  have m86:mt 86=true:=h.c86.2.2
  have ne86:∀ i,mt i=false→i ∉ [86]:=fun i hi q=>by rw [List.mem_singleton] at q; rw [q,m86] at hi; cases hi
  have g91:s.gd ∉ [86]:=nin rfl s91
  have keep:∀ i,i<σ1.next→i≠86→σ2.get i=σ1.get i:=fun i hi q=>s2.2 i hi (by simpa using q)
  have nn:∀ i,mt i=false→i≠86:=fun i hi q=>by rw [q,m86] at hi; cases hi
  have A2:GAt σ2 70 69 w.r0:=h1.gs.go s2 (by simp) (by simp)
  have B2:GAt σ2 s.gid s.gd s.r:=(h1.stG hs).go s2 (ne86 _ (h1.sgid hs).2.2) g91
  have Y2:AuxAt σ2 s.r s.x:=(h1.stX hs sx).go s2 fun i hi=>ne86 i (h1.auxM hs i hi)
  obtain ⟨σ3,e4,s3,G3,X3,n3⟩:=sO A2 B2 Y2 (fun q=>by omega)
  refine ⟨σ3,_,w.drawn.back σ1.next s.c (w.r0.taken s.r σ2.next) (s.x.tk σ2.next),?_,Al h1 ?_ ?_ ?_ (Nat.le_refl _) ?_ G3 X3 ?_,(Ok.back o.drawn (by have:=h1.F.hn; omega) X3.ok (sc.taken _ _)).up h0,by show w.at'+1≤_; omega⟩
  · have j1':=(keep _ j2 (nn _ j3)).trans j1
    have i1':=(keep _ i2 (nn _ i3)).trans i1
    have d1':=(keep _ d2 (by omega)).trans d1
    have a1:=A2.i
    have a2:=A2.o
    have q5:∀ l,dX (.ref 86) (.str 55) (.ref σ1.next) l (σ1.push (.list (cl s.c)))=some (.ok (),l,σ2):=fun l=>by
      have:(σ1.push (.list (cl s.c))).get 86=some (.sdict (wkv w.now w.stL)):=by rw [← bz σ1,dx,bb l86]; exact wd1
      exact vW this rfl e2
    exact Eq.trans (br rfl (av (cU (aF (aF (aa rfl) (ag _) (aM wd rfl)) (ba (af (aa rfl) (af (bB (af (aF (aa rfl) (ag _) (aM wd rfl)) am) (l1 fun k=>[AV.ref 86,AV.int 7,AV.ref 2][k]?)) am)) e1) (l2 fun k=>[AV.ref 86,AV.int 7,AV.ref 2][k]?))) (jW (dm (aE (aa rfl) (ag _) rfl) (av (gr (bB (af (aF (aa rfl) (ag _) (aM d1 rfl)) am) (uS c1 rfl rfl)) (aa rfl) (ag _) (q5 (upL (fun k=>[AV.ref 86,AV.int 7,AV.ref 2][k]?) 3 (AV.ref s.sid)))) (av (ca (bV (aF (aa rfl) (ag _) (aM w2 rfl)) a1 a2 (af (ao (aF (aa rfl) (ag _) (aM d1' rfl)) i1' rfl j1' rfl) am) e4)) (aY (ag _)))))))) rfl
  · exact (s2.more (by simp)).trans (s3.more (by simp))
  · exact (s3.2 86 (Nat.lt_of_lt_of_le l86 s2.1) (by simp)).trans w2
  · have:σ2.get σ1.next=some (.list (cl s.c)):=by rw [← e3]; exact bL (k:=0) rfl
    exact (s3.2 _ (by omega) (by simp; have:=h1.F.hn; omega)).trans this
  · have:=s3.1; omega
  · intro i hi
    have:=yG (Nat.le_of_eq n2.symm) i hi
    exact ⟨Nat.le_of_succ_le this,Nat.ne_of_gt this⟩
end Lw
end SP13
section SP14
set_option maxHeartbeats 4000000
namespace Lw
open St
theorem At.same {σ σ':St} {mt:Nat→Bool} {w:WG} (h:At σ mt w) (s:Sm [] σ σ'):At σ' mt w :=
  h.to s (by simp) (fun _ _=>rfl) (fun p hp=>.inl hp) (fun p hp=>.inl ⟨hp,by simp⟩) h.nd
theorem fb (σ:St) (o:AO):σ.push o=ov σ [] [o]:=by
  have:=dx σ [] [] o
  rwa [bz] at this
theorem At.push {σ:St} {mt:Nat→Bool} {w:WG} (h:At σ mt w) (o:AO):At (σ.push o) mt w:=by
  rw [fb]; exact h.same (Sm.ov _ _ _)
theorem yN {l:List SG} (h:((l.flatMap stM).map (·.1)).Nodup):∀ {i j:Nat} {s t:SG},l[i]?=some s→l[j]?=some t→i≠j→s.gd=t.gd→False:=by
  induction l with
  | nil=>intro i j s t hs; simp at hs
  | cons a l ih =>
    intro i j s t hs ht hne e
    rw [List.flatMap_cons,List.map_append,List.nodup_append] at h
    have mem:∀ {s:SG},s∈l→s.gd∈(l.flatMap stM).map (·.1):=fun {s} hs=>List.mem_map.mpr ⟨(s.gd,.sdict (gkv s.r)),List.mem_flatMap.mpr ⟨s,hs,by simp [stM]⟩,rfl⟩
    have ma:a.gd∈(stM a).map (·.1):=by simp [stM]
    cases i with
    | zero =>
      obtain rfl:a=s:=by simpa using hs
      cases j with
      | zero=>exact hne rfl
      | succ j=>exact h.2.2 _ ma _ (mem (aR (by simpa using ht))) e
    | succ i =>
      cases j with
      | zero =>
        obtain rfl:a=t:=by simpa using ht
        exact h.2.2 _ ma _ (mem (aR (by simpa using hs))) e.symm
      | succ j=>exact ih h.2.1 (by simpa using hs) (by simpa using ht) (fun q=>hne (by rw [q])) e
theorem t8 {σ:St} {mt:Nat→Bool} {w:WG} {n k:Nat} {s:SG} (h:At σ mt w) (o:Ok w n) (hn:n≤20) (hk:w.st[k]?=some s) {b db cc:Nat} {q:GR} {y:Aux} {c:C3} (B:GAt σ b db q) (Y:AuxAt σ q y) (C:Con q y c) (hy:∀ i∈auxIds q y,mt i=false) (hs':s.gd=db→s.gid=b) (hdb:db≠8) (hb:b≠8)
    (h1:σ.get cc=some (.list (cl c))) (h2:cc<σ.next) (h3:cc≠8) (h4:cc≠s.gd) :
    ∃ σ' mt' w',At σ' mt' w'∧Ok w' (n+1)∧w'.at'=w.at'∧((kw s.r.glob c.1 c.2.1=true∧cg [.ref 86,.ref s.sid,.ref b] σ=some (.ok (.byt 0),σ')) ∨
      (kw s.r.glob c.1 c.2.1=false∧∃ σ3,cg [.ref 86,.ref s.sid,.ref b] σ=some (.ok .none,σ3)∧(∀ l,du [.ref cc] l σ3=some (.ok (.ref σ3.next),l,σ3.push (.list (cl c))))∧∀ l,dX (.ref s.sid) (.str 58) (.ref σ3.next) l (σ3.push (.list (cl c)))=some (.ok (),l,σ'))):=by
  rcases wV h o hn hk B Y C hy hs' hdb hb with h0q | h0q
  · obtain ⟨hd,σ',e,sm⟩:=h0q
    exact ⟨σ',mt,w,h.same sm,o.up (by have:=(List.getElem?_eq_some_iff.mp hk).1; omega),rfl,.inl ⟨hd,e⟩⟩
  · obtain ⟨hd,σ3,r',x',js,e,a3,sm,f1,f2,f3,f4,f5⟩:=h0q
    have hk3:(w.filled k s r' x' js).st[k]?=some { s with r:=r',x:=x' }:=ig hk
    have hs3:=aR hk3
    obtain ⟨d1,d2,d3⟩:=a3.stsid hs3
    have k1:σ3.get cc=some (.list (cl c)):=(sm.2 cc h2 (by simp [h3,h4])).trans h1
    have e4:(σ3.push (.list (cl c))).set s.sid (.sdict [(57,.ref s.tid),(7,.bool r'.glob),(58,.ref σ3.next)])=ov σ3 [(s.sid,.sdict [(57,.ref s.tid),(7,.bool r'.glob),(58,.ref σ3.next)])] [.list (cl c)]:=by
      rw [fb,bF d2]; rfl
    refine ⟨ov σ3 [(s.sid,.sdict [(57,.ref s.tid),(7,.bool r'.glob),(58,.ref σ3.next)])] [.list (cl c)],_,(w.filled k s r' x' js).told k { s with r:=r',x:=x' } σ3.next c,Ak a3 hk3 (Sm.ov _ _ _) ?_ (bL (k:=0) rfl) (Nat.le_refl _) (eS (k:=0) (by simp)),?_,rfl,.inr ⟨hd,σ3,e,fun l=>?_,fun l=>?_⟩⟩
    · rw [bb d2,gU,if_pos rfl]
    · refine Ok.fill o hk (s':={ s with r:=r',x:=x',cid:=σ3.next,c:=c }) (js:=js) ?_ f1 f4 rfl rfl rfl f2 f3 rfl f5
      simp only [WG.told,WG.filled,List.set_set]
    · exact uS k1 rfl rfl
    · have:(σ3.push (.list (cl c))).get s.sid=some (.sdict [(57,.ref s.tid),(7,.bool r'.glob),(58,.ref s.cid)]):=by rw [fb,bb d2]; exact d1
      exact vW this rfl e4
theorem D7 {σ:St} {mt:Nat→Bool} {w:WG} {n:Nat} (h:At σ mt w) (o:Ok w n) (h0:0<w.st.length) (hn:n≤20) (ha:w.at'<480) :
    ∃ σ' mt' w',cy [.ref 86,.int 5,.ref 2] σ=some (.ok (.bool true),σ')∧At σ' mt' w'∧Ok w' (n+1)∧w'.at'≤w.at'+2:=by
  obtain ⟨k,s,σ1,hk,e1,h1,s1,l1,l2⟩:=iF h o h0 hn (by omega)
  have hs:s∈w.drawn.st:=aR hk
  have hτ:=h1.push (.tup [.ref 70,.ref w.now])
  have tt:(σ1.push (.tup [.ref 70,.ref w.now])).get σ1.next=some (.tup [.ref 70,.ref w.now]):=if_pos rfl
  generalize hg:σ1.push (.tup [.ref 70,.ref w.now])=τ at hτ tt
  obtain ⟨sx,sc,s91,ss91⟩:=o.st s (aR hk)
  obtain ⟨d1,d2,d3⟩:=hτ.stsid hs
  obtain ⟨n1,n2,n3⟩:=hτ.cNow
  have nn:=o.nown
  have gc:w.now≠s.gd:=by
    intro e
    have q1:=(hτ.sgd hs).1
    rw [← e] at q1
    have:=n1.symm.trans q1
    cases this
  obtain ⟨σ',mt',w',a',o',at',hf⟩:=t8 hτ o.drawn hn hk (b:=70) (db:=69) (cc:=w.now) hτ.gs (hτ.X0 o.x0) o.con0 hτ.auxM0 (fun q=>by omega) (by decide) (by decide) n1 n2 (by omega) gc
  have due:fz [.bool s.r.glob,.ref w.now] τ=some (.ok (if kw s.r.glob w.c0.1 w.c0.2.1 then .byt 0 else .none),τ):=by
    have:=sL n1 n2 o.con0.f3 o.con0.t4 s.r.glob
    rwa [bz] at this
  have w0:=h.wd; have w1:σ1.get 86=some (.sdict (wkv w.now w.stL)):=h1.wd
  have al:∀ l,cV (.tup [.ref 70,.ref w.now]) l σ1=some (.ok (.ref σ1.next),l,τ):=fun l=>by rw [← hg]; rfl
  refine ⟨σ',mt',w',?_,a',o',by rw [at']; show w.at'+1≤_; omega⟩
  rcases hf with h0q | h0q
  · obtain ⟨hd,hf⟩:=h0q
    rw [hd,if_pos rfl] at due
    exact Eq.trans (br rfl (av (cU (aF (aF (aa rfl) (ag _) (aM w0 rfl)) (ba (af (aa rfl) (af (bB (af (aF (aa rfl) (ag _) (aM w0 rfl)) am) (l1 fun k=>[AV.ref 86,AV.int 5,AV.ref 2][k]?)) am)) e1) (l2 fun k=>[AV.ref 86,AV.int 5,AV.ref 2][k]?))) (av (bc (aE (aa rfl) (ag _) rfl) (ag _)) (av (oM (cL (af (aF (aa rfl) (ag _) (aM w1 rfl)) (af (aF (aa rfl) (ag _) (aM w1 rfl)) am)) rfl hg) (cT tt rfl) rfl) (av (bc (aE (aa rfl) (ag _) rfl) (ag _)) (av (cU (ba (af (aF (aa rfl) (ag _) (aM d1 rfl)) (af (aa rfl) am)) due)) (av (bc (aE (ba (af (aa rfl) (af (aa rfl) (af (aa rfl) am))) hf) (aa rfl) rfl) (ag _)) (av (bc (aE (aa rfl) (ag _) rfl) (ag _)) (aY (ag _)))))))))) rfl
  · obtain ⟨hd,σ3,hf,hl,hp⟩:=h0q
    rw [hd,if_neg (by decide)] at due
    exact Eq.trans (br rfl (av (cU (aF (aF (aa rfl) (ag _) (aM w0 rfl)) (ba (af (aa rfl) (af (bB (af (aF (aa rfl) (ag _) (aM w0 rfl)) am) (l1 fun k=>[AV.ref 86,AV.int 5,AV.ref 2][k]?)) am)) e1) (l2 fun k=>[AV.ref 86,AV.int 5,AV.ref 2][k]?))) (av (bc (aE (aa rfl) (ag _) rfl) (ag _)) (av (oM (cL (af (aF (aa rfl) (ag _) (aM w1 rfl)) (af (aF (aa rfl) (ag _) (aM w1 rfl)) am)) rfl hg) (cT tt rfl) rfl) (av (bc (aE (aa rfl) (ag _) rfl) (ag _)) (av (cU (ba (af (aF (aa rfl) (ag _) (aM d1 rfl)) (af (aa rfl) am)) due)) (av (bc (aE (ba (af (aa rfl) (af (aa rfl) (af (aa rfl) am))) hf) (aa rfl) rfl) (ag _)) (av (dm (aE (aa rfl) (ag _) rfl) (gr (bB (af (aa rfl) am) (hl (upL (fun j=>if j=5 then some (AV.ref 70) else (fun j=>if j=6 then some (AV.ref w.now) else upL (fun k=>[AV.ref 86,AV.int 5,AV.ref 2][k]?) 3 (AV.ref s.sid) j) j) 4 AV.none))) (aa rfl) (ag _) (hp (upL (fun j=>if j=5 then some (AV.ref 70) else (fun j=>if j=6 then some (AV.ref w.now) else upL (fun k=>[AV.ref 86,AV.int 5,AV.ref 2][k]?) 3 (AV.ref s.sid) j) j) 4 AV.none)))) (aY (ag _)))))))))) rfl
theorem D8 {σ:St} {mt:Nat→Bool} {w:WG} {n:Nat} (h:At σ mt w) (o:Ok w n) (h0:0<w.st.length) (hn:n≤20) (ha:w.at'<480) :
    ∃ σ' mt' w',cy [.ref 86,.int 6,.ref 2] σ=some (.ok (.bool true),σ')∧At σ' mt' w'∧Ok w' (n+1)∧w'.at'≤w.at'+2:=by
  obtain ⟨k,s,σ1,hk,e1,h1,s1,l1,l2⟩:=iF h o h0 hn (by omega)
  have hτ:=h1.push (.tup [.ref 70,.ref w.now])
  have tt:(σ1.push (.tup [.ref 70,.ref w.now])).get σ1.next=some (.tup [.ref 70,.ref w.now]):=if_pos rfl
  have al:∀ l,cV (.tup [.ref 70,.ref w.now]) l σ1=some (.ok (.ref σ1.next),l,σ1.push (.tup [.ref 70,.ref w.now])):=fun l=>rfl
  generalize hg:σ1.push (.tup [.ref 70,.ref w.now])=τ at hτ tt al
  obtain ⟨k2,s2,σ2,hk2,e2,h2,sm2,m1,m2⟩:=iF hτ o.drawn h0 hn (by show w.at'+1<490; omega)
  replace e2:bu [.ref 2,.int w.st.length] τ=some (.ok (.int k2),σ2):=e2
  replace m1:∀ l,em [.ref w.stL] l τ=some (.ok (.int w.st.length),l,τ):=m1
  replace m2:∀ l,gC (.ref w.stL) (.int k2) l σ2=some (.ok (.ref s2.sid),l,σ2):=m2
  have hs:s∈w.drawn.drawn.st:=aR hk
  have hs2:s2∈w.drawn.drawn.st:=aR hk2
  obtain ⟨sx,sc,s91,ss91⟩:=o.st s (aR hk)
  obtain ⟨sx2,sc2,t91,tt91⟩:=o.st s2 (aR (l:=w.st) hk2)
  have a1:=(h2.stid hs2).1
  have a2:=(h2.std hs2).1
  have hu:=h2.push (.tup [.ref s2.gid,.ref s2.cid])
  have ut:(σ2.push (.tup [.ref s2.gid,.ref s2.cid])).get σ2.next=some (.tup [.ref s2.gid,.ref s2.cid]):=if_pos rfl
  have bl:∀ l,cV (.tup [.ref s2.gid,.ref s2.cid]) l σ2=some (.ok (.ref σ2.next),l,σ2.push (.tup [.ref s2.gid,.ref s2.cid])):=fun l=>rfl
  generalize hgu:σ2.push (.tup [.ref s2.gid,.ref s2.cid])=υ at hu ut bl
  obtain ⟨n1,n2,n3⟩:=hu.scid hs2
  have m8:=hu.c8.2.2
  have gm:=(hu.sgd hs).2.2
  have ne8:∀ i,mt i=false→i≠8:=fun i hi q=>by rw [q,m8] at hi; cases hi
  have gc:s2.cid≠s.gd:=fun e=>by rw [e,gm] at n3; cases n3
  have same:s.gd=s2.gd→s.gid=s2.gid:=by
    intro e
    have p1:=hX hs (p:=(s.gd,.sdict (gkv s.r))) (by simp [stM])
    by_cases q:k=k2
    · subst q
      have:s=s2:=Option.some.inj (hk.symm.trans hk2)
      rw [this]
    · exfalso
      have nd:=hu.nd
      rw [eF,List.map_append,List.nodup_append] at nd
      have nd:=nd.2.1
      exact yN nd hk hk2 q e
  obtain ⟨σ',mt',w',a',o',at',hf⟩:=t8 hu o.drawn.drawn hn hk (b:=s2.gid) (db:=s2.gd) (cc:=s2.cid) (hu.stG hs2) (hu.stX hs2 sx2) sc2 (hu.auxM hs2) same (by omega) (ne8 _ (hu.sgid hs2).2.2) n1 n2 (ne8 _ n3) gc
  have due:=sL n1 n2 sc2.f3 sc2.t4 s.r.glob
  rw [bz] at due
  have w0:=h.wd; have w1:σ1.get 86=some (.sdict (wkv w.now w.stL)):=h1.wd; have w2:τ.get 86=some (.sdict (wkv w.now w.stL)):=hτ.wd; have u1:=(hu.stsid hs).1; have u2:=(h2.stsid hs2).1
  refine ⟨σ',mt',w',?_,a',o',by rw [at']; show w.at'+1+1≤_; omega⟩
  rcases hf with h0q | h0q
  · obtain ⟨hd,hf⟩:=h0q
    rw [hd,if_pos rfl] at due
    exact Eq.trans (br rfl (av (cU (aF (aF (aa rfl) (ag _) (aM w0 rfl)) (ba (af (aa rfl) (af (bB (af (aF (aa rfl) (ag _) (aM w0 rfl)) am) (l1 fun k=>[AV.ref 86,AV.int 6,AV.ref 2][k]?)) am)) e1) (l2 fun k=>[AV.ref 86,AV.int 6,AV.ref 2][k]?))) (av (bc (aE (aa rfl) (ag _) rfl) (ag _)) (av (oM (cL (af (aF (aa rfl) (ag _) (aM w1 rfl)) (af (aF (aa rfl) (ag _) (aM w1 rfl)) am)) rfl hg) (cT tt rfl) rfl) (av (dm (aE (aa rfl) (ag _) rfl) (av (cU (aF (aF (aa rfl) (ag _) (aM w2 rfl)) (ba (af (aa rfl) (af (bB (af (aF (aa rfl) (ag _) (aM w2 rfl)) am) (m1 fun j=>if j=5 then some (AV.ref 70) else (fun j=>if j=6 then some (AV.ref w.now) else upL (fun k=>[AV.ref 86,AV.int 6,AV.ref 2][k]?) 3 (AV.ref s.sid) j) j)) am)) e2) (m2 fun j=>if j=5 then some (AV.ref 70) else (fun j=>if j=6 then some (AV.ref w.now) else upL (fun k=>[AV.ref 86,AV.int 6,AV.ref 2][k]?) 3 (AV.ref s.sid) j) j))) (oM (cL (af (ao (aF (aa rfl) (ag _) (aM u2 rfl)) a1 rfl a2 rfl) (af (aF (aa rfl) (ag _) (aM u2 rfl)) am)) rfl hgu) (cT ut rfl) rfl))) (av (cU (ba (af (aF (aa rfl) (ag _) (aM u1 rfl)) (af (aa rfl) am)) due)) (av (bc (aE (ba (af (aa rfl) (af (aa rfl) (af (aa rfl) am))) hf) (aa rfl) rfl) (ag _)) (av (bc (aE (aa rfl) (ag _) rfl) (ag _)) (aY (ag _)))))))))) rfl
  · obtain ⟨hd,σ3,hf,hl,hp⟩:=h0q
    rw [hd,if_neg (by decide)] at due
    exact Eq.trans (br rfl (av (cU (aF (aF (aa rfl) (ag _) (aM w0 rfl)) (ba (af (aa rfl) (af (bB (af (aF (aa rfl) (ag _) (aM w0 rfl)) am) (l1 fun k=>[AV.ref 86,AV.int 6,AV.ref 2][k]?)) am)) e1) (l2 fun k=>[AV.ref 86,AV.int 6,AV.ref 2][k]?))) (av (bc (aE (aa rfl) (ag _) rfl) (ag _)) (av (oM (cL (af (aF (aa rfl) (ag _) (aM w1 rfl)) (af (aF (aa rfl) (ag _) (aM w1 rfl)) am)) rfl hg) (cT tt rfl) rfl) (av (dm (aE (aa rfl) (ag _) rfl) (av (cU (aF (aF (aa rfl) (ag _) (aM w2 rfl)) (ba (af (aa rfl) (af (bB (af (aF (aa rfl) (ag _) (aM w2 rfl)) am) (m1 fun j=>if j=5 then some (AV.ref 70) else (fun j=>if j=6 then some (AV.ref w.now) else upL (fun k=>[AV.ref 86,AV.int 6,AV.ref 2][k]?) 3 (AV.ref s.sid) j) j)) am)) e2) (m2 fun j=>if j=5 then some (AV.ref 70) else (fun j=>if j=6 then some (AV.ref w.now) else upL (fun k=>[AV.ref 86,AV.int 6,AV.ref 2][k]?) 3 (AV.ref s.sid) j) j))) (oM (cL (af (ao (aF (aa rfl) (ag _) (aM u2 rfl)) a1 rfl a2 rfl) (af (aF (aa rfl) (ag _) (aM u2 rfl)) am)) rfl hgu) (cT ut rfl) rfl))) (av (cU (ba (af (aF (aa rfl) (ag _) (aM u1 rfl)) (af (aa rfl) am)) due)) (av (bc (aE (ba (af (aa rfl) (af (aa rfl) (af (aa rfl) am))) hf) (aa rfl) rfl) (ag _)) (av (dm (aE (aa rfl) (ag _) rfl) (gr (bB (af (aa rfl) am) (hl (upL (fun j=>if j=5 then some (AV.ref s2.gid) else (fun j=>if j=6 then some (AV.ref s2.cid) else upL (fun j=>if j=5 then some (AV.ref 70) else (fun j=>if j=6 then some (AV.ref w.now) else upL (fun k=>[AV.ref 86,AV.int 6,AV.ref 2][k]?) 3 (AV.ref s.sid) j) j) 7 (AV.ref s2.sid) j) j) 4 AV.none))) (aa rfl) (ag _) (hp (upL (fun j=>if j=5 then some (AV.ref s2.gid) else (fun j=>if j=6 then some (AV.ref s2.cid) else upL (fun j=>if j=5 then some (AV.ref 70) else (fun j=>if j=6 then some (AV.ref w.now) else upL (fun k=>[AV.ref 86,AV.int 6,AV.ref 2][k]?) 3 (AV.ref s.sid) j) j) 7 (AV.ref s2.sid) j) j) 4 AV.none)))) (aY (ag _)))))))))) rfl
end Lw
end SP14
section SP15
set_option maxHeartbeats 4000000
namespace Lw
open St
theorem At.now69 {σ:St} {mt:Nat→Bool} {w:WG} (h:At σ mt w):w.now≠69:=fun e=>by
  have:AO.list (cl w.c0)=AO.sdict (gkv w.r0):=congrArg Prod.snd (oz h.nd (yM (w:=w)) (D3 (w:=w)) e)
  cases this
theorem At.now86 {σ:St} {mt:Nat→Bool} {w:WG} (h:At σ mt w):w.now≠86:=fun e=>by
  have:AO.list (cl w.c0)=AO.sdict (wkv w.now w.stL):=congrArg Prod.snd (oz h.nd (yM (w:=w)) (D4 (w:=w)) e)
  cases this
noncomputable def WG.flip (w:WG) (g:Bool):WG:={ w with m:={ w.m with isG:=g } }
theorem sU {σ:St} {mt:Nat→Bool} {w:WG} (h:At σ mt w) (g:Bool):At (ov σ [(5,.sdict (mkv { w.m with isG:=g }))] []) mt (w.flip g):=by
  have l5:=h.F.lt 5 (by decide)
  exact At.to3 (D:=[5]) [(5,.sdict (mkv { w.m with isG:=g }))] h (Sm.ov _ _ _) (fun _ _=>rfl) rfl (dv w) (eZ w) same same same (df ⟨inM (k:=1) rfl,by rw [bb l5]; exact ow,l5,h.c5.2.2⟩) (df ⟨h.c5.2.2,mi (i:=0) rfl⟩) (.keep (.new List.mem_cons_self (.refl _))) (fD w) h.nd
theorem Ok.flip {w:WG} {n:Nat} (o:Ok w n) (g:Bool):Ok (w.flip g) n:={ o with }
theorem Am {σ:St} {mt:Nat→Bool} {w:WG} {n:Nat} (h:At σ mt w) (o:Ok w n) (h0:0<w.st.length) :
    ∃ σ' mt' w',c7 [.ref 86,.int 3,.ref 2] σ=some (.ok .none,σ')∧At σ' mt' w'∧Ok w' (n+1)∧w'.at'≤w.at'+2:=by
  refine ⟨_,mt,w.flip (!w.m.isG),?_,sU h _,(o.flip _).up h0,by show w.at'≤_; omega⟩
  have c5:=h.c5.1
  have wd:=h.wd
  have F:=h.F
  have f6:=F.f6; have l86:=F.lt 86 (by decide); have l5:=F.lt 5 (by decide)
  have key:c7 [.ref 86,.int 3,.ref 2] (ov σ [] [])=some (.ok .none,ov σ [(5,.sdict (mkv { w.m with isG:=!w.m.isG }))] []):=by
    exact Eq.trans (br rfl (jW (dm (aE (aa rfl) (ag _) rfl) (av (dA (gV (ao (aF (aa rfl) (ag _) (aM (ak l86 wd) rfl)) (ak (Fx.lt F 6 (by decide)) f6) rfl (ak l5 c5) rfl) rfl) (aF (aa rfl) (ag _) (aM (ak l86 wd) rfl)) (ak (Fx.lt F 6 (by decide)) f6) rfl (ak l5 c5) rfl (m9 l5)) (ag _))))) rfl
  rwa [bz] at key
noncomputable def mc (way:Nat) (c:C3) (v:Nat):C3:=if way=0 then (v,c.2.1,c.2.2) else if way=1 then (c.1,v,c.2.2) else (c.1,c.2.1,v)
noncomputable def WG.turned (w:WG) (c:C3) (tid:Nat):WG:={ w with c0:=c,r0:={ w.r0 with font:=dW c.1,width:=.int c.2.2,told:=tid },x0:={ w.x0 with T:=gP c.2.1 } }
theorem rF (t:Nat):(gP t).length<1000:=by
  unfold gP; split <;> simp
theorem wW {σ:St} {mt:Nat→Bool} {w:WG} (h:At σ mt w) {c:C3} {o:AO}:At (ov σ [(w.now,.list (cl c)),(69,.sdict (gkv { w.r0 with font:=dW c.1,width:=.int c.2.2,told:=σ.next+1 }))] [o,.bdict (gP c.2.1)]) (mtN mt σ.next) (w.turned c (σ.next+1)):=by
  obtain ⟨n1,n2,n3⟩:=h.cNow
  have l69:=h.F.lt 69 (by decide)
  have ne:w.now≠69:=h.now69
  refine At.to3 (D:=[w.now,69]) [(w.now,.list (cl c)),(69,.sdict (gkv { w.r0 with font:=dW c.1,width:=.int c.2.2,told:=σ.next+1 }))] h (Sm.ov _ _ _) (fun i hi=>cW hi) rfl
    (ch (.inl (jj (mi (i:=0) rfl))) (ch (.inl (jj (mi (i:=1) rfl))) (ch (.inl (jj (mi (i:=2) rfl))) (ch (.inl (jj (mi (i:=3) rfl))) (ch (.inl (jj (mi (i:=4) rfl))) (ch (.inl (jj (mi (i:=5) rfl))) (df (.inr ⟨gM (k:=1) rfl,Nat.add_lt_add_left (show 1<2 by decide) _,lG (Nat.le_add_right _ _)⟩)))))))) (eZ w) same same same
    (ch ⟨inM (k:=9) rfl,by rw [bb n2]; exact ow,Nat.lt_of_lt_of_le n2 (Nat.le_add_right _ _),(cW n2).trans n3⟩ (df ⟨inM (k:=6) rfl,by rw [bb l69]; exact jh ne ow,Nat.lt_of_lt_of_le l69 (Nat.le_add_right _ _),(cW l69).trans h.c69.2.2⟩))
    (ch ⟨n3,mi (i:=0) rfl⟩ (df ⟨h.c69.2.2,mi (i:=1) rfl⟩)) (.keep (.keep (.keep (.keep (.keep (.keep (.new (mi (i:=1) rfl) (.keep (.keep (.new (mi (i:=0) rfl) (.refl _))))))))))) (fD w) h.nd
theorem Ok.turned {w:WG} {n:Nat} (o:Ok w n) {c:C3} (h1:c.1<3) (h2:c.2.1<4) (t:Nat):Ok (w.turned c t) n :=
  { o with x0:=⟨o.x0.1,o.x0.2.1,o.x0.2.2.1,o.x0.2.2.2.1,rF _⟩,con0:=⟨rfl,rfl,rfl,h1,h2⟩ }
theorem t9 {σ:St} {mt:Nat→Bool} {w:WG} (h:At σ mt w) {c:C3} (h3:c.1<3) (h4:c.2.1<4) {l:Loc} (l0:l 0=some (.ref 86)) :
    (ay (nq 2 (eH (ah (aO (aO (ac 0) (ret (.str 54))) (aO (aO (ac 0) (ret (.str 55))) (ret (.int 0)))) (ah (aO (aO (ac 0) (ret (.str 55))) (ret (.int 2))) aq))) (bq (atG cs9 30 (aO (ac 0) (ret (.str 52)))) (bq (atG cs9 21 (aO (ac 0) (ret (.str 52)))) ff)))
  (bg cs9 0 (aO (ac 0) (ret (.str 52))) (au (ah (aO (aO (ac 0) (ret (.str 0))) (aO (aO (ac 0) (ret (.str 55))) (ret (.int 1)))) aq) mh))) l (ov σ [(w.now,.list (cl c))] [])=some (.ok .next,l,ov σ [(w.now,.list (cl c)),(69,.sdict (gkv { w.r0 with font:=dW c.1,width:=.int c.2.2,told:=σ.next+1 }))] [.tup [dW c.1,.int c.2.2],.bdict (gP c.2.1)]):=by
  have F:=h.F
  obtain ⟨n1,n2,n3⟩:=h.cNow
  obtain ⟨g1,g2,_⟩:=h.c69
  have wd:=h.wd
  have ne:∀ k∈fixL,w.now≠k:=fun k hk e=>by rw [← e] at hk; have:=h.fm _ hk; rw [n3] at this; cases this
  have f86:=h.now86; have f69:=h.now69
  have f87:=ne 87 (by decide); have f85:=ne 85 (by decide); have f70:=ne 70 (by decide)
  have h87:=F.f87; have h85:=F.f85; have h70:=F.f70
  have k1:=v8 h3; have k2:=tU h4
  obtain ⟨t1,t2,t3⟩:=yy F h4
  have ft:w.now≠80+c.2.1:=by rcases c4 h4 with e | e | e | e <;> rw [e] <;> exact ne _ (by decide)
  have f6:69≠80+c.2.1:=by omega
  have hs1:∀ o L,(ov σ [(w.now,.list (cl c))] L).set 69 o=ov σ [(w.now,.list (cl c)),(69,o)] L:=fun o L=>by rw [bF g2,upU,if_neg f69]; rfl
  have hs2:∀ o o' L,(ov σ [(w.now,.list (cl c)),(69,o)] L).set 69 o'=ov σ [(w.now,.list (cl c)),(69,o')] L:=fun o o' L=>by rw [bF g2,upU,if_neg f69]; rfl
  have tl:ltB (gP c.2.1) 1000=true:=jT (rF _)
  have a0:at1 (cl c) 0=some (.int c.1):=rfl
  have a1:at1 (cl c) 1=some (.int c.2.1):=rfl
  have a2:at1 (cl c) 2=some (.int c.2.2):=rfl
  exact Eq.trans (av (kn (cL (af (aF (aF (aa l0) (ag _) (aM (ak (Fx.lt F 86 (by decide)) (jh f86 wd)) rfl)) (aF (aF (aa l0) (ag _) (aM (ak (Fx.lt F 86 (by decide)) (jh f86 wd)) rfl)) (ag _) (bR (ak n2 ow) rfl a0)) (bR (ak (Fx.lt F 87 (by decide)) (jh f87 h87)) rfl k1)) (af (aF (aF (aa l0) (ag _) (aM (ak (Fx.lt F 86 (by decide)) (jh f86 wd)) rfl)) (ag _) (bR (ak n2 ow) rfl a2)) am)) rfl co) (cT (ce rfl) rfl) (aS (A7 (aF (aa l0) (ag _) (aM (ak (Fx.lt F 86 (by decide)) (jh f86 wd)) rfl)) (ak (Fx.lt F 70 (by decide)) (jh f70 h70)) rfl (ak g2 (jh f69 g1)) rfl (hs1 (AO.sdict (stK (gkv w.r0) 30 (dW c.fst))) ([]++[AO.tup [dW c.fst,AV.int c.snd.snd]]))) (aS (A7 (aF (aa l0) (ag _) (aM (ak (Fx.lt F 86 (by decide)) (jh f86 wd)) rfl)) (ak (Fx.lt F 70 (by decide)) (jh f70 h70)) rfl (ak g2 (jh f69 ow)) rfl (hs2 (AO.sdict (stK (gkv w.r0) 30 (dW c.fst))) (AO.sdict (stK (stK (gkv w.r0) 30 (dW c.fst)) 21 (AV.int c.snd.snd))) ([]++[AO.tup [dW c.fst,AV.int c.snd.snd]]))) dq))) (dA (bB (af (aF (aF (aa l0) (ag _) (aM (ak (Fx.lt F 86 (by decide)) (jh f86 wd)) rfl)) (aF (aF (aa l0) (ag _) (aM (ak (Fx.lt F 86 (by decide)) (jh f86 wd)) rfl)) (ag _) (bR (ak n2 ow) rfl a1)) (bR (ak (Fx.lt F 85 (by decide)) (jh f85 h85)) rfl k2)) am) (BP (ak t2 (jh ft (jh f6 t1))) tl co)) (aF (aa l0) (ag _) (aM (ak (Fx.lt F 86 (by decide)) (jh f86 wd)) rfl)) (ak (Fx.lt F 70 (by decide)) (jh f70 h70)) rfl (ak g2 (jh f69 ow)) rfl (hs2 (AO.sdict (stK (stK (gkv w.r0) 30 (dW c.fst)) 21 (AV.int c.snd.snd))) (AO.sdict (stK (stK (stK (gkv w.r0) 30 (dW c.fst)) 21 (AV.int c.snd.snd)) 0 (AV.ref (ov σ [(w.now,AO.list (cl c)),(69,AO.sdict (stK (stK (gkv w.r0) 30 (dW c.fst)) 21 (AV.int c.snd.snd)))] ([]++[AO.tup [dW c.fst,AV.int c.snd.snd]])).next))) ([]++[AO.tup [dW c.fst,AV.int c.snd.snd]]++[AO.bdict (gP c.snd.fst)])))) rfl
theorem vb {σ1:St} {mt:Nat→Bool} {w:WG} (h:At σ1 mt w) {way v:Nat} (hw:way<3) {σ τ:St} (hτ:τ=σ.push (.list [.int 3,.int 4,.int 9])) (e1:bu [.ref 2,.int (if way=0 then 3 else if way=1 then 4 else 9)] τ=some (.ok (.int v),σ1)) (wd:σ.get 86=some (.sdict (wkv w.now w.stL))) (ln:σ.next<τ.next)
    (h3:(mc way w.c0 v).1<3) (h4:(mc way w.c0 v).2.1<4) (wτ:τ.get 86=some (.sdict (wkv w.now w.stL))) :
    c7 [.ref 86,.int way,.ref 2] σ=some (.ok .none,ov σ1 [(w.now,.list (cl (mc way w.c0 v))),(69,.sdict (gkv { w.r0 with font:=dW (mc way w.c0 v).1,width:=.int (mc way w.c0 v).2.2,told:=σ1.next+1 }))] [.tup [dW (mc way w.c0 v).1,.int (mc way w.c0 v).2.2],.bdict (gP (mc way w.c0 v).2.1)]):=by
  have tail:=t9 h h3 h4 (l:=cY [.ref 86,.int way,.ref 2]) rfl
  have wd1:=h.wd
  obtain ⟨n1,n2,n3⟩:=h.cNow
  have p1:σ.push (.list [.int 3,.int 4,.int 9])=τ:=hτ.symm
  have tl:τ.get σ.next=some (.list [.int 3,.int 4,.int 9]):=by rw [hτ]; exact if_pos rfl
  have s1:σ1.set w.now (.list (cl (mc way w.c0 v)))=ov σ1 [(w.now,.list (cl (mc way w.c0 v)))] []:=by
    have:=bF n2 [] [] (.list (cl (mc way w.c0 v)))
    rwa [bz] at this
  have c0:dk σ .Eq (.int way) (.int 3)=some false:=congrArg some (beq_eq_false_iff_ne.mpr (by omega))
  have a1:at1 [.int 3,.int 4,.int 9] way=some (.int (if way=0 then 3 else if way=1 then 4 else 9)):=by rcases c3 hw with rfl | rfl | rfl <;> rfl
  have b1:(decide ((0:Int)≤way)&&decide ((way:Int)<1000)&&Nat.blt (way:Int).toNat (cl w.c0).length)=true:=by rcases c3 hw with rfl | rfl | rfl <;> rfl
  have s2:σ1.set w.now (.list ((cl w.c0).set (way:Int).toNat (.int v)))=ov σ1 [(w.now,.list (cl (mc way w.c0 v)))] []:=by
    rw [← s1]; rcases c3 hw with rfl | rfl | rfl <;> rfl
  exact dy rfl (av (bc (aE (aa rfl) (ag _) c0) (ag _)) (av (gr (ba (af (aa rfl) (af (aF (fC (af (ag _) (af (ag _) (af (ag _) am))) rfl p1) (aa rfl) (bR tl rfl a1)) am)) e1) (aF (aa rfl) (ag _) (aM wd1 rfl)) (aa rfl) (jY n1 b1 s2)) tail))
end Lw
end SP15
section SP16
set_option maxHeartbeats 4000000
namespace Lw
open St
theorem wX {σ:St} {mt:Nat→Bool} {w:WG} {n way:Nat} (h:At σ mt w) (o:Ok w n) (h0:0<w.st.length) (ha:w.at'<480) (hw:way<3) :
    ∃ σ' mt' w',c7 [.ref 86,.int way,.ref 2] σ=some (.ok .none,σ')∧At σ' mt' w'∧Ok w' (n+1)∧w'.at'≤w.at'+2:=by
  have hτ:=h.push (.list [.int 3,.int 4,.int 9])
  obtain ⟨v,σ1,v0,v1,e1,h1,s1⟩:=jZ hτ o (by omega) (m:=if way=0 then 3 else if way=1 then 4 else 9) (by split <;> (try split) <;> omega)
  obtain ⟨k,rfl⟩:=Int.eq_ofNat_of_zero_le v0
  have c3:=o.con0.f3
  have c4:=o.con0.t4
  have h3:(mc way w.c0 k).1<3:=by
    unfold mc; split
    · rename_i q; rw [if_pos q] at v1; show k<3; omega
    · split <;> exact c3
  have h4:(mc way w.c0 k).2.1<4:=by
    unfold mc; split
    · exact c4
    · split
      · rename_i q1 q; rw [if_neg q1,if_pos q] at v1; show k<4; omega
      · exact c4
  exact ⟨_,_,_,vb h1 hw rfl e1 h.wd (by simp [St.push]) h3 h4 hτ.wd,wW h1,((Ok.turned o.drawn h3 h4 _)).up h0,by show w.at'+1≤_; omega⟩
theorem wY {σ:St} {mt:Nat→Bool} {w:WG} {n:Nat} (h:At σ mt w) (o:Ok w n) {s:SG} (hs:s∈w.st) :
    eQ [.ref 86,.ref s.gid,.ref s.cid] σ=some (.ok (.bool true),σ)∧bi [.ref s.tid] σ=some (.ok (.bool (!s.r.glob)),σ):=by
  obtain ⟨sx,sc,_,_⟩:=o.st s hs
  have X:=h.stX hs sx
  have k1:=yz h.F (h.stG hs) X.t X.t' h.wd sc.f3 sc.t4 sc.f sc.t sc.w (h.scid hs).1 (h.scid hs).2.1
  have k2:=lF (h.stid hs).1 (h.stid hs).2.1 (h.std hs).1 (h.std hs).2.1 (h.stG hs)
  rw [bz] at k1 k2
  exact ⟨k1,k2⟩
noncomputable def vc:M AF:=ifX (orT (jC (asB (aZ eQ (ah (ac 0) (ah (aw cs9 2 (aO (ac 1) (ret (.str 57)))) (ah (aO (ac 1) (ret (.str 58))) aq)))))) (orT (bA .Eq (aZ bi (ah (aO (ac 1) (ret (.str 57))) aq)) (aO (ac 1) (ret (.str 7)))) (ret false))) (cu (ret (.bool false))) (ret .next)
theorem ve {σ:St} {mt:Nat→Bool} {w:WG} {n:Nat} (h:At σ mt w) (o:Ok w n) {s:SG} (hs:s∈w.st) {l:Loc} (l0:l 0=some (.ref 86)) (l1:l 1=some (.ref s.sid)):vc l σ=some (.ok .next,l,σ):=by
  obtain ⟨k1,k2⟩:=wY h o hs
  have d:=(h.stsid hs).1
  have i1:=(h.stid hs).1
  have i2:=(h.std hs).1
  have nb:dk σ .Eq (.bool (!s.r.glob)) (.bool s.r.glob)=some false:=by cases s.r.glob <;> rfl
  exact (Eq.trans (bc (fe (jd (bj (ba (af (aa l0) (af (ao (aF (aa l1) (ag _) (aM d rfl)) i1 rfl i2 rfl) (af (aF (aa l1) (ag _) (aM d rfl)) am))) k1)) rfl) (fe (aE (ba (af (aF (aa l1) (ag _) (aM d rfl)) am) k2) (aF (aa l1) (ag _) (aM d rfl)) nb) (ag _))) (ag _)) rfl)
theorem vf {σ:St} {mt:Nat→Bool} {w:WG} {n:Nat} (h:At σ mt w) (o:Ok w n):∀ (m p N:Nat) (l:Loc),p+m=w.st.length→m<N→l 0=some (.ref 86)→∃ l',cz (.list w.stL) [1] vc N p l σ=some (.ok .next,l',σ)∧l' 0=some (.ref 86):=by
  have c:=h.cStL.1
  intro m
  induction m with
  | zero =>
    intro p N l e hN l0
    obtain ⟨N,rfl⟩:∃ k,N=k+1:=⟨N - 1,i6 hN⟩
    have e:p=w.st.length:=e
    exact ⟨l,eE (hV c (congrArg some (by rw [List.getElem?_eq_none (by rw [List.length_map]; exact Nat.le_of_eq e.symm)]; rfl))),l0⟩
  | succ m ih =>
    intro p N l e hN l0
    obtain ⟨N,rfl⟩:∃ k,N=k+1:=⟨N - 1,i6 hN⟩
    have hp:p<w.st.length:=q17 e
    have hs:w.st[p]∈w.st:=List.getElem_mem hp
    have:(w.st.map fun s=>AV.ref s.sid)[p]?=some (.ref w.st[p].sid):=by rw [List.getElem?_map,List.getElem?_eq_getElem hp]; rfl
    obtain ⟨l',e',l0'⟩:=ih (p+1) N (upL l 1 (.ref w.st[p].sid)) ((Nat.add_right_comm p 1 m).trans e) (Nat.lt_of_succ_lt_succ hN) l0
    exact ⟨l',fy (hV c (congrArg some (by rw [this]; rfl))) (ve h o hs l0 rfl) e',l0'⟩
theorem wZ {σ:St} {mt:Nat→Bool} {w:WG} {n:Nat} (h:At σ mt w) (o:Ok w n) (hn:n≤20):eo [.ref 86] σ=some (.ok (.bool true),σ):=by
  have c:=h.cStL.1
  have l1:=o.l1
  obtain ⟨l',e,l0⟩:=vf h o w.st.length 0 100 (cY [.ref 86]) (by omega) (by omega) rfl
  have wd:=h.wd
  have X:=h.X0 o.x0
  have C:=o.con0
  have k1:=yz h.F h.gs X.t X.t' h.wd C.f3 C.t4 C.f C.t C.w h.cNow.1 h.cNow.2.1
  rw [bz] at k1
  have hb:jO=ay (nk (aO (ac 0) (ret (.str 56))) 1 vc 100) (cu (aZ eQ (ah (ac 0) (ah (aO (ac 0) (ret (.str 52))) (ah (aO (ac 0) (ret (.str 55))) aq))))):=rfl
  unfold eo
  rw [hb]
  exact br rfl (av (jx (aF (aa rfl) (ag _) (aM wd rfl)) c e) (aY (ba (af (aa l0) (af (aF (aa l0) (ag _) (aM wd rfl)) (af (aF (aa l0) (ag _) (aM wd rfl)) am))) k1)))
end Lw
end SP16
section SP17
set_option maxHeartbeats 4000000
namespace Lw
open St
noncomputable def WG.roomed (w:WG) (tp:Nat) (c:Int) (lv:Int):WG:={ w with m:=w.m.roomed c,md:=w.md++[⟨w.m.lastB+1,tp,c,w.m.isG,lv⟩] }
theorem w5 {mk:List (Int×AV)} {k:Int} {v:AV} (h:∀ p∈mk,p.1≠k):store mk k v=mk++[(k,v)]:=by
  unfold store
  rw [if_neg]
  intro q
  obtain ⟨p,hp,e⟩:=List.any_eq_true.mp q
  exact h p hp (of_decide_eq_true e)
theorem we {σ:St} {mt:Nat→Bool} {w:WG} {n:Nat} (h:At σ mt w) (o:Ok w n) (hn:n≤20) {c:Int} (c0:0≤c) (c1:c≤1000) :
    ∃ σ' lv,bJ [.ref 6,.int c] σ=some (.ok (.int (w.m.lastB+1)),σ')∧At σ' (mtN mt σ.next) (w.roomed σ.next c lv)∧Sm [5,9] σ σ'∧(w.m.isG=false→lv=w.sv.length):=by
  have l4:=o.l4
  have l3:=o.l3
  have u1:=o.u1
  have u2:=o.u2
  have A:=h.mAt o.svn (by omega)
  have key:=Ae h.F A h.h9 (by rw [List.length_map]; omega) (c:=c) (by omega)
  rw [bz] at key
  have l5:=h.F.lt 5 (by decide)
  have l9:=h.F.lt 9 (by decide)
  have hst:store (w.md.map fun e=>(e.k,AV.ref e.tp)) (w.m.lastB+1) (.ref σ.next)=(w.md++[(⟨w.m.lastB+1,σ.next,c,w.m.isG,bl w.m (w.sv.map fun v=>.ref v.vi)⟩:MG)]).map fun e=>(e.k,AV.ref e.tp):=by
    rw [w5,List.map_append]; · rfl
    intro p hp
    obtain ⟨e,he,q⟩:=List.mem_map.mp hp
    rw [← q]
    exact fun (z:e.k=w.m.lastB+1)=>absurd (o.mdb e he) (Int.not_le.mpr (z▸Int.lt_succ _))
  rw [hst] at key
  refine ⟨_,bl w.m (w.sv.map fun v=>.ref v.vi),key,?_,Sm.ov _ _ _,fun q=>by unfold bl; rw [q]; simp⟩
  exact At.to3 (D:=[5,9]) [(5,.sdict (mkv (w.m.roomed c))),(9,.idict ((w.md++[(⟨w.m.lastB+1,σ.next,c,w.m.isG,bl w.m (w.sv.map fun v=>.ref v.vi)⟩:MG)]).map fun e=>(e.k,AV.ref e.tp)))] h (Sm.ov _ _ _) (fun i hi=>cW hi) rfl (dv w) (eZ w) same
    (fun e he=>(List.mem_append.mp he).imp id fun he p hp=>by
      cases List.mem_singleton.mp he
      cases List.mem_singleton.mp hp
      exact ⟨ce rfl,Nat.lt_succ_self _,lG (Nat.le_refl _)⟩) same
    (ch ⟨inM (k:=1) rfl,by rw [bb l5]; exact ow,Nat.lt_of_lt_of_le l5 (Nat.le_add_right _ _),(cW l5).trans h.c5.2.2⟩ (df ⟨inM (k:=3) rfl,by rw [bb l9]; exact jh (by decide) ow,Nat.lt_of_lt_of_le l9 (Nat.le_add_right _ _),(cW l9).trans h.c9.2.2⟩))
    (ch ⟨h.c5.2.2,mi (i:=0) rfl⟩ (df ⟨h.c9.2.2,mi (i:=1) rfl⟩)) (.keep (.new (mi (i:=0) rfl) (.keep (.new (mi (i:=1) rfl) (.refl _))))) (fD w) h.nd
theorem Ok.roomed {w:WG} {n:Nat} (o:Ok w n) (h0:0<w.st.length) {tp:Nat} {c lv:Int} (c0:0≤c) (c1:c≤20):Ok (w.roomed tp c lv) (n+1) :=
  { o with
    s0:=fun _=>h0
    num:=fun s hs=>by
      exact exE1 (o.num s hs) fun e q=>⟨e,List.mem_append_left _ q.1,q.2⟩
    mdn:=o.mdn1 rfl
    mdb:=o.mdb1 rfl
    l1:=Bd o.l1
    l2:=yJ o.l2
    l3:=by show (w.md++[_]).length≤_; rw [List.length_append]; exact D0 o.l3
    u1:=D1 o.u1 c1 _
    u2:=Be o.u2 c1 _
    u3:=fun v hv=>t5 (o.u3 v hv) }
end Lw
end SP17
section SP18
set_option maxHeartbeats 4000000
namespace Lw
open St
theorem w6 {σ:St} (F:Fx σ) {m:MR} {svs:List AV} (A:MAt σ m svs):bO [.ref 6] σ=some (.ok (.int (bl m svs)),σ):=by
  have k:=qo F A
  rw [bz] at k
  have d:=A.d
  have f6:=F.f6
  obtain ⟨isG,sv,fr,used,usedG,lastB,lastS⟩:=m
  cases isG with
  | true =>
    exact (Eq.trans (br rfl (aY (gu (bj (ao (aa rfl) f6 rfl d rfl)) (ag _)))) rfl)
  | false =>
    exact (Eq.trans (br rfl (aY (eg (bj (ao (aa rfl) f6 rfl d rfl)) (m0 (aa rfl) f6 d k)))) rfl)
theorem B3 {σ:St} {xl:Nat} {xs:List AV} (h:σ.get xl=some (.list xs)) (hl:xs.length<1000) (hx:xl<σ.next) (a lv:Int) (g:Bool) :
    cN 105 eM [.int a,.ref xl,.bool g,.int lv] σ=some (.ok (.ref (σ.next+1)),ov σ [] [.sdict [(5,.int a),(6,.ref (σ.next+2)),(7,.bool g),(8,.int lv)],.inst 105 σ.next,.list xs]):=by
  have hl':xs.length<2 ^ 24:=by omega
  have key:cN 105 eM [.int a,.ref xl,.bool g,.int lv] (ov σ [] [])=some (.ok (.ref (σ.next+1)),ov σ [] [.sdict [(5,.int a),(6,.ref (σ.next+2)),(7,.bool g),(8,.int lv)],.inst 105 σ.next,.list xs]):=by
    exact (Eq.trans (sB co co (dy rfl (av (dA (aa rfl) (aa rfl) (gM rfl) rfl (ce rfl) rfl (f0 rfl)) (av (dA (bB (af (aa rfl) am) (uS (ak hx h) (uX hl' rfl) co)) (aa rfl) (gM rfl) rfl (ce rfl) rfl (f0 rfl)) (av (dA (aa rfl) (aa rfl) (gM rfl) rfl (ce rfl) rfl (f0 rfl)) (dA (aa rfl) (aa rfl) (gM rfl) rfl (ce rfl) rfl (f0 rfl))))))) rfl)
  rwa [bz] at key
theorem EH (l:Loc) (σ:St):kJ .Mult (.int 8) (.int 2) l σ=some (.ok (.int 16),l,σ):=qn (x:=8) (y:=2) ⟨by decide,by decide⟩ ⟨by decide,by decide⟩ l σ
theorem An {σ:St} {mt:Nat→Bool} {w:WG} {n:Nat} (h:At σ mt w) (o:Ok w n) (hn:n≤20) {xl it itd:Nat} {s:SG} (hs:s∈w.st) (x1:σ.get xl=some (.list [.ref it,.ref s.tid])) (x2:xl<σ.next) (x3:xl≠5∧xl≠9) (i1:σ.get it=some (.inst 84 itd)) (i2:σ.get itd=some (.sdict [(1,.str 59),(2,.int 1),(3,.bool false),(4,.int 3)])) :
    (w.m.isG=true∧s.r.glob=false∧∃ σ' e d,bw [.ref 6,.ref xl] σ=some (.exc e,σ')∧Sm [] σ σ'∧σ'.get e=some (.inst 52 d)∧σ'.get d=some (.sdict [(0,.byt 0)])) ∨
    (¬ (w.m.isG=true∧s.r.glob=false)∧∃ σ' v lv,bw [.ref 6,.ref xl] σ=some (.ok v,σ')∧At σ' (mtN mt σ.next) (w.roomed σ.next 16 lv)∧(∀ i,i<σ.next→i≠5→i≠9→σ'.get i=σ.get i)):=by
  have kl:∀ τ,Sm [] σ τ→bi [.ref s.tid] τ=some (.ok (.bool (!s.r.glob)),τ):=fun τ st=>by
    have hτ:=h.same st
    have k:=lF (hτ.stid hs).1 (hτ.stid hs).2.1 (hτ.std hs).1 (hτ.std hs).2.1 (hτ.stG hs)
    rwa [bz] at k
  have ks:=kl σ (.refl _ _)
  have ki:bi [.ref it] σ=some (.ok (.bool false),σ):=by
    clear ks kl
    exact (Eq.trans (br rfl (av (cU (eg (aE (ao (aa rfl) i1 rfl i2 rfl) (ag _) rfl) (ba (af (aa rfl) am) (br rfl (av (bc (aE (ao (aa rfl) i1 rfl i2 rfl) (ag _) rfl) (ag _)) (aY (eg (fe (aE (ao (aa rfl) i1 rfl i2 rfl) (ag _) rfl) (fe (bj (ba (af (aa rfl) am) (br rfl (aY (sG (cX (ao (aa rfl) i1 rfl i2 rfl) (ag _) rfl) (cX (ao (aa rfl) i1 rfl i2 rfl) (ag _) rfl)))))) (ag _))) (ag _)))))))) (aY (o5 (cX (aa rfl) (ag _) rfl))))) rfl)
  have hm:=h.mAt o.svn (by have:=o.l4; omega)
  have m8:∀ l σ,kJ .Mult (.int 8) (.int ([AV.ref it,AV.ref s.tid].length:Nat)) l σ=some (.ok (.int 16),l,σ):=EH
  have cm1:∀ σ,dk σ .Lt (.int ([AV.ref it,AV.ref s.tid].length:Nat)) (.int 0)=some false:=fun _=>rfl
  have cm2:∀ σ,dk σ .Gt (.int ([AV.ref it,AV.ref s.tid].length:Nat)) (.int 65535)=some false:=fun _=>rfl
  have d:=hm.d
  have f6:=h.F.f6
  have f4:=h.F.f4
  have f3:=h.F.f3
  by_cases q:w.m.isG=true∧s.r.glob=false
  · obtain ⟨q1,q2⟩:=q
    refine .inl ⟨q1,q2,_,_,_,?_,Sm.ov σ [] [.sdict [(0,.byt 0)],.inst 52 σ.next],bL (k:=1) rfl,bL (k:=0) rfl⟩
    rw [q2] at ks
    replace ks:bi [.ref s.tid] σ=some (.ok (.bool true),σ):=ks
    have e1:(σ.push (.sdict [(0,.byt 0)])).push (.inst 52 σ.next)=ov σ [] [.sdict [(0,.byt 0)],.inst 52 σ.next]:=by rw [fb σ,dx]; rfl
    have g7:lk (mkv w.m) 7=some (.bool true):=by rw [← q1]; rfl
    exact (Eq.trans (rq rfl (av (bc (bj (sI (aa rfl) x1)) (ag _)) (av (ca (ba (af (bB (af (aa rfl) am) (km x1 rfl)) (af (ao (ao (aa rfl) f6 rfl d rfl) f4 rfl f3 rfl) am)) (dy rfl (av (bc (aE (aa rfl) (ag _) (cm1 _)) (ag _)) (bc (aE (aa rfl) (aa rfl) (cm2 _)) (ag _)))))) (uR (dm (bj (ao (aa rfl) f6 rfl d g7)) (jx (aa rfl) x1 (fy (hV x1 rfl) (bc (bj (ba (af (aa rfl) am) ki)) (ag _)) (vZ (hV x1 rfl) (dm (bj (ba (af (aa rfl) am) ks)) (yp e1)))))))))) rfl)
  · refine .inr ⟨q,?_⟩
    obtain ⟨σ1,lv,e1,a1,s1,_⟩:=we h o hn (c:=16) (by omega) (by omega)
    have hm1:=a1.mAt (by exact o.svn) (by have:=o.l4; exact Nat.lt_of_le_of_lt this (by omega))
    have d1:=hm1.d
    have g6:=a1.F.f6
    obtain ⟨B,b1⟩:∃ B,bO [.ref 6] σ1=some (.ok (.int B),σ1):=⟨_,w6 a1.F hm1⟩
    have y1:σ1.get xl=some (.list [.ref it,.ref s.tid]):=(s1.2 xl x2 (by simp; omega)).trans x1
    obtain ⟨Lr,r1⟩:∃ L,cN 105 eM [.int (w.m.lastB+1),.ref xl,.bool w.m.isG,.int B] σ1=some (.ok (.ref (σ1.next+1)),ov σ1 [] L):=⟨_,B3 y1 (by simp) (Nat.lt_of_lt_of_le x2 s1.1) _ _ _⟩
    refine ⟨ov σ1 [] Lr,.ref (σ1.next+1),lv,?_,a1.same (Sm.ov σ1 [] Lr),fun i hi h5 h9=>?_⟩
    rotate_left
    · rw [bb (Nat.lt_of_lt_of_le hi s1.1),gU]
      exact s1.2 i hi (by simp [h5,h9])
    · have hg:(w.roomed σ.next 16 lv).m.isG=w.m.isG:=rfl
      have:w.m.isG=false∨s.r.glob=true:=by
        cases h1:w.m.isG with
        | false=>exact .inl rfl
        | true =>
          cases h2:s.r.glob with
          | true=>exact .inr rfl
          | false=>exact absurd ⟨h1,h2⟩ q
      rcases this with hq | hq
      · rw [hq] at r1
        have g7:lk (mkv w.m) 7=some (.bool false):=by rw [← hq]; rfl
        have g8:lk (mkv (w.roomed σ.next 16 lv).m) 7=some (.bool false):=g7
        exact (Eq.trans (br rfl (av (bc (bj (sI (aa rfl) x1)) (ag _)) (av (ca (ba (af (bB (af (aa rfl) am) (km x1 rfl)) (af (ao (ao (aa rfl) f6 rfl d rfl) f4 rfl f3 rfl) am)) (dy rfl (av (bc (aE (aa rfl) (ag _) (cm1 _)) (ag _)) (bc (aE (aa rfl) (aa rfl) (cm2 _)) (ag _)))))) (av (bc (bj (ao (aa rfl) f6 rfl d g7)) (ag _)) (aY (ba (af (bV (aa rfl) f6 d (af (dg (ag _) (bB (af (aa rfl) am) (km x1 rfl)) (m8 _ _)) am) e1) (af (aa rfl) (af (ao (aa rfl) g6 rfl d1 g8) (af (bV (aa rfl) g6 d1 am b1) am)))) r1)))))) rfl)
      · rw [hq] at ks
        replace ks:bi [.ref s.tid] σ=some (.ok (.bool false),σ):=ks
        cases hw:w.m.isG with
        | false =>
          rw [hw] at r1
          have g7:lk (mkv w.m) 7=some (.bool false):=by rw [← hw]; rfl
          have g8:lk (mkv (w.roomed σ.next 16 lv).m) 7=some (.bool false):=g7
          exact (Eq.trans (br rfl (av (bc (bj (sI (aa rfl) x1)) (ag _)) (av (ca (ba (af (bB (af (aa rfl) am) (km x1 rfl)) (af (ao (ao (aa rfl) f6 rfl d rfl) f4 rfl f3 rfl) am)) (dy rfl (av (bc (aE (aa rfl) (ag _) (cm1 _)) (ag _)) (bc (aE (aa rfl) (aa rfl) (cm2 _)) (ag _)))))) (av (bc (bj (ao (aa rfl) f6 rfl d g7)) (ag _)) (aY (ba (af (bV (aa rfl) f6 d (af (dg (ag _) (bB (af (aa rfl) am) (km x1 rfl)) (m8 _ _)) am) e1) (af (aa rfl) (af (ao (aa rfl) g6 rfl d1 g8) (af (bV (aa rfl) g6 d1 am b1) am)))) r1)))))) rfl)
        | true =>
          rw [hw] at r1
          have g7:lk (mkv w.m) 7=some (.bool true):=by rw [← hw]; rfl
          have g8:lk (mkv (w.roomed σ.next 16 lv).m) 7=some (.bool true):=g7
          exact (Eq.trans (br rfl (av (bc (bj (sI (aa rfl) x1)) (ag _)) (av (ca (ba (af (bB (af (aa rfl) am) (km x1 rfl)) (af (ao (ao (aa rfl) f6 rfl d rfl) f4 rfl f3 rfl) am)) (dy rfl (av (bc (aE (aa rfl) (ag _) (cm1 _)) (ag _)) (bc (aE (aa rfl) (aa rfl) (cm2 _)) (ag _)))))) (av (dm (bj (ao (aa rfl) f6 rfl d g7)) (jx (aa rfl) x1 (fy (hV x1 rfl) (bc (bj (ba (af (aa rfl) am) ki)) (ag _)) (fy (hV x1 rfl) (bc (bj (ba (af (aa rfl) am) ks)) (ag _)) (eE (hV x1 rfl)))))) (aY (ba (af (bV (aa rfl) f6 d (af (dg (ag _) (bB (af (aa rfl) am) (km x1 rfl)) (m8 _ _)) am) e1) (af (aa rfl) (af (ao (aa rfl) g6 rfl d1 g8) (af (bV (aa rfl) g6 d1 am b1) am)))) r1)))))) rfl)
end Lw
end SP18
section SP19
set_option maxHeartbeats 4000000
namespace Lw
open St
noncomputable def WG.put (w:WG) (far:Bool) (a:AV) (js:List JG):WG:=if far then { w with a66:=(w.a66.1,a),jr:=w.jr++js } else { w with a39:=(w.a39.1,a),jr:=w.jr++js }
theorem Ok.put {w:WG} {n:Nat} (o:Ok w n) (h0:0<w.st.length) {far:Bool} {a:AV} {js:List JG} (hj:js=[]∨∃ j,js=[JG.item j w.a39.2]) (ha:∃ i,a=AV.ref i):Ok (w.put far a js) (n+1):=by
  have jl:js.length≤1:=by rcases hj with rfl | ⟨_,rfl⟩ <;> simp
  have un:∀ i d,jy js i d=d:=by rcases hj with rfl | ⟨_,rfl⟩ <;> intro i d <;> rfl
  have nj:∀ jid k gid ci cd r x c,JG.state jid k gid ci cd r x c ∉ js:=by rcases hj with rfl | ⟨_,rfl⟩ <;> simp
  have u:=o.up h0
  have e:∀ p q:AV×AV,(∃ i,p.2=AV.ref i)→(∃ i,q.2=AV.ref i)→Ok { w with a39:=p,a66:=q,jr:=w.jr++js } (n+1):=fun p q r1 r2=>{
      x0:=o.x0
      con0:=o.con0
      xs:=o.xs
      st:=o.st
      num:=o.num
      mdn:=o.mdn
      mdb:=o.mdb
      jr:=fun jid k gid ci cd r x c hm=>(List.mem_append.mp hm).elim (o.jr _ _ _ _ _ _ _ _) fun hm=>absurd hm (nj _ _ _ _ _ _ _ _)
      l1:=u.l1
      l2:=by show (w.jr++js).length≤_; rw [List.length_append]; exact DY o.l2 (Nat.le_succ_of_le jl)
      l3:=u.l3
      l4:=o.l4
      s0:=u.s0
      u1:=u.u1
      u2:=u.u2
      u3:=u.u3
      n1:=o.n1
      n2:=o.n2
      k1:=fun v hv=>let ⟨a,b,c⟩:=o.k1 v hv; ⟨Nat.le_trans a (by show _≤(w.jr++js).length; rw [List.length_append]; exact Nat.le_add_right _ _),b,c⟩
      k2:=o.k2
      lev:=o.lev
      lev':=o.lev'
      K:=fun v hv i s p hs hg hp=>by
        show jy ((w.jr++js).drop v.many) i s.c=_
        rw [List.drop_append_of_le_length (o.k1 v hv).1,lH,un]
        exact o.K v hv i s p hs hg hp
      J:=fun q jid k gid ci cd r x c hq v hv hlt=>o.J q jid k gid ci cd r x c ((List.getElem?_append_left (Nat.lt_of_lt_of_le hlt (o.k1 v hv).1)).symm.trans hq) v hv hlt
      svn:=o.svn
      nown:=o.nown
      stn:=o.stn
      a39:=r1
      a66:=r2
      kp:=o.kp
      tls:=o.tls
      ji:=fun jid old hm=>(List.mem_append.mp hm).elim (o.ji _ _) fun hm=>by
        rcases hj with rfl | h0q
        · cases hm
        · obtain ⟨_,rfl⟩:=h0q
          cases List.mem_singleton.mp hm; exact o.a39 }
  cases far with
  | false=>exact e _ _ ha o.a66
  | true=>exact e _ _ o.a39 ha
theorem sV {σ:St} {mt:Nat→Bool} {w:WG} (h:At σ mt w) {far:Bool} {a:AV} {js:List JG} {σ':St} (sm:Sm [8,if far then 66 else 39] σ σ') (h1:σ'.get (if far then 66 else 39)=some (.list [if far then w.a66.1 else w.a39.1,a])) (h8:σ'.get 8=some (.list ((w.jr++js).map fun j=>.ref j.jid)))
    (hjs:∀ j∈js,∀ p∈jF j,σ'.get p.1=some p.2∧p.1<σ'.next∧σ.next≤p.1):At σ' (mtN mt σ.next) (w.put far a js):=by
  have l8:=h.F.lt 8 (by decide)
  have l39:=h.F.lt 39 (by decide)
  have l66:=h.F.lt 66 (by decide)
  have hj:∀ j∈w.jr++js,j∈w.jr∨∀ p∈jF j,Nw σ' (mtN mt σ.next) false p:=fun j hjm=>(List.mem_append.mp hjm).imp id fun hm p hp=>let ⟨a,b,c⟩:=hjs j hm p hp; ⟨a,b,lG c⟩
  have n8:Nw σ' (mtN mt σ.next) true (8,.list ((w.jr++js).map fun j=>.ref j.jid)):=⟨h8,Nat.lt_of_lt_of_le l8 sm.1,(cW l8).trans h.c8.2.2⟩
  cases far with
  | false =>
    exact At.to3 (D:=[8,39]) [(8,.list ((w.jr++js).map fun j=>.ref j.jid)),(39,.list [w.a39.1,a])] h sm (fun i hi=>cW hi) rfl (dv w) (eZ w) hj same same
      (ch ⟨inM (k:=2) rfl,n8⟩ (df ⟨inM (k:=4) rfl,h1,Nat.lt_of_lt_of_le l39 sm.1,(cW l39).trans h.c39.2.2⟩)) (ch ⟨h.c8.2.2,mi (i:=0) rfl⟩ (df ⟨h.c39.2.2,mi (i:=1) rfl⟩))
      (.keep (.keep (.new (mi (i:=0) rfl) (.keep (.new (mi (i:=1) rfl) (.refl _)))))) (fD w) h.nd
  | true =>
    exact At.to3 (D:=[8,66]) [(8,.list ((w.jr++js).map fun j=>.ref j.jid)),(66,.list [w.a66.1,a])] h sm (fun i hi=>cW hi) rfl (dv w) (eZ w) hj same same
      (ch ⟨inM (k:=2) rfl,n8⟩ (df ⟨inM (k:=5) rfl,h1,Nat.lt_of_lt_of_le l66 sm.1,(cW l66).trans h.c66.2.2⟩)) (ch ⟨h.c8.2.2,mi (i:=0) rfl⟩ (df ⟨h.c66.2.2,mi (i:=1) rfl⟩))
      (.keep (.keep (.new (mi (i:=0) rfl) (.keep (.keep (.new (mi (i:=1) rfl) (.refl _))))))) (fD w) h.nd
theorem B4 {σ:St} {mt:Nat→Bool} {w:WG} {n:Nat} (h:At σ mt w) (o:Ok w n) (hn:n≤20) {s:SG} (hs:s∈w.st) (far:Bool) :
    (far=true∧s.r.glob=false∧∃ σ' e d,bf [.ref 6,.ref (if far then 65 else 38),.int 1,.ref s.tid] σ=some (.exc e,σ')∧Sm [] σ σ'∧σ'.get e=some (.inst 52 d)∧σ'.get d=some (.sdict [(0,.byt 0)])) ∨
    (¬ (far=true∧s.r.glob=false)∧∃ σ' js,bf [.ref 6,.ref (if far then 65 else 38),.int 1,.ref s.tid] σ=some (.ok .none,σ')∧At σ' (mtN mt σ.next) (w.put far (.ref s.tid) js)∧(js=[]∨∃ j,js=[JG.item j w.a39.2])):=by
  have kl:∀ τ,Sm [] σ τ→bi [.ref s.tid] τ=some (.ok (.bool (!s.r.glob)),τ):=fun τ st=>by
    have hτ:=h.same st
    have k:=lF (hτ.stid hs).1 (hτ.stid hs).2.1 (hτ.std hs).1 (hτ.std hs).2.1 (hτ.stG hs)
    rwa [bz] at k
  have k1:=kl _ (Sm.ov σ [] [.list [.ref s.tid]])
  have F:=h.F
  have c8:=h.c8.1
  have c39:=h.c39.1
  have c66:=h.c66.1
  have l8:=F.lt 8 (by decide)
  have l39:=F.lt 39 (by decide)
  have l66:=F.lt 66 (by decide)
  have l2:=o.l2
  have l4:=o.l4
  have hjl:(w.jr.map fun j=>AV.ref j.jid).length<2000:=by rw [List.length_map]; omega
  have hlv:=qo (h.same (Sm.ov σ [] [.list [.ref s.tid]])).F ((h.same (Sm.ov σ [] [.list [.ref s.tid]])).mAt o.svn (by omega))
  rw [bz,List.length_map] at hlv
  have F6:=F.f6; have c5:=h.c5.1
  clear kl
  cases far with
  | true =>
    cases hg:s.r.glob with
    | false =>
      rw [hg] at k1
      replace k1:bi [.ref s.tid] (ov σ [] [.list [.ref s.tid]])=some (.ok (.bool true),_):=k1
      have F65:=F.f65; have F64:=F.f64
      refine .inl ⟨rfl,rfl,_,_,_,?_,Sm.ov σ [] [.list [.ref s.tid],.sdict [(0,.byt 0)],.inst 52 (σ.next+1)],bL (k:=2) rfl,bL (k:=1) rfl⟩
      have key:bf [.ref 6,.ref 65,.int 1,.ref s.tid] (ov σ [] [])=some (.exc (σ.next+2),ov σ [] [.list [.ref s.tid],.sdict [(0,.byt 0)],.inst 52 (σ.next+1)]):=by
        exact (Eq.trans (rq rfl (jX (o4 (aa rfl) (ak (Fx.lt F _ (by decide)) F6) (ak (Fx.lt F _ (by decide)) c5) (af (aa rfl) (af (aa rfl) (af (fC (af (aa rfl) am) rfl co) am))) (rq rfl (uR (jx (aa rfl) (ce rfl) (vZ (hV (ce rfl) rfl) (jX (o4 (aa rfl) (ak (Fx.lt F _ (by decide)) F6) (ak (Fx.lt F _ (by decide)) c5) (af (aa rfl) (af (aa rfl) am)) (rq rfl (dm (cA (bj (ao (aa rfl) (ak (Fx.lt F _ (by decide)) F65) rfl (ak (Fx.lt F _ (by decide)) F64) rfl)) (cA (bj (ba (af (aa rfl) am) k1)) (ag _))) vY))))))))))) rfl)
      rw [bz] at key; exact key
    | true =>
      rw [hg] at k1
      replace k1:bi [.ref s.tid] (ov σ [] [.list [.ref s.tid]])=some (.ok (.bool false),_):=k1
      have F65:=F.f65; have F64:=F.f64
      refine .inr ⟨by simp,ov σ [(66,.list [w.a66.1,.ref s.tid])] [.list [.ref s.tid]],[],?_,sV h (far:=true) ((Sm.ov _ _ _).more (by simp)) ?_ ?_ (fun _ q=>by cases q),.inl rfl⟩
      · have key:bf [.ref 6,.ref 65,.int 1,.ref s.tid] (ov σ [] [])=some (.ok .none,ov σ [(66,.list [w.a66.1,.ref s.tid])] [.list [.ref s.tid]]):=by
          exact (Eq.trans (dy rfl (ca (bV (aa rfl) (ak (Fx.lt F _ (by decide)) F6) (ak (Fx.lt F _ (by decide)) c5) (af (aa rfl) (af (aa rfl) (af (fC (af (aa rfl) am) rfl co) am))) (dy rfl (av (jx (aa rfl) (ce rfl) (fy (hV (ce rfl) rfl) (ca (bV (aa rfl) (ak (Fx.lt F _ (by decide)) F6) (ak (Fx.lt F _ (by decide)) c5) (af (aa rfl) (af (aa rfl) am)) (dy rfl (bc (cA (bj (ao (aa rfl) (ak (Fx.lt F _ (by decide)) F65) rfl (ak (Fx.lt F _ (by decide)) F64) rfl)) (dM (bj (ba (af (aa rfl) am) k1)))) (ag _))))) (eE (hV (ce rfl) rfl)))) (nO (aa rfl) (ce rfl) (lD (mA (ce rfl) rfl) (av (bc (bj (bV (aa rfl) (ak (Fx.lt F _ (by decide)) F6) (ak (Fx.lt F _ (by decide)) c5) (af (aa rfl) am) (br rfl (aY (o5 (gV (ao (aa rfl) (ak (Fx.lt F _ (by decide)) F65) rfl (ak (Fx.lt F _ (by decide)) F64) rfl) rfl)))))) (ag _)) (gr (aa rfl) (ao (aa rfl) (ak (Fx.lt F _ (by decide)) F65) rfl (ak (Fx.lt F _ (by decide)) F64) rfl) (dg (aa rfl) (aa rfl) rt) (jY (ak l66 c66) rfl (m9 l66)))) (eE (mA (ce rfl) rfl))))))))) rfl)
        rw [bz] at key; exact key
      · rw [if_pos rfl,bb l66]; rfl
      · rw [List.append_nil,bb l8,gU,if_neg (by decide),gU]; exact c8
  | false =>
    by_cases hv:0<w.sv.length
    · refine .inr ⟨by simp,ov σ [(8,.list ((w.jr.map fun j=>.ref j.jid)++[.ref (σ.next+1)])),(39,.list [w.a39.1,.ref s.tid])] [.list [.ref s.tid],.tup [.str 66,.ref 38,.int 1,w.a39.2]],[.item (σ.next+1) w.a39.2],?_,sV h (far:=false) (Sm.ov _ _ _) ?_ ?_ (fun j hj p hp=>?_),.inr ⟨_,rfl⟩⟩
      · have hv':((0:Int)<(w.sv.length:Int))=True:=eq_true (by omega)
        have key:bf [.ref 6,.ref 38,.int 1,.ref s.tid] (ov σ [] [])=some (.ok .none,ov σ [(8,.list ((w.jr.map fun j=>.ref j.jid)++[.ref (σ.next+1)])),(39,.list [w.a39.1,.ref s.tid])] [.list [.ref s.tid],.tup [.str 66,.ref 38,.int 1,w.a39.2]]):=by
          have F38:=F.f38; have F37:=F.f37
          have cv:∀ σ,dk σ .Lt (.int 0) (.int w.sv.length)=some true:=fun _=>congrArg some (decide_eq_true (by omega))
          exact (Eq.trans (dy rfl (ca (bV (aa rfl) (ak (Fx.lt F _ (by decide)) F6) (ak (Fx.lt F _ (by decide)) c5) (af (aa rfl) (af (aa rfl) (af (fC (af (aa rfl) am) rfl co) am))) (dy rfl (av (jx (aa rfl) (ce rfl) (fy (hV (ce rfl) rfl) (ca (bV (aa rfl) (ak (Fx.lt F _ (by decide)) F6) (ak (Fx.lt F _ (by decide)) c5) (af (aa rfl) (af (aa rfl) am)) (dy rfl (bc (dM (bj (ao (aa rfl) (ak (Fx.lt F _ (by decide)) F38) rfl (ak (Fx.lt F _ (by decide)) F37) rfl))) (ag _))))) (eE (hV (ce rfl) rfl)))) (nO (aa rfl) (ce rfl) (lD (mA (ce rfl) rfl) (av (dm (bj (bV (aa rfl) (ak (Fx.lt F _ (by decide)) F6) (ak (Fx.lt F _ (by decide)) c5) (af (aa rfl) am) (br rfl (aY (eC (gV (ao (aa rfl) (ak (Fx.lt F _ (by decide)) F38) rfl (ak (Fx.lt F _ (by decide)) F37) rfl) rfl) (cX (ao (aa rfl) (ak (Fx.lt F _ (by decide)) F38) rfl (ak (Fx.lt F _ (by decide)) F37) rfl) (m0 (aa rfl) (ak (Fx.lt F _ (by decide)) F6) (ak (Fx.lt F _ (by decide)) c5) hlv) (cv _))))))) (ca (lz (ao (aa rfl) (ak (Fx.lt F _ (by decide)) F6) rfl (ak (Fx.lt F _ (by decide)) c5) rfl) (ak l8 c8) (af (cL (af (ag _) (af (aa rfl) (af (dg (aa rfl) (aa rfl) rt) (af (aF (ao (aa rfl) (ak (Fx.lt F _ (by decide)) F38) rfl (ak (Fx.lt F _ (by decide)) F37) rfl) (dg (aa rfl) (aa rfl) rt) (bR (ak l39 c39) rfl rfl)) am)))) rfl co) am) (rx (ak l8 c8) (uX hjl rfl) (m9 l8))))) (gr (aa rfl) (ao (aa rfl) (ak (Fx.lt F _ (by decide)) F38) rfl (ak (Fx.lt F _ (by decide)) F37) rfl) (dg (aa rfl) (aa rfl) rt) (jY (ak l39 c39) rfl (m9 l39)))) (eE (mA (ce rfl) rfl))))))))) rfl)
        rw [bz] at key; exact key
      · rw [if_neg (by decide),bb l39]; rfl
      · rw [bb l8,gU,if_pos rfl,List.map_append]; rfl
      · rw [List.mem_singleton] at hj
        subst hj
        simp only [jF,List.mem_singleton] at hp
        subst hp
        exact ⟨bL (k:=1) rfl,eS (k:=1) (by simp),by simp⟩
    · refine .inr ⟨by simp,ov σ [(39,.list [w.a39.1,.ref s.tid])] [.list [.ref s.tid]],[],?_,sV h (far:=false) ((Sm.ov _ _ _).more (by simp)) ?_ ?_ (fun _ q=>by cases q),.inl rfl⟩
      · have hv':((0:Int)<(w.sv.length:Int))=False:=eq_false (by omega)
        have hv2:w.sv.length=0:=by omega
        have key:bf [.ref 6,.ref 38,.int 1,.ref s.tid] (ov σ [] [])=some (.ok .none,ov σ [(39,.list [w.a39.1,.ref s.tid])] [.list [.ref s.tid]]):=by
          have F38:=F.f38; have F37:=F.f37
          have cv:∀ σ,dk σ .Lt (.int 0) (.int w.sv.length)=some false:=fun _=>congrArg some (decide_eq_false (by omega))
          exact (Eq.trans (dy rfl (ca (bV (aa rfl) (ak (Fx.lt F _ (by decide)) F6) (ak (Fx.lt F _ (by decide)) c5) (af (aa rfl) (af (aa rfl) (af (fC (af (aa rfl) am) rfl co) am))) (dy rfl (av (jx (aa rfl) (ce rfl) (fy (hV (ce rfl) rfl) (ca (bV (aa rfl) (ak (Fx.lt F _ (by decide)) F6) (ak (Fx.lt F _ (by decide)) c5) (af (aa rfl) (af (aa rfl) am)) (dy rfl (bc (dM (bj (ao (aa rfl) (ak (Fx.lt F _ (by decide)) F38) rfl (ak (Fx.lt F _ (by decide)) F37) rfl))) (ag _))))) (eE (hV (ce rfl) rfl)))) (nO (aa rfl) (ce rfl) (lD (mA (ce rfl) rfl) (av (bc (bj (bV (aa rfl) (ak (Fx.lt F _ (by decide)) F6) (ak (Fx.lt F _ (by decide)) c5) (af (aa rfl) am) (br rfl (aY (eC (gV (ao (aa rfl) (ak (Fx.lt F _ (by decide)) F38) rfl (ak (Fx.lt F _ (by decide)) F37) rfl) rfl) (cX (ao (aa rfl) (ak (Fx.lt F _ (by decide)) F38) rfl (ak (Fx.lt F _ (by decide)) F37) rfl) (m0 (aa rfl) (ak (Fx.lt F _ (by decide)) F6) (ak (Fx.lt F _ (by decide)) c5) hlv) (cv _))))))) (ag _)) (gr (aa rfl) (ao (aa rfl) (ak (Fx.lt F _ (by decide)) F38) rfl (ak (Fx.lt F _ (by decide)) F37) rfl) (dg (aa rfl) (aa rfl) rt) (jY (ak l39 c39) rfl (m9 l39)))) (eE (mA (ce rfl) rfl))))))))) rfl)
        rw [bz] at key; exact key
      · rw [if_neg (by decide),bb l39]; rfl
      · rw [List.append_nil,bb l8,gU,if_neg (by decide),gU]; exact c8
end Lw
end SP19
section SP20
set_option maxHeartbeats 4000000
namespace Lw
open St
theorem vg (σ:St):fA [.int 1] σ=some (.ok (.ref (σ.next+1)),ov σ [] [.sdict [(1,.str 59),(2,.int 1),(3,.bool false),(4,.int 3)],.inst 84 σ.next]):=by
  have key:fA [.int 1] (ov σ [] [])=some (.ok (.ref (σ.next+1)),ov σ [] [.sdict [(1,.str 59),(2,.int 1),(3,.bool false),(4,.int 3)],.inst 84 σ.next]):=by
    exact (Eq.trans (br rfl (aY (ba (af (ag _) (af (aa rfl) am)) (sB co co (dy rfl (av (dA (aa rfl) (aa rfl) (gM rfl) rfl (ce rfl) rfl (f0 rfl)) (av (dA (aa rfl) (aa rfl) (gM rfl) rfl (ce rfl) rfl (f0 rfl)) (av (dA (aa rfl) (aa rfl) (gM rfl) rfl (ce rfl) rfl (f0 rfl)) (dA (aa rfl) (aa rfl) (gM rfl) rfl (ce rfl) rfl (f0 rfl)))))))))) rfl)
  rwa [bz] at key
noncomputable def mB (σ:St) (tid:Nat):St:=(ov σ [] [.sdict [(1,.str 59),(2,.int 1),(3,.bool false),(4,.int 3)],.inst 84 σ.next]).push (.list [.ref (σ.next+1),.ref tid])
theorem yO {σ:St} {mt:Nat→Bool} {w:WG} {n:Nat} (h:At σ mt w) (o:Ok w n) (hn:n≤20) {s:SG} (hs:s∈w.st) :
    (w.m.isG=true∧s.r.glob=false∧∃ σ' e d,bw [.ref 6,.ref (σ.next+2)] (mB σ s.tid)=some (.exc e,σ')∧At σ' mt w∧σ'.get e=some (.inst 52 d)∧σ'.get d=some (.sdict [(0,.byt 0)])) ∨
    (¬ (w.m.isG=true∧s.r.glob=false)∧∃ σ' mt' w' v,bw [.ref 6,.ref (σ.next+2)] (mB σ s.tid)=some (.ok v,σ')∧At σ' mt' w'∧Ok w' (n+1)∧w'.at'=w.at'∧w'.st=w.st):=by
  have hL:mB σ s.tid=ov σ [] [.sdict [(1,.str 59),(2,.int 1),(3,.bool false),(4,.int 3)],.inst 84 σ.next,.list [.ref (σ.next+1),.ref s.tid]]:=by unfold mB; rw [dx]; rfl
  have hh:At (mB σ s.tid) mt w:=by rw [hL]; exact h.same (Sm.ov _ _ _)
  have n9:=h.F.hn
  have r:=An hh o hn (xl:=σ.next+2) (it:=σ.next+1) (itd:=σ.next) hs (by rw [hL]; exact bL (k:=2) rfl) (by rw [hL]; exact eS (k:=2) (by simp)) ⟨by omega,by omega⟩ (by rw [hL]; exact bL (k:=1) rfl) (by rw [hL]; exact bL (k:=0) rfl)
  rcases r with h0q | h0q
  · obtain ⟨q1,q2,σ',e,d,r1,r2,r3,r4⟩:=h0q
    exact .inl ⟨q1,q2,σ',e,d,r1,hh.same r2,r3,r4⟩
  · obtain ⟨q,σ',v,lv,r1,r2,r3⟩:=h0q
    exact .inr ⟨q,σ',_,_,v,r1,r2,o.roomed (List.length_pos_of_mem hs) (by omega) (by omega),rfl,rfl⟩
theorem yP {σ:St} {mt:Nat→Bool} {w:WG} {n:Nat} (h:At σ mt w) (o:Ok w n) (hn:n≤20) {s:SG} (hs:s∈w.st) (far:Bool) :
    (far=true∧s.r.glob=false∧∃ σ' e d,bf [.ref 6,.ref (if far then 65 else 38),.int 1,.ref s.tid] σ=some (.exc e,σ')∧At σ' mt w∧σ'.get e=some (.inst 52 d)∧σ'.get d=some (.sdict [(0,.byt 0)])) ∨
    (¬ (far=true∧s.r.glob=false)∧∃ σ' mt' w' v,bf [.ref 6,.ref (if far then 65 else 38),.int 1,.ref s.tid] σ=some (.ok v,σ')∧At σ' mt' w'∧Ok w' (n+1)∧w'.at'=w.at'∧w'.st=w.st):=by
  rcases B4 h o hn hs far with h0q | h0q
  · obtain ⟨q1,q2,σ',e,d,r1,r2,r3,r4⟩:=h0q
    exact .inl ⟨q1,q2,σ',e,d,r1,h.same r2,r3,r4⟩
  · obtain ⟨q,σ',js,r1,r2,r3⟩:=h0q
    exact .inr ⟨q,σ',_,_,_,r1,r2,o.put (List.length_pos_of_mem hs) r3 ⟨_,rfl⟩,by unfold WG.put; split <;> rfl,by unfold WG.put; split <;> rfl⟩
noncomputable def ko (far:Bool):Nat:=if far then 65 else 38
noncomputable def wf (far:Bool):Nat:=if far then 66 else 39
noncomputable abbrev qt:M AF:=ifX (asB (ac 8)) (bS (bT 781 bw (ac 6) (ah (dJ (ah (aZ fA (ah (ret (.int 1)) aq)) (ah (aO (ac 5) (ret (.str 57))) aq))) aq))) (bS (bT 781 bf (ac 6) (ah (ac 2) (ah (ret (.int 1)) (ah (aO (ac 5) (ret (.str 57))) aq)))))
noncomputable abbrev yQ:M AF:=(ay (qE 52 qt 3 (bn (oG 52 0 (ac 3)) 11))
  (ay (bg cs9 7 (ac 6) (ac 9))
  (ay (bn (ifE (fW (asB (ac 7)) (fW (jC (asB (aO (ac 5) (ret (.str 7))))) (ret true))) (ret (.byt 0)) (ret .none)) 4)
  (cu (lQ (eG .Eq (ac 11) (ac 4)) (orE (eG .Is (ac 4) (ret .none)) (eG .Is (aO (aw cs9 6 (ac 2)) (ret (.int 1))) (ac 10))))))))
noncomputable def w9 (sid:Nat) (isG new far:Bool) (x:Nat):Loc:=upL (upL (upL (upL (upL (upL (upL (upL (cY [.ref 86,.ref 2]) 6 (.ref 6)) 5 (.ref sid)) 9 (.bool isG)) 8 (.bool new)) 7 (.bool far)) 2 (.ref (ko far))) 11 .none) 10 (.ref x)
section
variable {σ5 σ7 σ8:St} {s:SG} {isG far:Bool} {x:Nat}
theorem Bf {e d:Nat} {kv:List (Nat×AV)} (new:Bool) (body:∀ l:Loc,l 8=some (.bool new)→l 6=some (.ref 6)→l 5=some (.ref s.sid)→l 2=some (.ref (ko true))→qt l σ5=some (.exc e,l,σ7))
    (r4:σ7.get e=some (.inst 52 d)) (r5:σ7.get d=some (.sdict [(0,.byt 0)])) (b1:∀ l,kq cs9 7 (.ref 6) (.bool isG) l σ7=some (.ok (),l,σ8)) (q9:σ8.get s.sid=some (.sdict kv)) (hk:lk kv 7=some (.bool false)) (r8:∀ l,kf cs9 6 (.ref (ko true)) l σ8=some (.ok (.ref (wf true)),l,σ8)) (i8:∀ l,gC (.ref (wf true)) (.int 1) l σ8=some (.ok (.ref x),l,σ8)) :
    ∃ l6,yQ (w9 s.sid isG new true x) σ5=some (.ok (.ret (.bool true)),l6,σ8):=by
  have hb:=body (w9 s.sid isG new true x) rfl rfl rfl rfl
  have cx:∀ σ,dk σ .Is (.ref x) (.ref x)=some true:=fun _=>if_pos rfl
  clear body
  apply Exists.intro
  exact (Eq.trans (av (uT hb r4 (cU (uU (aa rfl) r4 r5 rfl))) (av (jc (aa rfl) (aa rfl) (b1 _)) (av (cU (gu (cA (bj (aa rfl)) (cA (jd (bj (aF (aa rfl) (ag _) (aM q9 hk))) rfl) (ag _))) (ag _))) (aY (eC (cX (aa rfl) (aa rfl) rfl) (sG (cX (aa rfl) (ag _) rfl) (cX (aF (vU (aa rfl) (r8 _)) (ag _) (i8 _)) (aa rfl) (cx _)))))))) rfl)
theorem Bg (new:Bool) {kv:List (Nat×AV)} {g:Bool} (body:∀ l:Loc,l 8=some (.bool new)→l 6=some (.ref 6)→l 5=some (.ref s.sid)→l 2=some (.ref (ko far))→qt l σ5=some (.ok .next,l,σ7))
    (b1:∀ l,kq cs9 7 (.ref 6) (.bool isG) l σ7=some (.ok (),l,σ8)) (q9:σ8.get s.sid=some (.sdict kv)) (hk:lk kv 7=some (.bool g)) (p:¬ (far=true∧g=false)) :
    ∃ l6,yQ (w9 s.sid isG new far x) σ5=some (.ok (.ret (.bool true)),l6,σ8):=by
  have hb:=body (w9 s.sid isG new far x) rfl rfl rfl rfl
  clear body
  cases far with
  | false =>
    apply Exists.intro
    exact (Eq.trans (av (vX hb) (av (jc (aa rfl) (aa rfl) (b1 _)) (av (cU (eg (dM (bj (aa rfl))) (ag _))) (aY (eC (cX (aa rfl) (aa rfl) rfl) (qi (cX (aa rfl) (ag _) rfl))))))) rfl)
  | true =>
    cases g with
    | false=>exact absurd ⟨rfl,rfl⟩ p
    | true =>
      apply Exists.intro
      exact (Eq.trans (av (vX hb) (av (jc (aa rfl) (aa rfl) (b1 _)) (av (cU (eg (cA (bj (aa rfl)) (dM (jd (bj (aF (aa rfl) (ag _) (aM q9 hk))) rfl))) (ag _))) (aY (eC (cX (aa rfl) (aa rfl) rfl) (qi (cX (aa rfl) (ag _) rfl))))))) rfl)
end
theorem Ao {σ:St} {mt:Nat→Bool} {w:WG} {n:Nat} (h:At σ mt w) (o:Ok w n) (h0:0<w.st.length) (hn:n≤20) (ha:w.at'<480) :
    ∃ σ' mt' w',dh [.ref 86,.ref 2] σ=some (.ok (.bool true),σ')∧At σ' mt' w'∧Ok w' (n+1)∧w'.at'≤w.at'+4:=by
  obtain ⟨k,s,σ1,hk,e1,h1,s1,l1,l2⟩:=iF h o h0 hn (by omega)
  have hs0:s∈w.st:=aR hk
  have w0:=h.wd; have w1:σ1.get 86=some (.sdict (wkv w.now w.stL)):=h1.wd
  have hA:=h1.push (.tup [.ref s.sid,.ref 6])
  have tA:(σ1.push (.tup [.ref s.sid,.ref 6])).get σ1.next=some (.tup [.ref s.sid,.ref 6]):=if_pos rfl
  have aA:∀ l,cV (.tup [.ref s.sid,.ref 6]) l σ1=some (.ok (.ref σ1.next),l,σ1.push (.tup [.ref s.sid,.ref 6])):=fun l=>rfl
  clear aA
  generalize pA:σ1.push (.tup [.ref s.sid,.ref 6])=τ1 at hA tA
  obtain ⟨v1,σ2,v10,v11,e2,h2,sm2⟩:=jZ hA o.drawn (by show w.at'+1<490; omega) (m:=2) (by omega)
  obtain ⟨v2,σ3,v20,v21,e3,h3,sm3⟩:=jZ h2 o.drawn.drawn (by show w.at'+1+1<490; omega) (m:=2) (by omega)
  have c5:σ3.get 5=some (.sdict (mkv w.m)):=h3.c5.1
  have c6:=h3.F.f6
  have w3:σ3.get 86=some (.sdict (wkv w.now w.stL)):=h3.wd
  obtain ⟨far,hfar⟩:∃ b:Bool,(v1==0)=b:=⟨_,rfl⟩
  obtain ⟨new,hnew⟩:∃ b:Bool,(v2==1)=b:=⟨_,rfl⟩
  have hB:=h3.push (.tup [.bool far,.bool new,.bool w.m.isG])
  have tB:(σ3.push (.tup [.bool far,.bool new,.bool w.m.isG])).get σ3.next=some (.tup [.bool far,.bool new,.bool w.m.isG]):=if_pos rfl
  have aB:∀ l,cV (.tup [.bool far,.bool new,.bool w.m.isG]) l σ3=some (.ok (.ref σ3.next),l,σ3.push (.tup [.bool far,.bool new,.bool w.m.isG])):=fun l=>rfl
  clear aB
  generalize pB:σ3.push (.tup [.bool far,.bool new,.bool w.m.isG])=τ3 at hB tB
  have w4:τ3.get 86=some (.sdict (wkv w.now w.stL)):=hB.wd
  obtain ⟨x,hx⟩:∃ i,(if far then w.a66.2 else w.a39.2)=AV.ref i:=by cases far; exact o.a39; exact o.a66
  have q5:∀ l,gC (.ref 11) (.int (if far then 1 else 0)) l τ3=some (.ok (.ref (if far then 67 else 40)),l,τ3):=fun l=>by
    have:=hB.F.f11
    cases far with
    | false=>exact bR this rfl rfl
    | true=>exact bR this rfl rfl
  have q6:∀ l,gC (.ref (if far then 67 else 40)) (.int 2) l τ3=some (.ok (.ref (ko far)),l,τ3):=fun l=>by
    have f1:=hB.F.f40
    have f2:=hB.F.f67
    cases far with
    | false=>exact bR f1 rfl rfl
    | true=>exact bR f2 rfl rfl
  have row:∀ τ,Fx τ→∀ l,kf cs9 6 (.ref (ko far)) l τ=some (.ok (.ref (wf far)),l,τ):=fun τ F l=>by
    have f1:=F.f38
    have f2:=F.f37
    have f3:=F.f65
    have f4:=F.f64
    cases far with
    | false=>exact sE f1 rfl f2 rfl
    | true=>exact sE f3 rfl f4 rfl
  have itm:∀ τ mt (w':WG),At τ mt w'→w'.a39=w.a39→w'.a66=w.a66→∀ l,gC (.ref (wf far)) (.int 1) l τ=some (.ok (.ref x),l,τ):=fun τ mt w' hτ z1 z2 l=>by
    have f1:=hτ.c39.1
    have f2:=hτ.c66.1
    rw [z1] at f1; rw [z2] at f2
    cases far with
    | false =>
      have hx:w.a39.2=AV.ref x:=hx
      exact bR f1 rfl (congrArg some hx)
    | true =>
      have hx:w.a66.2=AV.ref x:=hx
      exact bR f2 rfl (congrArg some hx)
  have r3:=row τ3 hB.F
  have i3:=itm τ3 mt _ hB rfl rfl
  have hC:=hB.push (.tup [.ref x,.none])
  have tC:(τ3.push (.tup [.ref x,.none])).get τ3.next=some (.tup [.ref x,.none]):=if_pos rfl
  have aC:∀ l,cV (.tup [.ref x,.none]) l τ3=some (.ok (.ref τ3.next),l,τ3.push (.tup [.ref x,.none])):=fun l=>rfl
  clear aC
  generalize pC:τ3.push (.tup [.ref x,.none])=τ4 at hC tC
  have hD:=sU hC far
  have sD:∀ l,kq cs9 7 (.ref 6) (.bool far) l τ4=some (.ok (),l,ov τ4 [(5,.sdict (mkv { w.m with isG:=far }))] []):=fun l=>by
    have g5:τ4.get 5=some (.sdict (mkv w.m)):=hC.c5.1
    have g6:=hC.F.f6
    have:=bF (hC.F.lt 5 (by decide)) [] [] (.sdict (mkv { w.m with isG:=far }))
    rw [bz] at this
    exact lw g6 rfl g5 rfl this
  change At (ov τ4 [(5,.sdict (mkv { w.m with isG:=far }))] []) mt ((w.drawn.drawn.drawn).flip far) at hD
  generalize ov τ4 [(5,.sdict (mkv { w.m with isG:=far }))] []=σ5 at hD sD
  have oD:Ok ((w.drawn.drawn.drawn).flip far) n:=(o.drawn.drawn.drawn).flip far
  have hs:s∈((w.drawn.drawn.drawn).flip far).st:=hs0
  have d5:=(hD.stsid hs).1
  have back:∀ τ mt (w':WG),At τ mt w'→∃ σ8,(∀ l,kq cs9 7 (.ref 6) (.bool w.m.isG) l τ=some (.ok (),l,σ8))∧At σ8 mt (w'.flip w.m.isG):=fun τ mt w' hτ=>by
    refine ⟨_,fun l=>?_,sU hτ _⟩
    have g5:=hτ.c5.1
    have g6:=hτ.F.f6
    have:=bF (hτ.F.lt 5 (by decide)) [] [] (.sdict (mkv { w'.m with isG:=w.m.isG }))
    rw [bz] at this
    exact lw g6 rfl g5 rfl this
  have F5:=hD.F
  have ia:∀ l,zn [.bool far] l τ3=some (.ok (.int (if far then 1 else 0)),l,τ3):=fun l=>rfl
  have iL:fA [.int 1] σ5=some (.ok (.ref (σ5.next+1)),ov σ5 [] [.sdict [(1,.str 59),(2,.int 1),(3,.bool false),(4,.int 3)],.inst 84 σ5.next]):=vg σ5
  have d8:(ov σ5 [] [.sdict [(1,.str 59),(2,.int 1),(3,.bool false),(4,.int 3)],.inst 84 σ5.next]).get s.sid=some (.sdict [(57,.ref s.tid),(7,.bool s.r.glob),(58,.ref s.cid)]):=((hD.same (Sm.ov σ5 [] _)).stsid hs).1
  have hL:mB σ5 s.tid=ov σ5 [] [.sdict [(1,.str 59),(2,.int 1),(3,.bool false),(4,.int 3)],.inst 84 σ5.next,.list [.ref (σ5.next+1),.ref s.tid]]:=by unfold mB; rw [dx]; rfl
  have pL:(ov σ5 [] [.sdict [(1,.str 59),(2,.int 1),(3,.bool false),(4,.int 3)],.inst 84 σ5.next]).push (.list [.ref (σ5.next+1),.ref s.tid])=mB σ5 s.tid:=rfl
  have m5:=hD.c5.1
  have m6:=F5.f6
  have main:∀ l6 σ8,yQ (w9 s.sid w.m.isG new far x) σ5=some (.ok (.ret (.bool true)),l6,σ8)→dh [.ref 86,.ref 2] σ=some (.ok (.bool true),σ8):=fun l6 σ8 hR=>by
    have e1':bu [.ref 2,.int (w.st.length:Int)] σ=some (.ok (.int k),σ1):=e1
    have cf:∀ σ,dk σ .Eq (.int v1) (.int 0)=some far:=fun _=>congrArg some hfar
    have cn:∀ σ,dk σ .Eq (.int v2) (.int 1)=some new:=fun _=>congrArg some hnew
    have sp:=sD
    unfold w9 at hR
    exact (Eq.trans (br rfl (av (ly (cL (af (aF (aF (aa rfl) (ag _) (aM w0 rfl)) (ba (af (aa rfl) (af (bB (af (aF (aa rfl) (ag _) (aM w0 rfl)) am) (l1 _)) am)) e1') (l2 _)) (af (aF (aa rfl) (ag _) (aM w1 rfl)) am)) rfl pA) (cT tA rfl) (aS be (aS be dq))) (av (sH (cL (af (cX (ba (af (aa rfl) (af (ag _) am)) e2) (ag _) (cf _)) (af (cX (ba (af (aa rfl) (af (ag _) am)) e3) (ag _) (cn _)) (af (ao (aF (aa rfl) (ag _) (aM w3 rfl)) c6 rfl c5 rfl) am))) rfl pB) (cT tB rfl) (aS be (aS be (aS be dq)))) (av (cU (aF (aF (aF (aa rfl) (ag _) (aM w4 rfl)) (bB (af (aa rfl) am) (ia _)) (q5 _)) (ag _) (q6 _))) (av (ly (cL (af (aF (vU (aa rfl) (r3 _)) (ag _) (i3 _)) (af (ag _) am)) rfl pC) (cT tC rfl) (aS be (aS be dq))) (av (jc (aa rfl) (aa rfl) (sp _)) hR)))))) rfl)
  cases new with
  | true =>
    rcases yO hD oD hn hs with h0q | h0q
    · obtain ⟨p1,p2,σ7,e,d,r1,r2,r4,r5⟩:=h0q
      have p1:far=true:=p1
      subst p1
      obtain ⟨σ8,b1,b2⟩:=back σ7 mt _ r2
      replace r1:bw [.ref 6,.ref (ov σ5 [] [.sdict [(1,.str 59),(2,.int 1),(3,.bool false),(4,.int 3)],.inst 84 σ5.next]).next] (mB σ5 s.tid)=some (.exc e,σ7):=r1
      have hb:∀ l:Loc,l 8=some (.bool true)→l 6=some (.ref 6)→l 5=some (.ref s.sid)→l 2=some (.ref (ko true))→qt l σ5=some (.exc e,l,σ7):=by
        intro l l8 l6 l5 l2
        clear main b1 b2
        exact (Eq.trans (dm (bj (aa l8)) (jX (o4 (aa l6) m6 m5 (af (fC (af (ba (af (ag _) am) iL) (af (aF (aa l5) (ag _) (aM d8 rfl)) am)) p1 pL) am) r1))) rfl)
      obtain ⟨l6,hR⟩:=Bf (s:=s) (isG:=w.m.isG) (x:=x) true hb r4 r5 b1 (b2.stsid (s:=s) hs).1 (congrArg (fun g=>some (AV.bool g)) p2) (row σ8 b2.F) (itm σ8 mt _ b2 rfl rfl)
      exact ⟨σ8,mt,_,main l6 σ8 hR,b2,(oD.flip _).up h0,by show w.at'+1+1+1≤_; omega⟩
    · obtain ⟨p,σ7,mt',w',v,r1,r2,r4,r5,r6⟩:=h0q
      obtain ⟨σ8,b1,b2⟩:=back σ7 mt' w' r2
      have hs':s∈(w'.flip w.m.isG).st:=by show s∈w'.st; rw [r6]; exact hs
      replace r1:bw [.ref 6,.ref (ov σ5 [] [.sdict [(1,.str 59),(2,.int 1),(3,.bool false),(4,.int 3)],.inst 84 σ5.next]).next] (mB σ5 s.tid)=some (.ok v,σ7):=r1
      have hb:∀ l:Loc,l 8=some (.bool true)→l 6=some (.ref 6)→l 5=some (.ref s.sid)→l 2=some (.ref (ko far))→qt l σ5=some (.ok .next,l,σ7):=by
        intro l l8 l6 l5 l2
        clear main b1 b2
        exact (Eq.trans (dm (bj (aa l8)) (ca (bV (aa l6) m6 m5 (af (fC (af (ba (af (ag _) am) iL) (af (aF (aa l5) (ag _) (aM d8 rfl)) am)) rfl pL) am) r1))) rfl)
      obtain ⟨l6,hR⟩:=Bg (s:=s) (isG:=w.m.isG) (x:=x) (far:=far) true hb b1 (b2.stsid (s:=s) hs').1 rfl p
      exact ⟨σ8,mt',_,main l6 σ8 hR,b2,r4.flip _,by show w'.at'≤_; rw [r5]; show w.at'+1+1+1≤_; omega⟩
  | false =>
    rcases yP hD oD hn hs far with h0q | h0q
    · obtain ⟨p1,p2,σ7,e,d,r1,r2,r4,r5⟩:=h0q
      subst p1
      obtain ⟨σ8,b1,b2⟩:=back σ7 mt _ r2
      replace r1:bf [.ref 6,.ref (ko true),.int 1,.ref s.tid] σ5=some (.exc e,σ7):=r1
      have hb:∀ l:Loc,l 8=some (.bool false)→l 6=some (.ref 6)→l 5=some (.ref s.sid)→l 2=some (.ref (ko true))→qt l σ5=some (.exc e,l,σ7):=by
        intro l l8 l6 l5 l2
        clear main b1 b2
        exact (Eq.trans (bc (bj (aa l8)) (jX (o4 (aa l6) m6 m5 (af (aa l2) (af (ag _) (af (aF (aa l5) (ag _) (aM d5 rfl)) am))) r1))) rfl)
      obtain ⟨l6,hR⟩:=Bf (s:=s) (isG:=w.m.isG) (x:=x) false hb r4 r5 b1 (b2.stsid (s:=s) hs).1 (congrArg (fun g=>some (AV.bool g)) p2) (row σ8 b2.F) (itm σ8 mt _ b2 rfl rfl)
      exact ⟨σ8,mt,_,main l6 σ8 hR,b2,(oD.flip _).up h0,by show w.at'+1+1+1≤_; omega⟩
    · obtain ⟨p,σ7,mt',w',v,r1,r2,r4,r5,r6⟩:=h0q
      obtain ⟨σ8,b1,b2⟩:=back σ7 mt' w' r2
      have hs':s∈(w'.flip w.m.isG).st:=by show s∈w'.st; rw [r6]; exact hs
      replace r1:bf [.ref 6,.ref (ko far),.int 1,.ref s.tid] σ5=some (.ok v,σ7):=r1
      have hb:∀ l:Loc,l 8=some (.bool false)→l 6=some (.ref 6)→l 5=some (.ref s.sid)→l 2=some (.ref (ko far))→qt l σ5=some (.ok .next,l,σ7):=by
        intro l l8 l6 l5 l2
        clear main b1 b2
        exact (Eq.trans (bc (bj (aa l8)) (ca (bV (aa l6) m6 m5 (af (aa l2) (af (ag _) (af (aF (aa l5) (ag _) (aM d5 rfl)) am))) r1))) rfl)
      obtain ⟨l6,hR⟩:=Bg (s:=s) (isG:=w.m.isG) (x:=x) (far:=far) false hb b1 (b2.stsid (s:=s) hs').1 rfl p
      exact ⟨σ8,mt',_,main l6 σ8 hR,b2,r4.flip _,by show w'.at'≤_; rw [r5]; show w.at'+1+1+1≤_; omega⟩
end Lw
end SP20
section SP21
set_option maxHeartbeats 4000000
namespace Lw
open St
noncomputable def WG.more (w:WG) (s:SG):WG:={ w with st:=w.st++[s] }
theorem Ap {σ σ':St} {mt:Nat→Bool} {w:WG} {s:SG} (h:At σ mt w) (sm:Sm [w.stL] σ σ') (hst:σ'.get w.stL=some (.list ((w.st++[s]).map fun s=>.ref s.sid))) (hf:∀ p∈sF s,σ'.get p.1=some p.2∧p.1<σ'.next∧σ.next≤p.1∧p.1≠s.sid∧p.1≠s.gd)
    (hm:∀ p∈stM s,σ'.get p.1=some p.2∧p.1<σ'.next∧σ.next≤p.1) (hne:s.sid≠s.gd):At σ' (mtM mt σ.next [s.sid,s.gd]) (w.more s):=by
  obtain ⟨t1,t2,t3⟩:=h.cStL
  refine At.to3 (D:=[w.stL]) ((w.stL,.list ((w.st++[s]).map fun s=>.ref s.sid))::stM s) h sm (fun i hi=>fF hi) rfl (dv w) (fun t ht p hp=>?_) same same same
    (ch ⟨inM (k:=10) rfl,hst,Nat.lt_of_lt_of_le t2 sm.1,(fF t2).trans t3⟩ fun q hq=>?_) (df ⟨t3,mi (i:=0) rfl⟩)
    (.keep (.keep (.keep (.keep (.keep (.keep (.keep (.keep (.keep (.keep (.new List.mem_cons_self (.refl _)))))))))))) (fun t ht p hp=>?_) ?_
  · rcases List.mem_append.mp ht with ht | ht
    · exact .inl (hW ht hp)
    · cases List.mem_singleton.mp ht
      obtain ⟨a,b,c,d,e⟩:=hf p hp
      exact .inr ⟨a,b,wc c (List.not_mem_cons_of_ne_of_not_mem d (List.not_mem_cons_of_ne_of_not_mem e List.not_mem_nil))⟩
  · obtain ⟨a,b,c⟩:=hm q hq
    have hs:s∈(w.more s).st:=List.mem_append_right _ List.mem_cons_self
    exact ⟨hX (w:=w.more s) hs hq,a,b,qr c (List.mem_map_of_mem (f:=(·.1)) hq)⟩
  · rcases List.mem_append.mp ht with ht | ht
    · exact .inr (hX ht hp)
    · cases List.mem_singleton.mp ht
      exact .inl (List.mem_cons_of_mem _ hp)
  · have e:(mutF (w.more s)).map (·.1)=(mutF w).map (·.1)++[s.sid,s.gd]:=by
      rw [eF,eF]
      simp [WG.more,stM]
    have all:∀ i∈(mutF w).map (·.1),i<σ.next:=fun i hi=>by
      obtain ⟨p,hp,rfl⟩:=List.mem_map.mp hi
      exact (h.mu p hp).2.1
    have q1:=(hm (s.sid,.sdict [(57,.ref s.tid),(7,.bool s.r.glob),(58,.ref s.cid)]) (by simp [stM])).2.2
    have q2:=(hm (s.gd,.sdict (gkv s.r)) (by simp [stM])).2.2
    rw [e,List.nodup_append]
    refine ⟨h.nd,by simp [hne],fun x hx y hy e=>?_⟩
    have:=all x hx
    simp at hy
    rcases hy with rfl | rfl
    · rw [e] at this; omega
    · rw [e] at this; omega
theorem Ok.made {w:WG} {n:Nat} (o:Ok w n) {tp:Nat} {lv:Int} {s:SG} (h1:s.x.ok) (h2:Con s.r s.x s.c) (h3:91≤s.gd) (h4:91≤s.sid) (h5:s.r.num=w.m.lastB+1) (h6:s.r.glob=w.m.isG) (h7:s.lev=w.sv.length) (h8:w.m.isG=false→lv=w.sv.length) (w':WG) (hw:w'={ w.roomed tp 0 lv with st:=w.st++[s] }):Ok w' (n+1):=by
  subst hw
  have sl:(w.st++[s]).length=w.st.length+1:=List.length_append ..
  have all':∀ {P:SG→Prop},P s→(∀ t∈w.st,P t)→∀ t∈w.st++[s],P t:=fun a b t ht=>(List.mem_append.mp ht).elim (b t) fun e=>List.mem_singleton.mp e▸a
  have cases':∀ i (t:SG),(w.st++[s])[i]?=some t→(i<w.st.length∧w.st[i]?=some t)∨(i=w.st.length∧t=s):=by
    intro i t e
    by_cases q:i<w.st.length
    · rw [List.getElem?_append_left q] at e; exact .inl ⟨q,e⟩
    · have hi:i=w.st.length:=Nat.le_antisymm (Nat.le_of_lt_succ (Nat.lt_of_lt_of_le (List.getElem?_eq_some_iff.mp e).1 (Nat.le_of_eq sl))) (Nat.not_lt.mp q)
      rw [hi,List.getElem?_concat_length] at e
      exact .inr ⟨hi,(Option.some.inj e).symm⟩
  exact {
    x0:=o.x0
    con0:=o.con0
    xs:=o.xs
    st:=all' ⟨h1,h2,h3,h4⟩ o.st
    num:=all' ⟨⟨w.m.lastB+1,tp,0,w.m.isG,lv⟩,List.mem_append_right _ (List.mem_singleton_self _),h5.symm,h6.symm,fun q=>by rw [h7]; exact h8 (h6▸q)⟩ fun t ht=>exE1 (o.num t ht) fun e q=>⟨e,List.mem_append_left _ q.1,q.2⟩
    mdn:=o.mdn1 rfl
    mdb:=o.mdb1 rfl
    jr:=fun jid k gid ci cd r x c hm=>by
      obtain ⟨a,b,t,e1,e2,e3⟩:=o.jr jid k gid ci cd r x c hm
      exact ⟨a,b,t,by show (w.st++[s])[k]?=_; rw [List.getElem?_append_left (List.getElem?_eq_some_iff.mp e1).1]; exact e1,e2,e3⟩
    l1:=Nat.le_trans (Nat.le_of_eq sl) (Nat.succ_le_succ o.l1)
    l2:=yJ o.l2
    l3:=by show (w.md++[_]).length≤_; rw [List.length_append]; exact D0 o.l3
    l4:=o.l4
    s0:=fun _=>Nat.lt_of_lt_of_le (Nat.succ_pos _) (Nat.le_of_eq sl.symm)
    u1:=D1 o.u1 (by decide) _
    u2:=Be o.u2 (by decide) _
    u3:=fun v hv=>t5 (o.u3 v hv)
    n1:=o.n1
    n2:=o.n2
    k1:=fun v hv=>by
      exact ⟨(o.k1 v hv).1,Nat.le_trans (o.k1 v hv).2.1 (Nat.le_trans (Nat.le_succ _) (Nat.le_of_eq sl.symm)),(o.k1 v hv).2.2⟩
    k2:=o.k2
    lev:=fun i t p v ht hg hv=>by
      rcases cases' i t ht with h0q | h0q
      · obtain ⟨_,e⟩:=h0q
        exact o.lev i t p v e hg hv
      · rw [h0q.1,h0q.2,h7]
        exact ⟨fun q=>absurd (o.k1 v (aR hv)).2.1 (Nat.not_le.mpr q),fun q=>absurd (List.getElem?_eq_some_iff.mp hv).1 (Nat.not_lt.mpr q)⟩
    lev':=all' (fun _=>Nat.le_of_eq h7) o.lev'
    K:=fun v hv i t p ht hg hp=>by
      rcases cases' i t ht with h0q | h0q
      · obtain ⟨_,e⟩:=h0q
        exact o.K v hv i t p e hg hp
      · exact absurd (o.k1 v hv).2.1 (Nat.not_le.mpr (h0q.1▸(List.getElem?_eq_some_iff.mp hp).1))
    J:=o.J
    svn:=o.svn
    nown:=o.nown
    stn:=o.stn
    a39:=o.a39
    a66:=o.a66
    kp:=o.kp
    tls:=o.tls
    ji:=o.ji }
end Lw
end SP21
section SP22
set_option maxHeartbeats 4000000
namespace Lw
open St
theorem sZ (σ:St) (g:Nat):d7 [.ref g] σ=some (.ok (.ref (σ.next+1)),ov σ [] [.sdict [(1,.str 63),(2,.ref g),(3,.bool false),(4,.int 3)],.inst 84 σ.next]):=by
  have key:d7 [.ref g] (ov σ [] [])=some (.ok (.ref (σ.next+1)),ov σ [] [.sdict [(1,.str 63),(2,.ref g),(3,.bool false),(4,.int 3)],.inst 84 σ.next]):=by
    exact (Eq.trans (br rfl (aY (ba (af (ag _) (af (aa rfl) am)) (sB co co (dy rfl (av (dA (aa rfl) (aa rfl) (gM rfl) rfl (ce rfl) rfl (f0 rfl)) (av (dA (aa rfl) (aa rfl) (gM rfl) rfl (ce rfl) rfl (f0 rfl)) (av (dA (aa rfl) (aa rfl) (gM rfl) rfl (ce rfl) rfl (f0 rfl)) (dA (aa rfl) (aa rfl) (gM rfl) rfl (ce rfl) rfl (f0 rfl)))))))))) rfl)
  rwa [bz] at key
noncomputable def newS (w:WG) (n2 n:Nat):SG:=⟨n+19,n+1,n,n+18,n+17,n+20,(newR n2 0 false).copied n (w.m.lastB+1) w.m.isG,(newX n2 [.int 1000000,.int 0,.int 0,.int 1000000,.int 0,.int 0]).cp n,w.sv.length,w.c0⟩
noncomputable def mC (w:WG) (n2 n:Nat):List AO:=fU (newR n2 0 false) (newX n2 [.int 1000000,.int 0,.int 0,.int 1000000,.int 0,.int 0]) n (w.m.lastB+1) w.m.isG++[.sdict [(1,.str 63),(2,.ref (n+1)),(3,.bool false),(4,.int 3)],.inst 84 (n+17),.sdict [(57,.ref (n+18)),(7,.bool w.m.isG),(58,.ref (n+20))],.list (cl w.c0)]
theorem nwp {σ:St} {U:List (Nat×AO)} {L:List AO} {k:Nat} {o:AO} (h:L[k]?=some o) (h1:k≠19) (h2:k≠0):(ov σ U L).get (σ.next+k)=some o∧σ.next+k<(ov σ U L).next∧σ.next≤σ.next+k∧σ.next+k≠σ.next+19∧σ.next+k≠σ.next :=
  ⟨bL h,eS (List.getElem?_eq_some_iff.mp h).1,Nat.le_add_right _ _,fun e=>h1 (Nat.add_left_cancel e),fun e=>h2 (Nat.add_left_cancel (show σ.next+k=σ.next+0 from e))⟩
theorem Aq {σ:St} {mt:Nat→Bool} {w:WG} (h:At σ mt w) (w0:WG) (n2:Nat) :
    At (ov σ [(w.stL,.list ((w.st++[newS w0 n2 σ.next]).map fun s=>.ref s.sid))] (mC w0 n2 σ.next)) (mtM mt σ.next [σ.next+19,σ.next]) (w.more (newS w0 n2 σ.next)) :=
  Ap h (s:=newS w0 n2 σ.next) (Sm.ov _ _ _) (by rw [bb h.cStL.2.1]; exact ow)
    (ch (nwp (k:=1) rfl (by decide) (by decide)) (ch (nwp (k:=18) rfl (by decide) (by decide)) (ch (nwp (k:=17) rfl (by decide) (by decide)) (ch (nwp (k:=20) rfl (by decide) (by decide)) (ch (nwp (k:=9) rfl (by decide) (by decide)) (ch (nwp (k:=11) rfl (by decide) (by decide)) (ch (nwp (k:=10) rfl (by decide) (by decide)) (ch (nwp (k:=13) rfl (by decide) (by decide)) (ch (nwp (k:=14) rfl (by decide) (by decide)) (ch (nwp (k:=15) rfl (by decide) (by decide)) (df (nwp (k:=16) rfl (by decide) (by decide)))))))))))))
    (ch ⟨bL (k:=19) rfl,eS (k:=19) (by decide:19<21),Nat.le_add_right _ _⟩ (df ⟨bL (k:=0) rfl,eS (k:=0) (by decide:0<21),Nat.le_refl _⟩)) (Nat.ne_of_gt (Nat.lt_add_of_pos_right (by decide)))
noncomputable def sdM:M AV:=pz (eJ (ret (.str 57)) (ac 4) (eJ (ret (.str 7)) (aw cs9 7 (ac 2)) (eJ (ret (.str 58)) (au (ah (aO (ac 0) (ret (.str 55))) aq) du) rU)))
theorem EI:gj=ay (gQ 2 (eH (ah (aO (ac 0) (ret (.str 51))) (ah (ret (.bool false)) aq))) (bq (bU 3) (bq (bU 2) ff)))
  (ay (qE 52 (bS (aZ bv (ah (aw cs9 7 (ac 2)) (ah (aO (ac 0) (ret (.str 52))) aq)))) 1 (bn (eG .Eq (oG 52 0 (ac 1)) (ret (.byt 0))) 3))
  (ay (ifX (bA .NotEq (ac 3) (eG .IsNot (aZ fz (ah (aw cs9 7 (ac 2)) (ah (aO (ac 0) (ret (.str 55))) aq))) (ret .none))) (cu (ret (.bool false))) (ret .next))
  (ay (ifX (jC (asB (ac 3))) (ay (bn (aZ d7 (ah (bT 438 de (aZ (cN 438 cP) (ah (dJ (ah (ret (.int 1000000)) (ah (ret (.int 0)) (ah (ret (.int 0)) (ah (ret (.int 1000000)) (ah (ret (.int 0)) (ah (ret (.int 0)) aq))))))) (ah (ret .none) aq))) (ah (bT 781 bJ (ac 2) (ah (ret (.int 0)) aq)) (ah (aw cs9 7 (ac 2)) aq))) aq)) 4)
  (ay (bn sdM 5)
  (ay (bS (bmE .list bI (aO (ac 0) (ret (.str 56))) (ah (ac 5) aq)))
  (cu (eG .Is (aZ cg (ah (ac 0) (ah (ac 5) (ah (aO (ac 0) (ret (.str 52))) aq)))) (ret .none)))))) (ret .next))
  (cu (ret (.bool true)))))):=rfl
theorem yR {σ:St} {mt:Nat→Bool} {w:WG} (h:At σ mt w) {l:Loc} {tid:Nat} (l0:l 0=some (.ref 86)) (l2:l 2=some (.ref 6)) (l4:l 4=some (.ref tid)) :
    sdM l σ =
      some (.ok (.ref σ.next),l,ov σ [] [.sdict [(57,.ref tid),(7,.bool w.m.isG),(58,.ref (σ.next+1))],.list (cl w.c0)]):=by
  have F:=h.F
  have c5:=h.c5.1
  have wd:=h.wd
  obtain ⟨n1,n2,_⟩:=h.cNow
  simp [sdM,pz,eJ,rU,ah,aq,au,ret,ac,aO,aw,kf,gC,look,List.contains,List.elem,l0,l2,l4,fb σ,F.f6,bb (F.lt 6 (by decide)),bF (F.lt 6 (by decide)),bb (F.lt 5 (by decide)),bF (F.lt 5 (by decide)),bb (F.lt 86 (by decide)),bF (F.lt 86 (by decide)),bb n2,bF n2,c5,wd,n1,mkv,wkv,gU,upU,dx,sy,oY,jb,gx,du,oV,cl]
theorem wh {σ:St} {mt:Nat→Bool} {w:WG} {n:Nat} (h:At σ mt w) (o:Ok w n) (hn:n≤20) (h0:0<w.st.length∨w.m.isG=false) :
    ∃ σ' mt' w',cQ [.ref 86] σ=some (.ok (.bool true),σ')∧At σ' mt' w'∧Ok w' (n+1)∧w'.at'=w.at':=by
  have hτ:=h.push (.tup [.ref 6,.bool false])
  have w0:=h.wd
  have tA:(σ.push (.tup [.ref 6,.bool false])).get σ.next=some (.tup [.ref 6,.bool false]):=if_pos rfl
  have aA:∀ l,cV (.tup [.ref 6,.bool false]) l σ=some (.ok (.ref σ.next),l,σ.push (.tup [.ref 6,.bool false])):=fun l=>rfl
  clear aA
  generalize pA:σ.push (.tup [.ref 6,.bool false])=τ at hτ tA
  have g5:τ.get 5=some (.sdict (mkv w.m)):=hτ.c5.1
  have g6:=hτ.F.f6
  have w1:=hτ.wd
  have C:=o.con0
  rcases t0 hτ.F hτ.gs (hτ.X0 o.x0) C w.m.isG with h0q | h0q
  · obtain ⟨hd,σ1,e1,s1⟩:=h0q
    have h1:=hτ.same s1
    have g5':=h1.c5.1
    have g6':=h1.F.f6
    have w2:=h1.wd
    have due:=sL h1.cNow.1 h1.cNow.2.1 C.f3 C.t4 w.m.isG
    rw [bz,hd,if_neg (by decide)] at due
    have h2:=h1.push (.list [.int 1000000,.int 0,.int 0,.int 1000000,.int 0,.int 0])
    have aB:∀ l,cV (.list [.int 1000000,.int 0,.int 0,.int 1000000,.int 0,.int 0]) l σ1=some (.ok (.ref σ1.next),l,σ1.push (.list [.int 1000000,.int 0,.int 0,.int 1000000,.int 0,.int 0])):=fun l=>rfl
    have tB:(σ1.push (.list [.int 1000000,.int 0,.int 0,.int 1000000,.int 0,.int 0])).get σ1.next=some (.list [.int 1000000,.int 0,.int 0,.int 1000000,.int 0,.int 0]):=if_pos rfl
    have lB:σ1.next<(σ1.push (.list [.int 1000000,.int 0,.int 0,.int 1000000,.int 0,.int 0])).next:=by simp [St.push]
    clear aB
    generalize pB:σ1.push (.list [.int 1000000,.int 0,.int 0,.int 1000000,.int 0,.int 0])=σ2 at h2 tB lB
    have e3:=DN tB (by simp) lB
    rw [bz] at e3
    have h3:=h2.same (Sm.ov σ2 [] (newO σ2.next [.int 1000000,.int 0,.int 0,.int 1000000,.int 0,.int 0] 0 false))
    have G3:GAt (ov σ2 [] (newO σ2.next [.int 1000000,.int 0,.int 0,.int 1000000,.int 0,.int 0] 0 false)) (σ2.next+1) σ2.next (newR σ2.next 0 false):=⟨bL (k:=1) rfl,eS (k:=1) (by simp [newO]),bL (k:=0) rfl,eS (k:=0) (by simp [newO])⟩
    have X3:AuxAt (ov σ2 [] (newO σ2.next [.int 1000000,.int 0,.int 0,.int 1000000,.int 0,.int 0] 0 false)) (newR σ2.next 0 false) (newX σ2.next [.int 1000000,.int 0,.int 0,.int 1000000,.int 0,.int 0]):=by
      refine ⟨bL (k:=2) rfl,by simp [newX],eS (k:=2) (by simp [newO]),bL (k:=4) rfl,eS (k:=4) (by simp [newO]),bL (k:=3) rfl,eS (k:=3) (by simp [newO]),bL (k:=5) rfl,eS (k:=5) (by simp [newO]),by simp [newX],bL (k:=6) rfl,by simp [newX],eS (k:=6) (by simp [newO]),bL (k:=7) rfl,by simp [newX],eS (k:=7) (by simp [newO]),bL (k:=8) rfl,by simp [newX],eS (k:=8) (by simp [newO])⟩
    have n2:=h2.F.hn
    generalize ov σ2 [] (newO σ2.next [.int 1000000,.int 0,.int 0,.int 1000000,.int 0,.int 0] 0 false)=σ3 at e3 h3 G3 X3
    obtain ⟨σ4,lv,e4,h4,s4,hlv⟩:=we h3 o hn (c:=0) (by omega) (by omega)
    have n91:∀ i,91≤i→i ∉ [5,9]:=fun i hi=>nin rfl hi
    have G4:=G3.go s4 (n91 _ (iA n2 1)) (n91 _ n2)
    have X4:=X3.go s4 fun i hi=>n91 i (DW n2 i hi)
    have e5:=Bb G4 X4 (w.m.lastB+1) w.m.isG
    rw [bz] at e5
    have h5:=h4.same (Sm.ov σ4 [] (fU (newR σ2.next 0 false) (newX σ2.next [.int 1000000,.int 0,.int 0,.int 1000000,.int 0,.int 0]) σ4.next (w.m.lastB+1) w.m.isG))
    have n5:(ov σ4 [] (fU (newR σ2.next 0 false) (newX σ2.next [.int 1000000,.int 0,.int 0,.int 1000000,.int 0,.int 0]) σ4.next (w.m.lastB+1) w.m.isG)).next=σ4.next+17:=rfl
    have e6:=sZ (ov σ4 [] (fU (newR σ2.next 0 false) (newX σ2.next [.int 1000000,.int 0,.int 0,.int 1000000,.int 0,.int 0]) σ4.next (w.m.lastB+1) w.m.isG)) (σ4.next+1)
    rw [n5,ov_ov] at e6
    have h6:=h4.same (Sm.ov σ4 [] (fU (newR σ2.next 0 false) (newX σ2.next [.int 1000000,.int 0,.int 0,.int 1000000,.int 0,.int 0]) σ4.next (w.m.lastB+1) w.m.isG++[.sdict [(1,.str 63),(2,.ref (σ4.next+1)),(3,.bool false),(4,.int 3)],.inst 84 (σ4.next+17)]))
    have e7:=fun l l0 l2 l4=>yR h6 (l:=l) (tid:=σ4.next+18) l0 l2 l4
    have n6:(ov σ4 [] (fU (newR σ2.next 0 false) (newX σ2.next [.int 1000000,.int 0,.int 0,.int 1000000,.int 0,.int 0]) σ4.next (w.m.lastB+1) w.m.isG++[.sdict [(1,.str 63),(2,.ref (σ4.next+1)),(3,.bool false),(4,.int 3)],.inst 84 (σ4.next+17)])).next=σ4.next+19:=rfl
    rw [n6] at e7
    simp only [ov_ov] at e7
    have hSO:(fU (newR σ2.next 0 false) (newX σ2.next [.int 1000000,.int 0,.int 0,.int 1000000,.int 0,.int 0]) σ4.next (w.m.lastB+1) w.m.isG++[.sdict [(1,.str 63),(2,.ref (σ4.next+1)),(3,.bool false),(4,.int 3)],.inst 84 (σ4.next+17)])++[.sdict [(57,.ref (σ4.next+18)),(7,.bool (w.roomed σ3.next 0 lv).m.isG),(58,.ref (σ4.next+19+1))],.list (cl (w.roomed σ3.next 0 lv).c0)]=mC w σ2.next σ4.next:=rfl
    rw [hSO] at e7
    have h7:=h4.same (Sm.ov σ4 [] (mC w σ2.next σ4.next))
    have h8:=Aq h4 w σ2.next
    have e8:∀ l,bI [.ref w.stL,.ref (σ4.next+19)] l (ov σ4 [] (mC w σ2.next σ4.next))=some (.ok .none,l,ov σ4 [((w.roomed σ3.next 0 lv).stL,.list (((w.roomed σ3.next 0 lv).st++[newS w σ2.next σ4.next]).map fun s=>.ref s.sid))] (mC w σ2.next σ4.next)):=fun l=>by
      have c:=h7.cStL.1
      have c':(ov σ4 [] (mC w σ2.next σ4.next)).get w.stL=some (.list (w.st.map fun s=>.ref s.sid)):=c
      have ll:=h4.cStL.2.1
      have ll':w.stL<σ4.next:=ll
      have hlen:w.st.length<2000:=by have:=o.l1; omega
      simp only [bI,c',List.length_map,hlen,if_true]
      rw [bF ll']
      simp [upU,WG.roomed,newS]
    have w7:(ov σ4 [] (mC w σ2.next σ4.next)).get 86=some (.sdict (wkv w.now w.stL)):=h7.wd
    have n4:91≤σ4.next:=h4.F.hn
    have S1:(newS w σ2.next σ4.next).sid=σ4.next+19:=rfl
    have S2:(newS w σ2.next σ4.next).gd=σ4.next:=rfl
    have S3:(newS w σ2.next σ4.next).r.glob=w.m.isG:=rfl
    have S4:(newS w σ2.next σ4.next).r.num=w.m.lastB+1:=rfl
    have S5:(newS w σ2.next σ4.next).lev=w.sv.length:=rfl
    have S6:(newS w σ2.next σ4.next).c=w.c0:=rfl
    have S7:(newS w σ2.next σ4.next).x.ok:=by simp [newS,Aux.ok,Aux.cp,newX]
    generalize newS w σ2.next σ4.next=S at h8 e8 S1 S2 S3 S4 S5 S6 S7
    generalize ov σ4 [((w.roomed σ3.next 0 lv).stL,.list (((w.roomed σ3.next 0 lv).st++[S]).map fun s=>.ref s.sid))] (mC w σ2.next σ4.next)=σ8 at h8 e8
    have hk:((w.roomed σ3.next 0 lv).more S).st[w.st.length]?=some S:=by
      show (w.st++[S])[w.st.length]?=some S
      simp
    have md:=Ok.made o (tp:=σ3.next) (lv:=lv) (s:=S)
    have mdn:((w.roomed σ3.next 0 lv).md.map (·.k)).Nodup:=o.mdn1 rfl
    have fl:=qp h8 S7 (fun q=>by have:=q.2; rw [S5] at this; exact absurd this (Nat.lt_irrefl _)) (by rw [S2]; exact n4) ⟨⟨w.m.lastB+1,σ3.next,0,w.m.isG,lv⟩,List.mem_append_right _ (by simp),S4.symm,S3.symm,fun q=>by rw [S5]; exact hlv (S3▸q)⟩ mdn (by have:=o.l2; show w.jr.length<900; omega) o.l4 o.svn hk (b:=70) (db:=69) h8.gs (h8.X0 o.x0) o.con0 h8.auxM0 (fun q=>by rw [S2] at q; omega) (by decide) (by decide)
    rw [S3] at fl
    rcases fl with h0q | h0q
    · obtain ⟨hd',_⟩:=h0q
      rw [hd] at hd'; cases hd'
    · obtain ⟨_,σ9,r',x',js,e9,h9,s9,f1,f2,f3,f4,f5⟩:=h0q
      have hjs:js=[]:=by
        rcases f5 with h0q | h0q
        · obtain ⟨q,_⟩:=h0q
          exact q
        · obtain ⟨⟨_,q⟩,_⟩:=h0q
          rw [S5] at q; exact absurd q (Nat.lt_irrefl _)
      subst hjs
      have hw:((w.roomed σ3.next 0 lv).more S).filled w.st.length S r' x' []={ w.roomed σ3.next 0 lv with st:=w.st++[{ S with r:=r',x:=x' }] }:=by
        simp [WG.filled,WG.more,WG.roomed,List.set_append]
      rw [hw] at h9
      refine ⟨σ9,_,_,?_,h9,Ok.made o (tp:=σ3.next) (lv:=lv) (s:={ S with r:=r',x:=x' }) f1 (by show Con r' x' S.c; rw [S6]; exact f4) (by show 91≤S.gd; rw [S2]; exact n4) (by show 91≤S.sid; rw [S1]; omega) (f2.trans S4) f3 S5 hlv _ rfl,rfl⟩
      rw [S1] at e9
      have k3:=h3.F.f6
      have k3':=h3.c5.1
      have m7:(ov σ4 [] (mC w σ2.next σ4.next)).get w.stL=some (.list (w.st.map fun s=>.ref s.sid)):=h7.cStL.1
      have k5:=h4.c5.1
      have k6:=h4.F.f6
      have a1:=G3.i
      have a2:=G3.o
      have w8:=h8.wd
      have g7:lk (mkv (w.roomed σ3.next 0 lv).m) 7=some (.bool w.m.isG):=rfl
      have e7':pz (eJ (ret (.str 57)) (ac 4) (eJ (ret (.str 7)) (aw cs9 7 (ac 2)) (eJ (ret (.str 58)) (au (ah (aO (ac 0) (ret (.str 55))) aq) du) rU))) (upL (upL (upL (cY [.ref 86]) 3 (.bool false)) 2 (.ref 6)) 4 (.ref (σ4.next+18))) (ov σ4 [] (fU (newR σ2.next 0 false) (newX σ2.next [.int 1000000,.int 0,.int 0,.int 1000000,.int 0,.int 0]) σ4.next (w.m.lastB+1) w.m.isG++[.sdict [(1,.str 63),(2,.ref (σ4.next+1)),(3,.bool false),(4,.int 3)],.inst 84 (σ4.next+17)]))=some (.ok (.ref (σ4.next+19)),_,ov σ4 [] (mC w σ2.next σ4.next)):=e7 _ rfl rfl rfl
      have e6':d7 [.ref (σ4.next+1)] (ov σ4 [] (fU (newR σ2.next 0 false) (newX σ2.next [.int 1000000,.int 0,.int 0,.int 1000000,.int 0,.int 0]) σ4.next (w.m.lastB+1) w.m.isG))=some (.ok (.ref (σ4.next+18)),_):=e6
      clear e6 e7
      exact (Eq.trans (br rfl (av (ly (cL (af (aF (aa rfl) (ag _) (aM w0 rfl)) (af (ag _) am)) rfl pA) (cT tA rfl) (aS be (aS be dq))) (av (vX (ca (ba (af (ao (aa rfl) g6 rfl g5 g7) (af (aF (aa rfl) (ag _) (aM w1 rfl)) am)) e1))) (av (bc (aE (aa rfl) (cX (ba (af (ao (aa rfl) g6' rfl g5' g7) (af (aF (aa rfl) (ag _) (aM w2 rfl)) am)) due) (ag _) rfl) rfl) (ag _)) (jW (dm (jd (bj (aa rfl)) rfl) (av (cU (ba (af (bV (ba (af (fC (af (ag _) (af (ag _) (af (ag _) (af (ag _) (af (ag _) (af (ag _) am)))))) rfl pB) (af (ag _) am)) e3) a1 a2 (af (bV (aa rfl) k3 k3' (af (ag _) am) e4) (af (ao (aa rfl) k6 rfl k5 g7) am)) e5) am) e6')) (av (cU e7') (av (ca (lz (aF (aa rfl) (ag _) (aM w7 rfl)) m7 (af (aa rfl) am) (e8 _))) (aY (cX (ba (af (aa rfl) (af (aa rfl) (af (aF (aa rfl) (ag _) (aM w8 rfl)) am))) e9) (ag _) rfl))))))))))) rfl)
  · obtain ⟨hd,σ1,e,d,e1,s1,x1,x2⟩:=h0q
    have h1:=hτ.same s1
    have g5':=h1.c5.1
    have g6':=h1.F.f6
    have w2:=h1.wd
    have due:=sL h1.cNow.1 h1.cNow.2.1 C.f3 C.t4 w.m.isG
    rw [bz,hd,if_pos rfl] at due
    have hl:0<w.st.length:=by
      rcases h0 with h0 | h0
      · exact h0
      · rw [h0] at hd; simp [kw] at hd
    refine ⟨σ1,mt,w,?_,h1,o.up hl,rfl⟩
    exact (Eq.trans (br rfl (av (ly (cL (af (aF (aa rfl) (ag _) (aM w0 rfl)) (af (ag _) am)) rfl pA) (cT tA rfl) (aS be (aS be dq))) (av (uT (jX (sz (af (ao (aa rfl) g6 rfl g5 rfl) (af (aF (aa rfl) (ag _) (aM w1 rfl)) am)) e1)) x1 (cU (cX (uU (aa rfl) x1 x2 rfl) (ag _) rfl))) (av (bc (aE (aa rfl) (cX (ba (af (ao (aa rfl) g6' rfl g5' rfl) (af (aF (aa rfl) (ag _) (aM w2 rfl)) am)) due) (ag _) rfl) rfl) (ag _)) (av (bc (jd (bj (aa rfl)) rfl) (ag _)) (aY (ag _))))))) rfl)
end Lw
end SP22
section SP23
set_option maxHeartbeats 4000000
namespace Lw
open St
noncomputable def keptL (st:List SG) (n:Nat):List (Nat×C3):=st.zipIdx.map fun p=>(n+p.2,p.1.c)
theorem lI (st:List SG) (n:Nat):(keptL st n).length=st.length:=by simp [keptL]
theorem qu {st:List SG} {n i:Nat} {s:SG} (h:st[i]?=some s):(keptL st n)[i]?=some (n+i,s.c):=by
  simp [keptL,List.getElem?_zipIdx,h]
noncomputable def rG:M AV:=au (ah (aO (ac 0) (ret (.str 58))) aq) du
noncomputable def keptO (st:List SG) (n p:Nat):List AO:=.list (((keptL st (n+1)).take p).map fun q=>AV.ref q.1)::((keptL st (n+1)).take p).map fun q=>AO.list (cl q.2)
theorem vh {st:List SG} {n p:Nat} {s:SG} (h:st[p]?=some s) :
    keptO st n (p+1)=.list ((((keptL st (n+1)).take p).map fun q=>AV.ref q.1)++[.ref (n+1+p)])::((((keptL st (n+1)).take p).map fun q=>AO.list (cl q.2))++[.list (cl s.c)]):=by
  have hk:=qu (n:=n+1) h
  have e:(keptL st (n+1)).take (p+1)=(keptL st (n+1)).take p++[(n+1+p,s.c)]:=by
    rw [List.take_add_one,hk]; rfl
  simp only [keptO,e,List.map_append,List.map_cons,List.map_nil]
theorem xa {σ:St} {w:WG} (t1:σ.get w.stL=some (.list (w.st.map fun s=>.ref s.sid))) (t2:w.stL<σ.next) (hd:∀ s∈w.st,σ.get s.sid=some (.sdict [(57,.ref s.tid),(7,.bool s.r.glob),(58,.ref s.cid)])∧s.sid<σ.next) (hcc:∀ s∈w.st,σ.get s.cid=some (.list (cl s.c))∧s.cid<σ.next) (hl:w.st.length<900):∀ (m p N:Nat) (l:Loc),p+m=w.st.length→m<N →
    dT w.stL σ.next (ret true) rG N p l (ov σ [] (keptO w.st σ.next p))=some (ov σ [] (keptO w.st σ.next w.st.length)):=by
  have hc:∀ L,(ov σ [] L).get w.stL=some (.list (w.st.map fun s=>.ref s.sid)):=fun L=>by rw [bb t2]; exact t1
  intro m
  induction m with
  | zero =>
    intro p N l e hN
    obtain ⟨N,rfl⟩:∃ k,N=k+1:=⟨N - 1,by omega⟩
    have:(w.st.map fun s=>AV.ref s.sid)[p]?=none:=by rw [List.getElem?_eq_none_iff,List.length_map]; omega
    have hp:p=w.st.length:=by omega
    rw [hp] at this ⊢
    simp only [dT,bH,hc,this,Option.map_none]
  | succ m ih =>
    intro p N l e hN
    obtain ⟨N,rfl⟩:∃ k,N=k+1:=⟨N - 1,by omega⟩
    have hp:p<w.st.length:=by omega
    have hg:w.st[p]?=some w.st[p]:=List.getElem?_eq_getElem hp
    have hs:w.st[p]∈w.st:=List.getElem_mem hp
    have hi:(w.st.map fun s=>AV.ref s.sid)[p]?=some (.ref w.st[p].sid):=by rw [List.getElem?_map,hg]; rfl
    obtain ⟨d1,d2⟩:=hd _ hs
    obtain ⟨c1,c2⟩:=hcc _ hs
    have tl:((keptL w.st (σ.next+1)).take p).length=p:=by rw [List.length_take,lI]; omega
    have hO:(keptO w.st σ.next p).length=p+1:=by simp only [keptO,List.length_cons,List.length_map,tl]
    have d1':(ov σ [] (keptO w.st σ.next p)).get w.st[p].sid=some (.sdict [(57,.ref w.st[p].tid),(7,.bool w.st[p].r.glob),(58,.ref w.st[p].cid)]):=by rw [bb d2]; exact d1
    have c1':(ov σ [] (keptO w.st σ.next p)).get w.st[p].cid=some (.list (cl w.st[p].c)):=by rw [bb c2]; exact c1
    have ev:rG (lR l 0 (.ref w.st[p].sid)) (ov σ [] (keptO w.st σ.next p))=some (.ok (.ref (σ.next+(p+1))),lR l 0 (.ref w.st[p].sid),ov σ [] (keptO w.st σ.next p++[.list (cl w.st[p].c)])):=by
      have q:=sT d1' (k:=58) rfl
      simp only [rG,ah,aq,aO,au,ret,ac,lR,if_true,q,look,List.find?,List.map]
      simp [du,c1',cl,gx,hO,dx]
    have ap:∀ l,bI [.ref σ.next,.ref (σ.next+(p+1))] l (ov σ [] (keptO w.st σ.next p++[.list (cl w.st[p].c)]))=some (.ok .none,l,ov σ [] (keptO w.st σ.next (p+1))):=fun l=>by
      have e0:(ov σ [] (keptO w.st σ.next p++[.list (cl w.st[p].c)])).get σ.next=some (.list (((keptL w.st (σ.next+1)).take p).map fun q=>AV.ref q.1)):=oY
      have hlen:(((keptL w.st (σ.next+1)).take p).map fun q=>AV.ref q.1).length<2000:=by rw [List.length_map,tl]; omega
      simp only [bI,e0,hlen,if_true]
      rw [vh hg,show σ.next+1+p=σ.next+(p+1) by omega]
      have:(ov σ [] (keptO w.st σ.next p++[.list (cl w.st[p].c)]))=ov σ [] (.list (((keptL w.st (σ.next+1)).take p).map fun q=>AV.ref q.1)::((((keptL w.st (σ.next+1)).take p).map fun q=>AO.list (cl q.2))++[.list (cl w.st[p].c)])):=rfl
      rw [this,jb]
    have:=ih (p+1) N l (by omega) (by omega)
    simp only [dT,bH,hc,hi,Option.map_some,ret,ev,ap]
    have e2:∀ l',dT w.stL σ.next (ret true) rG N (p+1) l' (ov σ [] (keptO w.st σ.next (p+1)))=some (ov σ [] (keptO w.st σ.next w.st.length)):=fun l'=>ih (p+1) N l' (by omega) (by omega)
    exact e2 _
end Lw
end SP23
section SP24
set_option maxHeartbeats 4000000
namespace Lw
open St
theorem Ar (σ:St) (a b c:Int):cN 500 eO [.int a,.int b,.int c,.none] σ=some (.ok (.ref (σ.next+1)),ov σ [] [.sdict [(5,.int a),(13,.int b),(42,.int c),(43,.none)],.inst 500 σ.next]):=by
  have key:cN 500 eO [.int a,.int b,.int c,.none] (ov σ [] [])=some (.ok (.ref (σ.next+1)),ov σ [] [.sdict [(5,.int a),(13,.int b),(42,.int c),(43,.none)],.inst 500 σ.next]):=by
    exact (Eq.trans (sB co co (dy rfl (av (dA (aa rfl) (aa rfl) (gM rfl) rfl (ce rfl) rfl (f0 rfl)) (av (dA (aa rfl) (aa rfl) (gM rfl) rfl (ce rfl) rfl (f0 rfl)) (av (dA (aa rfl) (aa rfl) (gM rfl) rfl (ce rfl) rfl (f0 rfl)) (dA (aa rfl) (aa rfl) (gM rfl) rfl (ce rfl) rfl (f0 rfl))))))) rfl)
  rwa [bz] at key
theorem As {σ:St} (F:Fx σ) {m:MR} {svs:List AV} (A:MAt σ m svs) (hs:svs.length≤3) {js:List AV} (h8:σ.get 8=some (.list js)) (hj:js.length<1000) :
    eP [.ref 6] σ=some (.ok (.int (m.lastS+1)),ov σ [(5,.sdict (mkv { m with lastS:=m.lastS+1 })),(m.sv,.list (svs++[.ref (σ.next+1)]))] [.sdict [(5,.int (m.lastS+1)),(13,.int js.length),(42,.int m.used),(43,.none)],.inst 500 σ.next]):=by
  have k:=qo F A
  rw [bz] at k
  obtain ⟨a1,a2,a3,a4,a5,a6,a7⟩:=A
  have g5:∀ σ,dk σ .GtE (.int svs.length) (.int 15)=some false:=fun _=>congrArg some (decide_eq_false (by omega))
  have l5:=F.lt 5 (by decide)
  have sA:∀ l,kq cs9 50 (.ref 6) (.int (m.lastS+1)) l σ=some (.ok (),l,ov σ [(5,.sdict (mkv { m with lastS:=m.lastS+1 }))] []):=fun l=>by
    have f6:=F.f6
    have:=bF l5 [] [] (.sdict (mkv { m with lastS:=m.lastS+1 }))
    rw [bz] at this
    exact lw f6 rfl a1 rfl this
  have n1:(ov σ [(5,.sdict (mkv { m with lastS:=m.lastS+1 }))] []).next=σ.next:=rfl
  have vm:=Ar (ov σ [(5,.sdict (mkv { m with lastS:=m.lastS+1 }))] []) (m.lastS+1) js.length m.used
  rw [n1,ov_ov,List.nil_append] at vm
  have c8:(ov σ [(5,.sdict (mkv { m with lastS:=m.lastS+1 }))] []).get 8=some (.list js):=by rw [bb (F.lt 8 (by decide))]; exact h8
  have lj:=ie c8 hj
  have cs:(ov σ [(5,.sdict (mkv { m with lastS:=m.lastS+1 }))] []).get m.sv=some (.list svs):=by rw [bb a3,gU,if_neg (Ne.symm a5)]; exact a2
  have c5:(ov σ [(5,.sdict (mkv { m with lastS:=m.lastS+1 }))] []).get 5=some (.sdict (mkv { m with lastS:=m.lastS+1 })):=by rw [bb l5,gU,if_pos rfl]
  have c6:(ov σ [(5,.sdict (mkv { m with lastS:=m.lastS+1 }))] []).get 6=some (.inst 781 5):=by rw [bb (F.lt 6 (by decide))]; exact F.f6
  have ap:∀ l,bI [.ref m.sv,.ref (σ.next+1)] l (ov σ [(5,.sdict (mkv { m with lastS:=m.lastS+1 }))] [.sdict [(5,.int (m.lastS+1)),(13,.int js.length),(42,.int m.used),(43,.none)],.inst 500 σ.next])=some (.ok .none,l,ov σ [(5,.sdict (mkv { m with lastS:=m.lastS+1 })),(m.sv,.list (svs++[.ref (σ.next+1)]))] [.sdict [(5,.int (m.lastS+1)),(13,.int js.length),(42,.int m.used),(43,.none)],.inst 500 σ.next]):=fun l=>by
    have:(ov σ [(5,.sdict (mkv { m with lastS:=m.lastS+1 }))] [.sdict [(5,.int (m.lastS+1)),(13,.int js.length),(42,.int m.used),(43,.none)],.inst 500 σ.next]).get m.sv=some (.list svs):=by rw [bb a3,gU,if_neg (Ne.symm a5)]; exact a2
    have hl:svs.length<2000:=by omega
    exact rx this (jT hl) (by rw [bF a3,upU,if_neg (Ne.symm a5)]; rfl)
  have d5:(ov σ [(5,.sdict (mkv { m with lastS:=m.lastS+1 })),(m.sv,.list (svs++[.ref (σ.next+1)]))] [.sdict [(5,.int (m.lastS+1)),(13,.int js.length),(42,.int m.used),(43,.none)],.inst 500 σ.next]).get 5=some (.sdict (mkv { m with lastS:=m.lastS+1 })):=by rw [bb l5,gU,if_pos rfl]
  have d6:(ov σ [(5,.sdict (mkv { m with lastS:=m.lastS+1 })),(m.sv,.list (svs++[.ref (σ.next+1)]))] [.sdict [(5,.int (m.lastS+1)),(13,.int js.length),(42,.int m.used),(43,.none)],.inst 500 σ.next]).get 6=some (.inst 781 5):=by
    rw [bb (F.lt 6 (by decide)),gU,if_neg (by decide),gU,if_neg]; exact F.f6
    intro e; rw [e,F.f6] at a2; cases a2
  have f6:=F.f6
  have f4:=F.f4
  have f3:=F.f3
  generalize ov σ [(5,.sdict (mkv { m with lastS:=m.lastS+1 })),(m.sv,.list (svs++[.ref (σ.next+1)]))] [.sdict [(5,.int (m.lastS+1)),(13,.int js.length),(42,.int m.used),(43,.none)],.inst 500 σ.next]=σ3 at ap d5 d6 ⊢
  generalize ov σ [(5,.sdict (mkv { m with lastS:=m.lastS+1 }))] [.sdict [(5,.int (m.lastS+1)),(13,.int js.length),(42,.int m.used),(43,.none)],.inst 500 σ.next]=σ2 at vm ap
  generalize ov σ [(5,.sdict (mkv { m with lastS:=m.lastS+1 }))] []=σ1 at sA vm lj cs c5 c6 c8
  exact (Eq.trans (br rfl (av (bc (aE (m0 (aa rfl) f6 a1 k) (ao (ao (aa rfl) f6 rfl a1 rfl) f4 rfl f3 rfl) (g5 _)) (ag _)) (av (jc (dg (ao (aa rfl) f6 rfl a1 rfl) (ag _) rt) (aa rfl) (sA _)) (av (ca (lz (ao (aa rfl) c6 rfl c5 rfl) cs (af (ba (af (ao (aa rfl) c6 rfl c5 rfl) (af (bB (af (ao (aa rfl) c6 rfl c5 rfl) am) (lj _)) (af (ao (aa rfl) c6 rfl c5 rfl) (af (aa rfl) am)))) vm) am) (ap _))) (aY (ao (aa rfl) d6 rfl d5 rfl)))))) rfl)
end Lw
end SP24
section SP25
set_option maxHeartbeats 4000000
namespace Lw
open St
noncomputable def WG.saved (w:WG) (v:VG):WG:={ w with m:={ w.m with lastS:=w.m.lastS+1 },sv:=w.sv++[v],tl:=w.tl++[v.tup] }
theorem At.sv90 {σ:St} {mt:Nat→Bool} {w:WG} (_:At σ mt w) (hn:w.m.sv=7∨91≤w.m.sv):w.m.sv≠90∧w.m.sv≠5:=by omega
theorem yS {σ σ':St} {mt:Nat→Bool} {w:WG} {v:VG} (h:At σ mt w) (sm:Sm [5,w.m.sv,90] σ σ') (h5:σ'.get 5=some (.sdict (mkv { w.m with lastS:=w.m.lastS+1 }))) (hs:σ'.get w.m.sv=some (.list ((w.sv++[v]).map fun v=>.ref v.vi))) (h90:σ'.get 90=some (.list ((w.tl++[v.tup]).map AV.ref)))
    (hf:∀ p∈vF v,σ'.get p.1=some p.2∧p.1<σ'.next∧σ.next≤p.1):At σ' (mtN mt σ.next) (w.saved v):=by
  obtain ⟨s1,s2,s3⟩:=h.cSv
  have l5:=h.F.lt 5 (by decide)
  have l90:=h.F.lt 90 (by decide)
  exact At.to3 (D:=[5,w.m.sv,90]) [(5,.sdict (mkv { w.m with lastS:=w.m.lastS+1 })),(w.m.sv,.list ((w.sv++[v]).map fun v=>.ref v.vi)),(90,.list ((w.tl++[v.tup]).map AV.ref))] h sm (fun i hi=>cW hi) rfl (dv w) (eZ w) same same
    (fun u hu=>(List.mem_append.mp hu).imp id fun hu p hp=>by
      cases List.mem_singleton.mp hu
      exact let ⟨a,b,c⟩:=hf p hp; ⟨a,b,lG c⟩)
    (ch ⟨inM (k:=1) rfl,h5,Nat.lt_of_lt_of_le l5 sm.1,(cW l5).trans h.c5.2.2⟩ (ch ⟨inM (k:=11) rfl,hs,Nat.lt_of_lt_of_le s2 sm.1,(cW s2).trans s3⟩ (df ⟨inM (k:=8) rfl,h90,Nat.lt_of_lt_of_le l90 sm.1,(cW l90).trans h.c90.2.2⟩)))
    (ch ⟨h.c5.2.2,mi (i:=0) rfl⟩ (ch ⟨s3,mi (i:=1) rfl⟩ (df ⟨h.c90.2.2,mi (i:=2) rfl⟩)))
    (.keep (.new (mi (i:=0) rfl) (.keep (.keep (.keep (.keep (.keep (.keep (.new (mi (i:=2) rfl) (.keep (.keep (.new (mi (i:=1) rfl) .nil)))))))))))) (fD w) h.nd
theorem s6 {α:Type} {l:List α} {a t:α} {i:Nat} (e:(l++[a])[i]?=some t):(i<l.length∧l[i]?=some t)∨(i=l.length∧t=a):=by
  by_cases q:i<l.length
  · rw [List.getElem?_append_left q] at e; exact .inl ⟨q,e⟩
  · rw [List.getElem?_append_right (by omega)] at e
    have hi:i - l.length<1:=by have:=(List.getElem?_eq_some_iff.mp e).1; simpa using this
    have:i=l.length:=by omega
    subst this
    simp at e
    exact .inr ⟨rfl,e.symm⟩
theorem Ok.saved {w:WG} {n:Nat} (o:Ok w n) (h0:0<w.st.length) (hl:w.sv.length<3) {v:VG} {b:Nat} (h1:v.num=w.m.lastS+1) (h2:v.many=w.jr.length) (h3:v.used=w.m.used) (h4:v.kept=keptL w.st b):Ok (w.saved v) (n+1):=by
  have u:=o.up h0
  have kl:v.kept.length=w.st.length:=by rw [h4,lI]
  exact {
    x0:=o.x0
    con0:=o.con0
    xs:=o.xs
    st:=o.st
    num:=o.num
    mdn:=o.mdn
    mdb:=o.mdb
    jr:=o.jr
    l1:=u.l1
    l2:=u.l2
    l3:=u.l3
    l4:=by show (w.sv++[v]).length≤3; simp; omega
    s0:=fun _=>h0
    u1:=u.u1
    u2:=u.u2
    u3:=fun t ht=>by
      rcases List.mem_append.mp ht with ht | ht
      · exact u.u3 t ht
      · rw [List.mem_singleton] at ht; subst ht; rw [h3]; exact u.u1
    n1:=by
      show ((w.sv++[v]).map (·.num)).Pairwise (·<·)
      rw [List.map_append,List.pairwise_append]
      refine ⟨o.n1,by simp,fun x hx y hy=>?_⟩
      obtain ⟨z,hz,rfl⟩:=List.mem_map.mp hx
      have:=o.n2 z hz
      simp at hy
      omega
    n2:=fun t ht=>by
      show t.num≤w.m.lastS+1
      rcases List.mem_append.mp ht with ht | ht
      · have:=o.n2 t ht; omega
      · rw [List.mem_singleton] at ht; subst ht; omega
    k1:=fun t ht=>by
      rcases List.mem_append.mp ht with ht | ht
      · exact o.k1 t ht
      · rw [List.mem_singleton] at ht; subst ht
        refine ⟨Nat.le_of_eq h2,Nat.le_of_eq kl,fun p hp=>?_⟩
        rw [h4] at hp
        simp only [keptL,List.mem_map] at hp
        obtain ⟨⟨s,i⟩,hs,rfl⟩:=hp
        have hs':s∈w.st:=(List.mem_zipIdx hs).2.2▸List.getElem_mem _
        obtain ⟨_,c,_,_⟩:=o.st s hs'
        exact ⟨c.f3,c.t4⟩
    k2:=by
      show (w.sv++[v]).Pairwise _
      rw [List.pairwise_append]
      refine ⟨o.k2,by simp,fun x hx y hy=>?_⟩
      obtain ⟨a,b,_⟩:=o.k1 x hx
      rw [List.mem_singleton] at hy; subst hy
      exact ⟨by omega,by omega⟩
    lev:=fun i s p t hs hg ht=>by
      rcases s6 ht with h0q | h0q
      · obtain ⟨_,ht⟩:=h0q
        exact o.lev i s p t hs hg ht
      · obtain ⟨rfl,rfl⟩:=h0q
        have hi:i<w.st.length:=(List.getElem?_eq_some_iff.mp hs).1
        have:=o.lev' s (aR hs) hg
        rw [kl]
        exact ⟨fun _=>this,fun _=>hi⟩
    lev':=fun s hs hg=>by have:=o.lev' s hs hg; show s.lev≤(w.sv++[v]).length; simp; omega
    K:=fun t ht i s p hs hg hp=>by
      rcases List.mem_append.mp ht with ht | ht
      · exact o.K t ht i s p hs hg hp
      · rw [List.mem_singleton] at ht; subst ht
        rw [h4,qu (st:=w.st) hs] at hp
        cases hp
        show jy (w.jr.drop t.many) i s.c=s.c
        rw [h2,List.drop_length]; rfl
    J:=fun q jid k gid ci cd r x c hq t ht hlt=>by
      rcases List.mem_append.mp ht with ht | ht
      · exact o.J q jid k gid ci cd r x c hq t ht hlt
      · rw [List.mem_singleton] at ht; subst ht
        obtain ⟨_,_,s,hs,_⟩:=o.jr jid k gid ci cd r x c (aR hq)
        rw [kl]; exact (List.getElem?_eq_some_iff.mp hs).1
    svn:=o.svn
    nown:=o.nown
    stn:=o.stn
    a39:=o.a39
    a66:=o.a66
    kp:=fun t ht=>by
      rcases List.mem_append.mp ht with ht | ht
      · exact o.kp t ht
      · rw [List.mem_singleton] at ht; subst ht; rw [kl]; exact h0
    tls:=by show w.tl++[v.tup]=(w.sv++[v]).map _; rw [List.map_append,o.tls]; rfl
    ji:=o.ji }
end Lw
end SP25
section SP26
set_option maxHeartbeats 4000000
namespace Lw
open St
noncomputable def yT:M AF:=ifX (bA .NotEq (ac 3) (dJ aq)) (ay (nq 2 (bmE .list pg (ac 3) aq) (bq (bU 5) (bq (bU 6) ff)))
  (ay (nl (ac 2) 7 8 (ifX (bA .NotEq (bT 781 b9 (ac 4) (ah (ac 5) (ah (aO (ac 8) (ret (.str 57))) aq))) (lQ (eG .GtE (ac 7) (au (ah (ac 6) aq) em)) (o8 (aO (ac 8) (ret (.str 7)))))) (cu (ret (.bool false))) (ret .next)) 100)
  (ay (bS (bT 781 cS (ac 4) (ah (ac 5) aq)))
  (ay (wz (ac 2) (ac 6) 8 9 (dw (ac 8) (ret (.str 58)) (ifE (asB (aO (ac 8) (ret (.str 7)))) (aO (ac 8) (ret (.str 58))) (ac 9))) 100)
  (dw (ac 0) (ret (.str 56)) (fH .Add (pb (ac 2) (au (ah (ac 6) aq) em)) (kg (vz (ac 2) (au (ah (ac 6) aq) em)) (asB (aO (ac 0) (ret (.str 7)))) (ac 0) 100))))))) (ret .next)
theorem Au:fL=ay (gQ 3 (eH (ah (aO (ac 0) (ret (.str 56))) (ah (aO (ac 0) (ret (.str 34))) (ah (aO (ac 0) (ret (.str 51))) aq)))) (bq (bU 4) (bq (bU 3) (bq (bU 2) ff))))
  (ay (ifX (fW (asB (ac 1)) (fW (bA .Lt (au (ah (ac 3) aq) em) (ret (.int 3))) (ret true))) (bS (bmE .list bI (ac 3) (ah (eH (ah (bT 781 eP (ac 4) aq) (ah (kg (ac 2) (ret true) rG 100) aq))) aq))) yT)
  (cu (ret (.bool true)))):=rfl
theorem At.dis {σ:St} {mt:Nat→Bool} {w:WG} (h:At σ mt w):w.stL≠w.m.sv∧w.now≠w.stL∧w.now≠w.m.sv:=by
  have nd:=h.nd
  rw [show (mutF w).map (·.1)=[2,5,8,9,39,66,69,86,90]++w.now::w.stL::w.m.sv::(w.st.flatMap stM).map (·.1) by rw [eF,List.map_append]; rfl] at nd
  rw [List.nodup_append] at nd
  have nd:=nd.2.1
  rw [List.nodup_cons,List.nodup_cons] at nd
  refine ⟨fun e=>nd.2.1 (by rw [e]; exact List.mem_cons_self),fun e=>nd.1 (by rw [e]; exact List.mem_cons_self),fun e=>nd.1 (by rw [e]; exact List.mem_cons_of_mem _ List.mem_cons_self)⟩
theorem rH {σ:St} {mt:Nat→Bool} {w:WG} {n:Nat} (h:At σ mt w) (o:Ok w n) (hn:n≤20) (h0:0<w.st.length) (hl:w.sv.length<3) :
    ∃ σ' mt' w',bQ [.ref 86,.bool true] σ=some (.ok (.bool true),σ')∧At σ' mt' w'∧Ok w' (n+1)∧w'.at'=w.at':=by
  have l1:=o.l1
  have l2:=o.l2
  have wd:=h.wd
  have hτ:=h.push (.tup [.ref w.stL,.ref 90,.ref 6])
  have tA:(σ.push (.tup [.ref w.stL,.ref 90,.ref 6])).get σ.next=some (.tup [.ref w.stL,.ref 90,.ref 6]):=if_pos rfl
  have aA:∀ l,cV (.tup [.ref w.stL,.ref 90,.ref 6]) l σ=some (.ok (.ref σ.next),l,σ.push (.tup [.ref w.stL,.ref 90,.ref 6])):=fun l=>rfl
  clear aA
  generalize pA:σ.push (.tup [.ref w.stL,.ref 90,.ref 6])=τ at hτ tA
  have c90:τ.get 90=some (.list (w.sv.map fun v=>AV.ref v.tup)):=by have:=hτ.c90.1; rw [o.tls,List.map_map] at this; exact this
  have lv:=ie c90 (by rw [List.length_map]; omega)
  rw [List.length_map] at lv
  have sv:=As hτ.F (hτ.mAt o.svn (by omega)) (by rw [List.length_map]; omega) hτ.h8 (by rw [List.length_map]; omega)
  have F6:=hτ.F.f6
  have m5:=hτ.c5.1
  have hnum:∀ σ,dk σ .Lt (.int w.sv.length) (.int 3)=some true:=fun _=>congrArg some (decide_eq_true (by omega))
  obtain ⟨s1,s2,s3⟩:=hτ.cSv
  obtain ⟨d1,d2,d3⟩:=hτ.dis
  have svn:=o.svn
  have stn:=o.stn
  have l5:=hτ.F.lt 5 (by decide)
  have l90:=hτ.F.lt 90 (by decide)
  have lst:w.stL<τ.next:=hτ.cStL.2.1
  have S1:=Sm.ov τ [(5,.sdict (mkv { w.m with lastS:=w.m.lastS+1 })),(w.m.sv,.list ((w.sv.map fun v=>.ref v.vi)++[.ref (τ.next+1)]))] [.sdict [(5,.int (w.m.lastS+1)),(13,.int (w.jr.map fun j=>AV.ref j.jid).length),(42,.int w.m.used),(43,.none)],.inst 500 τ.next]
  have g5:(ov τ [(5,.sdict (mkv { w.m with lastS:=w.m.lastS+1 })),(w.m.sv,.list ((w.sv.map fun v=>.ref v.vi)++[.ref (τ.next+1)]))] [.sdict [(5,.int (w.m.lastS+1)),(13,.int (w.jr.map fun j=>AV.ref j.jid).length),(42,.int w.m.used),(43,.none)],.inst 500 τ.next]).get 5=some (.sdict (mkv { w.m with lastS:=w.m.lastS+1 })):=by rw [bb l5,gU,if_pos rfl]
  have gs:(ov τ [(5,.sdict (mkv { w.m with lastS:=w.m.lastS+1 })),(w.m.sv,.list ((w.sv.map fun v=>.ref v.vi)++[.ref (τ.next+1)]))] [.sdict [(5,.int (w.m.lastS+1)),(13,.int (w.jr.map fun j=>AV.ref j.jid).length),(42,.int w.m.used),(43,.none)],.inst 500 τ.next]).get w.m.sv=some (.list ((w.sv.map fun v=>.ref v.vi)++[.ref (τ.next+1)])):=by rw [bb s2,gU,if_neg (by omega),gU,if_pos rfl]
  have gd:(ov τ [(5,.sdict (mkv { w.m with lastS:=w.m.lastS+1 })),(w.m.sv,.list ((w.sv.map fun v=>.ref v.vi)++[.ref (τ.next+1)]))] [.sdict [(5,.int (w.m.lastS+1)),(13,.int (w.jr.map fun j=>AV.ref j.jid).length),(42,.int w.m.used),(43,.none)],.inst 500 τ.next]).get τ.next=some (.sdict [(5,.int (w.m.lastS+1)),(13,.int (w.jr.map fun j=>AV.ref j.jid).length),(42,.int w.m.used),(43,.none)]):=bL (k:=0) rfl
  have gi:(ov τ [(5,.sdict (mkv { w.m with lastS:=w.m.lastS+1 })),(w.m.sv,.list ((w.sv.map fun v=>.ref v.vi)++[.ref (τ.next+1)]))] [.sdict [(5,.int (w.m.lastS+1)),(13,.int (w.jr.map fun j=>AV.ref j.jid).length),(42,.int w.m.used),(43,.none)],.inst 500 τ.next]).get (τ.next+1)=some (.inst 500 τ.next):=bL (k:=1) rfl
  have n1:(ov τ [(5,.sdict (mkv { w.m with lastS:=w.m.lastS+1 })),(w.m.sv,.list ((w.sv.map fun v=>.ref v.vi)++[.ref (τ.next+1)]))] [.sdict [(5,.int (w.m.lastS+1)),(13,.int (w.jr.map fun j=>AV.ref j.jid).length),(42,.int w.m.used),(43,.none)],.inst 500 τ.next]).next=τ.next+2:=rfl
  generalize ov τ [(5,.sdict (mkv { w.m with lastS:=w.m.lastS+1 })),(w.m.sv,.list ((w.sv.map fun v=>.ref v.vi)++[.ref (τ.next+1)]))] [.sdict [(5,.int (w.m.lastS+1)),(13,.int (w.jr.map fun j=>AV.ref j.jid).length),(42,.int w.m.used),(43,.none)],.inst 500 τ.next]=σ1 at sv S1 g5 gs gd gi n1
  have S1:Sm [5,w.m.sv] τ σ1:=S1
  have t1:σ1.get w.stL=some (.list (w.st.map fun s=>.ref s.sid)):=(S1.2 _ lst (by simp; omega)).trans hτ.cStL.1
  have t2:w.stL<σ1.next:=Nat.lt_of_lt_of_le lst S1.1
  have kd:∀ s∈w.st,σ1.get s.sid=some (.sdict [(57,.ref s.tid),(7,.bool s.r.glob),(58,.ref s.cid)])∧s.sid<σ1.next:=fun s hs=>by
    obtain ⟨a,b,_⟩:=hτ.stsid hs
    obtain ⟨_,_,_,s91⟩:=o.st s hs
    refine ⟨(S1.2 _ b ?_).trans a,Nat.lt_of_lt_of_le b S1.1⟩
    have:s.sid≠w.m.sv:=fun e=>by rw [e,s1] at a; cases a
    simp; exact ⟨by omega,this⟩
  have kc:∀ s∈w.st,σ1.get s.cid=some (.list (cl s.c))∧s.cid<σ1.next:=fun s hs=>by
    obtain ⟨a,b,c⟩:=hτ.scid hs
    refine ⟨(S1.2 _ b ?_).trans a,Nat.lt_of_lt_of_le b S1.1⟩
    have e1:s.cid≠w.m.sv:=fun e=>by rw [e,s3] at c; cases c
    have e2:s.cid≠5:=fun e=>by rw [e,hτ.c5.2.2] at c; cases c
    simp; exact ⟨e2,e1⟩
  have kp:=xa t1 t2 kd kc (by omega) w.st.length 0 100 (fun _=>none) (by omega) (by omega)
  have cE:∀ l:Loc,l 2=some (.ref w.stL)→kg (ac 2) (ret true) rG 100 l σ1=some (.ok (.ref σ1.next),l,ov σ1 [] (keptO w.st σ1.next w.st.length)):=fun l h2=>by
    have e0:σ1.push (.list [])=ov σ1 [] (keptO w.st σ1.next 0):=by rw [fb]; simp [keptO]
    exact uW (aa h2) t1 ((congrArg _ e0).trans kp)
  have S2:=Sm.ov σ1 [] (keptO w.st σ1.next w.st.length)
  have tk:(keptL w.st (σ1.next+1)).take w.st.length=keptL w.st (σ1.next+1):=List.take_of_length_le (by rw [lI]; exact Nat.le_refl _)
  have gk:(ov σ1 [] (keptO w.st σ1.next w.st.length)).get σ1.next=some (.list ((keptL w.st (σ1.next+1)).map fun q=>AV.ref q.1)):=by
    have:(ov σ1 [] (keptO w.st σ1.next w.st.length)).get σ1.next=some (.list (((keptL w.st (σ1.next+1)).take w.st.length).map fun q=>AV.ref q.1)):=oY
    rwa [tk] at this
  have n2:(ov σ1 [] (keptO w.st σ1.next w.st.length)).next=σ1.next+(1+w.st.length):=by
    simp only [gx,keptO,List.length_cons,List.length_map,tk,lI]; omega
  have gl:∀ q∈keptL w.st (σ1.next+1),(ov σ1 [] (keptO w.st σ1.next w.st.length)).get q.1=some (.list (cl q.2))∧q.1<σ1.next+(1+w.st.length)∧σ1.next≤q.1:=fun q hq=>by
    obtain ⟨i,hi⟩:=List.getElem?_of_mem hq
    have hil:i<w.st.length:=by have:=(List.getElem?_eq_some_iff.mp hi).1; rwa [lI] at this
    have hk:=qu (n:=σ1.next+1) (List.getElem?_eq_getElem hil)
    rw [hk] at hi
    cases hi
    refine ⟨?_,by show σ1.next+1+i<_; omega,by show _≤σ1.next+1+i; omega⟩
    show (ov σ1 [] (keptO w.st σ1.next w.st.length)).get (σ1.next+1+i)=_
    rw [Nat.add_assoc]
    refine bL ?_
    rw [Nat.add_comm 1 i,keptO,List.getElem?_cons_succ,List.getElem?_map,tk,hk]; rfl
  generalize ov σ1 [] (keptO w.st σ1.next w.st.length)=σ2 at cE S2 gk n2 gl
  have g90:σ2.get 90=some (.list (w.sv.map fun v=>.ref v.tup)):=(S2.2 90 (by omega) (by simp)).trans ((S1.2 90 l90 (by simp; omega)).trans c90)
  have l90':90<σ2.next:=by omega
  have e4:(σ2.push (.tup [.int (w.m.lastS+1),.ref σ1.next])).set 90 (.list ((w.sv.map fun v=>.ref v.tup)++[.ref σ2.next]))=ov σ2 [(90,.list ((w.sv.map fun v=>.ref v.tup)++[.ref σ2.next]))] [.tup [.int (w.m.lastS+1),.ref σ1.next]]:=by rw [fb,bF l90']; rfl
  have aT:∀ l,cV (.tup [.int (w.m.lastS+1),.ref σ1.next]) l σ2=some (.ok (.ref σ2.next),l,σ2.push (.tup [.int (w.m.lastS+1),.ref σ1.next])):=fun l=>rfl
  have ap:∀ l,bI [.ref 90,.ref σ2.next] l (σ2.push (.tup [.int (w.m.lastS+1),.ref σ1.next]))=some (.ok .none,l,ov σ2 [(90,.list ((w.sv.map fun v=>.ref v.tup)++[.ref σ2.next]))] [.tup [.int (w.m.lastS+1),.ref σ1.next]]):=fun l=>by
    have:(σ2.push (.tup [.int (w.m.lastS+1),.ref σ1.next])).get 90=some (.list (w.sv.map fun v=>.ref v.tup)):=by rw [fb,bb l90']; exact g90
    have hl':(w.sv.map fun v=>AV.ref v.tup).length<2000:=by rw [List.length_map]; omega
    exact rx this (jT hl') e4
  have S3:=Sm.ov σ2 [(90,.list ((w.sv.map fun v=>.ref v.tup)++[.ref σ2.next]))] [.tup [.int (w.m.lastS+1),.ref σ1.next]]
  have gt:(ov σ2 [(90,.list ((w.sv.map fun v=>.ref v.tup)++[.ref σ2.next]))] [.tup [.int (w.m.lastS+1),.ref σ1.next]]).get σ2.next=some (.tup [.int (w.m.lastS+1),.ref σ1.next]):=bL (k:=0) rfl
  have gn:(ov σ2 [(90,.list ((w.sv.map fun v=>.ref v.tup)++[.ref σ2.next]))] [.tup [.int (w.m.lastS+1),.ref σ1.next]]).get 90=some (.list ((w.sv.map fun v=>.ref v.tup)++[.ref σ2.next])):=by rw [bb l90',gU,if_pos rfl]
  have n3:(ov σ2 [(90,.list ((w.sv.map fun v=>.ref v.tup)++[.ref σ2.next]))] [.tup [.int (w.m.lastS+1),.ref σ1.next]]).next=σ2.next+1:=rfl
  generalize ov σ2 [(90,.list ((w.sv.map fun v=>.ref v.tup)++[.ref σ2.next]))] [.tup [.int (w.m.lastS+1),.ref σ1.next]]=σ4 at ap S3 gt gn n3
  have S3:Sm [90] σ2 σ4:=S3
  have n9:=hτ.F.hn
  have k2:∀ i,i<σ1.next→i≠90→σ4.get i=σ1.get i:=fun i hi q=>(S3.2 i (by omega) (by simpa using q)).trans (S2.2 i hi (by simp))
  have k3:∀ i,i<σ2.next→i≠90→σ4.get i=σ2.get i:=fun i hi q=>S3.2 i hi (by simpa using q)
  have sm:Sm [5,w.m.sv,90] τ σ4:=⟨by omega,fun i hi hd=>by
    simp at hd
    exact (k2 i (by omega) hd.2.2).trans (S1.2 i hi (by simp; exact ⟨hd.1,hd.2.1⟩))⟩
  refine ⟨σ4,_,w.saved ⟨σ2.next,w.m.lastS+1,σ1.next,τ.next+1,τ.next,w.jr.length,w.m.used,keptL w.st (σ1.next+1)⟩,?_,yS hτ sm ?_ ?_ ?_ (fun p hp=>?_),o.saved h0 hl rfl rfl rfl rfl,rfl⟩
  rotate_left
  · exact (k2 5 (by omega) (by decide)).trans g5
  · rw [List.map_append]; exact (k2 _ (by omega) (by omega)).trans gs
  · rw [List.map_append,o.tls,List.map_map]; exact gn
  · simp only [vF,List.cons_append,List.nil_append,List.mem_cons] at hp
    rcases hp with rfl | rfl | rfl | rfl | hp
    · exact ⟨gt,by show σ2.next<_; omega,by show _≤σ2.next; omega⟩
    · exact ⟨(k3 _ (by show σ1.next<_; omega) (by show σ1.next≠90; omega)).trans gk,by show σ1.next<_; omega,by show _≤σ1.next; omega⟩
    · exact ⟨(k2 _ (by show τ.next+1<_; omega) (by show τ.next+1≠90; omega)).trans gi,by show τ.next+1<_; omega,by show _≤τ.next+1; omega⟩
    · refine ⟨(k2 _ (by show τ.next<_; omega) (by show τ.next≠90; omega)).trans ?_,by show τ.next<_; omega,by show _≤τ.next; omega⟩
      rw [gd,List.length_map]
    · obtain ⟨q,hq,rfl⟩:=List.mem_map.mp hp
      obtain ⟨a,b,c⟩:=gl q hq
      exact ⟨(k3 _ (by show q.1<_; omega) (by show q.1≠90; omega)).trans a,by show q.1<_; omega,by show _≤q.1; omega⟩
  · have hm:σ.get 86=σ.get 86:=rfl
    have lvt:∀ l,em [.ref 90] l τ=some (.ok (.int w.sv.length),l,τ):=lv
    have pT:σ2.push (.tup [.int (w.m.lastS+1),.ref σ1.next])=σ2.push (.tup [.int (w.m.lastS+1),.ref σ1.next]):=rfl
    have cE':kg (ac 2) (ret true) (au (ah (aO (ac 0) (ret (.str 58))) aq) du) 100 (upL (upL (upL (cY [.ref 86,.bool true]) 4 (.ref 6)) 3 (.ref 90)) 2 (.ref w.stL)) σ1=some (.ok (.ref σ1.next),_,σ2):=cE _ rfl
    clear cE kp lv hm
    exact (Eq.trans (br rfl (av (sH (cL (af (aF (aa rfl) (ag _) (aM wd rfl)) (af (aF (aa rfl) (ag _) (aM wd rfl)) (af (aF (aa rfl) (ag _) (aM wd rfl)) am))) rfl pA) (cT tA rfl) (aS be (aS be (aS be dq)))) (av (dm (cA (bj (aa rfl)) (cA (aE (bB (af (aa rfl) am) (lvt _)) (ag _) (hnum _)) (ag _))) (ca (lz (aa rfl) c90 (af (cL (af (bV (aa rfl) F6 m5 am sv) (af cE' am)) rfl pT) am) (ap _)))) (aY (ag _))))) rfl)
end Lw
end SP26
section SP27
set_option maxHeartbeats 4000000
namespace Lw
open St
theorem vj {σ:St} {mt:Nat→Bool} {w:WG} {n:Nat} (h:At σ mt w) (o:Ok w n) (h0:0<w.st.length) (hl:w.sv=[]) :
    ∃ σ' mt' w',bQ [.ref 86,.bool false] σ=some (.ok (.bool true),σ')∧At σ' mt' w'∧Ok w' (n+1)∧w'.at'=w.at':=by
  have wd:=h.wd
  have hτ:=h.push (.tup [.ref w.stL,.ref 90,.ref 6])
  have tA:(σ.push (.tup [.ref w.stL,.ref 90,.ref 6])).get σ.next=some (.tup [.ref w.stL,.ref 90,.ref 6]):=if_pos rfl
  have aA:∀ l,cV (.tup [.ref w.stL,.ref 90,.ref 6]) l σ=some (.ok (.ref σ.next),l,σ.push (.tup [.ref w.stL,.ref 90,.ref 6])):=fun l=>rfl
  clear aA
  generalize pA:σ.push (.tup [.ref w.stL,.ref 90,.ref 6])=τ at hτ tA
  have hυ:=hτ.push (.list [])
  have aB:∀ l,cV (.list []) l τ=some (.ok (.ref τ.next),l,τ.push (.list [])):=fun l=>rfl
  have tB:(τ.push (.list [])).get τ.next=some (.list []):=if_pos rfl
  clear aB
  generalize pB:τ.push (.list [])=υ at hυ tB
  have c90:υ.get 90=some (.list []):=by have:=hυ.c90.1; rw [o.tls,hl] at this; exact this
  refine ⟨υ,mt,w,?_,hυ,o.up h0,rfl⟩
  have c1:dk υ .NotEq (.ref 90) (.ref τ.next)=some false:=u8 c90 tB
  exact (Eq.trans (br rfl (av (sH (cL (af (aF (aa rfl) (ag _) (aM wd rfl)) (af (aF (aa rfl) (ag _) (aM wd rfl)) (af (aF (aa rfl) (ag _) (aM wd rfl)) am))) rfl pA) (cT tA rfl) (aS be (aS be (aS be dq)))) (av (bc (dM (bj (aa rfl))) (bc (aE (aa rfl) (fC am rfl pB) c1) (ag _))) (aY (ag _))))) rfl)
end Lw
end SP27
section SP28
set_option maxHeartbeats 4000000
namespace Lw
open St
noncomputable def s7:M AF:=ifX (bA .Eq (aw cs9 5 (ac 3)) (ac 1)) (cu (ac 2)) (ret .next)
theorem Av:d9=ay (nl (aw cs9 34 (ac 0)) 2 3 s7 100) (cu (ret .none)):=rfl
structure SvAt (σ:St) (svL:Nat) (sv:List VG):Prop where
  l:σ.get svL=some (.list (sv.map fun v=>.ref v.vi))
  v:∀ v∈sv,σ.get v.vi=some (.inst 500 v.vd)∧σ.get v.vd=some (.sdict [(5,.int v.num),(13,.int v.many),(42,.int v.used),(43,.none)])
theorem At.svAt {σ:St} {mt:Nat→Bool} {w:WG} (h:At σ mt w):SvAt σ w.m.sv w.sv :=
  ⟨h.cSv.1,fun v hv=>⟨(h.im _ (nQ hv (mi (i:=2) rfl))).1,(h.im _ (nQ hv (mi (i:=3) rfl))).1⟩⟩
theorem yU {k:IK} {kx ky:Nat} {body:M AF} {n p:Nat} {a b v:AV} {l l1:Loc} {σ σ1:St} (h:bH k σ p=some (some [a,b])) (h1:body (upL (upL l kx a) ky b) σ=some (.ok (.ret v),l1,σ1)):cz k [kx,ky] body (n+1) p l σ=some (.ok (.ret v),l1,σ1):=by
  rw [tO,h,vR,ro,ro,vO,zk0,zk5,h1]; rfl
theorem vk {σ:St} {svL:Nat} {sv:List VG} (h:SvAt σ svL sv) {num:Int} {j:Nat} {v:VG} (hj:sv[j]?=some v) (hv:v.num=num) (hb:∀ i u,i<j→sv[i]?=some u→u.num≠num) :
    ∀ (m p N:Nat) (l:Loc),p+m=j→m<N→l 1=some (.int num)→∃ l',cz (.enum svL) [2,3] s7 N p l σ=some (.ok (.ret (.int j)),l',σ):=by
  have run1:∀ (u:VG) (p:Nat) (l:Loc),u∈sv→l 1=some (.int num)→u.num=num→s7 (upL (upL l 2 (.int p)) 3 (.ref u.vi)) σ=some (.ok (.ret (.int p)),upL (upL l 2 (.int p)) 3 (.ref u.vi),σ):=by
    intro u p l hu l1 q
    obtain ⟨a,b⟩:=h.v u hu
    have c1:dk σ .Eq (.int u.num) (.int num)=some true:=congrArg some (beq_iff_eq.mpr q)
    exact (Eq.trans (dm (aE (ao (aa rfl) a rfl b rfl) (aa l1) c1) (aY (aa rfl))) rfl)
  have run2:∀ (u:VG) (p:Nat) (l:Loc),u∈sv→l 1=some (.int num)→u.num≠num→s7 (upL (upL l 2 (.int p)) 3 (.ref u.vi)) σ=some (.ok .next,upL (upL l 2 (.int p)) 3 (.ref u.vi),σ):=by
    intro u p l hu l1 q
    obtain ⟨a,b⟩:=h.v u hu
    have c1:dk σ .Eq (.int u.num) (.int num)=some false:=congrArg some (beq_eq_false_iff_ne.mpr q)
    clear run1
    exact (Eq.trans (bc (aE (ao (aa rfl) a rfl b rfl) (aa l1) c1) (ag _)) rfl)
  intro m
  induction m with
  | zero =>
    intro p N l e hN l1
    obtain ⟨N,rfl⟩:∃ k,N=k+1:=⟨N - 1,by omega⟩
    have hp:p=j:=by omega
    subst hp
    have hi:(sv.map fun v=>AV.ref v.vi)[p]?=some (.ref v.vi):=by rw [List.getElem?_map,hj]; rfl
    exact ⟨_,yU (mA h.l (by rw [hi]; rfl)) (run1 v p l (aR hj) l1 hv)⟩
  | succ m ih =>
    intro p N l e hN l1
    obtain ⟨N,rfl⟩:∃ k,N=k+1:=⟨N - 1,by omega⟩
    have hjl:=(List.getElem?_eq_some_iff.mp hj).1
    have hp:p<sv.length:=by omega
    have hg:sv[p]?=some sv[p]:=List.getElem?_eq_getElem hp
    have hi:(sv.map fun v=>AV.ref v.vi)[p]?=some (.ref sv[p].vi):=by rw [List.getElem?_map,hg]; rfl
    obtain ⟨l',e'⟩:=ih (p+1) N (upL (upL l 2 (.int p)) 3 (.ref sv[p].vi)) (by omega) (by omega) l1
    exact ⟨l',lD (mA h.l (by rw [hi]; rfl)) (run2 sv[p] p l (List.getElem_mem hp) l1 (hb p _ (by omega) hg)) e'⟩
theorem ua {σ:St} (F:Fx σ) {m:MR} {sv:List VG} (h5:σ.get 5=some (.sdict (mkv m))) (h:SvAt σ m.sv sv) (hl:sv.length≤3) {j:Nat} {v:VG} (hj:sv[j]?=some v) (hb:∀ i u,i<j→sv[i]?=some u→u.num≠v.num) :
    cK [.ref 6,.int v.num] σ=some (.ok (.int j),σ):=by
  have hjl:=(List.getElem?_eq_some_iff.mp hj).1
  obtain ⟨l',e⟩:=vk h hj rfl hb j 0 100 (cY [.ref 6,.int v.num]) (by omega) (by omega) rfl
  have f6:=F.f6
  have c:=h.l
  have p:cD [.ref 6,.int v.num] σ=some (.ok (.int j),σ):=by
    unfold cD
    rw [Av]
    exact br rfl (jW (nO (ao (aa rfl) f6 rfl h5 rfl) c e))
  clear e
  exact (Eq.trans (br rfl (av (cU (bV (aa rfl) f6 h5 (af (aa rfl) am) p)) (av (bc (aE (aa rfl) (ag _) rfl) (ag _)) (aY (aa rfl))))) rfl)
end Lw
end SP28
section SP29
set_option maxHeartbeats 4000000
namespace Lw
open St
theorem yV {σ:St} {mt:Nat→Bool} {w:WG} {n:Nat} {t:List Nat} (h:At σ mt { w with tl:=t }) (o:Ok w n) {s:SG} (hs:s∈w.st) {j:Nat} {v:VG} (hj:w.sv[j]?=some v) (hb:∀ i u,i<j→w.sv[i]?=some u→u.num≠v.num) :
    ∃ σ',b9 [.ref 6,.int v.num,.ref s.tid] σ=some (.ok (.bool (!s.r.glob&&decide (j<s.lev))),σ')∧At σ' mt { w with tl:=t }∧Sm [] σ σ':=by
  obtain ⟨e,he,e1,e2,e3⟩:=o.num s hs
  have hp:=ua h.F h.c5.1 h.svAt o.l4 hj hb
  obtain ⟨i1,i2,_⟩:=h.stid hs
  obtain ⟨j1,j2,_⟩:=h.std hs
  have G:=h.stG hs
  have bo:iw [.ref s.tid] σ=some (.ok .none,σ):=by
    clear hp
    exact (Eq.trans (br rfl (av (bc (aE (ao (aa rfl) i1 rfl j1 rfl) (ag _) rfl) (ag _)) (aY (eg (fe (aE (ao (aa rfl) i1 rfl j1 rfl) (ag _) rfl) (fe (bj (ba (af (aa rfl) am) (br rfl (aY (sG (cX (ao (aa rfl) i1 rfl j1 rfl) (ag _) rfl) (cX (ao (aa rfl) i1 rfl j1 rfl) (ag _) rfl)))))) (ag _))) (ag _))))) rfl)
  have look':=sR o.mdn he
  rw [e1] at look'
  obtain ⟨t1,t2,_⟩:=h.mtp he
  have m5:=h.c5.1
  have F6:=h.F.f6
  have l5:=h.F.lt 5 (by decide)
  have l6:=h.F.lt 6 (by decide)
  have l9:=h.F.lt 9 (by decide)
  have c9:=h.c9.1
  generalize (w.md.map fun e=>(e.k,AV.ref e.tp))=mk at c9 look'
  refine ⟨ov σ [] [.tup [.none,.int j],.tup [.int 0,.bool true,.int 0]],?_,h.same (Sm.ov _ _ _),Sm.ov _ _ _⟩
  have gi:=G.i
  have gd:=G.o
  have li:=G.i'
  have ld:=G.o'
  rw [← bz σ] at bo hp
  have key:b9 [.ref 6,.int v.num,.ref s.tid] (ov σ [] [])=some (.ok (.bool (!s.r.glob&&decide (j<s.lev))),ov σ [] [.tup [.none,.int j],.tup [.int 0,.bool true,.int 0]]):=by
    cases hg:s.r.glob with
    | true =>
      rw [e2.trans hg] at t1
      exact (Eq.trans (br rfl (av (ly (cL (af (ba (af (aa rfl) am) bo) (af (bV (aa rfl) (ak l6 F6) (ak l5 m5) (af (aa rfl) am) hp) am)) rfl co) (cT (ce rfl) rfl) (aS be (aS be dq))) (jW (dm (aE (ao (aa rfl) (ak i2 i1) rfl (ak j2 j1) rfl) (ag _) rfl) (av (kn (ql (ao (aa rfl) (ak l6 F6) rfl (ak l5 m5) rfl) (ak l9 c9) (af (ao (ao (aa rfl) (ak i2 i1) rfl (ak j2 j1) rfl) (ak li gi) rfl (ak ld gd) rfl) (af (cL (af (ag _) (af (ag _) (af (ag _) am))) rfl co) am)) (rz (ak l9 c9) look')) (cT (ak t2 t1) rfl) (aS be (aS be (aS be dq)))) (aY (o5 (gV (aa rfl) rfl)))))))) rfl)
    | false =>
      rw [e2.trans hg] at t1
      have c1:∀ σ,dk σ .Gt (.int e.lv) (.int j)=some (decide (j<s.lev)):=fun _=>by
        rw [e3 hg]
        exact congrArg some (decide_eq_decide.mpr Int.ofNat_lt)
      exact (Eq.trans (br rfl (av (ly (cL (af (ba (af (aa rfl) am) bo) (af (bV (aa rfl) (ak l6 F6) (ak l5 m5) (af (aa rfl) am) hp) am)) rfl co) (cT (ce rfl) rfl) (aS be (aS be dq))) (jW (dm (aE (ao (aa rfl) (ak i2 i1) rfl (ak j2 j1) rfl) (ag _) rfl) (av (kn (ql (ao (aa rfl) (ak l6 F6) rfl (ak l5 m5) rfl) (ak l9 c9) (af (ao (ao (aa rfl) (ak i2 i1) rfl (ak j2 j1) rfl) (ak li gi) rfl (ak ld gd) rfl) (af (cL (af (ag _) (af (ag _) (af (ag _) am))) rfl co) am)) (rz (ak l9 c9) look')) (cT (ak t2 t1) rfl) (aS be (aS be (aS be dq)))) (aY (eC (gV (aa rfl) rfl) (cX (aa rfl) (aa rfl) (c1 _))))))))) rfl)
  rwa [bz] at key
end Lw
end SP29
section SP30
set_option maxHeartbeats 4000000
namespace Lw
open St
noncomputable def B5:M AF:=ifX (bA .NotEq (bT 781 b9 (ac 4) (ah (ac 5) (ah (aO (ac 8) (ret (.str 57))) aq))) (lQ (eG .GtE (ac 7) (au (ah (ac 6) aq) em)) (o8 (aO (ac 8) (ret (.str 7)))))) (cu (ret (.bool false))) (ret .next)
theorem Aw {σ:St} {mt:Nat→Bool} {w:WG} {n:Nat} {t:List Nat} (h:At σ mt { w with tl:=t }) (o:Ok w n) {i:Nat} {s:SG} (hi:w.st[i]?=some s) {j:Nat} {v:VG} (hj:w.sv[j]?=some v) (hb:∀ i u,i<j→w.sv[i]?=some u→u.num≠v.num) (hk:v.kept.length<900) {l:Loc}
    (l4:l 4=some (.ref 6)) (l5:l 5=some (.int v.num)) (l6:l 6=some (.ref v.kid)) (l7:l 7=some (.int i)) (l8:l 8=some (.ref s.sid)):∃ σ',B5 l σ=some (.ok .next,l,σ')∧At σ' mt { w with tl:=t }:=by
  have hs:=aR hi
  obtain ⟨σ',e,h',sm⟩:=yV h o hs hj hb
  have q1:=(h.stsid hs).1
  have q2:=(h'.stsid hs).1
  have kk:=(h'.im _ (nQ (aR hj) (mi (i:=1) rfl))).1
  have lk:=ie kk (by rw [List.length_map]; omega)
  rw [List.length_map] at lk
  have f6:=h.F.f6
  have c5:=h.c5.1
  refine ⟨σ',?_,h'⟩
  have hlv:=o.lev i s j v hi
  by_cases q:v.kept.length≤i
  · have c1:∀ σ,dk σ .GtE (.int i) (.int v.kept.length)=some true:=fun _=>congrArg some (decide_eq_true (Int.ofNat_le.mpr q))
    have c2:∀ σ,dk σ .NotEq (.bool (!s.r.glob&&decide (j<s.lev))) (.bool (!s.r.glob))=some false:=fun _=>by
      cases hg:s.r.glob with
      | true=>rfl
      | false=>rw [decide_eq_true (Nat.lt_of_not_le fun z=>Nat.not_lt.mpr q ((hlv hg hj).mpr z))]; rfl
    clear kk
    exact (Eq.trans (bc (aE (bV (aa l4) f6 c5 (af (aa l5) (af (aF (aa l8) (ag _) (aM q1 rfl)) am)) e) (eC (cX (aa l7) (bB (af (aa l6) am) (lk _)) (c1 _)) (gV (aF (aa l8) (ag _) (aM q2 rfl)) rfl)) (c2 _)) (ag _)) rfl)
  · have c1:∀ σ,dk σ .GtE (.int i) (.int v.kept.length)=some false:=fun _=>congrArg some (decide_eq_false fun z=>q (Int.ofNat_le.mp z))
    have c2:∀ σ,dk σ .NotEq (.bool (!s.r.glob&&decide (j<s.lev))) (.bool false)=some false:=fun _=>by
      cases hg:s.r.glob with
      | true=>rfl
      | false=>rw [decide_eq_false (Nat.not_lt.mpr ((hlv hg hj).mp (Nat.lt_of_not_le q)))]; rfl
    clear kk
    exact (Eq.trans (bc (aE (bV (aa l4) f6 c5 (af (aa l5) (af (aF (aa l8) (ag _) (aM q1 rfl)) am)) e) (o5 (cX (aa l7) (bB (af (aa l6) am) (lk _)) (c1 _))) (c2 _)) (ag _)) rfl)
end Lw
end SP30
section SP31
set_option maxHeartbeats 4000000
namespace Lw
open St
theorem yW {mt:Nat→Bool} {w:WG} {n:Nat} {t:List Nat} (o:Ok w n) {j:Nat} {v:VG} (hj:w.sv[j]?=some v) (hb:∀ i u,i<j→w.sv[i]?=some u→u.num≠v.num) (hk:v.kept.length<900) :
    ∀ (m p N:Nat) (l:Loc) (σ:St),At σ mt { w with tl:=t }→p+m=w.st.length→m<N→l 4=some (.ref 6)→l 5=some (.int v.num)→l 6=some (.ref v.kid) →
      ∃ σ' l',cz (.enum w.stL) [7,8] B5 N p l σ=some (.ok .next,l',σ')∧At σ' mt { w with tl:=t }∧∀ k,k≠7→k≠8→l' k=l k:=by
  intro m
  induction m with
  | zero =>
    intro p N l σ h e hN _ _ _
    obtain ⟨N,rfl⟩:∃ k,N=k+1:=⟨N - 1,by omega⟩
    exact ⟨σ,l,eE (mA h.cStL.1 (by rw [List.getElem?_eq_none (by rw [List.length_map]; omega)]; rfl)),h,fun _ _ _=>rfl⟩
  | succ m ih =>
    intro p N l σ h e hN l4 l5 l6
    obtain ⟨N,rfl⟩:∃ k,N=k+1:=⟨N - 1,by omega⟩
    have hp:p<w.st.length:=by omega
    have hg:w.st[p]?=some w.st[p]:=List.getElem?_eq_getElem hp
    have c:=h.cStL.1
    have hi:(w.st.map fun s=>AV.ref s.sid)[p]?=some (.ref w.st[p].sid):=by rw [List.getElem?_map,hg]; rfl
    obtain ⟨σ1,e1,h1⟩:=Aw h o hg hj hb hk (l:=upL (upL l 7 (.int p)) 8 (.ref w.st[p].sid)) l4 l5 l6 rfl rfl
    obtain ⟨σ2,l',e2,h2,hl⟩:=ih (p+1) N (upL (upL l 7 (.int p)) 8 (.ref w.st[p].sid)) σ1 h1 (by omega) (by omega) l4 l5 l6
    exact ⟨σ2,l',lD (mA c (by rw [hi]; rfl)) e1 e2,h2,fun k a b=>by rw [hl k a b,zO,beq_eq_false_iff_ne.mpr b]; show upL l 7 _ k=_; rw [zO,beq_eq_false_iff_ne.mpr a]⟩
end Lw
end SP31
section SP32
set_option maxHeartbeats 4000000
namespace Lw
open St
theorem B6 {σ:St} {mt:Nat→Bool} {w:WG} (h:At σ mt w) {js:List JG} {e:JG} (hj:w.jr=js++[e]):At (ov σ [(8,.list (js.map fun j=>.ref j.jid))] []) mt { w with jr:=js }:=by
  have l8:=h.F.lt 8 (by decide)
  exact At.to3 (D:=[8]) [(8,.list (js.map fun j=>.ref j.jid))] h (Sm.ov _ _ _) (fun _ _=>rfl) rfl (dv w) (eZ w) (fun j hjm=>.inl (by rw [hj]; exact List.mem_append_left _ hjm)) same same (df ⟨inM (k:=2) rfl,by rw [bb l8]; exact ow,l8,h.c8.2.2⟩) (df ⟨h.c8.2.2,mi (i:=0) rfl⟩) (.keep (.keep (.new List.mem_cons_self (.refl _)))) (fD w) h.nd
end Lw
end SP32
section SP33
set_option maxHeartbeats 4000000
namespace Lw
open St
theorem vn {σ:St} {mt:Nat→Bool} {w:WG} {k jid ci cd:Nat} {s:SG} {r:GR} {x:Aux} {c:C3} (h:At σ mt w) (hk:w.st[k]?=some s) (h91:91≤s.gd) (hr:r.glob=r.glob) (t1:σ.get jid=some (.tup [.str 67,.ref s.gid,.ref ci])) (t2:jid<σ.next) (B:GAt σ ci cd r) (Y:AuxAt σ r x) (C:Con r x c) (hne:s.gd≠cd) :
    ∃ σ' r' x',bP [.ref jid] σ=some (.ok .none,σ')∧At σ' (mtN mt σ.next) (w.filled k s r' x' [])∧x'.ok∧r'.num=s.r.num∧r'.glob=s.r.glob∧Con r' x' c∧Sm [s.gd] σ σ':=by
  have hs:=aR hk
  have S0:=Sm.ov σ [] [.tup [.str 67,.ref s.gid]]
  have h1:=h.push (.tup [.str 67,.ref s.gid])
  have aA:∀ l,cV (.tup [.str 67,.ref s.gid]) l σ=some (.ok (.ref σ.next),l,σ.push (.tup [.str 67,.ref s.gid])):=fun l=>rfl
  have tA:(σ.push (.tup [.str 67,.ref s.gid])).get σ.next=some (.tup [.str 67,.ref s.gid]):=if_pos rfl
  have e0:=fb σ (.tup [.str 67,.ref s.gid])
  rw [← e0] at S0
  have n0:(σ.push (.tup [.str 67,.ref s.gid])).next=σ.next+1:=rfl
  clear aA
  generalize pA:σ.push (.tup [.str 67,.ref s.gid])=τ at h1 tA S0 n0
  have S0:Sm [] σ τ:=S0
  have t1':τ.get jid=some (.tup [.str 67,.ref s.gid,.ref ci]):=(S0.2 _ t2 (by simp)).trans t1
  have B':=B.go S0 (by simp) (by simp)
  have Y':=Y.go S0 (by simp)
  obtain ⟨σ',e1,s1,G',X',n1⟩:=sO (h1.stG hs) B' Y' (fun q=>absurd q hne)
  have sm:Sm [s.gd] σ σ':=(S0.more (by simp)).trans s1
  refine ⟨σ',_,_,?_,sS h hk (sm.more (by simp)) G' X' (fun i hi=>?_) rfl (js:=[]) ?_ (fun _ q=>by cases q),X'.ok,rfl,rfl,C.taken _ _,sm⟩
  · have gi:=(h1.stG hs).i
    have gd:=(h1.stG hs).o
    have b1:=B'.i; have b2:=B'.o
    exact (Eq.trans (dy rfl (av (ly (cL (af (aF (aa rfl) (ag _) (lx t1 rfl rfl)) (af (aF (aa rfl) (ag _) (lx t1 rfl rfl)) am)) rfl pA) (cT tA rfl) (aS be (aS be dq))) (bc (aE (aa rfl) (ag _) rfl) (bc (aE (aa rfl) (ag _) rfl) (bc (aE (aa rfl) (ag _) rfl) (dm (aE (aa rfl) (ag _) rfl) (ca (bV (aa rfl) gi gd (af (aF (aa rfl) (ag _) (lx t1' rfl rfl)) am) e1)))))))) rfl)
  · exact yG (Nat.le_of_lt (Nat.lt_of_lt_of_le (Nat.lt_succ_self _) (Nat.le_of_eq n0.symm))) i hi
  · rw [List.append_nil]
    exact (sm.2 8 (h.F.lt 8 (by decide)) (by simp; omega)).trans h.h8
end Lw
end SP33
section SP34
set_option maxHeartbeats 4000000
namespace Lw
open St
theorem xb {σ:St} {mt:Nat→Bool} {w:WG} {jid:Nat} {old:AV} (h:At σ mt w) (t1:σ.get jid=some (.tup [.str 66,.ref 38,.int 1,old])) (t2:jid<σ.next) :
    ∃ σ',bP [.ref jid] σ=some (.ok .none,σ')∧At σ' (mtN mt σ.next) (w.put false old [])∧Sm [39] σ σ':=by
  have F:=h.F
  have c39:=h.c39.1
  have l39:=F.lt 39 (by decide)
  have key:bP [.ref jid] (ov σ [] [])=some (.ok .none,ov σ [(39,.list [w.a39.1,old])] [.tup [.str 66,.ref 38]]):=by
    have f38:=F.f38; have f37:=F.f37
    exact (Eq.trans (dy rfl (av (ly (cL (af (aF (aa rfl) (ag _) (lx (ak t2 t1) rfl rfl)) (af (aF (aa rfl) (ag _) (lx (ak t2 t1) rfl rfl)) am)) rfl co) (cT (ce rfl) rfl) (aS be (aS be dq))) (dm (aE (aa rfl) (ag _) rfl) (gr (aF (aa rfl) (ag _) (lx (ak t2 t1) rfl rfl)) (ao (aa rfl) (ak (Fx.lt F _ (by decide)) f38) rfl (ak (Fx.lt F _ (by decide)) f37) rfl) (aF (aa rfl) (ag _) (lx (ak t2 t1) rfl rfl)) (jY (ak l39 c39) rfl (m9 l39)))))) rfl)
  rw [bz] at key
  refine ⟨_,key,sV h (far:=false) ((Sm.ov _ _ _).more (by simp)) ?_ ?_ (fun _ q=>by cases q),Sm.ov _ _ _⟩
  · rw [if_neg (by decide),bb l39]; rfl
  · rw [List.append_nil,bb (F.lt 8 (by decide)),gU,if_neg (by decide),gU]; exact h.h8
end Lw
end SP34
section SP35
set_option maxHeartbeats 4000000
namespace Lw
open St
noncomputable def Kp (σ:St) (mt:Nat→Bool) (σ':St) (mt':Nat→Bool):Prop:=σ.next≤σ'.next∧(∀ i,i<σ.next→mt' i=mt i)∧∀ i,i<σ.next→mt i=false→σ'.get i=σ.get i
theorem Kp.refl (σ:St) (mt:Nat→Bool):Kp σ mt σ mt:=⟨Nat.le_refl _,fun _ _=>rfl,fun _ _ _=>rfl⟩
theorem Kp.trans {σ σ' σ'':St} {mt mt' mt'':Nat→Bool} (h:Kp σ mt σ' mt') (k:Kp σ' mt' σ'' mt''):Kp σ mt σ'' mt'' :=
  ⟨Nat.le_trans h.1 k.1,fun i hi=>(k.2.1 i (Nat.lt_of_lt_of_le hi h.1)).trans (h.2.1 i hi),fun i hi hm=>(k.2.2 i (Nat.lt_of_lt_of_le hi h.1) ((h.2.1 i hi).trans hm)).trans (h.2.2 i hi hm)⟩
theorem Kp.sm {D:List Nat} {σ σ':St} {mt mt':Nat→Bool} (s:Sm D σ σ') (hD:∀ i∈D,mt i=true) (hm:∀ i,i<σ.next→mt' i=mt i):Kp σ mt σ' mt' :=
  ⟨s.1,hm,fun i hi h=>s.2 i hi fun q=>by rw [hD i q] at h; cases h⟩
noncomputable def Im (σ:St) (mt:Nat→Bool) (p:Nat×AO):Prop:=σ.get p.1=some p.2∧p.1<σ.next∧mt p.1=false
theorem Im.kp {σ σ':St} {mt mt':Nat→Bool} {p:Nat×AO} (h:Im σ mt p) (k:Kp σ mt σ' mt'):Im σ' mt' p:=⟨(k.2.2 _ h.2.1 h.2.2).trans h.1,Nat.lt_of_lt_of_le h.2.1 k.1,(k.2.1 _ h.2.1).trans h.2.2⟩
noncomputable abbrev ids (w:WG):List Nat:=(mutF w).map (·.1)
theorem At.idl {σ:St} {mt:Nat→Bool} {w:WG} (h:At σ mt w) {i:Nat} (hi:i∈ids w):i<σ.next∧mt i=true:=by
  obtain ⟨p,hp,rfl⟩:=List.mem_map.mp hi
  exact (h.mu p hp).2
structure Lo (σ:St) (mt:Nat→Bool) (w:WG) (u:Nat) (xs:List AV):Prop where
  g:σ.get u=some (.list xs)
  l:u<σ.next
  m:mt u=true
  n:u ∉ ids w
theorem Lo.sm {σ σ':St} {mt mt':Nat→Bool} {w w':WG} {u:Nat} {xs:List AV} (h:Lo σ mt w u xs) {D:List Nat} (s:Sm D σ σ') (hD:∀ i∈D,i∈ids w) (hm:∀ i,i<σ.next→mt' i=mt i) (hw:u∈ids w'→u∈ids w∨σ.next≤u):Lo σ' mt' w' u xs :=
  ⟨(s.2 u h.l fun q=>h.n (hD u q)).trans h.g,Nat.lt_of_lt_of_le h.l s.1,(hm u h.l).trans h.m,fun q=>by rcases hw q with q | q; exact h.n q; have:=h.l; omega⟩
theorem At.re {σ:St} {mt mt':Nat→Bool} {w:WG} (h:At σ mt w) (hm:∀ i,i<σ.next→mt' i=mt i):At σ mt' w :=
  h.to (Sm.refl [] σ) (by simp) hm (fun p hp=>.inl hp) (fun p hp=>.inl ⟨hp,by simp⟩) h.nd
theorem At.pushI {σ:St} {mt:Nat→Bool} {w:WG} (h:At σ mt w) (o:AO):At (σ.push o) (mtN mt σ.next) w∧Kp σ mt (σ.push o) (mtN mt σ.next)∧Im (σ.push o) (mtN mt σ.next) (σ.next,o) :=
  ⟨(h.re fun i hi=>cW hi).push o,Kp.sm (D:=[]) (by rw [fb]; exact Sm.ov _ _ _) (by simp) (fun i hi=>cW hi),by simp [St.push],Nat.lt_succ_self _,lG (Nat.le_refl _)⟩
theorem At.pushM {σ:St} {mt:Nat→Bool} {w:WG} (h:At σ mt w) (xs:List AV):At (σ.push (.list xs)) (mtM mt σ.next [σ.next]) w∧Kp σ mt (σ.push (.list xs)) (mtM mt σ.next [σ.next])∧Lo (σ.push (.list xs)) (mtM mt σ.next [σ.next]) w σ.next xs :=
  ⟨(h.re fun i hi=>fF hi).push _,Kp.sm (D:=[]) (by rw [fb]; exact Sm.ov _ _ _) (by simp) (fun i hi=>fF hi),by simp [St.push],Nat.lt_succ_self _,qr (Nat.le_refl _) (by simp),fun q=>Nat.lt_irrefl _ (h.idl q).1⟩
theorem vo (σ:St) (u:Nat) (o:AO):Sm [u] σ (σ.set u o):=⟨Nat.le_refl _,fun i _ hn=>by rw [get_set,if_neg (by simpa using hn)]⟩
theorem At.loose {σ:St} {mt:Nat→Bool} {w:WG} {u:Nat} {xs:List AV} (h:At σ mt w) (k:Lo σ mt w u xs) (ys:List AV):At (σ.set u (.list ys)) mt w∧Kp σ mt (σ.set u (.list ys)) mt∧Lo (σ.set u (.list ys)) mt w u ys:=by
  have s:Sm [u] σ (σ.set u (.list ys)):=⟨Nat.le_refl _,fun i _ hn=>by rw [get_set,if_neg (by simpa using hn)]⟩
  refine ⟨h.to s (by simpa using k.m) (fun _ _=>rfl) (fun p hp=>.inl hp) (fun p hp=>.inl ⟨hp,?_⟩) h.nd,Kp.sm s (by simpa using k.m) (fun _ _=>rfl),by rw [get_set,if_pos rfl],k.l,k.m,k.n⟩
  rw [List.mem_singleton]
  intro e
  exact k.n (e▸List.mem_map_of_mem (f:=(·.1)) hp)
theorem nR {σ:St} {mt:Nat→Bool} {w:WG} {u:Nat} {xs:List AV} (k:Lo σ mt w u xs) (hl:xs.length<2000) (a:AV) (l:Loc):bI [.ref u,a] l σ=some (.ok .none,l,σ.set u (.list (xs++[a]))):=by
  simp only [bI,k.g,hl,if_true]
theorem yX {σ:St} {mt:Nat→Bool} {w:WG} (h:At σ mt w) {m:MR} (hm:m.sv=w.m.sv):At (σ.set 5 (.sdict (mkv m))) mt { w with m:=m }∧Sm [5] σ (σ.set 5 (.sdict (mkv m))):=by
  have l5:=h.F.lt 5 (by decide)
  have s:Sm [5] σ (σ.set 5 (.sdict (mkv m))):=⟨Nat.le_refl _,fun i _ hn=>by rw [get_set,if_neg (by simpa using hn)]⟩
  refine ⟨?_,s⟩
  have e:mutF { w with m:=m }=mutF { w with m:={ w.m with isG:=m.isG,fr:=m.fr,used:=m.used,usedG:=m.usedG,lastB:=m.lastB,lastS:=m.lastS } }:=by
    obtain ⟨isG,sv,fr,used,usedG,lastB,lastS⟩:=m
    simp only at hm
    subst hm; rfl
  refine At.to3 (D:=[5]) [(5,.sdict (mkv m))] h s (fun _ _=>rfl) rfl (dv w) (eZ w) same same same (df ⟨inM (k:=1) rfl,by rw [get_set,if_pos rfl],l5,h.c5.2.2⟩) (df ⟨h.c5.2.2,mi (i:=0) rfl⟩) (.keep (.new List.mem_cons_self (.keep (.keep (.keep (.keep (.keep (.keep (.keep (.keep (.keep ?_))))))))))) (fD w) ?_
  · show Dif _ [(m.sv,_)] _
    rw [hm]; exact .refl _
  · rw [e]; exact h.nd
theorem D9 {σ:St} {mt:Nat→Bool} {w:WG} (h:At σ mt w) {md:List MG} (hm:∀ e∈md,e∈w.md):At (σ.set 9 (.idict (md.map fun e=>(e.k,.ref e.tp)))) mt { w with md:=md }∧Sm [9] σ (σ.set 9 (.idict (md.map fun e=>(e.k,.ref e.tp)))):=by
  have l9:=h.F.lt 9 (by decide)
  have s:Sm [9] σ (σ.set 9 (.idict (md.map fun e=>(e.k,.ref e.tp)))):=⟨Nat.le_refl _,fun i _ hn=>by rw [get_set,if_neg (by simpa using hn)]⟩
  exact ⟨At.to3 (D:=[9]) [(9,.idict (md.map fun e=>(e.k,.ref e.tp)))] h s (fun _ _=>rfl) rfl (dv w) (eZ w) same (fun e he=>.inl (hm e he)) same (df ⟨inM (k:=3) rfl,by rw [get_set,if_pos rfl],l9,h.c9.2.2⟩) (df ⟨h.c9.2.2,mi (i:=0) rfl⟩) (.keep (.keep (.keep (.new List.mem_cons_self (.refl _))))) (fD w) h.nd,s⟩
end Lw
end SP35
section SP36
set_option maxHeartbeats 4000000
namespace Lw
open St
noncomputable def WG.un (w:WG) (t:List Nat) (q:Nat) (st1:List SG) (a1:AV×AV):WG:={ w with tl:=t,jr:=w.jr.take q,st:=st1,a39:=a1 }
structure Un (w:WG) (q:Nat) (st1:List SG) (a1:AV×AV):Prop where
  ln:st1.length=w.st.length
  st:∀ i s,w.st[i]?=some s→∃ r x,st1[i]?=some { s with r:=r,x:=x }∧r.num=s.r.num∧r.glob=s.r.glob∧x.ok∧Con r x (jy (w.jr.drop q) i s.c)
  a:∃ i,a1.2=AV.ref i
theorem ub (l:List SG):(l.flatMap stM).map (·.1)=(l.map fun s=>(s.sid,s.gd)).flatMap fun p=>[p.1,p.2]:=by
  induction l with
  | nil=>rfl
  | cons a l ih=>rw [List.flatMap_cons,List.map_append,ih]; rfl
theorem B7 {w w':WG} (h1:w'.now=w.now) (h2:w'.stL=w.stL) (h3:w'.m.sv=w.m.sv) (h4:(w'.st.map fun s=>(s.sid,s.gd))=w.st.map fun s=>(s.sid,s.gd)):ids w'=ids w:=by
  have e:∀ w:WG,ids w=[2,5,8,9,39,66,69,86,90]++w.now::w.stL::w.m.sv::(w.st.flatMap stM).map (·.1):=fun w=>by
    unfold ids
    rw [eF,List.map_append]; rfl
  rw [e,e,ub,ub,h1,h2,h3,h4]
theorem Un.pairs {w:WG} {q:Nat} {st1:List SG} {a1:AV×AV} (U:Un w q st1 a1):(st1.map fun s=>(s.sid,s.gd))=w.st.map fun s=>(s.sid,s.gd):=by
  refine List.ext_getElem? fun i=>?_
  rw [List.getElem?_map,List.getElem?_map]
  cases e:w.st[i]? with
  | some s =>
    obtain ⟨r,x,e',_⟩:=U.st i s e
    rw [e']
    rfl
  | none =>
    have:st1[i]?=none:=by
      rw [List.getElem?_eq_none_iff] at e ⊢
      rw [U.ln]; exact e
    rw [this]
theorem Un.ids {w:WG} {t:List Nat} {q:Nat} {st1:List SG} {a1:AV×AV} (U:Un w q st1 a1):Lw.ids (w.un t q st1 a1)=Lw.ids w:=B7 rfl rfl rfl U.pairs
noncomputable def uc:M AF:=ay (bS (bmE .list bI (ac 4) (ah (bmE .list pg (aw cs9 45 (ac 0)) aq) aq)))
  (bS (aZ bP (ah (aO (ac 4) (Bn (ret (.int 1)))) aq)))
theorem j0 {w:WG} {p:Nat×AO} (h:p∈mutF w):p.1∈ids w:=List.mem_map_of_mem (f:=(·.1)) h
theorem yY {σ τ1 τ2 σ':St} {l:Loc} {ud:Nat} {ys xs:List AV} {j:Nat} {m:MR} (l0:l 0=some (.ref 6)) (l4:l 4=some (.ref ud)) (F6:σ.get 6=some (.inst 781 5)) (m5:σ.get 5=some (.sdict (mkv m))) (g8:σ.get 8=some (.list (xs++[.ref j]))) (hx:xs.length<1000) (u0:∃ zs,σ.get ud=some (.list zs))
    (e1:σ.set 8 (.list xs)=τ1) (e2:∀ l,bI [.ref ud,.ref j] l τ1=some (.ok .none,l,τ2)) (g2:τ2.get ud=some (.list (ys++[.ref j]))) (hy:ys.length<1000) (e3:bP [.ref j] τ2=some (.ok .none,σ')):uc l σ=some (.ok .next,l,σ'):=by
  have hx':xs.length+1<2000:=by omega
  have hy':ys.length+1<2000:=by omega
  obtain ⟨zs,u0⟩:=u0
  exact av (ca (lz (aa l4) u0 (af (lz (ao (aa l0) F6 rfl m5 rfl) g8 am (A8 g8 (jT (by rw [List.length_append]; exact hx')) (by simp) (by rw [List.dropLast_concat]; exact e1))) am) (e2 l)))
    (ca (ba (af (aF (aa l4) rfl (bR g2 (jT (by rw [List.length_append]; exact hy')) (by simp [at1]))) am) e3))
theorem xe {α:Type} {l:List α} {q:Nat} (h:q<l.length):l.take (q+1)=l.take q++[l[q]]:=by
  rw [List.take_add_one,List.getElem?_eq_getElem h]; rfl
theorem vp {α:Type} {l:List α} {q:Nat} (h:q<l.length):l.drop q=l[q]::l.drop (q+1):=List.drop_eq_getElem_cons h
theorem Ax {σ:St} {mt:Nat→Bool} {w:WG} {n:Nat} {t:List Nat} {q:Nat} {st1:List SG} {a1:AV×AV} {ud:Nat} {ys:List AV} (h:At σ mt (w.un t (q+1) st1 a1)) (U:Un w (q+1) st1 a1) (o:Ok w n) (hn:n≤20) (hq:q<w.jr.length) (L:Lo σ mt (w.un t (q+1) st1 a1) ud ys) (hy:ys.length<900)
    {l:Loc} (l0:l 0=some (.ref 6)) (l4:l 4=some (.ref ud)) :
    ∃ σ' mt' st2 a2,uc l σ=some (.ok .next,l,σ')∧At σ' mt' (w.un t q st2 a2)∧Un w q st2 a2∧Kp σ mt σ' mt'∧Lo σ' mt' (w.un t q st2 a2) ud (ys++[.ref w.jr[q].jid]):=by
  have hj:(w.un t (q+1) st1 a1).jr=w.jr.take q++[w.jr[q]]:=xe hq
  have l2:=o.l2
  have l8:=h.F.lt 8 (by decide)
  have hm:w.jr[q]∈(w.un t (q+1) st1 a1).jr:=by rw [hj]; exact List.mem_append_right _ (List.mem_singleton_self _)
  have hjw:w.jr[q]∈w.jr:=List.getElem_mem hq
  have g8:σ.get 8=some (.list ((w.jr.take q).map (fun j=>AV.ref j.jid)++[.ref w.jr[q].jid])):=by
    have:=h.h8
    rw [hj,List.map_append] at this
    exact this
  have im0:∀ p∈jF w.jr[q],Im σ mt p:=fun p hp=>h.im p (t6 (w:=w.un t (q+1) st1 a1) hm hp)
  have h1:=B6 h hj
  have e1:σ.set 8 (.list ((w.jr.take q).map fun j=>AV.ref j.jid))=ov σ [(8,.list ((w.jr.take q).map fun j=>.ref j.jid))] []:=by
    have:=bF l8 [] [] (.list ((w.jr.take q).map fun j=>AV.ref j.jid))
    rwa [bz] at this
  have s1:=Sm.ov σ [(8,.list ((w.jr.take q).map fun j=>AV.ref j.jid))] []
  have F6:=h.F.f6
  have m5:=h.c5.1
  generalize ov σ [(8,.list ((w.jr.take q).map fun j=>AV.ref j.jid))] []=τ1 at h1 e1 s1
  change At τ1 mt (w.un t q st1 a1) at h1
  have s1:Sm [8] σ τ1:=s1
  have L1:Lo τ1 mt (w.un t q st1 a1) ud ys:=L.sm s1 (df (j0 mu8)) (fun _ _=>rfl) (fun q=>.inl q)
  have k1:Kp σ mt τ1 mt:=Kp.sm s1 (df h.c8.2.2) (fun _ _=>rfl)
  have e2:=nR L1 (by omega) (.ref w.jr[q].jid)
  obtain ⟨h2,k2,L2⟩:=h1.loose L1 (ys++[.ref w.jr[q].jid])
  generalize τ1.set ud (.list (ys++[.ref w.jr[q].jid]))=τ2 at h2 k2 L2 e2
  have k12:=k1.trans k2
  have im2:∀ p∈jF w.jr[q],Im τ2 mt p:=fun p hp=>(im0 p hp).kp k12
  have run:∀ σ',bP [.ref w.jr[q].jid] τ2=some (.ok .none,σ')→uc l σ=some (.ok .next,l,σ'):=fun σ' e3 =>
    yY l0 l4 F6 m5 g8 (by rw [List.length_map,List.length_take]; omega) ⟨_,L.g⟩ e1 e2 L2.g (by omega) e3
  generalize hje:w.jr[q]=e at *
  have hdr:w.jr.drop q=e::w.jr.drop (q+1):=by rw [vp hq,hje]
  cases e with
  | state jid k gid ci cd r x c =>
    obtain ⟨b1,b2,s,b3,rfl,b5⟩:=o.jr _ _ _ _ _ _ _ _ hjw
    obtain ⟨r1,x1,c1,c2,c3,c4,c5⟩:=U.st k s b3
    have hst:=o.st s (aR b3)
    have hax:∀ p∈auxF r x,Im τ2 mt p:=fun p hp=>im2 p (List.mem_append_right _ hp)
    have Y:AuxAt τ2 r x:=va (mt:=mt) hax b1
    have B:GAt τ2 ci cd r:=⟨(im2 (ci,.inst 438 cd) (mi (i:=1) rfl)).1,(im2 (ci,.inst 438 cd) (mi (i:=1) rfl)).2.1,(im2 (cd,.sdict (gkv r)) (mi (i:=2) rfl)).1,(im2 (cd,.sdict (gkv r)) (mi (i:=2) rfl)).2.1⟩
    have tt:=im2 (jid,.tup [.str 67,.ref s.gid,.ref ci]) (mi (i:=0) rfl)
    have mgd:=(h2.sgd (s:={ s with r:=r1,x:=x1 }) (aR c1)).2.2
    have hne:s.gd≠cd:=fun e=>by
      have:=(im2 (cd,.sdict (gkv r)) (mi (i:=2) rfl)).2.2
      rw [← e] at this
      change mt s.gd=true at mgd
      change mt s.gd=false at this
      rw [this] at mgd; cases mgd
    obtain ⟨σ',r',x',e3,h3,d1,d2,d3,d4,sm⟩:=vn (s:={ s with r:=r1,x:=x1 }) h2 c1 hst.2.2.1 rfl tt.1 tt.2.1 B Y b2 hne
    have hw:(w.un t q st1 a1).filled k { s with r:=r1,x:=x1 } r' x' []=w.un t q (st1.set k { s with r:=r',x:=x' }) a1:=by
      simp [WG.filled,WG.un]
    rw [hw] at h3
    have U':Un w q (st1.set k { s with r:=r',x:=x' }) a1:=by
      refine ⟨by rw [List.length_set]; exact U.ln,fun i s0 hi=>?_,U.a⟩
      rw [hdr]
      by_cases z:i=k
      · subst z
        obtain rfl:s=s0:=Option.some.inj (b3.symm.trans hi)
        refine ⟨r',x',ig c1,d2.trans c2,d3.trans c3,d1,?_⟩
        rw [show jy (JG.state jid i s.gid ci cd r x c::w.jr.drop (q+1)) i s.c=c from if_pos rfl]
        exact d4
      · obtain ⟨r0,x0,f1,f2,f3,f4,f5⟩:=U.st i s0 hi
        refine ⟨r0,x0,by rw [List.getElem?_set_ne (Ne.symm z)]; exact f1,f2,f3,f4,?_⟩
        rw [show jy (JG.state jid k s.gid ci cd r x c::w.jr.drop (q+1)) i s0.c=jy (w.jr.drop (q+1)) i s0.c from if_neg (Ne.symm z)]
        exact f5
    refine ⟨σ',_,_,_,run σ' e3,h3,U',k12.trans (Kp.sm sm (df mgd) (fun i hi=>cW hi)),?_⟩
    refine L2.sm sm (fun i hi=>?_) (fun i hi=>cW hi) (fun z=>.inl ?_)
    · rw [List.mem_singleton] at hi; subst hi
      exact j0 (hX (w:=w.un t q st1 a1) (aR c1) (p:=(s.gd,.sdict (gkv r1))) (by simp [stM]))
    · rw [U'.ids] at z
      have e0:ids (w.un t q st1 a1)=ids (w.un t (q+1) st1 a1):=rfl
      rw [e0,U.ids]; exact z
  | item jid old =>
    obtain ⟨oi,rfl⟩:=o.ji _ _ hjw
    have tt:=im2 (jid,.tup [.str 66,.ref 38,.int 1,.ref oi]) (mi (i:=0) rfl)
    obtain ⟨σ',e3,h3,sm⟩:=xb h2 tt.1 tt.2.1
    have hw:(w.un t q st1 a1).put false (.ref oi) []=w.un t q st1 (a1.1,.ref oi):=by
      simp [WG.put,WG.un]
    rw [hw] at h3
    have U':Un w q st1 (a1.1,.ref oi):=by
      refine ⟨U.ln,fun i s0 hi=>?_,⟨oi,rfl⟩⟩
      rw [hdr]
      exact U.st i s0 hi
    refine ⟨σ',_,_,_,run σ' e3,h3,U',k12.trans (Kp.sm sm (df h2.c39.2.2) (fun i hi=>cW hi)),?_⟩
    refine L2.sm sm (fun i hi=>?_) (fun i hi=>cW hi) (fun z=>.inl z)
    rw [List.mem_singleton] at hi; subst hi
    exact j0 D2
end Lw
end SP36
section SP37
set_option maxHeartbeats 4000000
namespace Lw
open St
noncomputable def wi:M Bool:=bA .Gt (au (ah (aw cs9 45 (ac 0)) aq) em) (aw cs9 13 (ac 3))
theorem ue {σ:St} {mt:Nat→Bool} {w:WG} {n:Nat} {t:List Nat} {q:Nat} {st1:List SG} {a1:AV×AV} (h:At σ mt (w.un t q st1 a1)) (o:Ok w n) (hn:n≤20) (hq:q≤w.jr.length) {v:VG} (hv:v∈w.sv) {l:Loc} (l0:l 0=some (.ref 6)) (l3:l 3=some (.ref v.vi)) :
    wi l σ=some (.ok (decide (v.many<q)),l,σ):=by
  have F6:=h.F.f6
  have m5:=h.c5.1
  have g8:=h.h8
  have l2:=o.l2
  obtain ⟨g1,g2⟩:=h.svAt.v v hv
  have lv:=ie g8 (by rw [List.length_map]; show (w.jr.take q).length<1000; rw [List.length_take]; omega)
  have e:(((w.un t q st1 a1).jr.map fun j=>AV.ref j.jid).length:Int)=(q:Int):=by
    rw [List.length_map,show (w.un t q st1 a1).jr=w.jr.take q from rfl,List.length_take,Nat.min_eq_left hq]
  rw [e] at lv
  have c1:dk σ .Gt (.int q) (.int v.many)=some (decide (v.many<q)):=congrArg some (decide_eq_decide.mpr Int.ofNat_lt)
  unfold wi
  exact (Eq.trans (aE (bB (af (ao (aa l0) F6 rfl m5 rfl) am) (lv _)) (ao (aa l3) g1 rfl g2 rfl) c1) rfl)
theorem xf {w:WG} {n:Nat} {t:List Nat} (o:Ok w n) (hn:n≤20) {v:VG} (hv:v∈w.sv) {ud:Nat}:∀ (m q N:Nat) (l:Loc) (σ:St) (mt:Nat→Bool) (st1:List SG) (a1:AV×AV) (ys:List AV),At σ mt (w.un t q st1 a1)→Un w q st1 a1→Lo σ mt (w.un t q st1 a1) ud ys→ys.length+q≤w.jr.length→q=v.many+m→m<N →
    l 0=some (.ref 6)→l 3=some (.ref v.vi)→l 4=some (.ref ud)→(∀ y∈ys,∃ e∈w.jr,y=AV.ref e.jid) →
    ∃ σ' mt' st2 a2 ys',jJ wi uc N l σ=some (.ok .next,l,σ')∧At σ' mt' (w.un t v.many st2 a2)∧Un w v.many st2 a2∧Kp σ mt σ' mt'∧Lo σ' mt' (w.un t v.many st2 a2) ud ys'∧ys'.length≤w.jr.length∧∀ y∈ys',∃ e∈w.jr,y=AV.ref e.jid:=by
  intro m
  induction m with
  | zero =>
    intro q N l σ mt st1 a1 ys h U L hy e hN l0 l3 l4 hys
    obtain ⟨N,rfl⟩:∃ k,N=k+1:=⟨N - 1,by omega⟩
    have hq:q=v.many:=by omega
    subst hq
    refine ⟨σ,mt,st1,a1,ys,?_,h,U,.refl _ _,L,by omega,hys⟩
    have tt:=ue h o hn (by omega) hv l0 l3
    rw [decide_eq_false (Nat.lt_irrefl _)] at tt
    simp only [jJ,au,tt,ret,Bool.false_eq_true,if_false]
  | succ m ih =>
    intro q N l σ mt st1 a1 ys h U L hy e hN l0 l3 l4 hys
    obtain ⟨N,rfl⟩:∃ k,N=k+1:=⟨N - 1,by omega⟩
    obtain ⟨q,rfl⟩:∃ k,q=k+1:=⟨q - 1,by omega⟩
    have l2:=o.l2
    have hq:q<w.jr.length:=by omega
    have tt:=ue h o hn (by omega) hv l0 l3
    rw [decide_eq_true (by omega)] at tt
    obtain ⟨σ1,mt1,st2,a2,e1,h1,U1,k1,L1⟩:=Ax h U o hn hq L (by omega) l0 l4
    obtain ⟨σ2,mt2,st3,a3,ys',e2,h2,U2,k2,L2,b1,b2⟩:=ih q N l σ1 mt1 st2 a2 _ h1 U1 L1 (by rw [List.length_append,List.length_singleton]; omega) (by omega) (by omega) l0 l3 l4 (fun y hy=>by
      rcases List.mem_append.mp hy with hy | hy
      · exact hys y hy
      · rw [List.mem_singleton] at hy; exact ⟨_,List.getElem_mem hq,hy⟩)
    refine ⟨σ2,mt2,st3,a3,ys',?_,h2,U2,k1.trans k2,L2,b1,b2⟩
    simp only [jJ,au,tt,if_true,ay,e1]
    exact e2
end Lw
end SP37
section SP38
set_option maxHeartbeats 4000000
namespace Lw
open St
noncomputable def rI:M AF:=ay (nq 3 (aO (aw cs9 46 (ac 0)) (ac 5)) (bq (bU 6) (bq (bU 7) (bq (bU 8) ff))))
  (ifX (fW (jC (asB (ac 7))) (fW (bA .Gt (ac 8) (ac 2)) (ret true))) (ay (bS (bmE .dict qY (aw cs9 46 (ac 0)) (ah (ac 5) aq)))
  (bS (bmE .list bI (aw cs9 47 (ac 0)) (ah (ac 5) aq)))) (ret .next))
noncomputable def fV (j:Nat) (e:MG):Bool:=e.g||decide (e.lv≤(j:Int))
noncomputable def iG (w:WG) (md:List MG):WG:={ w with md:=md }
theorem Ay {P R:List MG} {e:MG} (hn:((P++e::R).map (·.k)).Nodup):oF ((P++e::R).map fun e=>(e.k,AV.ref e.tp)) e.k=(P++R).map fun e=>(e.k,AV.ref e.tp):=by
  rw [List.map_append,List.map_cons,List.nodup_append,List.nodup_cons] at hn
  obtain ⟨_,⟨h1,_⟩,h2⟩:=hn
  have one:∀ l:List MG,(∀ x∈l,x.k≠e.k)→oF (l.map fun e=>(e.k,AV.ref e.tp)) e.k=l.map fun e=>(e.k,AV.ref e.tp):=by
    intro l hl
    unfold oF
    rw [List.filter_eq_self]
    intro p hp
    obtain ⟨x,hx,rfl⟩:=List.mem_map.mp hp
    exact decide_eq_true (hl x hx)
  have a:=one P fun x hx q=>h2 x.k (List.mem_map_of_mem (f:=(·.k)) hx) e.k List.mem_cons_self q
  have b:=one R fun x hx q=>h1 (q▸List.mem_map_of_mem (f:=(·.k)) hx)
  unfold oF at *
  rw [List.map_append,List.map_cons,List.filter_append,List.filter_cons,a,b,if_neg (by simp),List.map_append]
theorem jk {l:Loc} {k j:Nat} {a:AV} (h:k≠j):upL l j a k=l k:=by rw [zO,beq_eq_false_iff_ne.mpr h]
theorem xg {σ:St} {mt:Nat→Bool} {w:WG} {P R:List MG} {e:MG} {zs:List AV} {j:Nat} (h:At σ mt (iG w (P++e::R))) (hn:((P++e::R).map (·.k)).Nodup) (hl:(P++e::R).length<900) (L:Lo σ mt (iG w (P++e::R)) w.m.fr zs) (hz:zs.length<900)
    {l:Loc} (l0:l 0=some (.ref 6)) (l2:l 2=some (.int j)) (l5:l 5=some (.int e.k)) :
    ∃ σ' l' zs',rI l σ=some (.ok .next,l',σ')∧(∀ k,k≠6→k≠7→k≠8→l' k=l k)∧At σ' mt (iG w (if fV j e then P++e::R else P++R))∧Kp σ mt σ' mt∧Lo σ' mt (iG w (if fV j e then P++e::R else P++R)) w.m.fr zs'∧zs'.length≤zs.length+1∧Sm [9,w.m.fr] σ σ':=by
  have F6:=h.F.f6
  have m5:=h.c5.1
  have l9:=h.F.lt 9 (by decide)
  have c9:σ.get 9=some (.idict ((P++e::R).map fun e=>(e.k,AV.ref e.tp))):=h.c9.1
  have hlook:=sR hn (e:=e) (by simp)
  have tt:=(h.mtp (e:=e) (by show e∈P++e::R; simp)).1
  have hdrop:=Ay hn
  have hlen:((P++e::R).map fun e=>(e.k,AV.ref e.tp)).length<2000:=by rw [List.length_map]; omega
  obtain ⟨h1,s1⟩:=D9 (md:=P++R) h (fun x hx=>by
    show x∈P++e::R
    rcases List.mem_append.mp hx with hx | hx
    · exact List.mem_append_left _ hx
    · exact List.mem_append_right _ (List.mem_cons_of_mem _ hx))
  change At _ mt (iG w (P++R)) at h1
  have dp:∀ l,qY [.ref 9,.int e.k] l σ=some (.ok (.ref e.tp),l,σ.set 9 (.idict ((P++R).map fun e=>(e.k,.ref e.tp)))):=fun l=>by
    unfold qY
    simp only [c9,hlook,hdrop]
    rw [if_pos hlen]
  generalize σ.set 9 (.idict ((P++R).map fun e=>(e.k,AV.ref e.tp)))=τ at h1 s1 dp
  have k1:Kp σ mt τ mt:=Kp.sm s1 (df h.c9.2.2) (fun _ _=>rfl)
  have L1:Lo τ mt (iG w (P++R)) w.m.fr zs:=L.sm s1 (df (j0 mu9)) (fun _ _=>rfl) (fun q=>.inl q)
  have F6':=h1.F.f6
  have m5':=h1.c5.1
  have ap:=nR L1 (by omega) (.int e.k)
  have fg:=L1.g
  obtain ⟨h2,k2,L2⟩:=h1.loose L1 (zs++[.int e.k])
  have s2:=vo τ w.m.fr (.list (zs++[.int e.k]))
  generalize τ.set w.m.fr (.list (zs++[.int e.k]))=τ2 at h2 k2 L2 ap s2
  have sub:∀ l,gC (.ref 9) (.int e.k) l σ=some (.ok (.ref e.tp),l,σ):=fun l=>by
    simp only [gC,c9,hlook,Option.map_some]
  have m5a:σ.get 5=some (.sdict (mkv w.m)):=m5
  have m5b:τ.get 5=some (.sdict (mkv w.m)):=m5'
  generalize (P++e::R).map (fun e=>(e.k,AV.ref e.tp))=kvs at c9
  cases hg:e.g with
  | true =>
    rw [hg] at tt
    refine ⟨σ,upL (upL (upL l 6 (.int e.c)) 7 (.bool true)) 8 (.int e.lv),zs,?_,fun k a b c=>(jk c).trans ((jk b).trans (jk a)),by simp [fV,hg]; exact h,.refl _ _,by simp [fV,hg]; exact L,by omega,.refl _ _⟩
    unfold rI
    exact (Eq.trans (av (kn (aF (ao (aa l0) F6 rfl m5a rfl) (aa l5) (sub _)) (cT tt rfl) (aS be (aS be (aS be dq)))) (bc (dM (jd (bj (aa rfl)) rfl)) (ag _))) rfl)
  | false =>
    rw [hg] at tt
    by_cases q:e.lv≤(j:Int)
    · have q':∀ σ,dk σ .Gt (.int e.lv) (.int j)=some false:=fun _=>congrArg some (decide_eq_false (by omega))
      refine ⟨σ,upL (upL (upL l 6 (.int e.c)) 7 (.bool false)) 8 (.int e.lv),zs,?_,fun k a b c=>(jk c).trans ((jk b).trans (jk a)),by simp [fV,hg,q]; exact h,.refl _ _,by simp [fV,hg,q]; exact L,by omega,.refl _ _⟩
      unfold rI
      exact (Eq.trans (av (kn (aF (ao (aa l0) F6 rfl m5a rfl) (aa l5) (sub _)) (cT tt rfl) (aS be (aS be (aS be dq)))) (bc (cA (jd (bj (aa rfl)) rfl) (dM (aE (aa rfl) (aa l2) (q' _)))) (ag _))) rfl)
    · have q':∀ σ,dk σ .Gt (.int e.lv) (.int j)=some true:=fun _=>congrArg some (decide_eq_true (by omega))
      refine ⟨τ2,upL (upL (upL l 6 (.int e.c)) 7 (.bool false)) 8 (.int e.lv),zs++[.int e.k],?_,fun k a b c=>(jk c).trans ((jk b).trans (jk a)),by simp [fV,hg,q]; exact h2,k1.trans k2,by simp [fV,hg,q]; exact L2,by simp,(s1.more (by simp)).trans (s2.more (by simp))⟩
      unfold rI
      exact (Eq.trans (av (kn (aF (ao (aa l0) F6 rfl m5a rfl) (aa l5) (sub _)) (cT tt rfl) (aS be (aS be (aS be dq)))) (dm (cA (jd (bj (aa rfl)) rfl) (cA (aE (aa rfl) (aa l2) (q' _)) (ag _))) (av (ca (ql (ao (aa l0) F6 rfl m5a rfl) c9 (af (aa l5) am) (dp _))) (ca (lz (ao (aa l0) F6' rfl m5b rfl) fg (af (aa l5) am) (ap _)))))) rfl)
theorem xh {mt:Nat→Bool} {w:WG} {kl j:Nat} (hl:w.md.length<900) (hn:(w.md.map (·.k)).Nodup):∀ (R D P:List MG) (N:Nat) (l:Loc) (σ:St) (zs:List AV),w.md=D++R→P=D.filter (fV j)→At σ mt (iG w (P++R))→Lo σ mt (iG w (P++R)) w.m.fr zs→zs.length≤D.length→Im σ mt (kl,.list (w.md.map fun e=>.int e.k))→R.length<N →
    l 0=some (.ref 6)→l 2=some (.int j)→∃ σ' l' zs',cz (.list kl) [5] rI N D.length l σ=some (.ok .next,l',σ')∧(∀ k,k≠5→k≠6→k≠7→k≠8→l' k=l k)∧At σ' mt (iG w (w.md.filter (fV j)))∧Kp σ mt σ' mt∧Lo σ' mt (iG w (w.md.filter (fV j))) w.m.fr zs'∧Sm [9,w.m.fr] σ σ':=by
  intro R
  induction R with
  | nil =>
    intro D P N l σ zs e hP h L hz I hN l0 l2
    obtain ⟨N,rfl⟩:∃ k,N=k+1:=⟨N - 1,by simp at hN; omega⟩
    rw [List.append_nil] at e h L
    subst hP
    rw [← e] at h L
    refine ⟨σ,l,zs,?_,fun _ _ _ _ _=>rfl,h,.refl _ _,L,.refl _ _⟩
    have g:σ.get kl=_:=I.1
    have:(w.md.map fun e=>AV.int e.k)[D.length]?=none:=by rw [List.getElem?_eq_none_iff,List.length_map,e]; exact Nat.le_refl _
    simp only [cz,bH,g,this,Option.map_none]
  | cons e R ih =>
    intro D P N l σ zs eD hP h L hz I hN l0 l2
    obtain ⟨N,rfl⟩:∃ k,N=k+1:=⟨N - 1,by simp at hN; omega⟩
    have g:σ.get kl=_:=I.1
    have hi:(w.md.map fun e=>AV.int e.k)[D.length]?=some (.int e.k):=by
      rw [eD,List.map_append,List.getElem?_append_right (by simp)]; simp
    have sl:(P++e::R).Sublist w.md:=by rw [eD,hP]; exact List.filter_sublist.append (List.Sublist.refl _)
    have hll:=sl.length_le
    have hDl:D.length≤w.md.length:=by rw [eD,List.length_append]; omega
    obtain ⟨σ1,l1,zs1,e1,f1,h1,k1,L1,z1,y1⟩:=xg (j:=j) h ((sl.map _).nodup hn) (by omega) L (by omega) (l:=fun k=>if k=5 then some (.int e.k) else l k) (by simp [l0]) (by simp [l2]) (by simp)
    have hq:(if fV j e then P++e::R else P++R)=(D++[e]).filter (fV j)++R:=by
      rw [List.filter_append,hP]
      cases hs:fV j e <;> simp [List.filter_cons,hs]
    rw [hq] at h1 L1
    obtain ⟨σ2,l2',zs2,e2,f2,h2,k2,L2,y2⟩:=ih (D++[e]) _ N l1 σ1 zs1 (by rw [eD]; simp) rfl h1 L1 (by rw [List.length_append,List.length_singleton]; omega) (I.kp k1) (by simp at hN; omega) (by rw [f1 0 (by decide) (by decide) (by decide)]; simp [l0]) (by rw [f1 2 (by decide) (by decide) (by decide)]; simp [l2])
    refine ⟨σ2,l2',zs2,?_,fun k a b c d=>by rw [f2 k a b c d,f1 k b c d]; simp [a],h2,k1.trans k2,L2,y1.trans y2⟩
    rw [List.length_append,List.length_singleton] at e2
    simp only [cz,bH,g,hi,Option.map_some,jp,au,bU,ret,ay,e1]
    exact e2
end Lw
end SP38
section SP39
set_option maxHeartbeats 4000000
namespace Lw
open St
theorem qw (w:WG):ids w=[2,5,8,9,39,66,69,86,90]++w.now::w.stL::w.m.sv::(w.st.flatMap stM).map (·.1):=by
  unfold ids
  rw [eF,List.map_append]; rfl
theorem B8 {σ:St} {mt:Nat→Bool} {w:WG} (h:At σ mt w) (j:Nat) :
    At ((σ.push (.list ((w.sv.map fun v=>AV.ref v.vi).take j))).set 5 (.sdict (mkv { w.m with sv:=σ.next }))) (mtM mt σ.next [σ.next]) { w with m:={ w.m with sv:=σ.next },sv:=w.sv.take j } ∧
    Sm [5] σ ((σ.push (.list ((w.sv.map fun v=>AV.ref v.vi).take j))).set 5 (.sdict (mkv { w.m with sv:=σ.next }))):=by
  have l5:=h.F.lt 5 (by decide)
  have s:Sm [5] σ ((σ.push (.list ((w.sv.map fun v=>AV.ref v.vi).take j))).set 5 (.sdict (mkv { w.m with sv:=σ.next }))) :=
    ⟨Nat.le_succ _,fun i hi hn=>by rw [get_set,if_neg (by simpa using hn),get_push,if_neg (by omega)]⟩
  have e:(w.sv.map fun v=>AV.ref v.vi).take j=(w.sv.take j).map fun v=>AV.ref v.vi:=List.map_take.symm
  refine ⟨At.to3 (D:=[5]) [(5,.sdict (mkv { w.m with sv:=σ.next })),(σ.next,.list ((w.sv.take j).map fun v=>.ref v.vi))] h s (fun i hi=>fF hi) rfl (dv w) (eZ w) same same (fun v hv=>.inl (List.mem_of_mem_take hv))
    (ch ⟨inM (k:=1) rfl,by rw [get_set,if_pos rfl],Nat.lt_succ_of_lt l5,(fF l5).trans h.c5.2.2⟩ (df ⟨inM (k:=11) rfl,by rw [get_set,if_neg (Nat.ne_of_gt l5),get_push,if_pos rfl,e],Nat.lt_succ_self _,qr (Nat.le_refl _) (mi (i:=0) rfl)⟩))
    (df ⟨h.c5.2.2,mi (i:=0) rfl⟩) (.keep (.new (mi (i:=0) rfl) (.keep (.keep (.keep (.keep (.keep (.keep (.keep (.keep (.keep (.new (mi (i:=1) rfl) .nil)))))))))))) (fD w) ?_,s⟩
  · have nd:=h.nd
    have all:∀ i∈ids w,i<σ.next:=fun i hi=>(h.idl hi).1
    change (ids w).Nodup at nd
    change (ids _).Nodup
    rw [qw] at nd all ⊢
    rw [show [2,5,8,9,39,66,69,86,90]++w.now::w.stL::w.m.sv::(w.st.flatMap stM).map (·.1)=[2,5,8,9,39,66,69,86,90,w.now,w.stL]++w.m.sv::(w.st.flatMap stM).map (·.1) from rfl] at nd all
    show ([2,5,8,9,39,66,69,86,90,w.now,w.stL]++σ.next::(w.st.flatMap stM).map (·.1)).Nodup
    refine na nd (fun q=>?_) (fun q=>?_)
    · have:=all σ.next (List.mem_append_left _ q); omega
    · have:=all σ.next (List.mem_append_right _ (List.mem_cons_of_mem _ q)); omega
theorem xi {σ:St} {ud:Nat} {ys:List AV} (g:σ.get ud=some (.list ys)) (hl:ys.length<100) (hy:∀ y∈ys,∃ j wd rest,y=AV.ref j∧σ.get j=some (.tup (.str wd::rest))∧(wd=66∨wd=67)∧rest.length<1000) (a:AV) :
    cR [a,.ref ud] σ=some (.ok .none,σ):=by
  have key:∀ (m p N:Nat) (l:Loc),p+m=ys.length→m<N→∃ l',cz (.list ud) [2] (ifX (fW (bA .Eq (aO (ac 2) (ret (.int 0))) (ret (.str 9))) (fW stuck (ret true))) stuck (ret .next)) N p l σ=some (.ok .next,l',σ):=by
    intro m
    induction m with
    | zero =>
      intro p N l e hN
      obtain ⟨N,rfl⟩:∃ k,N=k+1:=⟨N - 1,by omega⟩
      have:ys[p]?=none:=by rw [List.getElem?_eq_none_iff]; omega
      exact ⟨l,eE (hV g (by rw [this]; rfl))⟩
    | succ m ih =>
      intro p N l e hN
      obtain ⟨N,rfl⟩:∃ k,N=k+1:=⟨N - 1,by omega⟩
      have hp:p<ys.length:=by omega
      obtain ⟨j,wd,rest,e1,e2,e3,e4⟩:=hy ys[p] (List.getElem_mem hp)
      have hi:ys[p]?=some (.ref j):=by rw [List.getElem?_eq_getElem hp,e1]
      obtain ⟨l',e'⟩:=ih (p+1) N (upL l 2 (.ref j)) (by omega) (by omega)
      have hl2:ltB (AV.str wd::rest) 2000=true:=jT (by rw [List.length_cons]; omega)
      have c1:dk σ .Eq (.str wd) (.str 9)=some false:=by rcases e3 with rfl | rfl <;> rfl
      exact ⟨l',fy (hV g (by rw [hi]; rfl)) (bc (dM (aE (aF (aa rfl) (ag _) (lx e2 hl2 rfl)) (ag _) c1)) (ag _)) e'⟩
  obtain ⟨l',e⟩:=key ys.length 0 100 (cY [a,.ref ud]) (by omega) (by omega)
  exact dy rfl (jx (aa rfl) g e)
end Lw
end SP39
section SP40
set_option maxHeartbeats 4000000
namespace Lw
open St
noncomputable def Bh:M AF:=ay (bg cs9 34 (ac 0) (pb (aw cs9 34 (ac 0)) (ac 2)))
  (ay (bg cs9 47 (ac 0) (dJ aq))
  (ay (nk (au (ah (aw cs9 46 (ac 0)) aq) du) 5 rI 100)
  (ay (bS (bT 781 cR (ac 0) (ah (ac 4) aq)))
  (ay (bg cs9 42 (ac 0) (aw cs9 42 (ac 3)))
  (cu (ac 4))))))
theorem xj:gp=ay (bn (bT 781 cK (ac 0) (ah (ac 1) aq)) 2)
  (ay (bn (aO (aw cs9 34 (ac 0)) (ac 2)) 3)
  (ay (bn (dJ aq) 4)
  (ay (jJ wi uc 100) Bh))):=rfl
noncomputable def WG.cut (w:WG) (j a b:Nat) (u:Int):WG:={ w with m:={ w.m with sv:=a,fr:=b,used:=u },sv:=w.sv.take j,md:=w.md.filter (fV j) }
theorem Az {σ:St} {mt:Nat→Bool} {w:WG} {j:Nat} {v:VG} {ud:Nat} {ys:List AV} (h:At σ mt w) (hv:v∈w.sv) (h3:w.sv.length≤3) (hmd:w.md.length<90) (hnd:(w.md.map (·.k)).Nodup) (L:Lo σ mt w ud ys)
    (hl:ys.length<100) (hy:∀ y∈ys,∃ j wd rest,y=AV.ref j∧Im σ mt (j,.tup (.str wd::rest))∧(wd=66∨wd=67)∧rest.length<1000)
    {l:Loc} (l0:l 0=some (.ref 6)) (l2:l 2=some (.int j)) (l3:l 3=some (.ref v.vi)) (l4:l 4=some (.ref ud)) :
    ∃ σ' l' mt' a b,Bh l σ=some (.ok (.ret (.ref ud)),l',σ')∧At σ' mt' (w.cut j a b v.used)∧Kp σ mt σ' mt'∧91≤a:=by
  have n9:=h.F.hn
  obtain ⟨s1,s2,s3⟩:=h.cSv
  have F6:=h.F.f6
  have m5:=h.c5.1
  have v1:Im σ mt (v.vi,.inst 500 v.vd):=h.im (v.vi,.inst 500 v.vd) (nQ hv (mi (i:=2) rfl))
  have v2:Im σ mt (v.vd,.sdict [(5,.int v.num),(13,.int v.many),(42,.int v.used),(43,.none)]):=h.im (v.vd,.sdict [(5,.int v.num),(13,.int v.many),(42,.int v.used),(43,.none)]) (nQ hv (mi (i:=3) rfl))
  obtain ⟨h1,sm1⟩:=B8 h j
  have L1:=L.sm (mt':=mtM mt σ.next [σ.next]) (w':={ w with m:={ w.m with sv:=σ.next },sv:=w.sv.take j }) sm1 (df (j0 mu5)) (fun i hi=>fF hi) (fun q=>by
    rw [qw] at q ⊢
    simp only [List.mem_append,List.mem_cons] at q ⊢
    rcases q with q | q | q | q | q
    · exact .inl (.inl q)
    · exact .inl (.inr (.inl q))
    · exact .inl (.inr (.inr (.inl q)))
    · exact .inr (by rw [q]; exact Nat.le_refl _)
    · exact .inl (.inr (.inr (.inr (.inr q)))))
  have k1:=Kp.sm (mt:=mt) (mt':=mtM mt σ.next [σ.next]) sm1 (df h.c5.2.2) (fun i hi=>fF hi)
  have up:∀ l,qW (.ref w.m.sv) (.int j) l σ=some (.ok (.ref σ.next),l,σ.push (.list ((w.sv.map fun v=>AV.ref v.vi).take j))):=fun l=>by
    have:(w.sv.map fun v=>AV.ref v.vi).length<2 ^ 24:=by rw [List.length_map]; omega
    have z:(0:Int)≤j:=by omega
    simp only [qW,s1,z,this,and_self,if_true,Int.toNat_natCast]
  have p5:(σ.push (.list ((w.sv.map fun v=>AV.ref v.vi).take j))).get 5=some (.sdict (mkv w.m)):=by rw [get_push,if_neg (by omega)]; exact m5
  have p6:(σ.push (.list ((w.sv.map fun v=>AV.ref v.vi).take j))).get 6=some (.inst 781 5):=by rw [get_push,if_neg (by omega)]; exact F6
  have a1:∀ l,kq cs9 34 (.ref 6) (.ref σ.next) l (σ.push (.list ((w.sv.map fun v=>AV.ref v.vi).take j)))=some (.ok (),l,(σ.push (.list ((w.sv.map fun v=>AV.ref v.vi).take j))).set 5 (.sdict (mkv { w.m with sv:=σ.next }))):=fun l=>lw p6 rfl p5 rfl rfl
  generalize (σ.push (.list ((w.sv.map fun v=>AV.ref v.vi).take j))).set 5 (.sdict (mkv { w.m with sv:=σ.next }))=τ1 at h1 sm1 L1 k1 a1
  generalize hm1:mtM mt σ.next [σ.next]=mt1 at h1 L1 k1
  generalize hw1:({ w with m:={ w.m with sv:=σ.next },sv:=w.sv.take j }:WG)=w1 at h1 L1
  have F61:=h1.F.f6
  have m51:=h1.c5.1
  obtain ⟨h2,k2,L2⟩:=h1.pushM []
  have L21:=L1.sm (mt':=mtM mt1 τ1.next [τ1.next]) (w':=w1) (show Sm [] τ1 (τ1.push (.list [])) by rw [fb]; exact Sm.ov _ _ _) (by simp) (fun i hi=>fF hi) (fun q=>.inl q)
  have p51:(τ1.push (.list [])).get 5=some (.sdict (mkv w1.m)):=h2.c5.1
  have p61:(τ1.push (.list [])).get 6=some (.inst 781 5):=h2.F.f6
  generalize aL:τ1.push (.list [])=τ2 at h2 k2 L2 L21 p51 p61
  generalize hm2:mtM mt1 τ1.next [τ1.next]=mt2 at h2 k2 L2 L21
  obtain ⟨h3',sm3⟩:=yX (m:={ w1.m with fr:=τ1.next }) h2 rfl
  have a2:∀ l,kq cs9 47 (.ref 6) (.ref τ1.next) l τ2=some (.ok (),l,τ2.set 5 (.sdict (mkv { w1.m with fr:=τ1.next }))):=fun l=>lw p61 rfl p51 rfl rfl
  have i5:∀ (w:WG),∀ i∈[5],i∈ids w:=fun w i hi=>by rw [List.mem_singleton] at hi; subst hi; exact j0 mu5
  have L3:=L2.sm (mt':=mt2) (w':={ w1 with m:={ w1.m with fr:=τ1.next } }) sm3 (i5 _) (fun _ _=>rfl) (fun q=>.inl q)
  have L31:=L21.sm (mt':=mt2) (w':={ w1 with m:={ w1.m with fr:=τ1.next } }) sm3 (i5 _) (fun _ _=>rfl) (fun q=>.inl q)
  have k3:=Kp.sm (mt:=mt2) (mt':=mt2) sm3 (df h2.c5.2.2) (fun _ _=>rfl)
  generalize τ2.set 5 (.sdict (mkv { w1.m with fr:=τ1.next }))=τ3 at h3' sm3 L3 L31 k3 a2
  generalize hw2:({ w1 with m:={ w1.m with fr:=τ1.next } }:WG)=w2 at h3' L3 L31
  obtain ⟨h4,k4,I4⟩:=h3'.pushI (.list (w2.md.map fun e=>.int e.k))
  have sm4:Sm [] τ3 (τ3.push (.list (w2.md.map fun e=>.int e.k))):=by rw [fb]; exact Sm.ov _ _ _
  have L4:=L3.sm (mt':=mtN mt2 τ3.next) (w':=w2) sm4 (by simp) (fun i hi=>cW hi) (fun q=>.inl q)
  have L41:=L31.sm (mt':=mtN mt2 τ3.next) (w':=w2) sm4 (by simp) (fun i hi=>cW hi) (fun q=>.inl q)
  have emd:w2.md=w.md:=by rw [← hw2,← hw1]
  have F63:=h3'.F.f6
  have m53:=h3'.c5.1
  have c93:=h3'.c9.1
  have lk:∀ l,du [.ref 9] l τ3=some (.ok (.ref τ3.next),l,τ3.push (.list (w2.md.map fun e=>.int e.k))):=fun l=>by
    have hlen:(w2.md.map fun e=>(e.k,AV.ref e.tp)).length<2 ^ 24:=by rw [List.length_map,emd]; omega
    simp only [du,c93,hlen,if_true,fc,List.map_map]
    rfl
  generalize τ3.push (.list (w2.md.map fun e=>.int e.k))=τ4 at h4 k4 I4 L4 L41 lk
  generalize hm4:mtN mt2 τ3.next=mt4 at h4 k4 I4 L4 L41
  have hfr:w2.m.fr=τ1.next:=by rw [← hw2]
  rw [← hfr] at L4
  obtain ⟨τ5,l5,zs,e5,f5,h5,k5,L5,sm5⟩:=xh (w:=w2) (kl:=τ3.next) (j:=j) (by rw [emd]; omega) (by rw [emd]; exact hnd) w2.md [] [] 100 l τ4 [] rfl rfl h4 L4 (Nat.le_refl _) I4 (by rw [emd]; omega) l0 l2
  have k15:=(((k1.trans k2).trans k3).trans k4).trans k5
  have hne:ud≠w2.m.fr:=by have:=L1.l; omega
  have hn9:ud≠9:=fun e=>L41.n (e▸j0 mu9)
  have g5:τ5.get ud=some (.list ys):=(sm5.2 ud L41.l (by simp; exact ⟨hn9,hne⟩)).trans L41.g
  have st:=xi g5 hl (fun y hy'=>by
    obtain ⟨j,wd,rest,a,b,c,d⟩:=hy y hy'
    exact ⟨j,wd,rest,a,(b.kp k15).1,c,d⟩) (.ref 6)
  have F65:=h5.F.f6
  have m55:τ5.get 5=some (.sdict (mkv w2.m)):=h5.c5.1
  have v15:=(v1.kp k15).1
  have v25:=(v2.kp k15).1
  obtain ⟨h6,sm6⟩:=yX (m:={ w2.m with used:=v.used }) h5 rfl
  have k6:=Kp.sm (mt:=mt4) (mt':=mt4) sm6 (df h5.c5.2.2) (fun _ _=>rfl)
  have a6:∀ l,kq cs9 42 (.ref 6) (.int v.used) l τ5=some (.ok (),l,τ5.set 5 (.sdict (mkv { w2.m with used:=v.used }))):=fun l=>lw F65 rfl m55 rfl rfl
  generalize τ5.set 5 (.sdict (mkv { w2.m with used:=v.used }))=τ6 at h6 sm6 k6 a6
  have hw6:({ iG w2 (w2.md.filter (fV j)) with m:={ w2.m with used:=v.used } }:WG)=w.cut j σ.next τ1.next v.used:=by
    rw [← hw2,← hw1]; rfl
  have l50:l5 0=some (.ref 6):=(f5 0 (by decide) (by decide) (by decide) (by decide)).trans l0
  have l53:l5 3=some (.ref v.vi):=(f5 3 (by decide) (by decide) (by decide) (by decide)).trans l3
  have l54:l5 4=some (.ref ud):=(f5 4 (by decide) (by decide) (by decide) (by decide)).trans l4
  refine ⟨τ6,l5,mt4,σ.next,τ1.next,?_,hw6▸h6,k15.trans k6,by omega⟩
  have I4':=I4.1
  change τ4.get τ3.next=some (.list _) at I4'
  rw [List.length_nil] at e5
  exact av (jc (bB (ao (aa l0) F6 rfl m5 rfl) (bB (aa l2) (up l))) (aa l0) (a1 l))
    (av (jc (fC am rfl aL) (aa l0) (a2 l))
    (av (jx (bB (af (ao (aa l0) F63 rfl m53 rfl) am) (lk l)) I4' e5)
    (av (ca (bV (aa l50) F65 m55 (af (aa l54) am) st))
    (av (jc (ao (aa l53) v15 rfl v25 rfl) (aa l50) (a6 l5)) (aY (aa l54))))))
end Lw
end SP40
section SP41
set_option maxHeartbeats 4000000
namespace Lw
open St
theorem vq {σ:St} {mt:Nat→Bool} {w:WG} {n:Nat} {t:List Nat} (h:At σ mt { w with tl:=t }) (o:Ok w n) (hn:n≤20) {j:Nat} {v:VG} (hj:w.sv[j]?=some v) (hb:∀ i u,i<j→w.sv[i]?=some u→u.num≠v.num) :
    ∃ σ' mt' st1 a1 ud a b,cS [.ref 6,.int v.num] σ=some (.ok (.ref ud),σ')∧At σ' mt' ((w.un t v.many st1 a1).cut j a b v.used)∧Un w v.many st1 a1∧Kp σ mt σ' mt'∧91≤a:=by
  have l2:=o.l2
  have l3:=o.l3
  have l4:=o.l4
  have hv:=aR hj
  have hjl:=(List.getElem?_eq_some_iff.mp hj).1
  have hm:=(o.k1 v hv).1
  have hp:=ua h.F h.c5.1 h.svAt o.l4 hj hb
  have F6:=h.F.f6
  have m5:=h.c5.1
  have q:=fun l=>rE (a:=j) (l:=l) h.cSv.1 (by rw [List.length_map]; show w.sv.length<2000; omega) (show _=some (AV.ref v.vi) by rw [List.getElem?_map]; show Option.map _ w.sv[j]?=_; rw [hj]; rfl) (by omega)
  have imj:∀ e∈w.jr,∃ wd rest,Im σ mt (e.jid,.tup (.str wd::rest))∧(wd=66∨wd=67)∧rest.length<1000:=fun e he=>by
    cases e with
    | state jid k gid ci cd r x c=>exact ⟨67,[.ref gid,.ref ci],h.im (jid,_) (t6 (w:={ w with tl:=t }) he (mi (i:=0) rfl)),.inr rfl,by simp⟩
    | item jid old=>exact ⟨66,[.ref 38,.int 1,old],h.im (jid,_) (t6 (w:={ w with tl:=t }) he (mi (i:=0) rfl)),.inl rfl,by simp⟩
  obtain ⟨h1,k1,L1⟩:=h.pushM []
  have aL:∀ l,cV (.list []) l σ=some (.ok (.ref σ.next),l,σ.push (.list [])):=fun l=>rfl
  generalize σ.push (.list [])=τ at h1 k1 L1 aL
  generalize mtM mt σ.next [σ.next]=mt1 at h1 k1 L1
  have e0:({ w with tl:=t }:WG)=w.un t w.jr.length w.st w.a39:=by simp [WG.un]
  rw [e0] at h1 L1
  have U0:Un w w.jr.length w.st w.a39:=⟨rfl,fun i s hi=>by
    obtain ⟨a,b,_⟩:=o.st s (aR hi)
    refine ⟨s.r,s.x,hi,rfl,rfl,a,?_⟩
    rw [List.drop_length]; exact b,o.a39⟩
  generalize hl:(fun k=>if k=4 then some (AV.ref σ.next) else if k=3 then some (.ref v.vi) else if k=2 then some (.int j) else cY [.ref 6,.int v.num] k)=l
  have l0:l 0=some (.ref 6):=by rw [← hl]; rfl
  have l2':l 2=some (.int j):=by rw [← hl]; rfl
  have l3':l 3=some (.ref v.vi):=by rw [← hl]; rfl
  have l4':l 4=some (.ref σ.next):=by rw [← hl]; rfl
  obtain ⟨τ2,mt2,st1,a1,ys,e2,h2,U2,k2,L2,b1,b2⟩:=xf o hn hv (w.jr.length - v.many) w.jr.length 100 l τ mt1 w.st w.a39 [] h1 U0 L1 (by simp) (by omega) (by omega) l0 l3' l4' (fun _ q=>by cases q)
  obtain ⟨τ3,l',mt3,a,b,e3,h3,k3,ha⟩:=Az (j:=j) h2 hv l4 (by show w.md.length<90; omega) o.mdn L2 (by omega) (fun y hy=>by
    obtain ⟨e,he,rfl⟩:=b2 y hy
    obtain ⟨wd,rest,x1,x2,x3⟩:=imj e he
    exact ⟨_,wd,rest,rfl,x1.kp (k1.trans k2),x2,x3⟩) l0 l2' l3' l4'
  refine ⟨τ3,mt3,st1,a1,σ.next,a,b,?_,h3,U2,(k1.trans k2).trans k3,ha⟩
  have b0:cY [AV.ref 6,AV.int v.num] 0=some (.ref 6):=rfl
  have b1:cY [AV.ref 6,AV.int v.num] 1=some (.int v.num):=rfl
  have m5':σ.get 5=some (.sdict (mkv w.m)):=m5
  have q':∀ l,gC (.ref w.m.sv) (.int j) l σ=some (.ok (.ref v.vi),l,σ):=q
  simp [cS,iV,zb2,xj,bx,ay,bn,bT,jH,au,ac,b0,b1,F6,ah,aq,ret,kQ,hp,bU,aO,aw,kf,look,List.contains,List.elem,m5',mkv,q',dJ,aL,hl,e2,e3]
end Lw
end SP41
section SP42
set_option maxHeartbeats 4000000
namespace Lw
open St
theorem rJ {σ:St} {mt:Nat→Bool} {w:WG} {k:Nat} {s:SG} (h:At σ mt w) (hk:w.st[k]?=some s) {cid:Nat} {c:C3} (hc:Im σ mt (cid,.list (cl c))) :
    At (σ.set s.sid (.sdict [(57,.ref s.tid),(7,.bool s.r.glob),(58,.ref cid)])) mt (w.told k s cid c)∧Kp σ mt (σ.set s.sid (.sdict [(57,.ref s.tid),(7,.bool s.r.glob),(58,.ref cid)])) mt:=by
  have hs:=aR hk
  obtain ⟨d1,d2,d3⟩:=h.stsid hs
  have sm:=vo σ s.sid (.sdict [(57,.ref s.tid),(7,.bool s.r.glob),(58,.ref cid)])
  have kp:=Kp.sm (mt:=mt) (mt':=mt) sm (df d3) (fun _ _=>rfl)
  obtain ⟨c1,c2,c3⟩:=hc.kp kp
  refine ⟨At.to2 (D:=[s.sid]) [(s.sid,.sdict [(57,.ref s.tid),(7,.bool s.r.glob),(58,.ref cid)])] h sm (fun i hi=>rfl) (fun p hp=>?_) (fun q hq=>?_) (fun i hi=>?_) (fun p hp=>?_) ?_,kp⟩
  · rcases t7 hp with rfl | hp | ⟨t,ht,hp⟩ | ⟨j,hjm,hp⟩ | ⟨e,he,hp⟩ | ⟨v,hv,hp⟩
    · exact .inl yK
    · exact .inl (jj hp)
    · rcases List.mem_or_eq_of_mem_set ht with ht | rfl
      · exact .inl (hW ht hp)
      · simp only [sF,List.cons_append,List.nil_append,List.mem_cons] at hp
        rcases hp with rfl | rfl | rfl | rfl | hp
        · exact .inl (hW hs (by simp [sF]))
        · exact .inl (hW hs (by simp [sF]))
        · exact .inl (hW hs (by simp [sF]))
        · exact .inr ⟨c1,c2,c3⟩
        · exact .inl (hW hs (by simp only [sF,List.mem_append]; exact .inr hp))
    · exact .inl (t6 (w:=w) hjm hp)
    · exact .inl (yL (w:=w) he hp)
    · exact .inl (nQ (w:=w) hv hp)
  · rw [List.mem_singleton] at hq
    subst hq
    refine ⟨hX (s:={ s with cid:=cid,c:=c }) (List.mem_set (List.getElem?_eq_some_iff.mp hk).1 _) (by simp [stM]),by rw [get_set,if_pos rfl],d2,d3⟩
  · rw [List.mem_singleton] at hi
    subst hi
    exact ⟨d3,_,List.mem_cons_self,rfl⟩
  · rw [eF] at hp
    rcases List.mem_append.mp hp with hp | hp
    · have e:(w.st.set k { s with cid:=cid,c:=c }).map (fun s=>AV.ref s.sid)=w.st.map fun s=>AV.ref s.sid:=by
        rw [List.map_set]
        obtain ⟨hk',e⟩:=List.getElem?_eq_some_iff.mp (show (w.st.map fun s=>AV.ref s.sid)[k]?=some (.ref s.sid) by rw [List.getElem?_map,hk]; rfl)
        rw [← e]; exact List.set_getElem_self hk'
      refine .inr ?_
      rw [eF]
      refine List.mem_append_left _ ?_
      simp only [WG.told,e] at hp
      exact hp
    · rcases oQ hp with hp | hp
      · simp only [stM,List.mem_cons,List.not_mem_nil,or_false] at hp
        rcases hp with rfl | rfl
        · exact .inl List.mem_cons_self
        · exact .inr (hX hs (by simp [stM]))
      · exact .inr (by rw [eF]; exact List.mem_append_right _ hp)
  · have e:(mutF (w.told k s cid c)).map (·.1)=(mutF w).map (·.1):=by
      rw [eF,eF,List.map_append,List.map_append]
      congr 1
      exact sQ hk rfl rfl
    rw [e]; exact h.nd
noncomputable def yZ:M AF:=dw (ac 8) (ret (.str 58)) (ifE (asB (aO (ac 8) (ret (.str 7)))) (aO (ac 8) (ret (.str 58))) (ac 9))
noncomputable def gW (K:List (Nat×C3)) (i:Nat) (s:SG):SG:=if s.r.glob then s else match K[i]? with
  | some q=>{ s with cid:=q.1,c:=q.2 }
  | none=>s
noncomputable def oB (w:WG) (st:List SG):WG:={ w with st:=st }
theorem y0 {σ:St} {mt:Nat→Bool} {w:WG} {p:Nat} {s:SG} {K:List (Nat×C3)} {q:Nat×C3} (h:At σ mt w) (hp:w.st[p]?=some s) (hq:K[p]?=some q) (I:Im σ mt (q.1,.list (cl q.2))) {l:Loc} (l8:l 8=some (.ref s.sid)) (l9:l 9=some (.ref q.1)) :
    ∃ σ',yZ l σ=some (.ok .next,l,σ')∧At σ' mt (oB w (w.st.set p (gW K p s)))∧Kp σ mt σ' mt:=by
  have hs:=aR hp
  have d1:=(h.stsid hs).1
  have q1:=sT d1 (k:=7) rfl
  have q2:=sT d1 (k:=58) rfl
  cases hg:s.r.glob with
  | true =>
    have hI:Im σ mt (s.cid,.list (cl s.c)):=h.scid hs
    obtain ⟨h1,k1⟩:=rJ h hp hI
    rw [hg] at d1 q1 h1 k1
    refine ⟨_,?_,?_,k1⟩
    · simp [yZ,dw,ifE,asB,aO,au,ac,ret,l8,l9,q1,q2,dX,d1,store]
    · have:gW K p s={ s with cid:=s.cid,c:=s.c }:=by unfold gW; rw [if_pos hg]
      rw [this]; exact h1
  | false =>
    obtain ⟨h1,k1⟩:=rJ h hp I
    rw [hg] at d1 q1 h1 k1
    refine ⟨_,?_,?_,k1⟩
    · simp [yZ,dw,ifE,asB,aO,au,ac,ret,l8,l9,q1,q2,dX,d1,store]
    · have:gW K p s={ s with cid:=q.1,c:=q.2 }:=by unfold gW; rw [if_neg (by rw [hg]; simp),hq]
      rw [this]; exact h1
theorem AA {l:List SG} {p i:Nat} {a:SG} (h:p<l.length):(l.set p a)[i]?=if i=p then some a else l[i]?:=by
  by_cases q:i=p
  · subst q; rw [if_pos rfl,List.getElem?_set_self h]
  · rw [if_neg q,List.getElem?_set_ne (Ne.symm q)]
theorem y5 {mt:Nat→Bool} {w0:WG} {K:List (Nat×C3)} {kid:Nat} (hK:K.length≤w0.st.length):∀ (m p N:Nat) (l:Loc) (σ:St) (st:List SG),p+m=K.length→m<N→At σ mt (oB w0 st)→(∀ i,st[i]?=(w0.st[i]?).map fun s=>if i<p then gW K i s else s) →
    Im σ mt (kid,.list (K.map fun p=>.ref p.1))→(∀ q∈K,Im σ mt (q.1,.list (cl q.2)))→∃ σ' l' st',cz (.zip w0.stL kid) [8,9] yZ N p l σ=some (.ok .next,l',σ')∧At σ' mt (oB w0 st')∧(∀ i,st'[i]?=(w0.st[i]?).map fun s=>if i<K.length then gW K i s else s)∧Kp σ mt σ' mt∧∀ k,k≠8→k≠9→l' k=l k:=by
  intro m
  induction m with
  | zero =>
    intro p N l σ st e hN h hst I J
    obtain ⟨N,rfl⟩:∃ k,N=k+1:=⟨N - 1,by omega⟩
    have hp:p=K.length:=by omega
    subst hp
    refine ⟨σ,l,st,?_,h,hst,.refl _ _,fun _ _ _=>rfl⟩
    have g1:σ.get w0.stL=some (.list (st.map fun s=>.ref s.sid)):=h.cStL.1
    have g2:σ.get kid=_:=I.1
    have:(K.map fun p=>AV.ref p.1)[K.length]?=none:=by rw [List.getElem?_eq_none_iff,List.length_map]; exact Nat.le_refl _
    simp only [cz,bH,g1,g2,this]
    cases (st.map fun s=>AV.ref s.sid)[K.length]? <;> rfl
  | succ m ih =>
    intro p N l σ st e hN h hst I J
    obtain ⟨N,rfl⟩:∃ k,N=k+1:=⟨N - 1,by omega⟩
    have hpK:p<K.length:=by omega
    have hp0:p<w0.st.length:=by omega
    have g0:w0.st[p]?=some w0.st[p]:=List.getElem?_eq_getElem hp0
    have gs:st[p]?=some w0.st[p]:=by rw [hst p,g0,Option.map_some,if_neg (Nat.lt_irrefl _)]
    have gq:K[p]?=some K[p]:=List.getElem?_eq_getElem hpK
    have hpl:=(List.getElem?_eq_some_iff.mp gs).1
    have g1:σ.get w0.stL=some (.list (st.map fun s=>.ref s.sid)):=h.cStL.1
    have g2:σ.get kid=_:=I.1
    have i1:(st.map fun s=>AV.ref s.sid)[p]?=some (.ref w0.st[p].sid):=by rw [List.getElem?_map,gs]; rfl
    have i2:(K.map fun p=>AV.ref p.1)[p]?=some (.ref K[p].1):=by rw [List.getElem?_map,gq]; rfl
    obtain ⟨σ1,e1,h1,k1⟩:=y0 (K:=K) h (show (oB w0 st).st[p]?=_ from gs) gq (J _ (List.getElem_mem hpK)) (l:=fun k=>if k=9 then some (.ref K[p].1) else if k=8 then some (.ref w0.st[p].sid) else l k) (by simp) (by simp)
    obtain ⟨σ2,l',st',e2,h2,hs2,k2,f2⟩:=ih (p+1) N (fun k=>if k=9 then some (.ref K[p].1) else if k=8 then some (.ref w0.st[p].sid) else l k) σ1 (st.set p (gW K p w0.st[p])) (by omega) (by omega) h1 (fun i=>by
      rw [AA hpl]
      by_cases z:i=p
      · subst z
        rw [if_pos rfl,g0,Option.map_some,if_pos (Nat.lt_succ_self _)]
      · rw [if_neg z,hst i]
        congr 1
        funext s
        by_cases y:i<p
        · rw [if_pos y,if_pos (by omega)]
        · rw [if_neg y,if_neg (by omega)]) (I.kp k1) (fun q hq=>(J q hq).kp k1)
    refine ⟨σ2,l',st',?_,h2,hs2,k1.trans k2,fun k a b=>by rw [f2 k a b]; simp [a,b]⟩
    simp only [cz,bH,g1,g2,i1,i2,jp,au,bU,ret,ay,e1]
    exact e2
end Lw
end SP42
section SP43
set_option maxHeartbeats 4000000
namespace Lw
open St
theorem set_set (σ:St) (u:Nat) (a b:AO):(σ.set u a).set u b=σ.set u b:=by
  unfold St.set
  simp only [St.mk.injEq,true_and]
  funext j
  by_cases q:j=u
  · rw [if_pos q,if_pos q]
  · rw [if_neg q,if_neg q,if_neg q]
theorem xo {σ:St} {B acc:Nat} {ss:List SG} (hne:B≠acc) (hB:σ.get B=some (.list (ss.map fun s=>.ref s.sid))) (hs:∀ s∈ss,s.sid≠acc∧σ.get s.sid=some (.sdict [(57,.ref s.tid),(7,.bool s.r.glob),(58,.ref s.cid)])) :
    ∀ (m p N:Nat) (l:Loc) (zs:List AV),p+m=ss.length→m<N→zs.length+m<900→dT B acc (asB (aO (ac 0) (ret (.str 7)))) (ac 0) N p l (σ.set acc (.list zs))=some (σ.set acc (.list (zs++((ss.drop p).filter fun s=>s.r.glob).map fun s=>.ref s.sid))):=by
  have gB:∀ zs,(σ.set acc (.list zs)).get B=some (.list (ss.map fun s=>.ref s.sid)):=fun zs=>by rw [get_set,if_neg hne]; exact hB
  intro m
  induction m with
  | zero =>
    intro p N l zs e hN hz
    obtain ⟨N,rfl⟩:∃ k,N=k+1:=⟨N - 1,by omega⟩
    have:(ss.map fun s=>AV.ref s.sid)[p]?=none:=by rw [List.getElem?_eq_none_iff,List.length_map]; omega
    rw [List.drop_eq_nil_of_le (by omega)]
    simp only [dT,bH,gB,this,Option.map_none,List.filter_nil,List.map_nil,List.append_nil]
  | succ m ih =>
    intro p N l zs e hN hz
    obtain ⟨N,rfl⟩:∃ k,N=k+1:=⟨N - 1,by omega⟩
    have hp:p<ss.length:=by omega
    have hi:(ss.map fun s=>AV.ref s.sid)[p]?=some (.ref ss[p].sid):=by rw [List.getElem?_map,List.getElem?_eq_getElem hp]; rfl
    obtain ⟨n1,d1⟩:=hs ss[p] (List.getElem_mem hp)
    have d2:(σ.set acc (.list zs)).get ss[p].sid=some (.sdict [(57,.ref ss[p].tid),(7,.bool ss[p].r.glob),(58,.ref ss[p].cid)]):=by rw [get_set,if_neg n1]; exact d1
    have q1:=sT d2 (k:=7) rfl
    have tb:∀ l:Loc,asB (aO (ac 0) (ret (.str 7))) (lR l 0 (.ref ss[p].sid)) (σ.set acc (.list zs))=some (.ok ss[p].r.glob,lR l 0 (.ref ss[p].sid),σ.set acc (.list zs)):=fun l=>by
      simp [asB,aO,au,ac,lR,ret,q1]
    have eb:∀ l:Loc,ac 0 (lR l 0 (.ref ss[p].sid)) (σ.set acc (.list zs))=some (.ok (.ref ss[p].sid),lR l 0 (.ref ss[p].sid),σ.set acc (.list zs)):=fun l=>by simp [ac,lR]
    have ap:∀ l:Loc,bI [.ref acc,.ref ss[p].sid] l (σ.set acc (.list zs))=some (.ok .none,l,σ.set acc (.list (zs++[.ref ss[p].sid]))):=fun l=>by
      have:zs.length<2000:=by omega
      have g:(σ.set acc (.list zs)).get acc=some (.list zs):=by rw [get_set,if_pos rfl]
      simp only [bI,g,this,if_true,set_set]
    rw [List.drop_eq_getElem_cons hp,List.filter_cons]
    cases hg:ss[p].r.glob with
    | true =>
      rw [hg] at tb
      have:=ih (p+1) N (lR l 0 (.ref ss[p].sid)) (zs++[.ref ss[p].sid]) (by omega) (by omega) (by rw [List.length_append,List.length_singleton]; omega)
      simp only [dT,bH,gB,hi,Option.map_some,tb,eb,ap,this,if_true,List.map_cons,List.append_assoc,List.singleton_append]
    | false =>
      rw [hg] at tb
      have:=ih (p+1) N (lR l 0 (.ref ss[p].sid)) zs (by omega) (by omega) (by omega)
      simp only [dT,bH,gB,hi,Option.map_some,tb,this]
      simp
noncomputable def stay (st:List SG) (k:Nat):List SG:=st.take k++(st.drop k).filter fun s=>s.r.glob
theorem uf (st:List SG) (k:Nat):(stay st k).Sublist st:=by
  have:st=st.take k++st.drop k:=(List.take_append_drop k st).symm
  conv=>rhs; rw [this]
  exact (List.Sublist.refl _).append List.filter_sublist
theorem y6 {l l':List SG} (h:l.Sublist l'):(l.flatMap stM).Sublist (l'.flatMap stM):=by
  induction h with
  | slnil=>exact List.Sublist.refl _
  | cons a _ ih=>rw [List.flatMap_cons]; exact ih.trans (List.sublist_append_right _ _)
  | cons_cons a _ ih=>rw [List.flatMap_cons,List.flatMap_cons]; exact (List.Sublist.refl _).append ih
theorem B9 {σ σ':St} {mt:Nat→Bool} {w:WG} {st':List SG} {a:Nat} (h:At σ mt w) (hs:st'.Sublist w.st) (sm:Sm [86] σ σ') (hw:σ'.get 86=some (.sdict (wkv w.now a))) (ha:σ'.get a=some (.list (st'.map fun s=>.ref s.sid))) (a1:σ.next≤a) (a2:a<σ'.next) :
    At σ' (mtM mt σ.next [a]) { w with st:=st',stL:=a }:=by
  have l86:=h.F.lt 86 (by decide)
  refine At.to3 (D:=[86]) [(86,.sdict (wkv w.now a)),(a,.list (st'.map fun s=>.ref s.sid))] h sm (fun i hi=>fF hi) rfl (dv w) (fun t ht p hp=>.inl (hW (hs.subset ht) hp)) same same same
    (ch ⟨inM (k:=7) rfl,hw,Nat.lt_of_lt_of_le l86 sm.1,(fF l86).trans h.c86.2.2⟩ (df ⟨inM (k:=10) rfl,ha,a2,qr a1 (mi (i:=0) rfl)⟩)) (df ⟨h.c86.2.2,mi (i:=0) rfl⟩)
    (.keep (.keep (.keep (.keep (.keep (.keep (.keep (.new (mi (i:=0) rfl) (.keep (.keep (.new (mi (i:=1) rfl) (.refl _)))))))))))) (fun t ht p hp=>.inr (hX (hs.subset ht) hp)) ?_
  · have nd:=h.nd
    have all:∀ i∈ids w,i<σ.next:=fun i hi=>(h.idl hi).1
    change (ids w).Nodup at nd
    change (ids _).Nodup
    rw [qw] at nd all ⊢
    have sub:((st'.flatMap stM).map (·.1)).Sublist ((w.st.flatMap stM).map (·.1)):=(y6 hs).map _
    rw [show [2,5,8,9,39,66,69,86,90]++w.now::w.stL::w.m.sv::(w.st.flatMap stM).map (·.1)=[2,5,8,9,39,66,69,86,90,w.now]++w.stL::(w.m.sv::(w.st.flatMap stM).map (·.1)) from rfl] at nd all
    show ([2,5,8,9,39,66,69,86,90,w.now]++a::(w.m.sv::(st'.flatMap stM).map (·.1))).Nodup
    have nd':([2,5,8,9,39,66,69,86,90,w.now]++w.stL::(w.m.sv::(st'.flatMap stM).map (·.1))).Nodup:=((List.Sublist.refl _).append (sub.cons_cons _ |>.cons_cons _)).nodup nd
    refine na nd' (fun q=>?_) (fun q=>?_)
    · have:=all a (List.mem_append_left _ q); omega
    · have:=all a (List.mem_append_right _ (List.mem_cons_of_mem _ ((sub.cons_cons _).subset q))); omega
end Lw
end SP43
section SP44
set_option maxHeartbeats 4000000
namespace Lw
open St
noncomputable def y7:M AF:=dw (ac 0) (ret (.str 56)) (fH .Add (pb (ac 2) (au (ah (ac 6) aq) em)) (kg (vz (ac 2) (au (ah (ac 6) aq) em)) (asB (aO (ac 0) (ret (.str 7)))) (ac 0) 100))
theorem y8 {σ:St} {mt:Nat→Bool} {w:WG} {K:List (Nat×C3)} {kid:Nat} (h:At σ mt w) (hl:w.st.length<90) (hK:K.length≤w.st.length) (I:Im σ mt (kid,.list (K.map fun p=>.ref p.1))) {l:Loc} (l0:l 0=some (.ref 86)) (l2:l 2=some (.ref w.stL)) (l6:l 6=some (.ref kid)) :
    ∃ σ' mt' a,y7 l σ=some (.ok .next,l,σ')∧At σ' mt' { w with st:=stay w.st K.length,stL:=a }∧Kp σ mt σ' mt'∧91≤a:=by
  have n9:=h.F.hn
  obtain ⟨g1,g2,_⟩:=h.cStL
  have i1:σ.get kid=_:=I.1
  have i2:kid<σ.next:=I.2.1
  have l86:=h.F.lt 86 (by decide)
  have wd:=h.wd
  have lk:∀ L l,em [.ref kid] l (ov σ [] L)=some (.ok (.int K.length),l,ov σ [] L):=fun L l=>by
    have:=ie (σ:=ov σ [] L) (i:=kid) (xs:=K.map fun p=>.ref p.1) (by rw [bb i2]; exact i1) (by rw [List.length_map]; omega) l
    rwa [List.length_map] at this
  have hz:(w.st.map fun s=>AV.ref s.sid).length<2 ^ 24:=by rw [List.length_map]; omega
  have z:(0:Int)≤(K.length:Int):=by omega
  have gO:∀ L,(ov σ [] L).get w.stL=some (.list (w.st.map fun s=>.ref s.sid)):=fun L=>by rw [bb g2]; exact g1
  have up:∀ l,qW (.ref w.stL) (.int K.length) l (ov σ [] [])=some (.ok (.ref σ.next),l,ov σ [] [.list ((w.st.map fun s=>.ref s.sid).take K.length)]):=fun l=>by
    simp only [qW,gO,z,hz,and_self,if_true,Int.toNat_natCast,dx,gx,List.length_nil,Nat.add_zero,List.nil_append]
  have fr:∀ l,vy (.ref w.stL) (.int K.length) l (ov σ [] [.list ((w.st.map fun s=>.ref s.sid).take K.length)])=some (.ok (.ref (σ.next+1)),l,ov σ [] [.list ((w.st.map fun s=>.ref s.sid).take K.length),.list ((w.st.drop K.length).map fun s=>.ref s.sid)]):=fun l=>by
    simp only [vy,gO,z,hz,and_self,if_true,Int.toNat_natCast,dx,gx,List.length_singleton,List.singleton_append,List.map_drop]
  have fl:=xo (σ:=ov σ [] [.list ((w.st.map fun s=>.ref s.sid).take K.length),.list ((w.st.drop K.length).map fun s=>.ref s.sid),.list []]) (B:=σ.next+1) (acc:=σ.next+2) (ss:=w.st.drop K.length) (by omega) (bL (k:=1) rfl) (fun s hs=>by
    obtain ⟨a,b,_⟩:=h.stsid (List.mem_of_mem_drop hs)
    exact ⟨by omega,by rw [bb b]; exact a⟩) (w.st.drop K.length).length 0 100 (fun _=>none) [] (by omega) (by rw [List.length_drop]; omega) (by rw [List.length_drop]; simp; omega)
  rw [jS (by simp),jS (by simp)] at fl
  simp only [List.set_cons_succ,List.set_cons_zero,List.drop_zero,List.nil_append] at fl
  have gB:(ov σ [] [.list ((w.st.map fun s=>.ref s.sid).take K.length),.list ((w.st.drop K.length).map fun s=>.ref s.sid)]).get (σ.next+1)=some (.list ((w.st.drop K.length).map fun s=>.ref s.sid)):=bL (k:=1) rfl
  have pB:(ov σ [] [.list ((w.st.map fun s=>.ref s.sid).take K.length),.list ((w.st.drop K.length).map fun s=>.ref s.sid)]).push (.list [])=ov σ [] [.list ((w.st.map fun s=>.ref s.sid).take K.length),.list ((w.st.drop K.length).map fun s=>.ref s.sid),.list []]:=by rw [dx]; rfl
  have nB:(ov σ [] [.list ((w.st.map fun s=>.ref s.sid).take K.length),.list ((w.st.drop K.length).map fun s=>.ref s.sid)]).next=σ.next+2:=rfl
  generalize hF:((w.st.drop K.length).filter fun s=>s.r.glob).map (fun s=>AV.ref s.sid)=F at fl
  have hFl:F.length≤w.st.length - K.length:=by
    rw [← hF,List.length_map,← List.length_drop]; exact List.length_filter_le _ _
  have ad:∀ l,kJ .Add (.ref σ.next) (.ref (σ.next+2)) l (ov σ [] [.list ((w.st.map fun s=>.ref s.sid).take K.length),.list ((w.st.drop K.length).map fun s=>.ref s.sid),.list F])=some (.ok (.ref (σ.next+3)),l,ov σ [] [.list ((w.st.map fun s=>.ref s.sid).take K.length),.list ((w.st.drop K.length).map fun s=>.ref s.sid),.list F,.list ((w.st.map fun s=>.ref s.sid).take K.length++F)]):=fun l=>by
    have a:(ov σ [] [.list ((w.st.map fun s=>.ref s.sid).take K.length),.list ((w.st.drop K.length).map fun s=>.ref s.sid),.list F]).get σ.next=some (.list ((w.st.map fun s=>.ref s.sid).take K.length)):=oY
    have b:(ov σ [] [.list ((w.st.map fun s=>.ref s.sid).take K.length),.list ((w.st.drop K.length).map fun s=>.ref s.sid),.list F]).get (σ.next+2)=some (.list F):=bL (k:=2) rfl
    have c:((w.st.map fun s=>AV.ref s.sid).take K.length).length+F.length<1000:=by rw [List.length_take,List.length_map]; omega
    show zg l _ σ.next (σ.next+2)=_
    unfold zg St.gL
    rw [a,b]
    show (if _ then _ else none)=_
    rw [if_pos c,dx]
    rfl
  have e86:∀ L,(ov σ [] L).set 86 (.sdict (wkv w.now (σ.next+3)))=ov σ [(86,.sdict (wkv w.now (σ.next+3)))] L:=fun L=>by rw [bF l86]; rfl
  have se:∀ l,dX (.ref 86) (.str 56) (.ref (σ.next+3)) l (ov σ [] [.list ((w.st.map fun s=>.ref s.sid).take K.length),.list ((w.st.drop K.length).map fun s=>.ref s.sid),.list F,.list ((w.st.map fun s=>.ref s.sid).take K.length++F)])=some (.ok (),l,ov σ [(86,.sdict (wkv w.now (σ.next+3)))] [.list ((w.st.map fun s=>.ref s.sid).take K.length),.list ((w.st.drop K.length).map fun s=>.ref s.sid),.list F,.list ((w.st.map fun s=>.ref s.sid).take K.length++F)]):=fun l=>by
    have a:(ov σ [] [.list ((w.st.map fun s=>.ref s.sid).take K.length),.list ((w.st.drop K.length).map fun s=>.ref s.sid),.list F,.list ((w.st.map fun s=>.ref s.sid).take K.length++F)]).get 86=some (.sdict (wkv w.now w.stL)):=by rw [bb l86]; exact wd
    have b:(wkv w.now w.stL).length<1000:=by simp [wkv]
    have c:store (wkv w.now w.stL) 56 (.ref (σ.next+3))=wkv w.now (σ.next+3):=by simp [store,wkv]
    simp only [dX,a,b,c,if_true,e86]
  have S:=Sm.ov σ [(86,.sdict (wkv w.now (σ.next+3)))] [.list ((w.st.map fun s=>.ref s.sid).take K.length),.list ((w.st.drop K.length).map fun s=>.ref s.sid),.list F,.list ((w.st.map fun s=>.ref s.sid).take K.length++F)]
  have hstay:(w.st.map fun s=>AV.ref s.sid).take K.length++F=(stay w.st K.length).map fun s=>.ref s.sid:=by
    rw [← hF,stay,List.map_append,List.map_take]
  refine ⟨_,_,σ.next+3,?_,B9 (a:=σ.next+3) h (uf _ _) S (by rw [bb l86,gU,if_pos rfl]) (by rw [← hstay]; exact bL (k:=3) rfl) (by omega) (eS (k:=3) (by simp)),Kp.sm S (fun i hi=>by simp at hi; subst hi; exact h.c86.2.2) (fun i hi=>fF hi),by omega⟩
  rw [← bz σ] at g1
  have key:y7 l (ov σ [] [])=some (.ok .next,l,ov σ [(86,.sdict (wkv w.now (σ.next+3)))] [.list ((w.st.map fun s=>.ref s.sid).take K.length),.list ((w.st.drop K.length).map fun s=>.ref s.sid),.list F,.list ((w.st.map fun s=>.ref s.sid).take K.length++F)]):=by
    exact gr (dg (bB (aa l2) (bB (bB (af (aa l6) am) (lk [] l)) (up l)))
      (uW (bB (aa l2) (bB (bB (af (aa l6) am) (lk _ l)) (fr l))) gB (by rw [pB]; exact fl)) (ad l)) (aa l0) (ag _) (se l)
  rwa [bz] at key
end Lw
end SP44
section SP45
set_option maxHeartbeats 4000000
namespace Lw
open St
theorem rK {L:List JG} {i:Nat} {d:C3} (h:∀ jid k gid ci cd r x c,JG.state jid k gid ci cd r x c∈L→k≠i):jy L i d=d:=by
  induction L with
  | nil=>rfl
  | cons e L ih =>
    have ih:=ih fun jid k gid ci cd r x c hm=>h jid k gid ci cd r x c (List.mem_cons_of_mem _ hm)
    cases e with
    | state jid k gid ci cd r x c=>exact (if_neg (h jid k gid ci cd r x c List.mem_cons_self)).trans ih
    | item jid old=>exact ih
theorem ug {st:List SG} {k i:Nat} (hk:k≤st.length) (h:i<k):(stay st k)[i]?=st[i]?:=by
  unfold stay
  rw [List.getElem?_append_left (by rw [List.length_take]; omega),List.getElem?_take,if_pos h]
theorem qx {st:List SG} {k i:Nat} {s:SG} (hk:k≤st.length) (h:(stay st k)[i]?=some s):(i<k∧st[i]?=some s)∨(k≤i∧s.r.glob=true∧∃ p:Nat,st[p]?=some s):=by
  by_cases q:i<k
  · rw [ug hk q] at h; exact .inl ⟨q,h⟩
  · unfold stay at h
    rw [List.getElem?_append_right (by rw [List.length_take]; omega)] at h
    have hm:=List.mem_filter.mp (aR h)
    exact .inr ⟨by omega,hm.2,List.getElem?_of_mem (List.mem_of_mem_drop hm.1)⟩
theorem y9 {st:List SG} {k:Nat} (hk:k≤st.length):k≤(stay st k).length∧(stay st k).length≤st.length:=by
  refine ⟨?_,(uf st k).length_le⟩
  unfold stay
  rw [List.length_append,List.length_take]; omega
structure Des (w:WG) (v:VG) (i:Nat) (s':SG) (s:SG):Prop where
  at0:w.st[i]?=some s
  ids:s'.sid=s.sid∧s'.gd=s.gd∧s'.gid=s.gid∧s'.lev=s.lev
  num:s'.r.num=s.r.num
  glob:s'.r.glob=s.r.glob
  x:s'.x.ok
  con:s.r.glob=true∨i<v.kept.length→Con s'.r s'.x s'.c
  c:s.r.glob=false→∀ q,v.kept[i]?=some q→s'.c=q.2
theorem Ca (K:List (Nat×C3)) (i:Nat) (s:SG):(gW K i s).r=s.r∧(gW K i s).x=s.x∧(gW K i s).sid=s.sid∧(gW K i s).gd=s.gd∧(gW K i s).gid=s.gid∧(gW K i s).lev=s.lev:=by
  unfold gW
  split
  · exact ⟨rfl,rfl,rfl,rfl,rfl,rfl⟩
  · split <;> exact ⟨rfl,rfl,rfl,rfl,rfl,rfl⟩
theorem Cb {w:WG} {n:Nat} (o:Ok w n) {v:VG} (hv:v∈w.sv) {st1 st2:List SG} {a1:AV×AV} (U:Un w v.many st1 a1) (h2:∀ i,st2[i]?=(st1[i]?).map fun s=>if i<v.kept.length then gW v.kept i s else s) {i:Nat} {s':SG} (hs:st2[i]?=some s'):∃ s,Des w v i s' s:=by
  have hi:i<w.st.length:=by
    rw [h2 i] at hs
    cases e:st1[i]? with
    | none=>rw [e] at hs; cases hs
    | some s=>rw [← U.ln]; exact (List.getElem?_eq_some_iff.mp e).1
  have g:=List.getElem?_eq_getElem hi
  generalize w.st[i]=s at g
  obtain ⟨r,x,e1,e2,e3,e4,e5⟩:=U.st i s g
  rw [h2 i,e1,Option.map_some] at hs
  cases hs
  refine ⟨s,?_⟩
  by_cases q:i<v.kept.length
  · rw [if_pos q]
    obtain ⟨u1,u2,u3,u4,u5,u6⟩:=Ca v.kept i { s with r:=r,x:=x }
    have hq:=List.getElem?_eq_getElem q
    refine ⟨g,⟨u3,u4,u5,u6⟩,by rw [u1]; exact e2,by rw [u1]; exact e3,by rw [u2]; exact e4,fun _=>?_,fun hg p hp=>?_⟩
    · rw [u1,u2]
      cases hg:s.r.glob with
      | true =>
        have:(gW v.kept i { s with r:=r,x:=x }).c=s.c:=by unfold gW; rw [if_pos (by show r.glob=true; rw [e3]; exact hg)]
        rw [this]
        rw [rK] at e5
        · exact e5
        · intro jid k gid ci cd r' x' c hm hki
          obtain ⟨_,_,s0,f1,_,f3⟩:=o.jr jid k gid ci cd r' x' c (List.mem_of_mem_drop hm)
          rw [hki,g] at f1
          cases f1
          rw [hg] at f3; cases f3
      | false =>
        have:(gW v.kept i { s with r:=r,x:=x }).c=v.kept[i].2:=by unfold gW; rw [if_neg (by show ¬ r.glob=true; rw [e3,hg]; simp),hq]
        rw [this,← o.K v hv i s _ g hg hq]
        exact e5
    · have:(gW v.kept i { s with r:=r,x:=x }).c=p.2:=by unfold gW; rw [if_neg (by show ¬ r.glob=true; rw [e3,hg]; simp),hp]
      exact this
  · rw [if_neg q]
    refine ⟨g,⟨rfl,rfl,rfl,rfl⟩,e2,e3,e4,fun z=>?_,fun _ p hp=>absurd (List.getElem?_eq_some_iff.mp hp).1 q⟩
    rcases z with hg | z
    · show Con r x s.c
      rw [rK] at e5
      · exact e5
      · intro jid k gid ci cd r' x' c hm hki
        obtain ⟨_,_,s0,f1,_,f3⟩:=o.jr jid k gid ci cd r' x' c (List.mem_of_mem_drop hm)
        rw [hki,g] at f1
        cases f1
        rw [hg] at f3; cases f3
    · exact absurd z q
theorem Ok.backed {w:WG} {n:Nat} (o:Ok w n) (h0:0<w.st.length) {sv0:List VG} {v:VG} (hsv:w.sv=sv0++[v]) {st1 st2:List SG} {a1:AV×AV} (U:Un w v.many st1 a1) (h2:∀ i,st2[i]?=(st1[i]?).map fun s=>if i<v.kept.length then gW v.kept i s else s) {a b c:Nat} (ha:91≤a) (hc:91≤c)
    (w':WG) (hw:w'={ w with tl:=w.tl.dropLast,jr:=w.jr.take v.many,st:=stay st2 v.kept.length,a39:=a1,m:={ w.m with sv:=a,fr:=b,used:=v.used },sv:=sv0,md:=w.md.filter (fV sv0.length),stL:=c }):Ok w' (n+1):=by
  subst hw
  have u:=o.up h0
  have hv:v∈w.sv:=by rw [hsv]; simp
  have hjv:w.sv[sv0.length]?=some v:=by rw [hsv]; simp
  have sub:∀ u∈sv0,u∈w.sv:=fun u hu=>by rw [hsv]; exact List.mem_append_left _ hu
  obtain ⟨k1,k2,k3⟩:=o.k1 v hv
  have ln2:st2.length=w.st.length:=by
    have:st2=st1.mapIdx fun i s=>if i<v.kept.length then gW v.kept i s else s:=List.ext_getElem? fun i=>by rw [h2 i,List.getElem?_mapIdx]
    rw [this,List.length_mapIdx,U.ln]
  have hk:v.kept.length≤st2.length:=by omega
  have sl:=y9 hk
  have des:=fun {i:Nat} {s':SG} (hs:st2[i]?=some s')=>Cb o hv U h2 hs
  have mem:∀ s'∈stay st2 v.kept.length,∃ i s,Des w v i s' s∧(i<v.kept.length∨s.r.glob=true):=fun s' hs=>by
    obtain ⟨i,hi⟩:=List.getElem?_of_mem hs
    rcases qx hk hi with h0q | h0q
    · obtain ⟨q,e⟩:=h0q
      obtain ⟨s,d⟩:=des e
      exact ⟨i,s,d,.inl q⟩
    · obtain ⟨_,g,p,e⟩:=h0q
      obtain ⟨s,d⟩:=des e
      exact ⟨p,s,d,.inr (d.glob▸g)⟩
  have loc:∀ {i:Nat} {s':SG},(stay st2 v.kept.length)[i]?=some s'→s'.r.glob=false→i<v.kept.length∧∃ s,Des w v i s' s∧s.r.glob=false:=fun {i s'} hi hg=>by
    rcases qx hk hi with h0q | h0q
    · obtain ⟨q,e⟩:=h0q
      obtain ⟨s,d⟩:=des e
      exact ⟨q,s,d,d.glob▸hg⟩
    · obtain ⟨_,g,_,_⟩:=h0q
      rw [g] at hg; cases hg
  have pw:=o.k2
  rw [hsv] at pw
  have low:∀ u∈sv0,u.many≤v.many∧u.kept.length≤v.kept.length:=fun u hu=>(List.pairwise_append.mp pw).2.2 u hu v (List.mem_singleton_self v)
  exact {
    x0:=o.x0
    con0:=o.con0
    xs:=o.xs
    st:=fun s' hs=>by
      obtain ⟨i,s,d,q⟩:=mem s' hs
      obtain ⟨_,_,c1,c2⟩:=o.st s (aR d.at0)
      exact ⟨d.x,d.con q.symm,by rw [d.ids.2.1]; exact c1,by rw [d.ids.1]; exact c2⟩
    num:=fun s' hs=>by
      obtain ⟨i,s,d,q⟩:=mem s' hs
      obtain ⟨e,he,c1,c2,c3⟩:=o.num s (aR d.at0)
      refine ⟨e,List.mem_filter.mpr ⟨he,?_⟩,c1.trans d.num.symm,c2.trans d.glob.symm,fun hg=>by rw [d.ids.2.2.2]; exact c3 (d.glob▸hg)⟩
      unfold fV
      cases hg:s.r.glob with
      | true=>rw [c2,hg]; rfl
      | false =>
        rcases q with q | q
        · have:=(o.lev i s sv0.length v d.at0 hg hjv).mp q
          have c3:=c3 hg
          rw [c2,hg,decide_eq_true (by omega)]; rfl
        · rw [hg] at q; cases q
    mdn:=((List.filter_sublist).map _).nodup o.mdn
    mdb:=fun e he=>o.mdb e (List.mem_filter.mp he).1
    jr:=fun jid k gid ci cd r x c hm=>by
      obtain ⟨q,hq⟩:=List.getElem?_of_mem hm
      have hq1:q<v.many:=by
        have:=(List.getElem?_eq_some_iff.mp hq).1
        rw [List.length_take] at this; omega
      rw [List.getElem?_take,if_pos hq1] at hq
      obtain ⟨b1,b2,s,b3,b4,b5⟩:=o.jr jid k gid ci cd r x c (aR hq)
      have hkk:=o.J q jid k gid ci cd r x c hq v hv hq1
      have hks:k<st2.length:=by omega
      obtain ⟨s1,d⟩:=des (List.getElem?_eq_getElem hks)
      have d1:=d.at0
      rw [b3] at d1
      cases d1
      exact ⟨b1,b2,st2[k],by rw [show _=st2[k]? from ug hk hkk]; exact List.getElem?_eq_getElem hks,d.ids.2.2.1.trans b4,d.glob.trans b5⟩
    l1:=by have:=u.l1; show (stay st2 v.kept.length).length≤_; omega
    l2:=by have:=u.l2; show (w.jr.take v.many).length≤_; rw [List.length_take]; omega
    l3:=by have:=u.l3; have:=List.length_filter_le (fV sv0.length) w.md; show (w.md.filter _).length≤_; omega
    l4:=by have:=o.l4; rw [hsv,List.length_append] at this; show sv0.length≤3; omega
    s0:=fun _=>by have:=o.kp v hv; show 0<(stay st2 v.kept.length).length; omega
    u1:=u.u3 v hv
    u2:=u.u2
    u3:=fun x hx=>u.u3 x (sub x hx)
    n1:=by have:=o.n1; rw [hsv,List.map_append,List.pairwise_append] at this; exact this.1
    n2:=fun x hx=>o.n2 x (sub x hx)
    k1:=fun x hx=>by
      obtain ⟨c1,c2,c3⟩:=o.k1 x (sub x hx)
      obtain ⟨e1,e2⟩:=low x hx
      refine ⟨by show _≤(w.jr.take v.many).length; rw [List.length_take]; omega,by show _≤(stay st2 v.kept.length).length; omega,c3⟩
    k2:=(List.pairwise_append.mp pw).1
    lev:=fun i s' p x hs hg hx=>by
      obtain ⟨q,s,d,hg'⟩:=loc hs hg
      have hx':w.sv[p]?=some x:=by rw [hsv,List.getElem?_append_left (List.getElem?_eq_some_iff.mp hx).1]; exact hx
      rw [d.ids.2.2.2]
      exact o.lev i s p x d.at0 hg' hx'
    lev':=fun s' hs hg=>by
      obtain ⟨i,hi⟩:=List.getElem?_of_mem hs
      obtain ⟨q,s,d,hg'⟩:=loc hi hg
      rw [d.ids.2.2.2]
      exact (o.lev i s sv0.length v d.at0 hg' hjv).mp q
    K:=fun x hx i s' p hs hg hp=>by
      obtain ⟨q,s,d,hg'⟩:=loc hs hg
      obtain ⟨e1,e2⟩:=low x hx
      have key:=o.K x (sub x hx) i s p d.at0 hg' hp
      have hq:=List.getElem?_eq_getElem q
      rw [d.c hg' _ hq,← o.K v hv i s _ d.at0 hg' hq,← lH]
      show jy ((w.jr.take v.many).drop x.many++w.jr.drop v.many) i s.c=p.2
      have:(w.jr.take v.many).drop x.many++w.jr.drop v.many=w.jr.drop x.many:=by
        conv=>rhs; rw [← List.take_append_drop v.many w.jr]
        rw [List.drop_append_of_le_length (by rw [List.length_take]; omega)]
      rw [this]; exact key
    J:=fun q jid k gid ci cd r x c hq y hy hlt=>by
      have hq1:q<v.many:=by
        have:=(List.getElem?_eq_some_iff.mp hq).1
        change q<(w.jr.take v.many).length at this
        rw [List.length_take] at this; omega
      change (w.jr.take v.many)[q]?=_ at hq
      rw [List.getElem?_take,if_pos hq1] at hq
      exact o.J q jid k gid ci cd r x c hq y (sub y hy) hlt
    svn:=.inr ha
    nown:=o.nown
    stn:=.inr hc
    a39:=U.a
    a66:=o.a66
    kp:=fun x hx=>o.kp x (sub x hx)
    tls:=by show w.tl.dropLast=sv0.map _; rw [o.tls,hsv,List.map_append]; simp
    ji:=fun jid old hm=>o.ji jid old (List.mem_of_mem_take hm) }
end Lw
end SP45
section SP46
set_option maxHeartbeats 4000000
namespace Lw
open St
theorem za {σ:St} {mt:Nat→Bool} {w:WG} (h:At σ mt w) (t:List Nat):At (σ.set 90 (.list (t.map AV.ref))) mt { w with tl:=t }∧Kp σ mt (σ.set 90 (.list (t.map AV.ref))) mt:=by
  have l90:=h.F.lt 90 (by decide)
  have s:=vo σ 90 (.list (t.map AV.ref))
  exact ⟨At.to3 (D:=[90]) [(90,.list (t.map AV.ref))] h s (fun _ _=>rfl) rfl (dv w) (eZ w) same same same (df ⟨inM (k:=8) rfl,by rw [get_set,if_pos rfl],l90,h.c90.2.2⟩) (df ⟨h.c90.2.2,mi (i:=0) rfl⟩) (.keep (.keep (.keep (.keep (.keep (.keep (.keep (.keep (.new List.mem_cons_self (.refl _)))))))))) (fD w) h.nd,Kp.sm s (df h.c90.2.2) (fun _ _=>rfl)⟩
theorem AB:yT=ifX (bA .NotEq (ac 3) (dJ aq)) (ay (nq 2 (bmE .list pg (ac 3) aq) (bq (bU 5) (bq (bU 6) ff)))
  (ay (nl (ac 2) 7 8 B5 100)
  (ay (bS (bT 781 cS (ac 4) (ah (ac 5) aq)))
  (ay (wz (ac 2) (ac 6) 8 9 yZ 100) y7)))) (ret .next):=rfl
theorem Cc {f g:M AV} {k1 k2 N i j:Nat} {body:M AF} {xs ys:List AV} {l:Loc} {σ σ1 σ2:St} {r:Option (Res AF×Loc×St)} (h:f l σ=some (.ok (.ref i),l,σ1)) (h1:g l σ1=some (.ok (.ref j),l,σ2)) (h2:σ2.get i=some (.list xs)) (h3:σ2.get j=some (.list ys)) (h4:cz (.zip i j) [k1,k2] body N 0 l σ2=r):wz f g k1 k2 body N l σ=r:=by
  unfold wz
  show bk _ (f l σ)=r
  rw [h]
  show bk _ (g l σ1)=r
  rw [h1]
  show (match σ2.get i,σ2.get j with | some (.list _),some (.list _)=>_ | _,_=>none)=r
  rw [h2,h3]; exact h4
theorem zb {τ:St} {mt:Nat→Bool} {w:WG} {n:Nat} (h:At τ mt w) (o:Ok w n) (hn:n≤20) (h0:0<w.st.length) {sv0:List VG} {v:VG} (hsv:w.sv=sv0++[v]) {l:Loc} (l0:l 0=some (.ref 86)) (l2:l 2=some (.ref w.stL)) (l3:l 3=some (.ref 90)) (l4:l 4=some (.ref 6)) :
    ∃ σ' l' mt' w',yT l τ=some (.ok .next,l',σ')∧At σ' mt' w'∧Ok w' (n+1)∧w'.at'=w.at':=by
  have hv:v∈w.sv:=by rw [hsv]; simp
  have hj:w.sv[sv0.length]?=some v:=by rw [hsv]; simp
  have hb:∀ i u,i<sv0.length→w.sv[i]?=some u→u.num≠v.num:=fun i u hi hu=>by
    have:=o.n1
    rw [hsv,List.map_append,List.pairwise_append] at this
    rw [hsv,List.getElem?_append_left hi] at hu
    have:=this.2.2 u.num (List.mem_map_of_mem (f:=(·.num)) (aR hu)) v.num (by simp)
    omega
  have ol1:=o.l1
  have l4':=o.l4
  obtain ⟨k1,k2,k3⟩:=o.k1 v hv
  have n9:=h.F.hn
  have etl:w.tl=(sv0.map fun v=>v.tup)++[v.tup]:=by rw [o.tls,hsv,List.map_append]; rfl
  have hA:=h.push (.list [])
  have aA:∀ l,cV (.list []) l τ=some (.ok (.ref τ.next),l,τ.push (.list [])):=fun l=>rfl
  have tA:(τ.push (.list [])).get τ.next=some (.list []):=if_pos rfl
  clear aA
  generalize pA:τ.push (.list [])=υ at hA tA
  have c90:υ.get 90=some (.list ((sv0.map fun v=>AV.ref v.tup)++[.ref v.tup])):=by
    have:=hA.c90.1
    rw [etl,List.map_append,List.map_map] at this
    exact this
  obtain ⟨hB,kB⟩:=za hA (sv0.map fun v=>v.tup)
  have pp:∀ l,pg [.ref 90] l υ=some (.ok (.ref v.tup),l,υ.set 90 (.list ((sv0.map fun v=>v.tup).map AV.ref))):=fun l=>by
    refine A8 c90 (jT (by rw [List.length_append,List.length_map,List.length_singleton]; rw [hsv,List.length_append] at l4'; omega)) (by rw [List.getLast?_append,List.getLast?_singleton]; rfl) (by rw [List.dropLast_concat,List.map_map]; rfl)
  have it:∀ p∈vF v,Im υ mt p:=fun p hp=>hA.im p (nQ (w:=w) hv hp)
  have tt:=(it (v.tup,.tup [.int v.num,.ref v.kid]) (mi (i:=0) rfl)).kp kB
  generalize υ.set 90 (.list ((sv0.map fun v=>v.tup).map AV.ref))=σ1 at hB kB pp tt
  generalize ht:(sv0.map fun v=>v.tup)=t at hB
  generalize hl:upL (upL l 5 (.int v.num)) 6 (.ref v.kid)=lA
  have a0:lA 0=some (.ref 86):=by rw [← hl]; exact l0
  have a2:lA 2=some (.ref w.stL):=by rw [← hl]; exact l2
  have a4:lA 4=some (.ref 6):=by rw [← hl]; exact l4
  have a5:lA 5=some (.int v.num):=by rw [← hl]; rfl
  have a6:lA 6=some (.ref v.kid):=by rw [← hl]; rfl
  obtain ⟨σ2,lB,e2,hC,f2⟩:=yW (t:=t) o hj hb (by omega) w.st.length 0 100 lA σ1 hB (by omega) (by omega) a4 a5 a6
  have b0:=(f2 0 (by decide) (by decide)).trans a0
  have b2:=(f2 2 (by decide) (by decide)).trans a2
  have b4:=(f2 4 (by decide) (by decide)).trans a4
  have b5:=(f2 5 (by decide) (by decide)).trans a5
  have b6:=(f2 6 (by decide) (by decide)).trans a6
  have it:∀ p∈vF v,Im σ2 mt p:=fun p hp=>hC.im p (nQ (w:={ w with tl:=t }) hv hp)
  have g1:σ1.get w.stL=some (.list (w.st.map fun s=>.ref s.sid)):=hB.cStL.1
  have F6:=hC.F.f6
  have m5:σ2.get 5=some (.sdict (mkv w.m)):=hC.c5.1
  obtain ⟨σ3,mt3,st1,a1,ud,a,b,e3,hD,U,kD,ha⟩:=vq hC o hn hj hb
  have I1:=(it (v.kid,.list (v.kept.map fun p=>.ref p.1)) (by simp [vF])).kp kD
  have I2:∀ q∈v.kept,Im σ3 mt3 (q.1,.list (cl q.2)):=fun q hq=>(it (q.1,.list (cl q.2)) (List.mem_append_right _ (List.mem_map_of_mem (f:=fun p:Nat×C3=>(p.1,AO.list (cl p.2))) hq))).kp kD
  generalize hw0:(w.un t v.many st1 a1).cut sv0.length a b v.used=w0 at hD
  have e0:w0.st=st1:=by rw [← hw0]; rfl
  have eL:w0.stL=w.stL:=by rw [← hw0]; rfl
  have ln0:w0.st.length=w.st.length:=by rw [e0]; exact U.ln
  obtain ⟨σ4,lC,st2,e4,hE,h2,kE,f4⟩:=y5 (w0:=w0) (K:=v.kept) (kid:=v.kid) (by omega) v.kept.length 0 100 lB σ3 w0.st (by omega) (by omega) hD (fun i=>by simp) I1 I2
  have c0:=(f4 0 (by decide) (by decide)).trans b0
  have c2:=(f4 2 (by decide) (by decide)).trans b2
  have c6:=(f4 6 (by decide) (by decide)).trans b6
  have ln2:st2.length=w.st.length:=by
    have:st2=w0.st.mapIdx fun i s=>if i<v.kept.length then gW v.kept i s else s:=List.ext_getElem? fun i=>by rw [h2 i,List.getElem?_mapIdx]
    rw [this,List.length_mapIdx,ln0]
  have g3:σ3.get w.stL=some (.list (w0.st.map fun s=>.ref s.sid)):=by rw [← eL]; exact hD.cStL.1
  have g3':σ3.get v.kid=some (.list (v.kept.map fun p=>.ref p.1)):=I1.1
  obtain ⟨σ5,mt5,c,e5,hF,kF,hc⟩:=y8 (w:=oB w0 st2) (K:=v.kept) (kid:=v.kid) hE (by show st2.length<90; omega) (by show _≤st2.length; omega) (I1.kp kE) c0 (by rw [c2]; show _=some (AV.ref w0.stL); rw [eL]) c6
  rw [e0] at h2
  have htk:w.sv.take sv0.length=sv0:=by rw [hsv]; simp
  refine ⟨σ5,lC,mt5,_,?_,hF,o.backed h0 hsv U h2 ha hc (b:=b) _ ?_,?_⟩
  · rw [eL] at e4
    have tt1:=tt.1
    have c1:dk υ .NotEq (.ref 90) (.ref τ.next)=some true:=by rw [u8 c90 tA]; cases sv0.map (fun v=>AV.ref v.tup) <;> rfl
    have hu:nq 2 (bmE .list pg (ac 3) aq) (bq (bU 5) (bq (bU 6) ff)) l υ=some (.ok .next,lA,σ1):=by
      rw [← hl]
      exact kn (lz (aa l3) c90 am (pp _)) (cT tt1 rfl) (aS be (aS be dq))
    rw [AB]
    exact dm (aE (aa l3) (fC am rfl pA) c1) (av hu (av (nO (aa a2) g1 e2) (av (ca (bV (aa b4) F6 m5 (af (aa b5) am) e3)) (av (Cc (aa b2) (aa b6) g3 g3' e4) e5))))
  · rw [← hw0]
    simp only [WG.cut,WG.un,oB,htk,etl,List.dropLast_concat,ht]
  · rw [← hw0]; rfl
theorem qy {σ:St} {mt:Nat→Bool} {w:WG} {n:Nat} (h:At σ mt w) (o:Ok w n) (hn:n≤20) (h0:0<w.st.length) (hs:w.sv≠[]) (b:Bool) (hb:b=false∨¬ w.sv.length<3) :
    ∃ σ' mt' w',bQ [.ref 86,.bool b] σ=some (.ok (.bool true),σ')∧At σ' mt' w'∧Ok w' (n+1)∧w'.at'=w.at':=by
  obtain ⟨sv0,v,hsv⟩:∃ sv0 v,w.sv=sv0++[v]:=⟨w.sv.dropLast,w.sv.getLast hs,(List.dropLast_concat_getLast hs).symm⟩
  have wd:=h.wd
  have l4:=o.l4
  have hτ:=h.push (.tup [.ref w.stL,.ref 90,.ref 6])
  have tA:(σ.push (.tup [.ref w.stL,.ref 90,.ref 6])).get σ.next=some (.tup [.ref w.stL,.ref 90,.ref 6]):=if_pos rfl
  have aA:∀ l,cV (.tup [.ref w.stL,.ref 90,.ref 6]) l σ=some (.ok (.ref σ.next),l,σ.push (.tup [.ref w.stL,.ref 90,.ref 6])):=fun l=>rfl
  clear aA
  generalize pA:σ.push (.tup [.ref w.stL,.ref 90,.ref 6])=τ at hτ tA
  have c90:=hτ.c90.1
  have etl:w.tl.length=w.sv.length:=by rw [o.tls,List.length_map]
  have lv:=ie c90 (by rw [List.length_map]; omega)
  rw [List.length_map,etl] at lv
  generalize hl:upL (upL (upL (cY [.ref 86,.bool b]) 4 (.ref 6)) 3 (.ref 90)) 2 (.ref w.stL)=l
  obtain ⟨σ',l',mt',w',e,hA,oA,ha⟩:=zb hτ o hn h0 hsv (l:=l) (by rw [← hl]; rfl) (by rw [← hl]; rfl) (by rw [← hl]; rfl) (by rw [← hl]; rfl)
  refine ⟨σ',mt',w',?_,hA,oA,ha⟩
  have lvt:∀ l,em [.ref 90] l τ=some (.ok (.int w.sv.length),l,τ):=lv
  have l1:l 1=some (.bool b):=by rw [← hl]; rfl
  have l3:l 3=some (.ref 90):=by rw [← hl]; rfl
  have hu:∀ r,(∀ f:M AF,f l τ=r→ay (gQ 3 (eH (ah (aO (ac 0) (ret (.str 56))) (ah (aO (ac 0) (ret (.str 34))) (ah (aO (ac 0) (ret (.str 51))) aq)))) (bq (bU 4) (bq (bU 3) (bq (bU 2) ff)))) f (cY [.ref 86,.bool b]) σ=r):=fun r f hf=>by
    rw [← hl] at hf
    exact av (sH (cL (af (aF (aa rfl) (ag _) (aM wd rfl)) (af (aF (aa rfl) (ag _) (aM wd rfl)) (af (aF (aa rfl) (ag _) (aM wd rfl)) am))) rfl pA) (cT tA rfl) (aS be (aS be (aS be dq)))) hf
  unfold bQ
  rw [Au]
  cases b with
  | false =>
    exact br rfl (hu _ _ (av (bc (dM (bj (aa l1))) e) (aY (ag _))))
  | true =>
    have hnum:dk τ .Lt (.int w.sv.length) (.int 3)=some false:=congrArg some (decide_eq_false (by
      rcases hb with hb | hb
      · cases hb
      · omega))
    exact br rfl (hu _ _ (av (bc (cA (bj (aa l1)) (dM (aE (bB (af (aa l3) am) (lvt _)) (ag _) hnum))) e) (aY (ag _))))
end Lw
end SP46
section SP47
set_option maxHeartbeats 4000000
namespace Lw
open St
noncomputable def uh:M AF:=ifX (bA .Lt (ac 4) (ret (.int 4))) (bS (aZ c7 (ah (ac 3) (ah (ac 4) (ah (ac 2) aq))))) (ifX (bA .Eq (ac 4) (ret (.int 4))) (bn (orE (eG .Gt (au (ah (aO (ac 3) (ret (.str 56))) aq) em) (ret (.int 4))) (aZ cQ (ah (ac 3) aq))) 5) (ifX (bA .Lt (ac 4) (ret (.int 8))) (bn (aZ cy (ah (ac 3) (ah (ac 4) (ah (ac 2) aq)))) 5) (ifX (bA .Eq (ac 4) (ret (.int 8))) (bn (aZ dh (ah (ac 3) (ah (ac 2) aq))) 5) (bn (aZ bQ (ah (ac 3) (ah (eG .Eq (aZ bu (ah (ac 2) (ah (ret (.int 2)) aq))) (ret (.int 0))) aq))) 5))))
noncomputable def Cd:M AF:=ifX (orT (jC (asB (ac 5))) (orT (jC (asB (aZ eo (ah (ac 3) aq)))) (ret false))) (cu (ret (.bool false))) (ret .next)
noncomputable def wj:M AF:=ay (gQ 2 (eH (ah (aZ bu (ah (ac 2) (ah (ret (.int 10)) aq))) (ah (ret (.bool true)) aq))) (bq (bU 5) (bq (bU 4) ff))) (ay uh Cd)
noncomputable abbrev vr (l:Loc):Loc:=upL l 5 (.bool true)
theorem xp {σ:St} {mt:Nat→Bool} {w:WG} {n:Nat} (h:At σ mt w) (o:Ok w n) (hn:n≤20) (h0:0<w.st.length) (b:Bool) :
    ∃ σ' mt' w',bQ [.ref 86,.bool b] σ=some (.ok (.bool true),σ')∧At σ' mt' w'∧Ok w' (n+1)∧w'.at'=w.at':=by
  by_cases hs:w.sv=[]
  · cases b with
    | false=>exact vj h o h0 hs
    | true=>exact rH h o hn h0 (by rw [hs]; decide)
  · cases b with
    | false=>exact qy h o hn h0 hs false (.inl rfl)
    | true =>
      by_cases hl:w.sv.length<3
      · exact rH h o hn h0 hl
      · exact qy h o hn h0 hs true (.inr hl)
theorem Ce {σ:St} {mt:Nat→Bool} {w:WG} {n:Nat} (h:At σ mt w) (o:Ok w n) (hn:n≤20) (h0:0<w.st.length) (ha:w.at'<480) {k:Nat} (hk:k<10) {l:Loc} (l2:l 2=some (.ref 2)) (l3:l 3=some (.ref 86)) (l4:l 4=some (.int k)) (l5:l 5=some (.bool true)) :
    ∃ σ' l' mt' w',uh l σ=some (.ok .next,l',σ')∧(∀ i,i≠5→l' i=l i)∧l' 5=some (.bool true)∧At σ' mt' w'∧Ok w' (n+1)∧w'.at'≤w.at'+4:=by
  have s5:∀ i,i≠5→vr l i=l i:=fun i hi=>jk hi
  have s55:vr l 5=some (.bool true):=rfl
  by_cases c1:k<4
  · have lt:∀ σ,dk σ .Lt (.int k) (.int 4)=some true:=fun _=>congrArg some (decide_eq_true (by omega))
    have key:∃ σ' mt' w',c7 [.ref 86,.int k,.ref 2] σ=some (.ok .none,σ')∧At σ' mt' w'∧Ok w' (n+1)∧w'.at'≤w.at'+2:=by
      by_cases c:k<3
      · exact wX h o h0 ha c
      · obtain rfl:k=3:=by omega
        exact Am h o h0
    obtain ⟨σ',mt',w',e,hA,oA,aA⟩:=key
    refine ⟨σ',l,mt',w',?_,fun _ _=>rfl,l5,hA,oA,by omega⟩
    unfold uh
    exact (Eq.trans (dm (aE (aa l4) (ag _) (lt _)) (ca (ba (af (aa l3) (af (aa l4) (af (aa l2) am))) e))) rfl)
  · have nlt:∀ σ,dk σ .Lt (.int k) (.int 4)=some false:=fun _=>congrArg some (decide_eq_false (by omega))
    by_cases c2:k=4
    · subst c2
      have wd:=h.wd
      have lv:=ie h.cStL.1 (by rw [List.length_map]; have:=o.l1; omega)
      rw [List.length_map] at lv
      by_cases c:4<w.st.length
      · have cc:∀ σ,dk σ .Gt (.int w.st.length) (.int 4)=some true:=fun _=>congrArg some (decide_eq_true (by omega))
        refine ⟨σ,vr l,mt,w,?_,s5,s55,h,o.up h0,by omega⟩
        unfold uh
        exact (Eq.trans (bc (aE (aa l4) (ag _) (nlt _)) (dm (aE (aa l4) (ag _) rfl) (cU (qi (cX (bB (af (aF (aa l3) (ag _) (aM wd rfl)) am) (lv _)) (ag _) (cc _)))))) rfl)
      · have cc:∀ σ,dk σ .Gt (.int w.st.length) (.int 4)=some false:=fun _=>congrArg some (decide_eq_false (by omega))
        obtain ⟨σ',mt',w',e,hA,oA,aA⟩:=wh h o hn (.inl h0)
        refine ⟨σ',vr l,mt',w',?_,s5,s55,hA,oA,by omega⟩
        unfold uh
        exact (Eq.trans (bc (aE (aa l4) (ag _) (nlt _)) (dm (aE (aa l4) (ag _) rfl) (cU (sG (cX (bB (af (aF (aa l3) (ag _) (aM wd rfl)) am) (lv _)) (ag _) (cc _)) (ba (af (aa l3) am) e))))) rfl)
    · have ne4:∀ σ,dk σ .Eq (.int k) (.int 4)=some false:=fun _=>congrArg some (beq_eq_false_iff_ne.mpr (by omega))
      by_cases c3:k<8
      · have lt:∀ σ,dk σ .Lt (.int k) (.int 8)=some true:=fun _=>congrArg some (decide_eq_true (by omega))
        have key:∃ σ' mt' w',cy [.ref 86,.int k,.ref 2] σ=some (.ok (.bool true),σ')∧At σ' mt' w'∧Ok w' (n+1)∧w'.at'≤w.at'+2:=by
          obtain rfl | rfl | rfl:k=5∨k=6∨k=7:=by omega
          · exact D7 h o h0 hn ha
          · exact D8 h o h0 hn ha
          · exact D6 h o h0 hn ha
        obtain ⟨σ',mt',w',e,hA,oA,aA⟩:=key
        refine ⟨σ',vr l,mt',w',?_,s5,s55,hA,oA,by omega⟩
        unfold uh
        exact (Eq.trans (bc (aE (aa l4) (ag _) (nlt _)) (bc (aE (aa l4) (ag _) (ne4 _)) (dm (aE (aa l4) (ag _) (lt _)) (cU (ba (af (aa l3) (af (aa l4) (af (aa l2) am))) e))))) rfl)
      · have nlt8:∀ σ,dk σ .Lt (.int k) (.int 8)=some false:=fun _=>congrArg some (decide_eq_false (by omega))
        by_cases c4:k=8
        · subst c4
          obtain ⟨σ',mt',w',e,hA,oA,aA⟩:=Ao h o h0 hn ha
          refine ⟨σ',vr l,mt',w',?_,s5,s55,hA,oA,aA⟩
          unfold uh
          exact (Eq.trans (bc (aE (aa l4) (ag _) (nlt _)) (bc (aE (aa l4) (ag _) (ne4 _)) (bc (aE (aa l4) (ag _) (nlt8 _)) (dm (aE (aa l4) (ag _) rfl) (cU (ba (af (aa l3) (af (aa l2) am)) e)))))) rfl)
        · have ne8:∀ σ,dk σ .Eq (.int k) (.int 8)=some false:=fun _=>congrArg some (beq_eq_false_iff_ne.mpr (by omega))
          obtain ⟨v,σ1,v0,v1,en,h1,_⟩:=jZ h o (by omega) (m:=2) (by omega)
          obtain ⟨b,hb⟩:∃ b:Bool,(v==0)=b:=⟨_,rfl⟩
          have cb:∀ σ,dk σ .Eq (.int v) (.int 0)=some b:=fun _=>congrArg some hb
          obtain ⟨σ',mt',w',e,hA,oA,aA⟩:=xp h1 o.drawn hn h0 b
          refine ⟨σ',vr l,mt',w',?_,s5,s55,hA,oA,by have:w.drawn.at'=w.at'+1:=rfl; omega⟩
          unfold uh
          exact (Eq.trans (bc (aE (aa l4) (ag _) (nlt _)) (bc (aE (aa l4) (ag _) (ne4 _)) (bc (aE (aa l4) (ag _) (nlt8 _)) (bc (aE (aa l4) (ag _) (ne8 _)) (cU (ba (af (aa l3) (af (cX (ba (af (aa l2) (af (ag _) am)) en) (ag _) (cb _)) am)) e)))))) rfl)
theorem Cf {σ:St} {mt:Nat→Bool} {w:WG} {n:Nat} (h:At σ mt w) (o:Ok w n) (hn:n≤20) {l:Loc} (l3:l 3=some (.ref 86)) (l5:l 5=some (.bool true)):Cd l σ=some (.ok .next,l,σ):=by
  have s:=wZ h o hn
  unfold Cd
  exact (Eq.trans (bc (fe (jd (bj (aa l5)) rfl) (fe (jd (bj (ba (af (aa l3) am) s)) rfl) (ag _))) (ag _)) rfl)
theorem AC {σ:St} {mt:Nat→Bool} {w:WG} {n:Nat} (h:At σ mt w) (o:Ok w n) (hn:n≤19) (h0:0<w.st.length) (ha:w.at'<470) {l:Loc} (l2:l 2=some (.ref 2)) (l3:l 3=some (.ref 86)) :
    ∃ σ' l' mt' w',wj l σ=some (.ok .next,l',σ')∧l' 2=some (.ref 2)∧l' 3=some (.ref 86)∧At σ' mt' w'∧Ok w' (n+1)∧w'.at'≤w.at'+5:=by
  obtain ⟨v,σ1,v0,v1,e1,h1,_⟩:=jZ h o (by omega) (m:=10) (by omega)
  obtain ⟨k,rfl⟩:=Int.eq_ofNat_of_zero_le v0
  have hA:=h1.push (.tup [.int k,.bool true])
  have tA:(σ1.push (.tup [.int k,.bool true])).get σ1.next=some (.tup [.int k,.bool true]):=if_pos rfl
  have aA:∀ l,cV (.tup [.int k,.bool true]) l σ1=some (.ok (.ref σ1.next),l,σ1.push (.tup [.int k,.bool true])):=fun l=>rfl
  generalize σ1.push (.tup [.int k,.bool true])=τ at hA tA aA
  generalize hl:(fun i=>if i=4 then some (AV.int k) else if i=5 then some (.bool true) else l i)=lA
  have a2:lA 2=some (.ref 2):=by rw [← hl]; simp [l2]
  have a3:lA 3=some (.ref 86):=by rw [← hl]; simp [l3]
  obtain ⟨σ2,l',mt2,w2,e2,f2,g5,h2,o2,a⟩:=Ce hA o.drawn (by omega) h0 (by show w.at'+1<480; omega) (k:=k) (by omega) a2 a3 (by rw [← hl]; rfl) (by rw [← hl]; rfl)
  have l3':=(f2 3 (by decide)).trans a3
  have e3:=Cf h2 o2 (by omega) l3' g5
  refine ⟨σ2,l',mt2,w2,?_,(f2 2 (by decide)).trans a2,l3',h2,o2,by have:w.drawn.at'=w.at'+1:=rfl; omega⟩
  simp [wj,ay,gQ,eH,ah,aq,aZ,kQ,au,ac,l2,ret,e1,aA,mI,tA,bq,ff,bU,hl,e2,e3]
theorem xq {N0:Nat}:∀ (m p N:Nat) (l:Loc) (σ:St) (mt:Nat→Bool) (w:WG) (n:Nat),p+m=N0→m<N→At σ mt w→Ok w n→n+m≤19→0<w.st.length→w.at'+5 * m<460→l 2=some (.ref 2)→l 3=some (.ref 86) →
    ∃ σ' l',cz (.range N0) [1] wj N p l σ=some (.ok .next,l',σ'):=by
  intro m
  induction m with
  | zero =>
    intro p N l σ mt w n e hN h o hn h0 ha l2 l3
    obtain ⟨N,rfl⟩:∃ k,N=k+1:=⟨N - 1,by omega⟩
    refine ⟨σ,l,?_⟩
    simp only [cz,bH,if_neg (show ¬ p<N0 by omega)]
  | succ m ih =>
    intro p N l σ mt w n e hN h o hn h0 ha l2 l3
    obtain ⟨N,rfl⟩:∃ k,N=k+1:=⟨N - 1,by omega⟩
    obtain ⟨σ1,l1,mt1,w1,e1,b2,b3,h1,o1,a1⟩:=AC h o (by omega) h0 (by omega) (l:=fun k=>if k=1 then some (.int p) else l k) (by simp [l2]) (by simp [l3])
    obtain ⟨σ2,l',e2⟩:=ih (p+1) N l1 σ1 mt1 w1 (n+1) (by omega) (by omega) h1 o1 (by omega) (o1.s0 (by omega)) (by omega) b2 b3
    refine ⟨σ2,l',?_⟩
    simp only [cz,bH,if_pos (show p<N0 by omega),jp,au,bU,ret,ay,e1]
    exact e2
end Lw
end SP47
section SP48
set_option maxHeartbeats 4000000
namespace Lw
open St
noncomputable def w00 (xs:List AV):WG where
  now:=88
  stL:=89
  m:=⟨false,7,10,80,80,6,0⟩
  c0:=(0,0,1000000)
  r0:=⟨0,false,71,73,75,.int 1000000,.int 0,.int 0,.int 10000000,76,.int 0,.int 1000000,.bool false,.bool false,.none,77⟩
  x0:=⟨[.int 1000000,.int 0,.int 0,.int 1000000,.int 0,.int 0],[],[],[],72,74,.int 1500,.none,.none,[]⟩
  st:=[]
  sv:=[]
  jr:=[]
  md:=[⟨1,14,48,false,0⟩,⟨2,24,16,false,0⟩,⟨3,36,16,false,0⟩,⟨4,41,48,true,0⟩,⟨5,51,16,true,0⟩,⟨6,63,16,true,0⟩]
  at':=0
  xs:=xs
  a39:=(.ref 33,.ref 33)
  a66:=(.ref 60,.ref 60)
  tl:=[]
noncomputable def xr (i:Nat):Bool:=[2,5,7,8,9,39,66,69,86,88,89,90].contains i
theorem EJ {σ:St} {xs:List AV} (hn:σ.next=91) (h:∀ j o,j<88→worldT[j]?=some o→σ.get (3+j)=some o) (h1:σ.get 1=some (.list xs)) (h2:σ.get 2=some (.list [.ref 1,.int 0])):At σ xr (w00 xs) where
  F:=DP (Nat.le_of_eq hn.symm) h
  fm:=by decide
  im:=fun p hp=>by
    have k:∀ j o,j<88→worldT[j]?=some o→xr (3+j)=false→σ.get (3+j)=some o∧3+j<σ.next∧xr (3+j)=false:=fun j o a b c=>⟨h j o a b,by omega,c⟩
    simp only [immF,w00,auxF,List.flatMap_nil,List.append_nil,List.mem_cons,List.mem_append,List.cons_append,List.nil_append,List.flatMap_cons,mF,List.not_mem_nil,or_false] at hp
    rcases hp with rfl | rfl | rfl | rfl | rfl | rfl | rfl | rfl | rfl | rfl | rfl | rfl | rfl | rfl
    · exact ⟨h1,by show 1<σ.next; omega,rfl⟩
    · exact k 68 _ (by decide) rfl rfl
    · exact k 70 _ (by decide) rfl rfl
    · exact k 69 _ (by decide) rfl rfl
    · exact k 71 _ (by decide) rfl rfl
    · exact k 72 _ (by decide) rfl rfl
    · exact k 73 _ (by decide) rfl rfl
    · exact k 74 _ (by decide) rfl rfl
    · exact k 11 _ (by decide) rfl rfl
    · exact k 21 _ (by decide) rfl rfl
    · exact k 33 _ (by decide) rfl rfl
    · exact k 38 _ (by decide) rfl rfl
    · exact k 48 _ (by decide) rfl rfl
    · exact k 60 _ (by decide) rfl rfl
  mu:=fun p hp=>by
    have k:∀ j o,j<88→worldT[j]?=some o→xr (3+j)=true→σ.get (3+j)=some o∧3+j<σ.next∧xr (3+j)=true:=fun j o a b c=>⟨h j o a b,by omega,c⟩
    simp only [mutF,w00,List.flatMap_nil,List.append_nil,List.mem_cons,List.map_nil,List.not_mem_nil,or_false] at hp
    rcases hp with rfl | rfl | rfl | rfl | rfl | rfl | rfl | rfl | rfl | rfl | rfl | rfl
    · exact ⟨h2,by show 2<σ.next; omega,rfl⟩
    · exact k 2 _ (by decide) rfl rfl
    · exact k 5 _ (by decide) rfl rfl
    · exact k 6 _ (by decide) rfl rfl
    · exact k 36 _ (by decide) rfl rfl
    · exact k 63 _ (by decide) rfl rfl
    · exact k 66 _ (by decide) rfl rfl
    · exact k 83 _ (by decide) rfl rfl
    · exact k 87 _ (by decide) rfl rfl
    · exact k 85 _ (by decide) rfl rfl
    · exact k 86 _ (by decide) rfl rfl
    · exact k 4 _ (by decide) rfl rfl
  nd:=by
    change ([2,5,8,9,39,66,69,86,90,88,89,7]:List Nat).Nodup
    decide
theorem EK {xs:List AV} (hx:∀ v∈xs,∃ i,v=AV.int i) (hl:xs.length<1000):Ok (w00 xs) 0 where
  x0:=by simp [w00,Aux.ok]
  con0:=⟨rfl,rfl,rfl,(by decide:(0:Nat)<3),(by decide:(0:Nat)<4)⟩
  xs:=⟨hx,hl⟩
  st:=fun _ h=>by cases h
  num:=fun _ h=>by cases h
  mdn:=(by decide:([1,2,3,4,5,6]:List Int).Nodup)
  mdb:=fun e he=>by
    simp only [w00,List.mem_cons,List.not_mem_nil,or_false] at he ⊢
    rcases he with rfl | rfl | rfl | rfl | rfl | rfl <;> decide
  jr:=fun _ _ _ _ _ _ _ _ h=>by cases h
  l1:=by simp [w00]
  l2:=by simp [w00]
  l3:=by simp [w00]
  l4:=by simp [w00]
  s0:=by omega
  u1:=by simp [w00]
  u2:=by simp [w00]
  u3:=fun _ h=>by cases h
  n1:=.nil
  n2:=fun _ h=>by cases h
  k1:=fun _ h=>by cases h
  k2:=.nil
  lev:=fun i _ _ _ h=>by cases i <;> cases h
  lev':=fun _ h=>by cases h
  K:=fun _ h=>by cases h
  J:=fun q _ _ _ _ _ _ _ _ h=>by cases q <;> cases h
  svn:=.inl rfl
  nown:=.inl rfl
  stn:=.inl rfl
  a39:=⟨33,rfl⟩
  a66:=⟨60,rfl⟩
  kp:=fun _ h=>by cases h
  tls:=rfl
  ji:=fun _ _ h=>by cases h
noncomputable def vt (a:Nat) (xs:List AV):M AF:=ay (gQ 2 (eH (ah (dJ (ah (xS a xs) (ah (ret (.int 0)) aq))) (ah (aZ fn_law_world aq) aq))) (bq (bU 3) (bq (bU 2) ff)))
  (ay (ifX (jC (asB (aZ cQ (ah (ac 3) aq)))) (cu (ret (.bool false))) (ret .next))
  (ay (zp (fH .Add (ret (.int 1)) (aZ bu (ah (ac 2) (ah (ret (.int 12)) aq)))) 1 wj 100)
  (cu (ret (.bool true)))))
theorem zc (a:Nat) (xs:List AV) (hx:∀ v∈xs,∃ i,v=AV.int i):∃ l' σ',vt a xs (cY [.ext a]) ⟨0,fun _=>none⟩=some (.ok (.ret (.bool true)),l',σ'):=by
  have hx':∀ v∈xs.take 40,∃ i,v=AV.int i:=fun v hv=>hx v (List.mem_of_mem_take hv)
  have hl:(xs.take 40).length<1000:=by rw [List.length_take]; omega
  generalize hs:xs.take 40=ys at hx' hl
  have b0:cY [AV.ext a] 0=some (.ext a):=rfl
  have ex:xS a xs (cY [.ext a]) ⟨0,fun _=>none⟩=some (.ok (.ref 1),cY [.ext a],(St.push ⟨0,fun _=>none⟩ .junk).push (.list ys)):=by
    unfold xS
    rw [if_pos b0,hs]
    try rfl
  obtain ⟨g,hg⟩:∃ g,((St.push ⟨0,fun _=>none⟩ .junk).push (.list ys)).push (.list [.ref 1,.int 0])=⟨3,g⟩:=⟨_,rfl⟩
  have al:∀ l,cV (.list [.ref 1,.int 0]) l ((St.push ⟨0,fun _=>none⟩ .junk).push (.list ys))=some (.ok (.ref 2),l,⟨3,g⟩):=fun l=>by rw [← hg]; rfl
  have g1:g 1=some (.list ys):=by
    have:=congrArg (fun σ:St=>σ.get 1) hg
    exact this.symm
  have g2:g 2=some (.list [.ref 1,.int 0]):=by
    have:=congrArg (fun σ:St=>σ.get 2) hg
    exact this.symm
  have wg:=yt g
  have hA:At (stOf (fn_law_world [] ⟨3,g⟩)) xr (w00 ys):=EJ (uY g) (fun j o a b=>yu g a b) ((rB g).2.1.trans g1) ((rB g).2.2.trans g2)
  generalize stOf (fn_law_world [] ⟨3,g⟩)=σ1 at wg hA
  have hB:=hA.push (.tup [.ref 2,.ref 86])
  have tB:(σ1.push (.tup [.ref 2,.ref 86])).get σ1.next=some (.tup [.ref 2,.ref 86]):=if_pos rfl
  have aB:∀ l,cV (.tup [.ref 2,.ref 86]) l σ1=some (.ok (.ref σ1.next),l,σ1.push (.tup [.ref 2,.ref 86])):=fun l=>rfl
  generalize σ1.push (.tup [.ref 2,.ref 86])=σ2 at hB tB aB
  obtain ⟨σ3,mt3,w3,e3,hC,o3,a3⟩:=wh hB (EK hx' hl) (by omega) (.inr rfl)
  obtain ⟨v,σ4,v0,v1,e4,hD,_⟩:=jZ hC o3 (by rw [a3]; show 0<490; omega) (m:=12) (by omega)
  obtain ⟨k,rfl⟩:=Int.eq_ofNat_of_zero_le v0
  generalize hl2:(fun i=>if i=2 then some (AV.ref 2) else if i=3 then some (.ref 86) else cY [.ext a] i)=l2
  have c2:l2 2=some (.ref 2):=by rw [← hl2]; rfl
  have c3:l2 3=some (.ref 86):=by rw [← hl2]; rfl
  obtain ⟨σ5,l5,e5⟩:=xq (N0:=((1:Int)+(k:Int)).toNat) ((1:Int)+(k:Int)).toNat 0 100 l2 σ4 mt3 w3.drawn 1 (by omega) (by omega) hD o3.drawn (by omega) (o3.s0 (Nat.le_refl _)) (by
    have:w3.drawn.at'=w3.at'+1:=rfl
    rw [this,a3]
    show 0+1+5 * _<460
    omega) c2 c3
  have hr:(0:Int)≤1+(k:Int)∧1+(k:Int)<2 ^ 40:=⟨by omega,by omega⟩
  refine ⟨l5,σ5,?_⟩
  simp only [vt,ay,gQ,eH,dJ,ah,aq,au,ex,ret,al,List.length_cons,List.length_nil,aZ,kQ,wg,aB,mI,tB,bq,ff,bU,List.reverse_cons,List.reverse_nil,List.nil_append,List.cons_append,hl2,ifX,jC,asB,ac,c2,c3,e3,Bool.not_true,Bool.false_eq_true,if_false,zp,fH,e4,yC,hr,and_self,if_true,e5,cu,Nat.reduceAdd,Nat.reduceLT]
end Lw
end SP48
section SJ1
set_option maxHeartbeats 4000000
namespace Lw
open PySem PySem.Calls PyProof.Rows PySem.W
theorem zd {vs:List Value} {ns:List Int} (h:IntsAre vs ns):VRels 0 id (ns.map AV.int) vs:=by
  induction h with
  | nil=>exact .nil
  | cons n t _ ih=>exact .cons ⟨t,rfl⟩ ih
theorem ze {c:Cx} (ok:c.Ok) {qual:Str} {body:List Stmt} {scope:Scope} {fa:Addr} {cdv:Value} {names:List Str} (hk:scope.kind=.function) {a:Addr} {ns:List Int} {s:Shared} {m:Str→Option Value}
    (F:Fr c.base c.base.objs.size s.heap m) (hn:∀ x,names[0]?=some x→m x=some (.ref a)) {Q:Flow→Shared→Prop} {E:Value→Shared→Prop}
    (hS:Good c (uw callerA qual scope c.base.objs.size fa cdv names [] 9)→SE c (uw callerA qual scope c.base.objs.size fa cdv names [] 9) dz (vt a (ns.map AV.int)) (execs body (envOf qual scope c.base.objs.size fa cdv)))
    (hQ:∀ s' m',Fr c.base c.base.objs.size s'.heap m'→s'.gens=s.gens→s'.os=s.os→Q (.ret (.bool true)) s') :
    wpAny (model c.prog c.w) (callerA.deeper (envOf qual scope c.base.objs.size fa cdv)) (execs body (envOf qual scope c.base.objs.size fa cdv)) Q E s:=by
  have G:Good c (uw callerA qual scope c.base.objs.size fa cdv names [] 9):=⟨ok,hk,rfl,rfl,rfl,by show scope.kind≠_; rw [hk]; decide,.inl ⟨rfl,rfl,rfl,rfl⟩,rfl,⟨rfl,(by decide:callerA.depth+20 * 10≤900),(by decide:callerA.units+100 * 10≤9000)⟩⟩
  obtain ⟨l',σ',e⟩:=zc a (ns.map AV.int) (fun v hv=>by
    obtain ⟨i,_,rfl⟩:=List.mem_map.mp hv
    exact ⟨i,rfl⟩)
  have I:Inv c (uw callerA qual scope c.base.objs.size fa cdv names [] 9) (fun _=>0) (cY [.ext a]) ⟨0,fun _=>none⟩ s:={
    rel:=⟨fun i _ hi=>absurd hi (Nat.not_lt_zero _),F.keep,fun i hi=>absurd hi (Nat.not_lt_zero _),fun i hi=>absurd hi (Nat.not_lt_zero _),fun i a h=>by cases h⟩
    fr:=⟨m,F.ns,fun k x b h1 h2=>by
      cases k with
      | zero =>
        have:b=.ext a:=(Option.some.inj h2).symm
        subst this
        exact ⟨_,hn x h1,rfl⟩
      | succ k=>exact absurd h2 (by show ([AV.ext a]:List AV)[k+1]?≠_; simp)⟩
    off:=fun ⟨i,hi,_⟩=>absurd hi (Nat.not_lt_zero _)
    low:=Nat.le_refl _
    stk:=fun env he=>by cases he
    apart:=fun env he=>by cases he }
  refine (hS G).1 _ _ _ _ I _ _ _ e Q E fun ρ' s' fl g' I' rv=>?_
  obtain ⟨v,rfl,rv⟩:=rv
  have hv:v=.bool true:=rv
  subst hv
  obtain ⟨m',F',_⟩:=I'.frame
  exact hQ s' m' F' g'.rest.1 g'.rest.2.2
end Lw
end SJ1
section SJ2
set_option maxHeartbeats 8000000
open PySem PySem.Calls PySem.W PyProof.Rows Lw
local macro_rules | `(tactic| k_qdec)=>`(tactic| decide +kernel)
theorem PySem.Challenge.cw_pq0917_01_holds : PySem.Challenge.rw_pq0917_01.Holds := by
  refine Cr ⟨"law",dP (dS 55 0),dB (dS 55 0),dC (dS 55 0),⟨559,0,577,15⟩⟩ rfl rfl rfl ?_
  intro w s₀ s₁ mg mb G Y fa o pm cd doc dV kV ho hd hcd hD hmg hg args vals as hpre hlay hrd hwl hlo
  obtain ⟨K,KX,hK⟩:=Y
  k_behind G ho hd hcd hD hmg hpre hlay hrd hwl hlo cd
  rename_i X V GL T B TE TW x9 x8 MB x7 x6 ns hs hlay0 hLay hr hl2 x4 x3 a vs x0 hL ra w1 r0 hI hr2 hcond hcond2 K0 h₁ F N0
  have T':=topRead_of T
  generalize looseW qq _=lo at T'
  have ok:Cx.Ok ⟨PySem.Challenge.rw_pq0917_01.row.prog,w,K,s₁.heap,qq,lo,mg,mb⟩:=⟨KX,T',by
    obtain ⟨oc,od,osl,name,kV,doc,pm,an,ct,ho⟩:=(fnH hK 24 rfl:FnAt K 872 _ _ _ _ _ _).ho
    exact Nat.lt_trans (by decide:sysModules<872) (Heap.lt_size (KX _ _ ho))⟩
  have hrel:=zd hI
  have hlen:vs.length<2 ^ 24:=by
    have:=hrel.length
    rw [List.length_map] at this
    omega
  refine ze (ns:=ns) (names:=["script", "turn", "hand", "w", "way", "is_right"]) ok rfl F (fun x hx=>by cases hx; rfl) (fun G=>?_) (fun s' m' F' hg' hos'=>?_)
  · have hK:Facts (Cx.K ⟨PySem.Challenge.rw_pq0917_01.row.prog,w,K,s₁.heap,qq,lo,mg,mb⟩):=hK
    have hL':=hL
    have hl:=lok G (by kernel_rfl)
    have KL {k:Nat} {x:Str}:=KLx (k:=k) (x:=x) hl
    have V {k:Nat} {x:Str} {pos:Pos}:=Vx (k:=k) (x:=x) (pos:=pos) G hl
    have hnd:(["script", "turn", "hand", "w", "way", "is_right"]:List Str).Nodup:=by decide
    exact ai (eW rfl (n:=2) (names:=["hand", "w"]) (cq (ae (cm (ae (Bp G rfl (KL (k:=0) rfl) (by decide) hL' hrel hlen) (ae aI aj ax) az)) (ae (pc G rfl (b:=7) (Nat.le_of_ble_eq_true rfl) (sb hK) (sr ok hK) (by kernel_rfl) (by decide)) aj bE) i0)) (show STg _ _ _ [bindName _ "w",bindName _ "hand"] from bh (bW G (k:=3) rfl hnd (KL (k:=3) rfl)) (bh (bW G (k:=2) rfl hnd (KL (k:=2) rfl)) dZ)) rfl (by kernel_rfl) (by kernel_rfl))
        (ai (bY (kO (bD (aU G rfl (b:=9) (Nat.le_of_ble_eq_true rfl) (iY hK) (ja ok hK) (by kernel_rfl) (by decide) (ae (V rfl) aj aD) rfl rfl) (fun _=>rfl))) (ar (aP cZ)) cj)
        (ai (zq G rfl rfl (yb hK) (kx:=1) rfl hnd (KL (k:=1) rfl) (by kernel_rfl) (by decide) (dt aI (aU G rfl (b:=1) (Nat.le_of_ble_eq_true rfl) (dE hK) (dI ok hK) (by kernel_rfl) (by decide) (ae (V rfl) (ae aI aj ax) aD) rfl rfl)) (ai (eW rfl (n:=2) (names:=["way", "is_right"]) (cq (ae (aU G rfl (b:=1) (Nat.le_of_ble_eq_true rfl) (dE hK) (dI ok hK) (by kernel_rfl) (by decide) (ae (V rfl) (ae aI aj ax) aD) rfl rfl) (ae cZ aj ax) bE)) (show STg _ _ _ [bindName _ "is_right",bindName _ "way"] from bh (bW G (k:=5) rfl hnd (KL (k:=5) rfl)) (bh (bW G (k:=4) rfl hnd (KL (k:=4) rfl)) dZ)) rfl (by kernel_rfl) (by kernel_rfl))
        (ai (bY (bN G (V rfl) aI rfl) (ar (bM G (aU G rfl (b:=2) (Nat.le_of_ble_eq_true rfl) (qK hK) (qP ok hK) (by kernel_rfl) (by decide) (ae (V rfl) (ae (V rfl) (ae (V rfl) aj aD) aD) aD) rfl rfl) (by kernel_rfl))) (ar (bY (bN G (V rfl) aI rfl) (ar (bG G (k:=5) (fp (xA (dK G (fX G (eR hK) gD (by kernel_rfl) (by decide) (ae (aG (V rfl) (aK (j:=56) (by decide) rfl) (fun _ _=>rfl)) aj az) rfl rfl) aI rfl) (je (aU G rfl (b:=9) (Nat.le_of_ble_eq_true rfl) (iY hK) (ja ok hK) (by kernel_rfl) (by decide) (ae (V rfl) aj aD) rfl rfl)))) rfl hnd (KL (k:=5) rfl) (by kernel_rfl))) (ar (bY (bN G (V rfl) aI rfl) (ar (bG G (k:=5) (aU G rfl (b:=9) (Nat.le_of_ble_eq_true rfl) (nF hK) (nL ok hK) (by kernel_rfl) (by decide) (ae (V rfl) (ae (V rfl) (ae (V rfl) aj aD) aD) aD) rfl rfl) rfl hnd (KL (k:=5) rfl) (by kernel_rfl))) (ar (bY (bN G (V rfl) aI rfl) (ar (bG G (k:=5) (aU G rfl (b:=7) (Nat.le_of_ble_eq_true rfl) (nG hK) (nM ok hK) (by kernel_rfl) (by decide) (ae (V rfl) (ae (V rfl) aj aD) aD) rfl rfl) rfl hnd (KL (k:=5) rfl) (by kernel_rfl))) (ar (bG G (k:=5) (aU G rfl (b:=7) (Nat.le_of_ble_eq_true rfl) (mR hK) (mY ok hK) (by kernel_rfl) (by decide) (ae (V rfl) (ae (dK G (aU G rfl (b:=1) (Nat.le_of_ble_eq_true rfl) (dE hK) (dI ok hK) (by kernel_rfl) (by decide) (ae (V rfl) (ae aI aj ax) aD) rfl rfl) aI rfl) aj mU) aD) rfl rfl) rfl hnd (KL (k:=5) rfl) (by kernel_rfl))))))))))
        (ar (bY (fw (iI (kO (bD (V rfl) (fun _=>rfl))) (iI (kO (bD (aU G rfl (b:=4) (Nat.le_of_ble_eq_true rfl) (qJ hK) (qQ ok hK) (by kernel_rfl) (by decide) (ae (V rfl) aj aD) rfl rfl) (fun _=>rfl))) rQ))) (ar (aP cZ)) cj)))) rfl (fun _=>rfl))
        (ar (aP cZ))))
  · refine goodW_bool F' (hg'.trans hg) (raisesW_false (by wrow_none_raised)) (postW_of (by wrow_shape) (by wtm_val) (by w_fin)) hos'
end SJ2
