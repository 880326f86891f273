import PyProof.Rows.All
import Wide.All
import OpenK.AllK
import Wide.FinOn
import Open.SpecLaws
import KE.OsGo
import HandS.ForSpec
import HandS.ForMost
import PySem.Challenge.RW_smallchip_s03_c51_interrupt
set_option Elab.async false
set_option linter.all false
set_option maxRecDepth 100000
set_option maxHeartbeats 4000000
namespace Cm
open Ql29 (St at_ set_ sfr putSfr direct putDirect inside putInside a putA psw withBit flags C bank r putR dptr putDptr jump skip signed away bitPlace bit putBit push pop call back odd settled SP DPL DPH P2 PSW ACC BREG W)
/-! ### what holds of every state -/
structure WF (s : St) : Prop where
  pc : s.pc < 65536
  ram : s.ram.length = 256
  sfr : s.sfr.length = 128
  code : s.code.length = 65536
  ext : s.ext.length = 65536
theorem at_lt (l : List UInt8) (i : Nat) : at_ l i < 256 := (l.getD i 0).toNat_lt
theorem u8_of (v : Nat) : (UInt8.ofNat (v % 256)).toNat = v % 256 := by
  rw [UInt8.toNat_ofNat']
  omega
theorem set_len (l : List UInt8) (i v : Nat) : (set_ l i v).length = l.length := List.length_set
theorem at_set_same {l : List UInt8} {i v : Nat} (h : i < l.length) : at_ (set_ l i v) i = v % 256 := by
  unfold at_ set_
  rw [List.getD_eq_getElem?_getD, List.getElem?_set_self h]
  exact u8_of v
theorem at_set_ne {l : List UInt8} {i j v : Nat} (h : i ≠ j) : at_ (set_ l i v) j = at_ l j := by
  unfold at_ set_
  rw [List.getD_eq_getElem?_getD, List.getElem?_set_ne h, List.getD_eq_getElem?_getD]
theorem set_mod (l : List UInt8) (i v : Nat) : set_ l i (v % 256) = set_ l i v := by
  unfold set_
  rw [Nat.mod_mod]
theorem set_set (l : List UInt8) (i v w : Nat) : set_ (set_ l i v) i w = set_ l i w := by
  unfold set_
  rw [List.set_set]
theorem set_comm (l : List UInt8) {i j : Nat} (v w : Nat) (h : i ≠ j) : set_ (set_ l i v) j w = set_ (set_ l j w) i v := by
  unfold set_
  rw [List.set_comm _ _ h]
theorem set_at {l : List UInt8} {i : Nat} : set_ l i (at_ l i) = l := by
  unfold set_ at_
  have e : UInt8.ofNat ((l.getD i 0).toNat % 256) = l.getD i 0 := by
    apply UInt8.toNat_inj.mp
    rw [u8_of]
    exact Nat.mod_eq_of_lt (l.getD i 0).toNat_lt
  rw [e, List.getD_eq_getElem?_getD]
  by_cases h : i < l.length
  · rw [List.getElem?_eq_getElem h]
    simp
  · rw [List.set_eq_of_length_le (by omega)]
/-! ### special registers -/
theorem sfr_lt (s : St) (p : Nat) : sfr s p < 256 := at_lt _ _
theorem ins_lt (s : St) (p : Nat) : inside s p < 256 := at_lt _ _
theorem dir_lt (s : St) (p : Nat) : direct s p < 256 := by
  unfold direct
  split
  · exact at_lt _ _
  · exact at_lt _ _
theorem code_lt (s : St) (p : Nat) : Ql29.code s p < 256 := at_lt _ _
theorem a_lt (s : St) : a s < 256 := at_lt _ _
theorem put_mod (s : St) (p v : Nat) : putSfr s p (v % 256) = putSfr s p v := by
  unfold putSfr
  rw [set_mod]
theorem putA_mod (s : St) (v : Nat) : putA s (v % 256) = putA s v := put_mod s ACC v
theorem putI_mod (s : St) (p v : Nat) : putInside s p (v % 256) = putInside s p v := by
  unfold putInside
  rw [set_mod]
theorem putD_mod (s : St) (p v : Nat) : putDirect s p (v % 256) = putDirect s p v := by
  unfold putDirect
  rw [set_mod, put_mod]
theorem put_put (s : St) (p v w : Nat) : putSfr (putSfr s p v) p w = putSfr s p w := by
  unfold putSfr
  rw [set_set]
theorem put_comm (s : St) {p q : Nat} (v w : Nat) (h : p - 128 ≠ q - 128) : putSfr (putSfr s p v) q w = putSfr (putSfr s q w) p v := by
  unfold putSfr
  exact congrArg (fun z => ({ s with sfr := z } : St)) (set_comm _ _ _ h)
theorem sfr_put_ne (s : St) {p q : Nat} (v : Nat) (h : p - 128 ≠ q - 128) : sfr (putSfr s p v) q = sfr s q := at_set_ne h
theorem sfr_put_same {s : St} (w : WF s) {p : Nat} (v : Nat) (h : p < 256) : sfr (putSfr s p v) p = v % 256 := at_set_same (by rw [w.sfr]; omega)
theorem sfr_ram (s : St) (l : List UInt8) (p : Nat) : sfr { s with ram := l } p = sfr s p := rfl
/-! ### all keep WF -/
theorem WF.put {s : St} (w : WF s) (p v : Nat) : WF (putSfr s p v) := ⟨w.pc, w.ram, (set_len _ _ _).trans w.sfr, w.code, w.ext⟩
theorem WF.putA {s : St} (w : WF s) (v : Nat) : WF (putA s v) := w.put _ _
theorem WF.putI {s : St} (w : WF s) (p v : Nat) : WF (putInside s p v) := ⟨w.pc, (set_len _ _ _).trans w.ram, w.sfr, w.code, w.ext⟩
theorem WF.putD {s : St} (w : WF s) (p v : Nat) : WF (putDirect s p v) := by
  unfold putDirect
  split
  · exact ⟨w.pc, (set_len _ _ _).trans w.ram, w.sfr, w.code, w.ext⟩
  · exact w.put _ _
theorem WF.flags {s : St} (w : WF s) (l : List (Nat × Bool)) : WF (flags s l) := w.put _ _
theorem WF.jump {s : St} (w : WF s) (p : Nat) : WF (jump s p) := ⟨Nat.mod_lt _ (by decide), w.ram, w.sfr, w.code, w.ext⟩
theorem WF.skip {s : St} (w : WF s) (k : Nat) : WF (skip s k) := w.jump _
theorem WF.ext' {s : St} (w : WF s) (i v : Nat) : WF { s with ext := set_ s.ext i v } := ⟨w.pc, w.ram, w.sfr, w.code, (set_len _ _ _).trans w.ext⟩
theorem WF.push {s : St} (w : WF s) (v : Nat) : WF (push s v) := (w.put _ _).putI _ _
theorem WF.settled {s : St} (w : WF s) : WF (settled s) := w.put _ _
theorem skip0 {s : St} (w : WF s) : skip s 0 = s := by
  unfold skip jump
  rw [Nat.add_zero, show s.pc % W = s.pc from Nat.mod_eq_of_lt w.pc]
theorem skip_skip (s : St) : skip (skip s 1) 1 = skip s 2 := by
  unfold skip jump
  show ({ s with pc := ((s.pc + 1) % W + 1) % W } : St) = { s with pc := (s.pc + 2) % W }
  have e : ((s.pc + 1) % W + 1) % W = (s.pc + 2) % W := by
    unfold W
    omega
  rw [e]
theorem code_skip (s : St) : Ql29.code (skip s 1) (skip s 1).pc = Ql29.code s (s.pc + 1) := by
  unfold skip jump Ql29.code
  show at_ s.code ((s.pc + 1) % W % W) = at_ s.code ((s.pc + 1) % W)
  rw [Nat.mod_mod]
/-! ### one flag -/
theorem withBit_lt {v k : Nat} {b : Bool} (hv : v < 256) (hk : k < 8) : withBit v k b < 256 := by
  unfold withBit
  split
  · exact hv
  · rename_i h
    split
    · rename_i hb
      subst hb
      have hh : v.testBit k = false := by
        cases e : v.testBit k with
        | false => rfl
        | true => exact absurd e h
      revert hh
      have all : ∀ v < 256, ∀ k < 8, v.testBit k = false → v + 2 ^ k < 256 := by decide +kernel
      exact all v hv k hk
    · exact Nat.lt_of_le_of_lt (Nat.sub_le _ _) hv
theorem withBit_eq {v k : Nat} (b : Bool) (hv : v < 256) (hk : k < 8) : withBit v k b = (v &&& (255 ^^^ 2 ^ k)) ||| (if b = true then 2 ^ k else 0) := by
  have all : ∀ v < 256, ∀ k < 8, ∀ b : Bool, withBit v k b = (v &&& (255 ^^^ 2 ^ k)) ||| (if b = true then 2 ^ k else 0) := by decide +kernel
  exact all v hv k hk b
abbrev flag1 (s : St) (k : Nat) (b : Bool) : St := flags s [(k, b)]
theorem fold_lt {l : List (Nat × Bool)} : ∀ {v : Nat}, v < 256 → (∀ x ∈ l, x.1 < 8) → l.foldl (fun f x => withBit f x.1 x.2) v < 256 := by
  induction l with
  | nil => exact fun h _ => h
  | cons x l ih =>
    intro v hv hl
    exact ih (withBit_lt hv (hl x List.mem_cons_self)) fun y hy => hl y (List.mem_cons_of_mem _ hy)
theorem flags_flags {s : St} (w : WF s) (l m : List (Nat × Bool)) (hl : ∀ x ∈ l, x.1 < 8) : flags (flags s l) m = flags s (l ++ m) := by
  unfold flags
  rw [sfr_put_same w _ (by decide), put_put, List.foldl_append, Nat.mod_eq_of_lt (fold_lt (sfr_lt s PSW) hl)]
theorem flags_putSfr (s : St) (l : List (Nat × Bool)) {p : Nat} (v : Nat) (h : p - 128 ≠ PSW - 128) : flags (putSfr s p v) l = putSfr (flags s l) p v := by
  unfold flags
  rw [sfr_put_ne _ _ h, put_comm _ _ _ h]
theorem sfr_flags (s : St) (l : List (Nat × Bool)) {p : Nat} (h : PSW - 128 ≠ p - 128) : sfr (flags s l) p = sfr s p := sfr_put_ne _ _ h
end Cm

namespace Cm
open Ql29 (St at_ set_ sfr putSfr direct putDirect inside putInside a putA psw withBit flags C bank r putR dptr putDptr jump skip signed away bitPlace bit putBit push pop call back odd settled SP DPL DPH P2 PSW ACC BREG W)
/-! ### the program's defs, as functions of the state -/
def getP (s : St) (p : Bool × Nat) : Nat := if p.1 = true then direct s p.2 else inside s p.2
def putP (s : St) (p : Bool × Nat) (v : Nat) : St := if p.1 = true then putDirect s p.2 v else putInside s p.2 v
def fv (s : St) : Nat := Ql29.code s s.pc
def nx (s : St) : St := skip s 1
def opP (s : St) (k : Nat) : Bool × Nat := if k = 5 then (true, fv s) else if k < 8 then (false, r s (k % 2)) else (false, bank s + k % 8)
def opS (s : St) (k : Nat) : St := if k = 5 then nx s else s
def opV (s : St) (k : Nat) : Nat := if k = 4 then fv s else getP (opS s k) (opP s k)
def opT (s : St) (k : Nat) : St := if k = 4 then nx s else opS s k
def joined (row x y : Nat) : Nat := if row = 4 then x ||| y else if row = 5 then x &&& y else x ^^^ y
def stepI (x : Nat) (d : Int) : Nat := (((x : Int) + d) % 256).toNat
def countBy (s : St) (k : Nat) (d : Int) : St := if k = 4 then putA s (stepI (a s) d) else putP (opS s k) (opP s k) (stepI (getP (opS s k) (opP s k)) d)
def mAdd (s : St) (y c : Nat) : St := Ql29.add s y c
def mSub (s : St) (y : Nat) : St := Ql29.sub s y
def joinAdd (s : St) (op : Nat) : St :=
  let y := opV s (op % 16)
  let t := opT s (op % 16)
  if op / 16 = 2 then mAdd t y 0 else if op / 16 = 3 then mAdd t y (C t).toNat else if op / 16 = 9 then mSub t y else putA t (joined (op / 16) (a t) y)
def mul (s : St) : St := flags (putSfr (putA s (a s * sfr s BREG)) BREG (a s * sfr s BREG / 256)) [(7, false), (2, decide (255 < a s * sfr s BREG))]
def dvd (s : St) : St :=
  let t := flags s [(7, false), (2, decide (sfr s BREG = 0))]
  if 0 < sfr s BREG then putSfr (putA t (a s / sfr s BREG)) BREG (a s % sfr s BREG) else t
def row7 (s : St) (k : Nat) : St := if k = 4 then putA (nx s) (fv s) else putP (nx (opS s k)) (opP s k) (fv (opS s k))
def row8 (s : St) (k : Nat) : St := if k = 4 then dvd s else putDirect (nx (opS s k)) (fv (opS s k)) (getP (opS s k) (opP s k))
def row10 (s : St) (k : Nat) : St := if k = 4 then mul s else putP (nx (opS s k)) (opP s k) (direct (nx (opS s k)) (fv (opS s k)))
def jumpBy (s : St) (d : Nat) : St := jump s (away s.pc d)
def jumpIf (s : St) (b : Bool) : St := if b = true then jumpBy (nx s) (fv s) else nx s
def cmpEnd (s : St) (x y : Nat) : St := flag1 (jumpIf s (x != y)) 7 (decide (x < y))
def compare (s : St) (k : Nat) : St :=
  if k = 4 then cmpEnd (nx s) (a s) (fv s)
  else if k = 5 then cmpEnd (nx s) (a s) (direct (nx s) (fv s))
  else cmpEnd (nx (opS s k)) (getP (opS s k) (opP s k)) (fv (opS s k))
def exchange (s : St) (k : Nat) : St :=
  if k = 4 then putA s ((a s / 16) ||| (a s * 16)) else putA (putP (opS s k) (opP s k) (a s)) (getP (opS s k) (opP s k))
def row13 (s : St) (k : Nat) : St :=
  if k = 4 then Ql29.daa s
  else
    let p := opP s k
    let t := opS s k
    let v := getP t p
    if k = 6 ∨ k = 7 then putA (putP t p ((v &&& 240) ||| (a t &&& 15))) ((a t &&& 240) ||| (v &&& 15))
    else jumpIf (putP t p ((v + 255) % 256)) ((v + 255) % 256 != 0)
def row14 (s : St) (k : Nat) : St := if k = 4 then putA s 0 else putA (opS s k) (getP (opS s k) (opP s k))
def row15 (s : St) (k : Nat) : St := if k = 4 then putA s (255 ^^^ a s) else putP (opS s k) (opP s k) (a s)
def pushPc (s : St) : St := push (push s (s.pc % 256)) (s.pc / 256)
def pageGoal (s : St) (op : Nat) : Nat := ((nx s).pc &&& 63488) ||| (op / 32 * 256) ||| fv s
def pageJump (s : St) (op : Nat) : St := jump (if 0 < op &&& 16 then pushPc (nx s) else nx s) (pageGoal s op)
def bitJump (s : St) (row : Nat) : St :=
  let b := fv s
  let t := nx s
  let v := bit t b
  jumpIf (if row = 1 ∧ v = true then putBit t b false else t) (v == (row != 3))
def cwb (s : St) (isOr turned : Bool) : St :=
  let v := (bit (nx s) (fv s)) != turned
  flag1 (nx s) 7 (if isOr = true then C s || v else C s && v)
def newBit (row : Nat) (v : Bool) : Bool := if row = 11 then !v else row == 13
def moveOut (s : St) (row n : Nat) : St :=
  let p := 256 * sfr s P2 + r s n
  if row = 14 then putA s (at_ s.ext p) else { s with ext := set_ s.ext p (a s) }
def col0 (s : St) (row : Nat) : St :=
  if row = 1 ∨ row = 2 ∨ row = 3 then bitJump s row
  else if row = 4 ∨ row = 5 then jumpIf s (C s == (row == 4))
  else if row = 6 ∨ row = 7 then jumpIf s ((a s == 0) == (row == 6))
  else if row = 8 then jumpBy (nx s) (fv s)
  else if row = 9 then putSfr (putSfr (nx (nx s)) DPL (fv (nx s))) DPH (fv s)
  else if row = 10 ∨ row = 11 then cwb s (row == 10) true
  else if row = 12 then push (nx s) (direct (nx s) (fv s))
  else if row = 13 then putDirect (pop (nx s)).2 (fv s) (pop (nx s)).1
  else if row = 14 then putA s (at_ s.ext (dptr s))
  else if row = 15 then { s with ext := set_ s.ext (dptr s) (a s) }
  else s
def col2 (s : St) (row : Nat) : St :=
  if row = 0 ∨ row = 1 then jump (if row = 1 then pushPc (nx (nx s)) else nx (nx s)) (256 * fv s + fv (nx s))
  else if row = 2 ∨ row = 3 then back s
  else if row = 4 ∨ row = 5 ∨ row = 6 then putDirect (nx s) (fv s) (joined row (direct (nx s) (fv s)) (a s))
  else if row = 7 ∨ row = 8 then cwb s (row == 7) false
  else if row = 9 then putBit (nx s) (fv s) (C s)
  else if row = 10 then flag1 (nx s) 7 (bit (nx s) (fv s))
  else if row = 11 ∨ row = 12 ∨ row = 13 then putBit (nx s) (fv s) (newBit row (bit (nx s) (fv s)))
  else moveOut s row 0
def turnA (s : St) (row : Nat) : St :=
  if row = 0 then putA s ((a s / 2) ||| (a s * 128))
  else if row = 1 then flag1 (putA s ((a s / 2) ||| ((C s).toNat * 128))) 7 (a s % 2 == 1)
  else if row = 2 then putA s ((a s * 2) ||| (a s / 128))
  else flag1 (putA s ((a s * 2) ||| (C s).toNat)) 7 (a s / 128 == 1)
def col3 (s : St) (row : Nat) : St :=
  if row < 4 then turnA s row
  else if row < 7 then putDirect (nx (nx s)) (fv s) (joined row (direct (nx (nx s)) (fv s)) (fv (nx s)))
  else if row = 7 then jump s (dptr s + a s)
  else if row = 8 then putA s (Ql29.code s (s.pc + a s))
  else if row = 9 then putA s (Ql29.code s (dptr s + a s))
  else if row = 10 then putSfr (putSfr s DPL ((dptr s + 1) % 65536)) DPH ((dptr s + 1) % 65536 / 256)
  else if row = 11 ∨ row = 12 ∨ row = 13 then flag1 s 7 (newBit row (C s))
  else moveOut s row 1
def body (s : St) (op : Nat) : St :=
  let k := op % 16
  let h := op / 16
  if k = 0 then col0 s h
  else if k = 1 then pageJump s op
  else if k = 2 then col2 s h
  else if k = 3 then col3 s h
  else if h = 0 then countBy s k 1
  else if h = 1 then countBy s k (-1)
  else if h = 7 then row7 s k
  else if h = 8 then row8 s k
  else if h = 10 then row10 s k
  else if h = 11 then compare s k
  else if h = 12 then exchange s k
  else if h = 13 then row13 s k
  else if h = 14 then row14 s k
  else if h = 15 then row15 s k
  else joinAdd s op
def timeOf (op : Nat) : Nat :=
  let k := op % 16
  let h := op / 16
  if op = 132 ∨ op = 164 then 4
  else if k = 1 ∨ op ∈ [2, 18, 34, 50, 115, 131, 147, 163, 117, 67, 83, 99, 114, 130, 146, 213] then 2
  else if k = 0 then (if h = 0 then 1 else 2)
  else if (h = 14 ∨ h = 15) ∧ k < 4 then 2
  else if h = 11 ∧ 4 ≤ k then 2
  else if (h = 8 ∧ 5 ≤ k) ∨ (h = 10 ∧ 6 ≤ k) ∨ (h = 13 ∧ 8 ≤ k) then 2
  else 1
end Cm

namespace Cm
open Ql29 (St at_ set_ sfr putSfr direct putDirect inside putInside a putA psw withBit flags C bank r putR dptr putDptr jump skip signed away bitPlace bit putBit push pop call back odd settled SP DPL DPH P2 PSW ACC BREG W)
theorem nx_jump (s : St) : (nx s).pc = (s.pc + 1) % 65536 := rfl
theorem two_nx (s : St) : nx (nx s) = skip s 2 := skip_skip s
theorem fv_nx (s : St) : fv (nx s) = Ql29.code s (s.pc + 1) := code_skip s
theorem getP_nx (s : St) (p : Bool × Nat) : getP (nx s) p = getP s p := rfl
theorem getP_opS (s : St) (k : Nat) (p : Bool × Nat) : getP (opS s k) p = getP s p := by
  unfold opS
  split <;> rfl
theorem opV_eq (s : St) {k : Nat} (h4 : 4 ≤ k) (h16 : k < 16) : (Ql29.operand s k).1 = opV s k := by
  unfold opV Ql29.operand
  by_cases e4 : k = 4
  · rw [if_pos e4, if_pos e4]; rfl
  rw [if_neg e4, if_neg e4, getP_opS]
  unfold opP
  by_cases e5 : k = 5
  · rw [if_pos e5, if_pos e5]; rfl
  rw [if_neg e5, if_neg e5]
  by_cases e8 : k < 8
  · rw [if_pos e8, if_pos e8]
    have e : k % 2 = k - 6 := by omega
    rw [e]; rfl
  · rw [if_neg e8, if_neg e8]
    have e : k % 8 = k - 8 := by omega
    rw [e]; rfl
theorem opT_eq {s : St} (w : WF s) {k : Nat} : skip s (Ql29.operand s k).2 = opT s k := by
  unfold opT opS Ql29.operand
  by_cases e4 : k = 4
  · rw [if_pos e4, if_pos e4]; rfl
  rw [if_neg e4, if_neg e4]
  by_cases e5 : k = 5
  · rw [if_pos e5, if_pos e5]; rfl
  rw [if_neg e5, if_neg e5]
  split <;> exact skip0 w
theorem getP_op (s : St) {k : Nat} (h : 5 ≤ k) : getP (opS s k) (opP s k) = opV s k := by
  unfold opV
  rw [if_neg (by omega)]
theorem opS_T (s : St) {k : Nat} (h : 5 ≤ k) : opS s k = opT s k := by
  unfold opT
  rw [if_neg (by omega)]
/-- putOperand, in any state with the same ram and sfr -/
theorem putP_eq (s t : St) {k : Nat} (h4 : 5 ≤ k) (h16 : k < 16) (v : Nat) (er : t.ram = s.ram) (es : t.sfr = s.sfr) : putP t (opP s k) v = Ql29.putOperand t k (fv s) v := by
  unfold Ql29.putOperand opP putP
  by_cases e5 : k = 5
  · rw [if_pos e5, if_pos e5]; rfl
  rw [if_neg e5, if_neg e5]
  have eb : bank t = bank s := by unfold bank sfr; rw [es]
  by_cases e8 : k < 8
  · rw [if_pos e8, if_pos e8]
    have e : k % 2 = k - 6 := by omega
    have ei : r t (k - 6) = r s (k - 6) := by unfold r inside; rw [eb, er]
    rw [e, ei]; rfl
  · rw [if_neg e8, if_neg e8]
    have e : k % 8 = k - 8 := by omega
    unfold putR
    rw [e, eb]; rfl
theorem opS_ram (s : St) (k : Nat) : (opS s k).ram = s.ram := by
  unfold opS
  split <;> rfl
theorem opS_sfr (s : St) (k : Nat) : (opS s k).sfr = s.sfr := by
  unfold opS
  split <;> rfl
theorem opS_ne {s : St} {k : Nat} (h : k ≠ 5) : opS s k = s := if_neg h
theorem opV_lt (s : St) (k : Nat) : opV s k < 256 := by
  unfold opV
  split
  · exact at_lt _ _
  · unfold getP
    split
    · exact dir_lt _ _
    · exact at_lt _ _
/-! ### times -/
theorem time_all : ∀ op < 256, (timeOf op =
   (if op % 16 = 1 then 2 else if 4 ≤ op % 16 ∧ (op / 16 = 2 ∨ op / 16 = 3 ∨ op / 16 = 4 ∨ op / 16 = 5 ∨ op / 16 = 6 ∨ op / 16 = 9) then 1
    else if 5 ≤ op % 16 ∧ (op / 16 = 0 ∨ op / 16 = 1) then 1
    else if 5 ≤ op % 16 ∧ op / 16 = 7 then (if op % 16 = 5 then 2 else 1)
    else if 5 ≤ op % 16 ∧ op / 16 = 8 then 2
    else if 6 ≤ op % 16 ∧ op / 16 = 10 then 2
    else if 4 ≤ op % 16 ∧ op / 16 = 11 then 2
    else if 5 ≤ op % 16 ∧ op / 16 = 12 then 1
    else if op / 16 = 13 ∧ (op % 16 = 6 ∨ op % 16 = 7) then 1
    else if op / 16 = 13 ∧ 5 ≤ op % 16 then 2
    else if 5 ≤ op % 16 ∧ op / 16 = 14 then 1
    else if 5 ≤ op % 16 ∧ op / 16 = 15 then 1
    else timeOf op)) := by decide +kernel
end Cm

namespace Cm
open Ql29 (St at_ set_ sfr putSfr direct putDirect inside putInside a putA psw withBit flags C bank r putR dptr putDptr jump skip signed away bitPlace bit putBit push pop call back odd settled SP DPL DPH P2 PSW ACC BREG W)
/-! ### bytes -/
theorem or_add : ∀ x < 16, ∀ y < 16, (x * 16 ||| y) = x * 16 + y := by decide +kernel
theorem swap_or : ∀ x < 256, ((x / 16) ||| (x * 16)) % 256 = (x / 16 + x % 16 * 16) % 256 := by decide +kernel
theorem and240 : ∀ v < 256, v &&& 240 = v / 16 * 16 := by decide +kernel
theorem and15 : ∀ v < 256, v &&& 15 = v % 16 := by decide +kernel
theorem xch1 (v : Nat) (hv : v < 256) (x : Nat) (hx : x < 256) : ((v &&& 240) ||| (x &&& 15)) = v / 16 * 16 + x % 16 := by
  rw [and240 v hv, and15 x hx]
  exact or_add _ (by omega) _ (by omega)
theorem cplA : ∀ x < 256, 255 ^^^ x = 255 - x := by decide +kernel
theorem rr : ∀ x < 256, ((x / 2) ||| (x * 128)) % 256 = (x / 2 + x % 2 * 128) % 256 := by decide +kernel
theorem rrc : ∀ x < 256, ∀ c : Bool, ((x / 2) ||| (c.toNat * 128)) = (x / 2 + c.toNat * 128) := by decide +kernel
theorem rl : ∀ x < 256, ((x * 2) ||| (x / 128)) = (x * 2 + x / 128) := by decide +kernel
theorem rlc : ∀ x < 256, ∀ c : Bool, ((x * 2) ||| c.toNat) = (x * 2 + c.toNat) := by decide +kernel
theorem bit0 : ∀ x < 256, (x % 2 == 1) = x.testBit 0 := by decide +kernel
theorem bit7 : ∀ x < 256, (x / 128 == 1) = x.testBit 7 := by decide +kernel
theorem put_congr (s : St) (p : Nat) {v w : Nat} (h : v % 256 = w % 256) : putSfr s p v = putSfr s p w := by rw [← put_mod s p v, h, put_mod]
theorem putA_congr (s : St) {v w : Nat} (h : v % 256 = w % 256) : putA s v = putA s w := put_congr s ACC h
theorem putD_congr (s : St) (p : Nat) {v w : Nat} (h : v % 256 = w % 256) : putDirect s p v = putDirect s p w := by rw [← putD_mod s p v, h, putD_mod]
theorem putP_congr (s : St) (p : Bool × Nat) {v w : Nat} (h : v % 256 = w % 256) : putP s p v = putP s p w := by
  unfold putP
  rw [putD_congr s p.2 h, ← putI_mod s p.2 v, h, putI_mod]
theorem step_up {x : Nat} : stepI x 1 % 256 = (x + 1) % 256 := by unfold stepI; omega
theorem step_down {x : Nat} : stepI x (-1) % 256 = (x + 255) % 256 := by unfold stepI; omega
theorem byte_dec (x : Nat) : stepI x (-1) = (x + 255) % 256 := by unfold stepI; omega
/-! ### the groups -/
theorem gA {s : St} (w : WF s) {op : Nat} (hk : 4 ≤ op % 16) (hh : op / 16 = 2 ∨ op / 16 = 3 ∨ op / 16 = 4 ∨ op / 16 = 5 ∨ op / 16 = 6 ∨ op / 16 = 9) : Ql29.did s op = some (joinAdd s op, 1) := by
  unfold Ql29.did
  dsimp only
  rw [if_neg (by omega), if_pos ⟨hk, hh⟩, opV_eq s hk (Nat.mod_lt _ (by decide)), opT_eq w]
  unfold joinAdd
  dsimp only
  have ea : a (opT s (op % 16)) = a s := by
    unfold opT
    split
    · rfl
    · unfold a sfr; rw [opS_sfr]
  have eC : C (opT s (op % 16)) = C s := by
    unfold opT
    split
    · rfl
    · unfold C psw sfr; rw [opS_sfr]
  rw [ea, eC]
  rcases hh with e | e | e | e | e | e <;> rw [e] <;> rfl
theorem gB {s : St} (w : WF s) {op : Nat} (hk : 5 ≤ op % 16) (hh : op / 16 = 0 ∨ op / 16 = 1) : Ql29.did s op = some (countBy s (op % 16) (if op / 16 = 0 then 1 else -1), 1) := by
  unfold Ql29.did
  dsimp only
  rw [if_neg (by omega), if_neg (by omega), if_pos ⟨hk, hh⟩, opV_eq s (by omega) (Nat.mod_lt _ (by decide)), opT_eq w]
  unfold countBy
  have h4 : ¬ op % 16 = 4 := by omega
  rw [if_neg h4, putP_eq s _ hk (Nat.mod_lt _ (by decide)) _ (opS_ram _ _) (opS_sfr _ _), getP_op s hk, opS_T s hk]
  have e : ∀ t v u, v % 256 = u % 256 → Ql29.putOperand t (op % 16) (fv s) v = Ql29.putOperand t (op % 16) (fv s) u := fun t v u h => by
    unfold Ql29.putOperand
    rw [putD_congr t _ h]
    have e1 : ∀ p, putInside t p v = putInside t p u := fun p => by rw [← putI_mod t p v, h, putI_mod]
    unfold putR
    rw [e1, e1]
  rcases hh with e0 | e0
  · rw [if_pos e0, if_pos e0]
    exact congrArg (fun z => some (z, 1)) (e _ _ _ step_up.symm)
  · rw [if_neg (by omega), if_neg (by omega)]
    exact congrArg (fun z => some (z, 1)) (e _ _ _ step_down.symm)
theorem nx2 (s : St) : skip s 2 = nx (nx s) := (two_nx s).symm
theorem fv2 (s : St) : Ql29.code s (s.pc + 1) = fv (nx s) := (fv_nx s).symm
theorem gC {s : St} (w : WF s) {op : Nat} (hk : 5 ≤ op % 16) (hh : op / 16 = 7) : Ql29.did s op = some (row7 s (op % 16), if op % 16 = 5 then 2 else 1) := by
  unfold Ql29.did
  dsimp only
  rw [if_neg (by omega), if_neg (by omega), if_neg (by omega), if_pos ⟨hk, hh⟩]
  unfold row7
  have h4 : ¬ op % 16 = 4 := by omega
  rw [if_neg h4]
  by_cases e5 : op % 16 = 5
  · rw [if_pos e5, if_pos e5, e5, nx2, fv2]
    rfl
  · rw [if_neg e5, if_neg e5, putP_eq s _ hk (Nat.mod_lt _ (by decide)) _ (by show (nx (opS s (op % 16))).ram = _; exact opS_ram _ _) (by show (nx (opS s (op % 16))).sfr = _; exact opS_sfr _ _), opS_ne e5]
    unfold Ql29.putOperand
    rw [if_neg e5, if_neg e5]
    rfl
theorem gD {s : St} (w : WF s) {op : Nat} (hk : 5 ≤ op % 16) (hh : op / 16 = 8) : Ql29.did s op = some (row8 s (op % 16), 2) := by
  unfold Ql29.did
  dsimp only
  rw [if_neg (by omega), if_neg (by omega), if_neg (by omega), if_neg (by omega), if_pos ⟨hk, hh⟩]
  unfold row8
  have h4 : ¬ op % 16 = 4 := by omega
  rw [if_neg h4, getP_op s hk, opV_eq s (by omega) (Nat.mod_lt _ (by decide))]
  by_cases e5 : op % 16 = 5
  · rw [if_pos e5, e5, nx2, fv2]
    rfl
  · rw [if_neg e5, opS_ne e5]
    rfl
theorem gE {s : St} (w : WF s) {op : Nat} (hk : 6 ≤ op % 16) (hh : op / 16 = 10) : Ql29.did s op = some (row10 s (op % 16), 2) := by
  unfold Ql29.did
  dsimp only
  rw [if_neg (by omega), if_neg (by omega), if_neg (by omega), if_neg (by omega), if_neg (by omega), if_pos ⟨hk, hh⟩]
  unfold row10
  have e5 : op % 16 ≠ 5 := by omega
  have h4 : ¬ op % 16 = 4 := by omega
  rw [if_neg h4, putP_eq s _ (by omega) (Nat.mod_lt _ (by decide)) _ (by show (nx (opS s (op % 16))).ram = _; exact opS_ram _ _) (by show (nx (opS s (op % 16))).sfr = _; exact opS_sfr _ _), opS_ne e5]
  unfold Ql29.putOperand
  rw [if_neg e5, if_neg e5]
  rfl
theorem unlike_eq (t : St) (x y : Nat) : Ql29.unlike (nx t) x y (fv t) = cmpEnd t x y := by
  unfold Ql29.unlike cmpEnd jumpIf
  dsimp only
  by_cases e : x = y
  · subst e
    rw [if_neg (by simp), if_neg (by simp)]
  · rw [if_pos e, if_pos (by simp [e])]
    rfl
theorem gF {s : St} (w : WF s) {op : Nat} (hk : 4 ≤ op % 16) (hh : op / 16 = 11) : Ql29.did s op = some (compare s (op % 16), 2) := by
  unfold Ql29.did
  dsimp only
  rw [if_neg (by omega), if_neg (by omega), if_neg (by omega), if_neg (by omega), if_neg (by omega), if_neg (by omega), if_pos ⟨hk, hh⟩]
  unfold compare
  rw [← unlike_eq, ← unlike_eq, ← unlike_eq, nx2, fv2]
  by_cases e4 : op % 16 = 4
  · rw [if_pos e4, if_pos e4]
    rfl
  rw [if_neg e4, if_neg e4]
  by_cases e5 : op % 16 = 5
  · rw [if_pos e5, if_pos e5]
    rfl
  rw [if_neg e5, if_neg e5, getP_op s (by omega), opS_ne e5, opV_eq s hk (Nat.mod_lt _ (by decide))]
  rfl
end Cm

namespace Cm
open Ql29 (St at_ set_ sfr putSfr direct putDirect inside putInside a putA psw withBit flags C bank r putR dptr putDptr jump skip signed away bitPlace bit putBit push pop call back odd settled SP DPL DPH P2 PSW ACC BREG W)
theorem putO_congr (t : St) (k n : Nat) {v u : Nat} (h : v % 256 = u % 256) : Ql29.putOperand t k n v = Ql29.putOperand t k n u := by
  unfold Ql29.putOperand
  rw [putD_congr t _ h]
  have e1 : ∀ p, putInside t p v = putInside t p u := fun p => by rw [← putI_mod t p v, h, putI_mod]
  unfold putR
  rw [e1, e1]
theorem gG {s : St} (w : WF s) {op : Nat} (hk : 5 ≤ op % 16) (hh : op / 16 = 12) : Ql29.did s op = some (exchange s (op % 16), 1) := by
  unfold Ql29.did
  dsimp only
  rw [if_neg (by omega), if_neg (by omega), if_neg (by omega), if_neg (by omega), if_neg (by omega), if_neg (by omega), if_neg (by omega), if_pos ⟨hk, hh⟩]
  unfold exchange
  have h4 : ¬ op % 16 = 4 := by omega
  rw [if_neg h4, getP_op s hk, opV_eq s (by omega) (Nat.mod_lt _ (by decide)), opT_eq w, putP_eq s _ hk (Nat.mod_lt _ (by decide)) _ (opS_ram _ _) (opS_sfr _ _), opS_T s hk]
  rfl
theorem gH1 {s : St} {op : Nat} (hk : op % 16 = 6 ∨ op % 16 = 7) (hh : op / 16 = 13) : Ql29.did s op = some (row13 s (op % 16), 1) := by
  unfold Ql29.did
  dsimp only
  have h16 : op % 16 < 16 := Nat.mod_lt _ (by decide)
  have h4 : ¬ op % 16 = 4 := by omega
  have h5 : ¬ op % 16 = 5 := by omega
  rw [if_neg (by omega), if_neg (by omega), if_neg (by omega), if_neg (by omega), if_neg (by omega), if_neg (by omega), if_neg (by omega), if_neg (by omega), if_pos ⟨hh, hk⟩]
  unfold row13
  dsimp only
  rw [if_neg h4, if_pos hk, getP_op s (by omega), opV_eq s (by omega) h16, putP_eq s _ (by omega) h16 _ (opS_ram _ _) (opS_sfr _ _), opS_ne h5]
  rw [xch1 _ (opV_lt _ _) _ (a_lt _), xch1 _ (a_lt _) _ (opV_lt _ _)]
  unfold Ql29.putOperand
  rw [if_neg h5, if_neg h5]
theorem jumpIf_eq (s : St) (b : Bool) : jumpIf s b = if b = true then jump (nx s) (away (nx s).pc (fv s)) else nx s := rfl
theorem nx_putD (s : St) (p v : Nat) : nx (putDirect s p v) = putDirect (nx s) p v := by
  unfold putDirect
  split <;> rfl
theorem fv_putD (s : St) (p v : Nat) : fv (putDirect s p v) = fv s := by
  unfold putDirect
  split <;> rfl
theorem gH2 {s : St} {op : Nat} (hk : 5 ≤ op % 16) (h6 : ¬ (op % 16 = 6 ∨ op % 16 = 7)) (hh : op / 16 = 13) : Ql29.did s op = some (row13 s (op % 16), 2) := by
  unfold Ql29.did
  dsimp only
  have h16 : op % 16 < 16 := Nat.mod_lt _ (by decide)
  have h4 : ¬ op % 16 = 4 := by omega
  rw [if_neg (by omega), if_neg (by omega), if_neg (by omega), if_neg (by omega), if_neg (by omega), if_neg (by omega), if_neg (by omega), if_neg (by omega), if_neg (by omega)]
  unfold row13
  dsimp only
  rw [if_neg h4, if_neg h6, getP_op s hk, putP_eq s _ hk h16 _ (opS_ram _ _) (opS_sfr _ _), jumpIf_eq]
  by_cases h5 : op % 16 = 5
  · rw [if_pos ⟨hh, h5⟩, h5, nx2, fv2]
    show _ = some (if ((direct s (fv s) + 255) % 256 != 0) = true then jump (nx (putDirect (nx s) (fv s) ((direct s (fv s) + 255) % 256))) (away (nx (putDirect (nx s) (fv s) ((direct s (fv s) + 255) % 256))).pc (fv (putDirect (nx s) (fv s) ((direct s (fv s) + 255) % 256)))) else nx (putDirect (nx s) (fv s) ((direct s (fv s) + 255) % 256)), 2)
    rw [nx_putD, fv_putD]
    rfl
  · have h8 : 8 ≤ op % 16 := by omega
    have hn5 : ¬ (op / 16 = 13 ∧ op % 16 = 5) := fun z => h5 z.2
    rw [if_neg hn5, if_pos ⟨hh, h8⟩, opS_ne h5]
    have e : opV s (op % 16) = r s (op % 16 - 8) := by
      rw [← opV_eq s (by omega) h16]
      unfold Ql29.operand
      have h7 : ¬ op % 16 < 8 := by omega
      rw [if_neg h4, if_neg h5, if_neg h7]
    rw [e]
    unfold Ql29.putOperand
    have h7 : ¬ op % 16 < 8 := by omega
    rw [if_neg h5, if_neg h7]
    rfl
theorem gI {s : St} (w : WF s) {op : Nat} (hk : 5 ≤ op % 16) (hh : op / 16 = 14) : Ql29.did s op = some (row14 s (op % 16), 1) := by
  unfold Ql29.did
  dsimp only
  have h16 : op % 16 < 16 := Nat.mod_lt _ (by decide)
  have h4 : ¬ op % 16 = 4 := by omega
  rw [if_neg (by omega), if_neg (by omega), if_neg (by omega), if_neg (by omega), if_neg (by omega), if_neg (by omega), if_neg (by omega), if_neg (by omega), if_neg (by omega), if_neg (by omega), if_neg (by omega), if_pos ⟨hk, hh⟩]
  unfold row14
  rw [if_neg h4, getP_op s hk, opS_T s hk, opT_eq w, opV_eq s (by omega) h16]
theorem gJ {s : St} {op : Nat} (hk : 5 ≤ op % 16) (hh : op / 16 = 15) : Ql29.did s op = some (row15 s (op % 16), 1) := by
  unfold Ql29.did
  dsimp only
  have h16 : op % 16 < 16 := Nat.mod_lt _ (by decide)
  have h4 : ¬ op % 16 = 4 := by omega
  rw [if_neg (by omega), if_neg (by omega), if_neg (by omega), if_neg (by omega), if_neg (by omega), if_neg (by omega), if_neg (by omega), if_neg (by omega), if_neg (by omega), if_neg (by omega), if_neg (by omega), if_neg (by omega), if_pos ⟨hk, hh⟩]
  unfold row15
  rw [if_neg h4, putP_eq s _ hk h16 _ (opS_ram _ _) (opS_sfr _ _)]
  rfl
/-! ### the calls of two pages -/
theorem goal_eq : ∀ n < 256, ∀ g < 8, (g * 256 ||| n) = g * 256 + n := by decide +kernel
theorem page_or (p n g : Nat) (hp : p < 65536) (hn : n < 256) (hg : g < 8) : (p &&& 63488) ||| (g * 256) ||| n = p / 2048 * 2048 + g * 256 + n := by
  have e1 : (p &&& 63488) = p / 2048 * 2048 := by
    have h := Nat.and_two_pow_sub_one_eq_mod p 11
    apply Nat.eq_of_testBit_eq
    intro i
    rw [Nat.testBit_and, show p / 2048 * 2048 = (p >>> 11) <<< 11 by rw [Nat.shiftRight_eq_div_pow, Nat.shiftLeft_eq], Nat.testBit_shiftLeft, Nat.testBit_shiftRight]
    by_cases hi : i < 16
    · have all : ∀ i < 16, Nat.testBit 63488 i = decide (11 ≤ i) := by decide +kernel
      rw [all i hi]
      by_cases h11 : 11 ≤ i
      · rw [decide_eq_true h11, Bool.and_true, Bool.true_and, Nat.add_sub_cancel' h11]
      · simp [h11]
    · have z : p.testBit i = false := Nat.testBit_lt_two_pow (Nat.lt_of_lt_of_le (show p < 2 ^ 16 from hp) (Nat.pow_le_pow_right (show 0 < 2 by decide) (Nat.le_of_not_lt hi)))
      have h11 : 11 ≤ i := by omega
      rw [z, Bool.false_and, Nat.add_sub_cancel' h11, z, Bool.and_false]
  rw [Nat.or_assoc, goal_eq n hn g hg, e1]
  have hlow : g * 256 + n < 2 ^ 11 := by omega
  have h2 := Nat.two_pow_add_eq_or_of_lt hlow (p / 2048)
  rw [show p / 2048 * 2048 = 2 ^ 11 * (p / 2048) by omega, ← h2]
  omega
theorem gK {s : St} {op : Nat} (h256 : op < 256) (hk : op % 16 = 1) : Ql29.did s op = some (pageJump s op, 2) := by
  unfold Ql29.did
  dsimp only
  rw [if_pos hk]
  unfold pageJump pageGoal
  have hp : (nx s).pc < 65536 := Nat.mod_lt _ (by decide)
  have hf : fv s < 256 := code_lt _ _
  rw [page_or _ _ _ hp hf (by omega)]
  have all : ∀ op < 256, (0 < op &&& 16) = ¬ (op / 16 % 2 = 0) := by decide +kernel
  by_cases e : op / 16 % 2 = 0
  · have n : ¬ 0 < op &&& 16 := by rw [all op h256]; exact fun z => z e
    rw [if_pos e, if_neg n]
    rfl
  · have n : 0 < op &&& 16 := by rw [all op h256]; exact e
    rw [if_neg e, if_pos n]
    rfl
end Cm

namespace Cm
open Ql29 (St at_ set_ sfr putSfr direct putDirect inside putInside a putA psw withBit flags C bank r putR dptr putDptr jump skip signed away bitPlace bit putBit push pop call back odd settled SP DPL DPH P2 PSW ACC BREG W)
theorem nx_putB (s : St) (p : Nat) (v : Bool) : nx (putBit s p v) = putBit (nx s) p v := by
  unfold putBit
  rw [nx_putD]
  rfl
theorem fv_putB (s : St) (p : Nat) (v : Bool) : fv (putBit s p v) = fv s := by
  unfold putBit
  rw [fv_putD]
theorem c00 (s : St) : Ql29.did s 0x00 = some (col0 s 0, 1) := rfl
theorem c10 (s : St) : Ql29.did s 0x10 = some (col0 s 1, 2) := by
  show some (if bit s (fv s) = true then jump (putBit (skip s 2) (fv s) false) (away (putBit (skip s 2) (fv s) false).pc (Ql29.code s (s.pc + 1))) else skip s 2, 2) = some (jumpIf (if 1 = 1 ∧ bit (nx s) (fv s) = true then putBit (nx s) (fv s) false else nx s) (bit (nx s) (fv s) == true), 2)
  rw [nx2, fv2, jumpIf_eq]
  by_cases e : bit s (fv s) = true
  · have e' : bit (nx s) (fv s) = true := e
    rw [if_pos e, if_pos (show 1 = 1 ∧ bit (nx s) (fv s) = true from ⟨rfl, e'⟩), if_pos (by rw [e']; rfl), nx_putB, fv_putB]
  · have e' : bit (nx s) (fv s) = false := by
      have z : bit s (fv s) = false := by simpa using e
      exact z
    have n : ¬ (1 = 1 ∧ bit (nx s) (fv s) = true) := fun z => e z.2
    rw [if_neg e, if_neg (by rw [e']; decide), if_neg n]
theorem c20 (s : St) : Ql29.did s 0x20 = some (col0 s 2, 2) := by
  show some (if bit s (fv s) = true then jump (skip s 2) (away (skip s 2).pc (Ql29.code s (s.pc + 1))) else skip s 2, 2) = some (jumpIf (nx s) (bit s (fv s) == true), 2)
  rw [nx2, fv2, jumpIf_eq]
  cases e : bit s (fv s) <;> rfl
theorem c30 (s : St) : Ql29.did s 0x30 = some (col0 s 3, 2) := by
  show some (if (!(bit s (fv s))) = true then jump (skip s 2) (away (skip s 2).pc (Ql29.code s (s.pc + 1))) else skip s 2, 2) = some (jumpIf (nx s) (bit s (fv s) == false), 2)
  rw [nx2, fv2, jumpIf_eq]
  cases e : bit s (fv s) <;> rfl
theorem c40 (s : St) : Ql29.did s 0x40 = some (col0 s 4, 2) := by
  show some (if C s = true then jump (nx s) (away (nx s).pc (fv s)) else nx s, 2) = some (jumpIf s (C s == true), 2)
  rw [jumpIf_eq]
  cases e : C s <;> rfl
theorem c50 (s : St) : Ql29.did s 0x50 = some (col0 s 5, 2) := by
  show some (if (!(C s)) = true then jump (nx s) (away (nx s).pc (fv s)) else nx s, 2) = some (jumpIf s (C s == false), 2)
  rw [jumpIf_eq]
  cases e : C s <;> rfl
theorem c60 (s : St) : Ql29.did s 0x60 = some (col0 s 6, 2) := by
  show some (if (a s == 0) = true then jump (nx s) (away (nx s).pc (fv s)) else nx s, 2) = some (jumpIf s ((a s == 0) == true), 2)
  rw [jumpIf_eq]
  cases e : a s == 0 <;> rfl
theorem c70 (s : St) : Ql29.did s 0x70 = some (col0 s 7, 2) := by
  show some (if (!(a s == 0)) = true then jump (nx s) (away (nx s).pc (fv s)) else nx s, 2) = some (jumpIf s ((a s == 0) == false), 2)
  rw [jumpIf_eq]
  cases e : a s == 0 <;> rfl
theorem c80 (s : St) : Ql29.did s 0x80 = some (col0 s 8, 2) := rfl
theorem put_dptr (t : St) (h l : Nat) (hl : l < 256) (hh : h < 256) : putDptr t (256 * h + l) = putSfr (putSfr t DPL l) DPH h := by
  unfold putDptr
  rw [put_comm _ _ _ (show DPL - 128 ≠ DPH - 128 by decide), show (256 * h + l) / 256 % 256 = h by omega, show (256 * h + l) % 256 = l by omega]
theorem c90 (s : St) : Ql29.did s 0x90 = some (col0 s 9, 2) := by
  show some (putDptr (skip s 2) (256 * fv s + Ql29.code s (s.pc + 1)), 2) = some (putSfr (putSfr (nx (nx s)) DPL (fv (nx s))) DPH (fv s), 2)
  rw [nx2, fv2, put_dptr _ _ _ (show fv (nx s) < 256 from code_lt _ _) (show fv s < 256 from code_lt _ _)]
theorem cA0 (s : St) : Ql29.did s 0xA0 = some (col0 s 10, 2) := by
  show some (flags (nx s) [(7, C s || !(bit s (fv s)))], 2) = some (flags (nx s) [(7, C s || (bit s (fv s) != true))], 2)
  cases bit s (fv s) <;> rfl
theorem cB0 (s : St) : Ql29.did s 0xB0 = some (col0 s 11, 2) := by
  show some (flags (nx s) [(7, C s && !(bit s (fv s)))], 2) = some (flags (nx s) [(7, C s && (bit s (fv s) != true))], 2)
  cases bit s (fv s) <;> rfl
theorem cC0 (s : St) : Ql29.did s 0xC0 = some (col0 s 12, 2) := rfl
theorem cD0 (s : St) : Ql29.did s 0xD0 = some (col0 s 13, 2) := rfl
theorem cE0 (s : St) : Ql29.did s 0xE0 = some (col0 s 14, 2) := rfl
theorem cF0 (s : St) : Ql29.did s 0xF0 = some (col0 s 15, 2) := rfl
theorem c02 (s : St) : Ql29.did s 0x02 = some (col2 s 0, 2) := by
  show some (jump s (256 * fv s + Ql29.code s (s.pc + 1)), 2) = some (jump (nx (nx s)) (256 * fv s + fv (nx s)), 2)
  rw [fv2]
  rfl
theorem c12 (s : St) : Ql29.did s 0x12 = some (col2 s 1, 2) := by
  show some (call (skip s 2) (256 * fv s + Ql29.code s (s.pc + 1)), 2) = some (jump (pushPc (nx (nx s))) (256 * fv s + fv (nx s)), 2)
  rw [fv2, nx2]
  rfl
theorem c22 (s : St) : Ql29.did s 0x22 = some (col2 s 2, 2) := rfl
theorem c32 (s : St) : Ql29.did s 0x32 = some (col2 s 3, 2) := rfl
theorem c42 (s : St) : Ql29.did s 0x42 = some (col2 s 4, 1) := rfl
theorem c52 (s : St) : Ql29.did s 0x52 = some (col2 s 5, 1) := rfl
theorem c62 (s : St) : Ql29.did s 0x62 = some (col2 s 6, 1) := rfl
theorem c72 (s : St) : Ql29.did s 0x72 = some (col2 s 7, 2) := by
  show some (flags (nx s) [(7, C s || bit s (fv s))], 2) = some (flags (nx s) [(7, C s || (bit s (fv s) != false))], 2)
  cases bit s (fv s) <;> rfl
theorem c82 (s : St) : Ql29.did s 0x82 = some (col2 s 8, 2) := by
  show some (flags (nx s) [(7, C s && bit s (fv s))], 2) = some (flags (nx s) [(7, C s && (bit s (fv s) != false))], 2)
  cases bit s (fv s) <;> rfl
theorem c92 (s : St) : Ql29.did s 0x92 = some (col2 s 9, 2) := rfl
theorem cA2 (s : St) : Ql29.did s 0xA2 = some (col2 s 10, 1) := rfl
theorem cB2 (s : St) : Ql29.did s 0xB2 = some (col2 s 11, 1) := rfl
theorem cC2 (s : St) : Ql29.did s 0xC2 = some (col2 s 12, 1) := rfl
theorem cD2 (s : St) : Ql29.did s 0xD2 = some (col2 s 13, 1) := rfl
theorem cE2 (s : St) : Ql29.did s 0xE2 = some (col2 s 14, 2) := rfl
theorem cF2 (s : St) : Ql29.did s 0xF2 = some (col2 s 15, 2) := rfl
theorem c03 (s : St) : Ql29.did s 0x03 = some (col3 s 0, 1) := by
  show some (putA s (a s / 2 + a s % 2 * 128), 1) = some (putA s ((a s / 2) ||| (a s * 128)), 1)
  rw [putA_congr s (rr _ (a_lt s))]
theorem c13 (s : St) : Ql29.did s 0x13 = some (col3 s 1, 1) := by
  show some (flags (putA s (a s / 2 + (C s).toNat * 128)) [(7, (a s).testBit 0)], 1) = some (flags (putA s ((a s / 2) ||| ((C s).toNat * 128))) [(7, a s % 2 == 1)], 1)
  rw [rrc _ (a_lt s), bit0 _ (a_lt s)]
theorem c23 (s : St) : Ql29.did s 0x23 = some (col3 s 2, 1) := by
  show some (putA s (a s * 2 + a s / 128), 1) = some (putA s ((a s * 2) ||| (a s / 128)), 1)
  rw [rl _ (a_lt s)]
theorem c33 (s : St) : Ql29.did s 0x33 = some (col3 s 3, 1) := by
  show some (flags (putA s (a s * 2 + (C s).toNat)) [(7, (a s).testBit 7)], 1) = some (flags (putA s ((a s * 2) ||| (C s).toNat)) [(7, a s / 128 == 1)], 1)
  rw [rlc _ (a_lt s), bit7 _ (a_lt s)]
theorem c43 (s : St) : Ql29.did s 0x43 = some (col3 s 4, 2) := by
  show some (putDirect (skip s 2) (fv s) (direct s (fv s) ||| Ql29.code s (s.pc + 1)), 2) = some (putDirect (nx (nx s)) (fv s) (direct s (fv s) ||| fv (nx s)), 2)
  rw [nx2, fv2]
theorem c53 (s : St) : Ql29.did s 0x53 = some (col3 s 5, 2) := by
  show some (putDirect (skip s 2) (fv s) (direct s (fv s) &&& Ql29.code s (s.pc + 1)), 2) = some (putDirect (nx (nx s)) (fv s) (direct s (fv s) &&& fv (nx s)), 2)
  rw [nx2, fv2]
theorem c63 (s : St) : Ql29.did s 0x63 = some (col3 s 6, 2) := by
  show some (putDirect (skip s 2) (fv s) (direct s (fv s) ^^^ Ql29.code s (s.pc + 1)), 2) = some (putDirect (nx (nx s)) (fv s) (direct s (fv s) ^^^ fv (nx s)), 2)
  rw [nx2, fv2]
theorem c73 (s : St) : Ql29.did s 0x73 = some (col3 s 7, 2) := by
  show some (jump s (a s + dptr s), 2) = some (jump s (dptr s + a s), 2)
  rw [Nat.add_comm]
theorem c83 (s : St) : Ql29.did s 0x83 = some (col3 s 8, 2) := by
  show some (putA s (Ql29.code s (a s + s.pc)), 2) = some (putA s (Ql29.code s (s.pc + a s)), 2)
  rw [Nat.add_comm]
theorem c93 (s : St) : Ql29.did s 0x93 = some (col3 s 9, 2) := by
  show some (putA s (Ql29.code s (a s + dptr s)), 2) = some (putA s (Ql29.code s (dptr s + a s)), 2)
  rw [Nat.add_comm]
theorem cA3 (s : St) : Ql29.did s 0xA3 = some (col3 s 10, 2) := by
  show some (putDptr s ((dptr s + 1) % 65536), 2) = some (putSfr (putSfr s DPL ((dptr s + 1) % 65536)) DPH ((dptr s + 1) % 65536 / 256), 2)
  unfold putDptr
  rw [put_comm _ _ _ (show DPL - 128 ≠ DPH - 128 by decide), put_mod, put_mod]
theorem cB3 (s : St) : Ql29.did s 0xB3 = some (col3 s 11, 1) := rfl
theorem cC3 (s : St) : Ql29.did s 0xC3 = some (col3 s 12, 1) := rfl
theorem cD3 (s : St) : Ql29.did s 0xD3 = some (col3 s 13, 1) := rfl
theorem cE3 (s : St) : Ql29.did s 0xE3 = some (col3 s 14, 2) := rfl
theorem cF3 (s : St) : Ql29.did s 0xF3 = some (col3 s 15, 2) := rfl
theorem c04 (s : St) : Ql29.did s 0x04 = some (countBy s 4 1, 1) := by
  show some (putA s (a s + 1), 1) = some (putA s (stepI (a s) 1), 1)
  rw [putA_congr s step_up]
theorem c14 (s : St) : Ql29.did s 0x14 = some (countBy s 4 (-1), 1) := by
  show some (putA s (a s + 255), 1) = some (putA s (stepI (a s) (-1)), 1)
  rw [putA_congr s step_down]
theorem c74 (s : St) : Ql29.did s 0x74 = some (row7 s 4, 1) := rfl
theorem c84 (s : St) : Ql29.did s 0x84 = some (row8 s 4, 4) := by
  show some (if sfr s BREG = 0 then flags s [(7, false), (2, true)] else flags (putSfr (putA s (a s / sfr s BREG)) BREG (a s % sfr s BREG)) [(7, false), (2, false)], 4) = some (dvd s, 4)
  unfold dvd
  dsimp only
  by_cases e : sfr s BREG = 0
  · rw [if_pos e, if_neg (by omega), decide_eq_true e]
  · rw [if_neg e, if_pos (by omega), decide_eq_false e]
    unfold putA
    rw [flags_putSfr _ _ _ (show BREG - 128 ≠ PSW - 128 by decide), flags_putSfr _ _ _ (show ACC - 128 ≠ PSW - 128 by decide)]
theorem cA4 (s : St) : Ql29.did s 0xA4 = some (row10 s 4, 4) := by
  show some (flags (putSfr (putA s (a s * sfr s BREG % 256)) BREG (a s * sfr s BREG / 256)) [(7, false), (2, decide (256 ≤ a s * sfr s BREG))], 4) = some (mul s, 4)
  unfold mul
  rw [putA_mod]
  rfl
theorem cC4 (s : St) : Ql29.did s 0xC4 = some (exchange s 4, 1) := by
  show some (putA s (a s / 16 + a s % 16 * 16), 1) = some (putA s ((a s / 16) ||| (a s * 16)), 1)
  rw [putA_congr s (swap_or _ (a_lt s))]
theorem cD4 (s : St) : Ql29.did s 0xD4 = some (row13 s 4, 1) := rfl
theorem cE4 (s : St) : Ql29.did s 0xE4 = some (row14 s 4, 1) := rfl
theorem cF4 (s : St) : Ql29.did s 0xF4 = some (row15 s 4, 1) := by
  show some (putA s (255 - a s), 1) = some (putA s (255 ^^^ a s), 1)
  rw [cplA _ (a_lt s)]
theorem cA5 (s : St) : Ql29.did s 0xA5 = none := rfl
/-! ### all of them -/
theorem did_eq {s : St} (w : WF s) {op : Nat} (h : op < 256) (hn : op ≠ 165) : Ql29.did s op = some (body s op, timeOf op) := by
  have ht := time_all op h
  by_cases k1 : op % 16 = 1
  · rw [gK h k1, ht, if_pos k1]
    unfold body
    dsimp only
    rw [if_neg (by omega), if_pos k1]
  rw [if_neg k1] at ht
  by_cases k4 : 5 ≤ op % 16
  · have n0 : ¬ op % 16 = 0 := by omega
    have n2 : ¬ op % 16 = 2 := by omega
    have n3 : ¬ op % 16 = 3 := by omega
    have n4 : 4 ≤ op % 16 := by omega
    unfold body
    dsimp only
    rw [if_neg n0, if_neg k1, if_neg n2, if_neg n3]
    have hc : op / 16 = 0 ∨ op / 16 = 1 ∨ (op / 16 = 2 ∨ op / 16 = 3 ∨ op / 16 = 4 ∨ op / 16 = 5 ∨ op / 16 = 6 ∨ op / 16 = 9) ∨ op / 16 = 7 ∨ op / 16 = 8 ∨ op / 16 = 10 ∨ op / 16 = 11 ∨ op / 16 = 12 ∨ op / 16 = 13 ∨ op / 16 = 14 ∨ op / 16 = 15 := by omega
    rcases hc with e | e | e | e | e | e | e | e | e | e | e
    · rw [gB w k4 (Or.inl e), ht, e]
      simp [k4]
    · rw [gB w k4 (Or.inr e), ht, e]
      simp [k4]
    · rw [gA w n4 e, ht]
      rcases e with e | e | e | e | e | e <;> simp [e, n4]
    · rw [gC w k4 e, ht, e]
      simp [k4]
    · rw [gD w k4 e, ht, e]
      simp [k4]
    · rw [gE w (by omega) e, ht, e]
      simp [show 6 ≤ op % 16 by omega]
    · rw [gF w n4 e, ht, e]
      simp [n4]
    · rw [gG w k4 e, ht, e]
      simp [k4]
    · by_cases h6 : op % 16 = 6 ∨ op % 16 = 7
      · rw [gH1 h6 e, ht, e]
        simp [h6]
      · rw [gH2 k4 h6 e, ht, e]
        simp [k4, h6]
    · rw [gI w k4 e, ht, e]
      simp [k4]
    · rw [gJ k4 e, ht, e]
      simp [k4]
  · have hk : op % 16 = 0 ∨ op % 16 = 2 ∨ op % 16 = 3 ∨ op % 16 = 4 := by omega
    clear ht
    obtain ⟨g, hg⟩ : ∃ g, g = op / 16 := ⟨_, rfl⟩
    have hg16 : g < 16 := by omega
    rcases hk with e | e | e | e
    · obtain rfl : op = 16 * g := by omega
      clear hg e k4 k1 hn h
      match g, hg16 with
      | 0, _ => exact c00 s
      | 1, _ => exact c10 s
      | 2, _ => exact c20 s
      | 3, _ => exact c30 s
      | 4, _ => exact c40 s
      | 5, _ => exact c50 s
      | 6, _ => exact c60 s
      | 7, _ => exact c70 s
      | 8, _ => exact c80 s
      | 9, _ => exact c90 s
      | 10, _ => exact cA0 s
      | 11, _ => exact cB0 s
      | 12, _ => exact cC0 s
      | 13, _ => exact cD0 s
      | 14, _ => exact cE0 s
      | 15, _ => exact cF0 s
      | n + 16, h => exact absurd h (by omega)
    · obtain rfl : op = 16 * g + 2 := by omega
      clear hg e k4 k1 hn h
      match g, hg16 with
      | 0, _ => exact c02 s
      | 1, _ => exact c12 s
      | 2, _ => exact c22 s
      | 3, _ => exact c32 s
      | 4, _ => exact c42 s
      | 5, _ => exact c52 s
      | 6, _ => exact c62 s
      | 7, _ => exact c72 s
      | 8, _ => exact c82 s
      | 9, _ => exact c92 s
      | 10, _ => exact cA2 s
      | 11, _ => exact cB2 s
      | 12, _ => exact cC2 s
      | 13, _ => exact cD2 s
      | 14, _ => exact cE2 s
      | 15, _ => exact cF2 s
      | n + 16, h => exact absurd h (by omega)
    · obtain rfl : op = 16 * g + 3 := by omega
      clear hg e k4 k1 hn h
      match g, hg16 with
      | 0, _ => exact c03 s
      | 1, _ => exact c13 s
      | 2, _ => exact c23 s
      | 3, _ => exact c33 s
      | 4, _ => exact c43 s
      | 5, _ => exact c53 s
      | 6, _ => exact c63 s
      | 7, _ => exact c73 s
      | 8, _ => exact c83 s
      | 9, _ => exact c93 s
      | 10, _ => exact cA3 s
      | 11, _ => exact cB3 s
      | 12, _ => exact cC3 s
      | 13, _ => exact cD3 s
      | 14, _ => exact cE3 s
      | 15, _ => exact cF3 s
      | n + 16, h => exact absurd h (by omega)
    · obtain rfl : op = 16 * g + 4 := by omega
      clear hg e k4 k1 hn h
      match g, hg16 with
      | 0, _ => exact c04 s
      | 1, _ => exact c14 s
      | 2, _ => exact gA w (op := 0x24) (by decide) (by decide)
      | 3, _ => exact gA w (op := 0x34) (by decide) (by decide)
      | 4, _ => exact gA w (op := 0x44) (by decide) (by decide)
      | 5, _ => exact gA w (op := 0x54) (by decide) (by decide)
      | 6, _ => exact gA w (op := 0x64) (by decide) (by decide)
      | 7, _ => exact c74 s
      | 8, _ => exact c84 s
      | 9, _ => exact gA w (op := 0x94) (by decide) (by decide)
      | 10, _ => exact cA4 s
      | 11, _ => exact gF w (op := 0xB4) (by decide) (by decide)
      | 12, _ => exact cC4 s
      | 13, _ => exact cD4 s
      | 14, _ => exact cE4 s
      | 15, _ => exact cF4 s
      | n + 16, h => exact absurd h (by omega)
end Cm

namespace Cm
open Ql29 (St at_ set_)
/-! ### pokes -/
def pokeL : List UInt8 → List Int → List UInt8
  | l, a :: b :: r => pokeL (set_ l a.toNat b.toNat) r
  | l, _ => l
theorem u8_mod (v : Nat) : UInt8.ofNat (v % 256) = UInt8.ofNat v := by
  apply UInt8.toNat_inj.mp
  rw [UInt8.toNat_ofNat', UInt8.toNat_ofNat']
  omega
theorem poke_eq : ∀ (r : List Int) (l : List UInt8), (Ql29Neutral.poke l.toArray r).toList = pokeL l r
  | [], l => rfl
  | [_], l => rfl
  | a :: b :: r, l => by
    show (Ql29Neutral.poke (l.toArray.setIfInBounds a.toNat (UInt8.ofNat b.toNat)) r).toList = pokeL (set_ l a.toNat b.toNat) r
    rw [List.setIfInBounds_toArray, poke_eq r]
    unfold set_
    rw [u8_mod]
theorem memory_eq (n : Nat) (r : List Int) : Ql29Neutral.memory n r = pokeL (List.replicate n 0) r := by
  unfold Ql29Neutral.memory
  exact poke_eq r _
theorem pokeL_len : ∀ (r : List Int) (l : List UInt8), (pokeL l r).length = l.length
  | [], l => rfl
  | [_], l => rfl
  | a :: b :: r, l => by
    show (pokeL (set_ l a.toNat b.toNat) r).length = l.length
    rw [pokeL_len r, set_len]
theorem memory_len (n : Nat) (r : List Int) : (Ql29Neutral.memory n r).length = n := by
  rw [memory_eq, pokeL_len, List.length_replicate]
theorem pokes_cons {z a b : Int} {r : List Int} (h : Ql29Neutral.pokes z (a :: b :: r) = true) : 0 ≤ a ∧ a ≤ z - 1 ∧ 0 ≤ b ∧ b ≤ 255 ∧ Ql29Neutral.pokes z r = true := by
  have h' : (NeutralIO.within a 0 (z - 1) && (NeutralIO.within b 0 255 && Ql29Neutral.pokes z r)) = true := h
  unfold NeutralIO.within at h'
  simp only [Bool.and_eq_true, decide_eq_true_eq] at h'
  exact ⟨h'.1.1, h'.1.2, h'.2.1.1, h'.2.1.2, h'.2.2⟩
theorem pokes_len : ∀ {z : Int} {r : List Int}, Ql29Neutral.pokes z r = true → ∃ k, r.length = 2 * k
  | _, [], _ => ⟨0, rfl⟩
  | _, [_], h => by cases (show false = true from h)
  | z, a :: b :: r, h => by
    obtain ⟨k, hk⟩ := pokes_len (pokes_cons h).2.2.2.2
    exact ⟨k + 1, by simp only [List.length_cons]; omega⟩
/-- the rest of the pokes behind i turns -/
theorem drop_two {ns : List Int} {i : Nat} (h : 2 * i + 1 < ns.length) : ns.drop (2 * i) = ns[2 * i] :: ns[2 * i + 1] :: ns.drop (2 * (i + 1)) := by
  rw [List.drop_eq_getElem_cons (show 2 * i < ns.length by omega), List.drop_eq_getElem_cons (show 2 * i + 1 < ns.length by omega)]
  rfl
theorem wf_of {pc : Int} {ram sfr code ext : List Int} (h0 : 0 ≤ pc) (h1 : pc ≤ 65535) : WF ⟨pc.toNat, Ql29Neutral.memory 256 ram, Ql29Neutral.memory 128 sfr, Ql29Neutral.memory 65536 code, Ql29Neutral.memory 65536 ext⟩ :=
  ⟨by show pc.toNat < 65536; omega, memory_len _ _, memory_len _ _, memory_len _ _, memory_len _ _⟩
end Cm

namespace Cm
open Ql29 (St at_ set_)
/-! ### looks -/
/-- the byte that a look asks for -/
def lookV (m : St) (n : Nat) : Nat := if n < 256 then at_ m.ram n else if n < 384 then at_ m.sfr (n - 256) else at_ m.ext (n - 384)
theorem look_eq {m : St} (w : WF m) {n : Nat} (h : n < 65920) : ((m.ram ++ m.sfr ++ m.ext).toArray.getD n 0).toNat = lookV m n := by
  have e : (m.ram ++ m.sfr ++ m.ext).toArray.getD n 0 = ((m.ram ++ m.sfr ++ m.ext)[n]?).getD 0 := by
    rw [Array.getD_eq_getD_getElem?, List.getElem?_toArray]
  rw [e]
  unfold lookV at_
  have h1 := w.ram
  have h2 := w.sfr
  by_cases a1 : n < 256
  · rw [if_pos a1, List.append_assoc, List.getElem?_append_left (by omega), List.getD_eq_getElem?_getD]
  · rw [if_neg a1]
    by_cases a2 : n < 384
    · rw [if_pos a2, List.getElem?_append_left (by rw [List.length_append]; omega), List.getElem?_append_right (by omega), List.getD_eq_getElem?_getD, h1]
    · rw [if_neg a2, List.getElem?_append_right (by rw [List.length_append]; omega), List.getD_eq_getElem?_getD, List.length_append, h1, h2]
/-- the answer behind the first numbers -/
theorem told_eq {m : St} (w : WF m) (t : List Nat) {looks : List Int} (h : ∀ x ∈ looks, 0 ≤ x ∧ x ≤ 65919) : Ql29Neutral.told m t looks = t.map (fun (x : Nat) => (x : Int)) ++ (m.pc : Int) :: looks.map fun x => (lookV m x.toNat : Int) := by
  unfold Ql29Neutral.told
  dsimp only
  unfold Ql29Neutral.ints
  rw [List.map_append, List.append_assoc]
  have e : looks.map (fun (x : Int) => (((m.ram ++ m.sfr ++ m.ext).toArray.getD x.toNat 0).toNat : Int)) = looks.map fun x => (lookV m x.toNat : Int) := by
    apply List.map_congr_left
    intro x hx
    obtain ⟨h1, h2⟩ := h x hx
    rw [look_eq w (by omega)]
  rw [e]
  rfl
theorem call_eq (s : St) (p : Nat) : Ql29.call s p = Ql29.jump (pushPc s) p := rfl
theorem WF.pushPc {s : St} (w : WF s) : WF (pushPc s) := (w.push _).push _
theorem irq_eq {place pc : Int} {ram sfr code ext looks : List Int} (h0 : 0 ≤ pc) (h1 : pc ≤ 65535) (h : ∀ x ∈ looks, 0 ≤ x ∧ x ≤ 65919) (s : St) (hs : s = ⟨pc.toNat, Ql29Neutral.memory 256 ram, Ql29Neutral.memory 128 sfr, Ql29Neutral.memory 65536 code, Ql29Neutral.memory 65536 ext⟩) :
    PyQl29.c51_interrupt place pc ram sfr code ext looks = 2 :: (((Ql29.jump (pushPc s) (place.toNat % 65536)).pc : Nat) : Int) :: looks.map fun x => (lookV (Ql29.jump (pushPc s) (place.toNat % 65536)) x.toNat : Int) := by
  have w : WF s := by rw [hs]; exact wf_of h0 h1
  show 2 :: Ql29Neutral.told (Ql29.call ⟨pc.toNat, Ql29Neutral.memory 256 ram, Ql29Neutral.memory 128 sfr, Ql29Neutral.memory 65536 code, Ql29Neutral.memory 65536 ext⟩ (place.toNat % 65536)) [] looks = _
  rw [← hs, call_eq, told_eq ((w.pushPc).jump _) [] h]
  rfl
theorem machine_parts {pc : Int} {ram sfr code ext looks : List Int} (h : Ql29Neutral.machine [pc] ram sfr code ext looks = true) : 0 ≤ pc ∧ pc ≤ 65535 ∧ Ql29Neutral.pokes 256 ram = true ∧ Ql29Neutral.pokes 128 sfr = true ∧ Ql29Neutral.pokes 65536 code = true ∧ Ql29Neutral.pokes 65536 ext = true ∧ ∀ x ∈ looks, 0 ≤ x ∧ x ≤ 65919 := by
  unfold Ql29Neutral.machine at h
  simp only [Bool.and_eq_true] at h
  obtain ⟨_, h1, h2, h3, h4, h5, h6⟩ := h
  have h1 : (Ql29Neutral.natural pc 16 && true) = true := h1
  unfold Ql29Neutral.natural at h1
  simp only [Bool.and_eq_true, decide_eq_true_eq] at h1
  refine ⟨h1.1.1, by have := h1.1.2; omega, h2, h3, h4, h5, fun x hx => ?_⟩
  have q := List.all_eq_true.mp h6 x hx
  unfold NeutralIO.within at q
  simp only [Bool.and_eq_true, decide_eq_true_eq] at q
  exact q
end Cm

namespace Cw
open PySem PySem.Spec PyProof.Rows L2
open Ql29 (at_ set_)
/-! ### bytes as values -/
def bV (b : UInt8) : V := .int (b.toNat : Int)
def memV (l : List UInt8) : List V := l.map bV
theorem memV_len (l : List UInt8) : (memV l).length = l.length := List.length_map _
theorem memV_at {l : List UInt8} {i : Nat} (h : i < l.length) : (memV l)[i]? = some (.int (at_ l i : Int)) := by
  unfold memV at_
  rw [List.getElem?_map, List.getElem?_eq_getElem h, List.getD_eq_getElem?_getD, List.getElem?_eq_getElem h]
  rfl
theorem atI_mem {l : List UInt8} {z : Int} {n : Nat} (e : z = (n : Int)) (h : n < l.length) : atI (memV l) z = some (.int (at_ l n : Int)) := at_of e (memV_at h)
theorem ixN_nat {n : Nat} {z : Int} {j : Nat} (e : z = (j : Int)) (h : j < n) : ixN n z = some j := by
  subst e
  unfold ixN
  rw [if_pos (by omega), if_pos (by omega)]
  simp
theorem ixN_mem {l : List UInt8} {z : Int} {j : Nat} (e : z = (j : Int)) (h : j < l.length) : ixN (memV l).length z = some j := ixN_nat e (by rw [memV_len]; exact h)
theorem memV_set {l : List UInt8} {i v : Nat} {z : Int} (e : z = ((v % 256 : Nat) : Int)) : (memV l).set i (.int z) = memV (set_ l i v) := by
  subst e
  unfold memV set_
  rw [List.map_set]
  congr 1
  unfold bV
  rw [Cm.u8_of]
/-! ### the bit operators of numbers from nought -/
theorem bAnd (x y : Nat) : Builtin.bitAnd (x : Int) (y : Int) = ((x &&& y : Nat) : Int) := by rw [bitAnd_pp (Int.natCast_nonneg x) (Int.natCast_nonneg y), Int.toNat_natCast, Int.toNat_natCast]
theorem bOr (x y : Nat) : Builtin.bitOr (x : Int) (y : Int) = ((x ||| y : Nat) : Int) := by rw [Bits.bitOr_pp (Int.natCast_nonneg x) (Int.natCast_nonneg y), Int.toNat_natCast, Int.toNat_natCast]
theorem bXor (x y : Nat) : Builtin.bitXor (x : Int) (y : Int) = ((x ^^^ y : Nat) : Int) := by rw [Bits.bitXor_pp (Int.natCast_nonneg x) (Int.natCast_nonneg y), Int.toNat_natCast, Int.toNat_natCast]
theorem bAnd255 (z : Int) : Builtin.bitAnd z 255 = z % 256 := bitAnd_m8 z
theorem bAnd65535 (z : Int) : Builtin.bitAnd z 65535 = z % 65536 := bitAnd_m16 z
/-! ### a chip in the heap -/
structure Ad where
  c : Addr
  dx : Addr
  r : Addr
  s : Addr
  cd : Addr
  ex : Addr
def flds (L : Ad) (pc : Nat) : List (Str × V) := [("pc", .int (pc : Int)), ("ram", .ref L.r), ("special", .ref L.s), ("code", .ref L.cd), ("ext", .ref L.ex)]
/-- a dict that stands for a memory -/
structure DictMem (kvs : List (Key × V)) (l : List UInt8) : Prop where
  val : ∀ n : Nat, n < 65536 → (valV kvs (Sum.inl (n : Int))).getD (.int 0) = .int (at_ l n : Int)
  nd : (kvs.map (·.1)).Nodup
  rg : ∀ k ∈ kvs.map (·.1), ∃ n : Nat, n < 65536 ∧ k = Sum.inl (n : Int)
theorem nodup_nat : ∀ {n : Nat} {l : List Nat}, l.Nodup → (∀ k ∈ l, k < n) → l.length ≤ n
  | 0, [], _, _ => Nat.le_refl _
  | 0, k :: r, _, h => absurd (h k List.mem_cons_self) (Nat.not_lt_zero _)
  | n + 1, l, hn, h => by
    have h1 := nodup_nat (n := n) (l := l.erase n) (hn.erase _) (fun k hk => by
      have hm := List.mem_of_mem_erase hk
      have hi := h k hm
      have ne : k ≠ n := by
        rintro rfl
        exact (List.Nodup.not_mem_erase hn) hk
      omega)
    have h3 : l.length ≤ (l.erase n).length + 1 := by
      rw [List.length_erase]
      split <;> omega
    omega
def keyN : Key → Nat
  | .inl i => i.toNat
  | .inr _ => 0
theorem nodup_le {n : Nat} {l : List Key} (hn : l.Nodup) (h : ∀ k ∈ l, ∃ i : Nat, i < n ∧ k = Sum.inl (i : Int)) : l.length ≤ n := by
  have h2 : ∀ k ∈ l.map keyN, k < n := fun k hk => by
    obtain ⟨x, hx, e⟩ := List.mem_map.mp hk
    obtain ⟨i, hi, rfl⟩ := h x hx
    have e2 : keyN (Sum.inl (i : Int)) = i := Int.toNat_natCast i
    omega
  have h1 : (l.map keyN).Nodup := by
    clear h2
    induction l with
    | nil => exact List.nodup_nil
    | cons a r ih =>
      obtain ⟨n1, n2⟩ := List.nodup_cons.mp hn
      refine List.nodup_cons.mpr ⟨fun hm => ?_, ih n2 fun k hk => h k (List.mem_cons_of_mem _ hk)⟩
      obtain ⟨b, hb, e⟩ := List.mem_map.mp hm
      obtain ⟨i, _, rfl⟩ := h a List.mem_cons_self
      obtain ⟨j, _, rfl⟩ := h b (List.mem_cons_of_mem _ hb)
      have e2 : j = i := by
        have q : (j : Int).toNat = (i : Int).toNat := e
        rw [Int.toNat_natCast, Int.toNat_natCast] at q
        exact q
      subst e2
      exact n1 hb
  have h3 := nodup_nat h1 h2
  rw [List.length_map] at h3
  exact h3
theorem DictMem.len {kvs : List (Key × V)} {l : List UInt8} (d : DictMem kvs l) : kvs.length < sizeLine := by
  have h := nodup_le d.nd d.rg
  rw [List.length_map] at h
  exact Nat.lt_of_le_of_lt h (by decide)
theorem nd_put {kvs : List (Key × V)} (k : Key) (v : V) (hn : (kvs.map (·.1)).Nodup) : ((putK kvs k v).map (·.1)).Nodup := by
  cases h : valV kvs k with
  | none => exact nd_putK v hn h
  | some x =>
    have ha : (kvs.any fun kv => decide (kv.1 = k)) = true := by rw [valV_any, h]; rfl
    unfold putK
    rw [if_pos ha, List.map_map]
    have e : ((fun kv : Key × V => kv.1) ∘ fun kv => if kv.1 = k then (kv.1, v) else kv) = fun kv => kv.1 := by
      funext kv
      show (if kv.1 = k then (kv.1, v) else kv).1 = kv.1
      split <;> rfl
    rw [e]
    exact hn
theorem keys_put {kvs : List (Key × V)} {k j : Key} {v : V} (h : j ∈ (putK kvs k v).map (·.1)) : j = k ∨ j ∈ kvs.map (·.1) := by
  unfold putK at h
  split at h
  · rw [List.map_map] at h
    obtain ⟨p, hp, e⟩ := List.mem_map.mp h
    have e' : (if p.1 = k then (p.1, v) else p).1 = p.1 := by split <;> rfl
    exact Or.inr (List.mem_map.mpr ⟨p, hp, e'.symm.trans e⟩)
  · rw [List.map_append] at h
    rcases List.mem_append.mp h with h | h
    · exact Or.inr h
    · exact Or.inl (List.mem_singleton.mp h)
theorem DictMem.put {kvs : List (Key × V)} {l : List UInt8} (d : DictMem kvs l) (hl : l.length = 65536) {n v : Nat} (hn : n < 65536) {z : Int} (e : z = ((v % 256 : Nat) : Int)) :
    DictMem (putK kvs (Sum.inl (n : Int)) (.int z)) (set_ l n v) := by
  subst e
  refine ⟨fun j hj => ?_, nd_put _ _ d.nd, fun k hk => ?_⟩
  · rw [valV_put]
    by_cases ej : j = n
    · subst ej
      rw [if_pos rfl, Cm.at_set_same (by omega)]
      rfl
    · have ne : ¬ (Sum.inl (j : Int) : Key) = Sum.inl (n : Int) := fun q => ej (by have := Sum.inl.inj q; omega)
      rw [if_neg ne, Cm.at_set_ne (fun q => ej q.symm)]
      exact d.val j hj
  · rcases keys_put hk with e | e
    · exact ⟨n, hn, e⟩
    · exact d.rg k e
structure ChipAt (C : Addr) (L : Ad) (H : Hp) (m : Ql29.St) : Prop where
  wf : Cm.WF m
  obj : H L.c = some (.ins C L.dx (flds L m.pc))
  ram : H L.r = some (.lst (memV m.ram))
  sp : H L.s = some (.lst (memV m.sfr))
  code : ∃ kvs, H L.cd = some (.dK kvs) ∧ DictMem kvs m.code
  ext : ∃ kvs, H L.ex = some (.dK kvs) ∧ DictMem kvs m.ext
  rs : L.r ≠ L.s
  ce : L.cd ≠ L.ex
/-- all but the chip's own stands as it was -/
def Ext (L : Ad) (H H' : Hp) : Prop := ∀ b o, H b = some o → b ≠ L.c → b ≠ L.r → b ≠ L.s → b ≠ L.ex → H' b = some o
section
variable {C : Addr} {L : Ad} {H H1 H2 : Hp} {m : Ql29.St}
theorem Ext.refl (H : Hp) : Ext L H H := fun _ _ h _ _ _ _ => h
theorem Ext.trans (a : Ext L H H1) (b : Ext L H1 H2) : Ext L H H2 := fun x o h h1 h2 h3 h4 => b x o (a x o h h1 h2 h3 h4) h1 h2 h3 h4
theorem Ext.new {p : Addr} {o : HO} (h : H p = none) : Ext L H (upd H p o) := fun b u e _ _ _ _ => by
  rw [upd_ne (ne_of_none e h)]
  exact e
theorem Ext.upd_c {o : HO} : Ext L H (upd H L.c o) := fun b u e h _ _ _ => by rw [upd_ne h]; exact e
theorem Ext.upd_r {o : HO} : Ext L H (upd H L.r o) := fun b u e _ h _ _ => by rw [upd_ne h]; exact e
theorem Ext.upd_s {o : HO} : Ext L H (upd H L.s o) := fun b u e _ _ h _ => by rw [upd_ne h]; exact e
theorem Ext.upd_x {o : HO} : Ext L H (upd H L.ex o) := fun b u e _ _ _ h => by rw [upd_ne h]; exact e
/-- what is no list, no dict, no instance is none of the chip's -/
theorem Ext.other (x : Ext L H H1) (h : ChipAt C L H m) {p : Addr} {o : HO} (e : H p = some o) (n1 : ∀ xs, o ≠ .lst xs) (n2 : ∀ k, o ≠ .dK k) (n3 : ∀ a b f, o ≠ .ins a b f) : H1 p = some o := by
  obtain ⟨kx, hx, _⟩ := h.ext
  exact x p o e (ne_of e h.obj (n3 _ _ _)) (ne_of e h.ram (n1 _)) (ne_of e h.sp (n1 _)) (ne_of e hx (n2 _))
theorem Ext.tup (x : Ext L H H1) (h : ChipAt C L H m) {p : Addr} {xs : List V} (e : H p = some (.tup xs)) : H1 p = some (.tup xs) := x.other h e (by simp) (by simp) (by simp)
theorem Ext.frz (x : Ext L H H1) (h : ChipAt C L H m) {p : Addr} {o : Obj} {u : HO} (e : H p = some (.frz o u)) : H1 p = some (.frz o u) := x.other h e (by simp) (by simp) (by simp)
theorem ChipAt.new (h : ChipAt C L H m) {p : Addr} {o : HO} (hp : H p = none) : ChipAt C L (upd H p o) m := by
  obtain ⟨w, h1, h2, h3, ⟨k1, h4, d1⟩, ⟨k2, h5, d2⟩, h6, h7⟩ := h
  exact ⟨w, by rw [upd_ne (ne_of_none h1 hp)]; exact h1, by rw [upd_ne (ne_of_none h2 hp)]; exact h2, by rw [upd_ne (ne_of_none h3 hp)]; exact h3,
    ⟨k1, by rw [upd_ne (ne_of_none h4 hp)]; exact h4, d1⟩, ⟨k2, by rw [upd_ne (ne_of_none h5 hp)]; exact h5, d2⟩, h6, h7⟩
theorem ChipAt.kept (h : ChipAt C L H m) (k : ∀ b o, H b = some o → H1 b = some o) : ChipAt C L H1 m := by
  obtain ⟨w, h1, h2, h3, ⟨k1, h4, d1⟩, ⟨k2, h5, d2⟩, h6, h7⟩ := h
  exact ⟨w, k _ _ h1, k _ _ h2, k _ _ h3, ⟨k1, k _ _ h4, d1⟩, ⟨k2, k _ _ h5, d2⟩, h6, h7⟩
/-- a special register is written -/
theorem ChipAt.putS (h : ChipAt C L H m) {p v : Nat} {z : Int} (e : z = ((v % 256 : Nat) : Int)) {j : Nat} (ej : j = p - 128) : ChipAt C L (upd H L.s (.lst ((memV m.sfr).set j (.int z)))) (Ql29.putSfr m p v) := by
  subst ej
  obtain ⟨w, h1, h2, h3, ⟨k1, h4, d1⟩, ⟨k2, h5, d2⟩, h6, h7⟩ := h
  exact ⟨w.put _ _, by rw [upd_ne (ne_of h1 h3 (by simp))]; exact h1, by rw [upd_ne h6]; exact h2, by rw [upd_same, memV_set e]; rfl,
    ⟨k1, by rw [upd_ne (ne_of h4 h3 (by simp))]; exact h4, d1⟩, ⟨k2, by rw [upd_ne (ne_of h5 h3 (by simp))]; exact h5, d2⟩, h6, h7⟩
/-- a byte inside is written -/
theorem ChipAt.putR (h : ChipAt C L H m) {p v : Nat} {z : Int} (e : z = ((v % 256 : Nat) : Int)) : ChipAt C L (upd H L.r (.lst ((memV m.ram).set p (.int z)))) (Ql29.putInside m p v) := by
  obtain ⟨w, h1, h2, h3, ⟨k1, h4, d1⟩, ⟨k2, h5, d2⟩, h6, h7⟩ := h
  exact ⟨w.putI _ _, by rw [upd_ne (ne_of h1 h2 (by simp))]; exact h1, by rw [upd_same, memV_set e]; rfl, by rw [upd_ne (Ne.symm h6)]; exact h3,
    ⟨k1, by rw [upd_ne (ne_of h4 h2 (by simp))]; exact h4, d1⟩, ⟨k2, by rw [upd_ne (ne_of h5 h2 (by simp))]; exact h5, d2⟩, h6, h7⟩
/-- pc is written -/
theorem flds_pc (L : Ad) (p q : Nat) {z : Int} (e : z = (q : Int)) : putF "pc" (.int z) (flds L p) = flds L q := by
  subst e
  exact if_pos rfl
theorem ChipAt.putPc (h : ChipAt C L H m) {q : Nat} {z : Int} (e : z = ((q % 65536 : Nat) : Int)) : ChipAt C L (upd H L.c (.ins C L.dx (putF "pc" (.int z) (flds L m.pc)))) (Ql29.jump m q) := by
  obtain ⟨w, h1, h2, h3, ⟨k1, h4, d1⟩, ⟨k2, h5, d2⟩, h6, h7⟩ := h
  exact ⟨w.jump _, by rw [upd_same, flds_pc _ _ _ e]; rfl, by rw [upd_ne (ne_of h2 h1 (by simp))]; exact h2, by rw [upd_ne (ne_of h3 h1 (by simp))]; exact h3,
    ⟨k1, by rw [upd_ne (ne_of h4 h1 (by simp))]; exact h4, d1⟩, ⟨k2, by rw [upd_ne (ne_of h5 h1 (by simp))]; exact h5, d2⟩, h6, h7⟩
/-- a byte outside is written -/
theorem ChipAt.putX (h : ChipAt C L H m) {kvs : List (Key × V)} (hk : H L.ex = some (.dK kvs)) {n v : Nat} (hn : n < 65536) {z : Int} (e : z = ((v % 256 : Nat) : Int)) :
    ChipAt C L (upd H L.ex (.dK (putK kvs (Sum.inl (n : Int)) (.int z)))) { m with ext := set_ m.ext n v } := by
  obtain ⟨w, h1, h2, h3, ⟨k1, h4, d1⟩, ⟨k2, h5, d2⟩, h6, h7⟩ := h
  rw [hk] at h5
  cases h5
  exact ⟨w.ext' _ _, by rw [upd_ne (ne_of h1 hk (by simp))]; exact h1, by rw [upd_ne (ne_of h2 hk (by simp))]; exact h2, by rw [upd_ne (ne_of h3 hk (by simp))]; exact h3,
    ⟨k1, by rw [upd_ne h7]; exact h4, d1⟩, ⟨_, upd_same, d2.put w.ext hn e⟩, h6, h7⟩
end
/-! ### fields by name -/
theorem lk_here {k : Str} {v : V} {r : List (Str × V)} : List.lookup k ((k, v) :: r) = some v := by
  have e : (k == k) = true := beq_self_eq_true k
  simp only [List.lookup, e]
theorem lk_past {k g : Str} {v : V} {r : List (Str × V)} (h : (k == g) = false) : List.lookup k ((g, v) :: r) = List.lookup k r := by
  simp only [List.lookup, h]
theorem lk_pc (L : Ad) (p : Nat) : (flds L p).lookup ("pc" : Str) = some (.int (p : Int)) := lk_here
theorem lk_ram (L : Ad) (p : Nat) : (flds L p).lookup ("ram" : Str) = some (.ref L.r) := (lk_past (by decide +kernel)).trans lk_here
theorem lk_sp (L : Ad) (p : Nat) : (flds L p).lookup ("special" : Str) = some (.ref L.s) := (lk_past (by decide +kernel)).trans ((lk_past (by decide +kernel)).trans lk_here)
theorem lk_code (L : Ad) (p : Nat) : (flds L p).lookup ("code" : Str) = some (.ref L.cd) := (lk_past (by decide +kernel)).trans ((lk_past (by decide +kernel)).trans ((lk_past (by decide +kernel)).trans lk_here))
theorem lk_ext (L : Ad) (p : Nat) : (flds L p).lookup ("ext" : Str) = some (.ref L.ex) := (lk_past (by decide +kernel)).trans ((lk_past (by decide +kernel)).trans ((lk_past (by decide +kernel)).trans ((lk_past (by decide +kernel)).trans lk_here)))
/-- no attribute of that name -/
abbrev NoF (k : Str) : Prop := (k == ("pc" : Str)) = false ∧ (k == ("ram" : Str)) = false ∧ (k == ("special" : Str)) = false ∧ (k == ("code" : Str)) = false ∧ (k == ("ext" : Str)) = false
theorem NoF.lk {k : Str} (h : NoF k) (L : Ad) (p : Nat) : (flds L p).lookup k = none := (lk_past h.1).trans ((lk_past h.2.1).trans ((lk_past h.2.2.1).trans ((lk_past h.2.2.2.1).trans ((lk_past h.2.2.2.2).trans rfl))))
/-! ### what the top has written -/
structure Txt (K : PySem.W.Frag) (C : Addr) : Prop where
  cl : Cls K C
  nP : NoAttr K C "pc"
  nR : NoAttr K C "ram"
  nS : NoAttr K C "special"
  nC : NoAttr K C "code"
  nE : NoAttr K C "ext"
/-- a method's def stands in the class; a def at the top -/
def MAt (K : PySem.W.Frag) (C : Addr) (nm qual : Str) (st : Stmt) : Prop := ∃ f fd, Meth K C nm f ∧ Fun K nm qual st f fd
def GAt (K : PySem.W.Frag) (mg : Str → Option Value) (nm : Str) (st : Stmt) : Prop := ∃ f fd, mg nm = some (.ref f) ∧ Fun K nm nm st f fd
def IntG (mg : Str → Option Value) (x : Str) (n : Int) : Prop := ∃ t, mg x = some (.int n t)
structure MOk (P : Program) (w : World) (K : PySem.W.Frag) (mg : Str → Option Value) (base : Heap) (C : Addr) (nm : Str) (k : Nat) (ps : List Str) (sp : Sp) : Prop where
  ex : ∃ f fd, Meth K C nm f ∧ FnOk P w K mg base CX0 k f fd ps sp ∧ Binds K fd ps []
structure GOk (P : Program) (w : World) (K : PySem.W.Frag) (mg : Str → Option Value) (base : Heap) (nm : Str) (k : Nat) (ps : List Str) (sp : Sp) : Prop where
  ex : ∃ f fd, mg nm = some (.ref f) ∧ PySem.W.keepIn K (.ref f) = true ∧ FnOk P w K mg base CX0 k f fd ps sp ∧ Binds K fd ps []
section
variable {P : Program} {w : World} {K : PySem.W.Frag} {mg : Str → Option Value} {base : Heap} {C : Addr} {nm qual : Str} {st : Stmt} {N ps : List Str} {k : Nat} {sp : Sp}
abbrev BodyOk (P : Program) (w : World) (K : PySem.W.Frag) (mg : Str → Option Value) (base : Heap) (qual : Str) (st : Stmt) (N : List Str) (k : Nat) (sp : Sp) : Prop :=
  ∀ (cdv : Value) (f : Addr) (A : Around) (outer : List Env) (s : Shared) (H : Hp) (vs : List V) (Q : VK) (E : XK), Room k (A.deeper (envOfC qual (defScope st) s.heap.objs.size f cdv)) → sp vs H Q E →
      ∃ t, PSs (cxOf CX0 P w K mg base N qual (defScope st) f cdv A outer s H E).nox (defBody st) t ∧ t { nx := fun _ H' => Q .non H', rt := Q } (start N vs) H
theorem MAt.ok (h : MAt K C nm qual st) (S : FnScope N ps (defScope st)) (len : ∀ vs H Q E, sp vs H Q E → vs.length = ps.length)
    (hb : ∀ (kV doc pm : Value) (an : Option Addr) (cdv ct : Value) (us : List Value), us.length = ps.length → bindArgs (PySem.W.fnOf nm qual (defArgs st) (defBody st) (defScope st) .none kV doc pm an cdv ct) ⟨us, []⟩ = pure (ps.zip us))
    (hbody : BodyOk P w K mg base qual st N k sp) : MOk P w K mg base C nm (k + 1) ps sp := by
  obtain ⟨f, fd, M, F⟩ := h
  exact ⟨f, fd, M, F.ok S len fun cdv A outer s H vs Q E hr h => hbody cdv f A outer s H vs Q E hr h, F.binds hb⟩
theorem GAt.ok (h : GAt K mg nm st) (S : FnScope N ps (defScope st)) (len : ∀ vs H Q E, sp vs H Q E → vs.length = ps.length)
    (hb : ∀ (kV doc pm : Value) (an : Option Addr) (cdv ct : Value) (us : List Value), us.length = ps.length → bindArgs (PySem.W.fnOf nm nm (defArgs st) (defBody st) (defScope st) .none kV doc pm an cdv ct) ⟨us, []⟩ = pure (ps.zip us))
    (hbody : BodyOk P w K mg base nm st N k sp) : GOk P w K mg base nm (k + 1) ps sp := by
  obtain ⟨f, fd, M, F⟩ := h
  exact ⟨f, fd, M, F.kp, F.ok S len fun cdv A outer s H vs Q E hr h => hbody cdv f A outer s H vs Q E hr h, F.binds hb⟩
end
section
variable {X : Cx} {C : Addr} {nm : Str} {k j : Nat} {ps : List Str} {sp : Sp} {e o : Expr} {es : List Expr} {ta : TE} {t : TA} {pos apos p : Pos}
/-- o.m(e, ..) -/
theorem pe_m {pl : Sem Bool} (M : MOk X.prog X.w X.K X.mg X.base C nm k ps sp) (c : Cls X.K C) (hr : Room j X.A) (he : PE X o ta) (ha : PA X (e :: es) t) (hjk : k ≤ j := by decide)
    (hst : starEach (e :: es) X.env = (false, eval e X.env) :: starEach es X.env := by rfl) (hpl : (backTo pos (starEach es X.env)).any (·.1) = false := by rfl)
    (ht : eval (.Call (.Attribute o nm apos) (e :: es) [] pos) X.env = (do
      let ov ← eval o X.env
      standAt apos.atName
      let (f, first) ← holding [ov] (getMethod ov nm pl)
      callWith pos f first (backTo pos (starEach (e :: es) X.env)) (backToKw pos (keywordEach [] X.env))) := by rfl) :
    PE X (.Call (.Attribute o nm apos) (e :: es) [] pos) (tMeth C nm sp [] E0 ta t) := by
  obtain ⟨f, fd, m, F, b⟩ := M.ex
  exact pe_meth (pl := pl) he c m F (hr.mono hjk) b .nil pass0 ha hst hpl ht
theorem pe_m0 {pl : Sem Bool} (M : MOk X.prog X.w X.K X.mg X.base C nm k ps sp) (c : Cls X.K C) (hr : Room j X.A) (he : PE X o ta) (hjk : k ≤ j := by decide)
    (ht : eval (.Call (.Attribute o nm apos) [] [] pos) X.env = (do
      let ov ← eval o X.env
      standAt apos.atName
      let (f, first) ← holding [ov] (getMethod ov nm pl)
      callWith pos f first (backTo pos (starEach [] X.env)) (backToKw pos (keywordEach [] X.env))) := by rfl) :
    PE X (.Call (.Attribute o nm apos) [] [] pos) (tMeth C nm sp [] E0 ta tNil) := by
  obtain ⟨f, fd, m, F, b⟩ := M.ex
  exact pe_meth0 (pl := pl) he c m F (hr.mono hjk) b .nil pass0 ht
/-- f(e, ..) -/
theorem pe_g (M : GOk X.prog X.w X.K X.mg X.base nm k ps sp) (hr : Room j X.A) (ha : PA X (e :: es) t) (hjk : k ≤ j := by decide) (hg : Gl X nm := by rfl) (hdb : (nm == ("__debug__" : Str)) = false := by decide)
    (he : starEach (e :: es) X.env = (false, eval e X.env) :: starEach es X.env := by rfl) (hpl : (backTo pos (starEach es X.env)).any (·.1) = false := by rfl) : PE X (.Call (.Name nm p) (e :: es) [] pos) (tCall sp [] E0 t) := by
  obtain ⟨f, fd, m, kp, F, b⟩ := M.ex
  exact pe_call F (hr.mono hjk) hg m kp b .nil pass0 ha hdb he hpl
/-- a constant of the module -/
theorem pe_n {n : Int} (h : IntG X.mg nm n) (hg : Gl X nm := by rfl) (hdb : (nm == ("__debug__" : Str)) = false := by decide) : PE X (.Name nm p) (tC (.int n)) := by
  obtain ⟨t, e⟩ := h
  exact pe_glob hg e ⟨_, rfl⟩ hdb
end
/-! ### promises: of the chip at L; the first asks it alone -/
def spP (C : Addr) (A : List V → Ql29.St → V → Prop) : Sp := fun vs H Q _ => ∃ (L : Ad) (m : Ql29.St) (rest : List V) (v : V), vs = .ref L.c :: rest ∧ ChipAt C L H m ∧ A rest m v ∧ Q v H
def spM (C : Addr) (A : List V → Hp → Ql29.St → V → Ql29.St → Prop) : Sp := fun vs H Q _ => ∃ (L : Ad) (m : Ql29.St) (rest : List V) (v : V) (m' : Ql29.St), vs = .ref L.c :: rest ∧ ChipAt C L H m ∧ A rest H m v m' ∧
  ∀ H', ChipAt C L H' m' → Ext L H H' → Q v H'
/-- a place as a tuple -/
def PlAt (H : Hp) (v : V) (pl : Bool × Nat) : Prop := ∃ p, v = .ref p ∧ H p = some (.tup [.bl pl.1, .int (pl.2 : Int)])
theorem PlAt.ext {C : Addr} {L : Ad} {H H1 : Hp} {m : Ql29.St} {v : V} {pl : Bool × Nat} (h : PlAt H v pl) (x : Ext L H H1) (hC : ChipAt C L H m) : PlAt H1 v pl := by
  obtain ⟨p, e, hp⟩ := h
  exact ⟨p, e, x.tup hC hp⟩
def spT (C : Addr) (A : List V → Ql29.St → (Bool × Nat) → Ql29.St → Prop) : Sp := fun vs H Q _ => ∃ (L : Ad) (m : Ql29.St) (rest : List V) (pl : Bool × Nat) (m' : Ql29.St), vs = .ref L.c :: rest ∧ ChipAt C L H m ∧ A rest m pl m' ∧
  ∀ H' v, ChipAt C L H' m' → Ext L H H' → PlAt H' v pl → Q v H'
end Cw

namespace Cw
open PySem PySem.Spec PyProof.Rows L2
open Ql29 (at_ set_)
abbrev PRG : Program := PySem.Challenge.pw_smallchip_s03_c51_interrupt
abbrev top (i : Nat) : Stmt := PRG.main.body.getD i (.Pass ⟨0, 0, 0, 0⟩)
section
variable {P : Program} {w : World} {K : PySem.W.Frag} {mg : Str → Option Value} {base : Heap} {C : Addr}

abbrev s_get : Stmt := inClass (top 5) 1
theorem sc_get : FnScope ["self", "number"] ["self", "number"] (defScope s_get) := ⟨rfl, rfl, rfl, by decide +kernel, rfl, by decide +kernel, by decide +kernel⟩
def spGet (C : Addr) : Sp := spP C fun rest m v => ∃ n : Nat, rest = [.int (n : Int)] ∧ 128 ≤ n ∧ n < 256 ∧ v = .int (Ql29.sfr m n : Int)
theorem ok_get (h : MAt K C "get" "Chip.get" s_get) (T : Txt K C) : MOk P w K mg base C "get" 1 ["self", "number"] (spGet C) := by
  refine h.ok sc_get (fun vs H Q E h => ?_) (fun _ _ _ _ _ _ us hl => match us, hl with | [_, _], _ => rfl) fun cdv f A outer s H vs Q E hr h => ⟨_, pss_one (ps_ret (pe_ix ix_list (pe_fld (pv 0) rfl) (pe_op op_sub (pv 1) pe_int) (fun _ _ => rfl))), ?_⟩
  · obtain ⟨L, m, rest, v, rfl, hC, ⟨n, rfl, _⟩, q⟩ := h
    rfl
  · obtain ⟨L, m, rest, v, rfl, hC, ⟨n, rfl, h1, h2, rfl⟩, q⟩ := h
    exact ⟨_, rfl, L.c, C, L.dx, _, _, rfl, hC.obj, T.cl, T.nS, lk_sp _ _, _, rfl, _, _, rfl, rfl, L.s, _, _, _, rfl, rfl, SqL.of hC.sp, atI_mem (n := n - 128) (by omega) (by rw [hC.wf.sfr]; omega), q⟩

abbrev s_put : Stmt := inClass (top 5) 2
theorem sc_put : FnScope ["self", "number", "byte"] ["self", "number", "byte"] (defScope s_put) := ⟨rfl, rfl, rfl, by decide +kernel, rfl, by decide +kernel, by decide +kernel⟩
def spPut (C : Addr) : Sp := spM C fun rest _ m v m' => ∃ (n : Nat) (z : Int) (b : Nat), rest = [.int (n : Int), .int z] ∧ 128 ≤ n ∧ n < 256 ∧ z % 256 = ((b % 256 : Nat) : Int) ∧ v = .non ∧ m' = Ql29.putSfr m n b
theorem ok_put (h : MAt K C "put" "Chip.put" s_put) (T : Txt K C) : MOk P w K mg base C "put" 1 ["self", "number", "byte"] (spPut C) := by
  refine h.ok sc_put (fun vs H Q E h => ?_) (fun _ _ _ _ _ _ us hl => match us, hl with | [_, _, _], _ => rfl) fun cdv f A outer s H vs Q E hr h => ⟨_, pss_one (ps_asg (pe_op op_and (pv 2) pe_int) (pg_sub (pe_fld (pv 0) rfl) (pe_op op_sub (pv 1) pe_int) set_list)), ?_⟩
  · obtain ⟨L, m, rest, v, m', rfl, hC, ⟨n, z, b, rfl, _⟩, q⟩ := h
    rfl
  · obtain ⟨L, m, rest, v, m', rfl, hC, ⟨n, z, b, rfl, h1, h2, hz, rfl, rfl⟩, q⟩ := h
    refine ⟨_, rfl, _, _, rfl, rfl, _, rfl, L.c, C, L.dx, _, _, rfl, hC.obj, T.cl, T.nS, lk_sp _ _, _, rfl, _, _, rfl, rfl, L.s, _, _, n - 128, rfl, rfl, hC.sp, ixN_mem (by omega) (by rw [hC.wf.sfr]; omega), ?_⟩
    exact q _ (hC.putS (by rw [bAnd255]; exact hz) rfl) Ext.upd_s

abbrev s_push : Stmt := inClass (top 5) 18
theorem sc_push : FnScope ["self", "byte"] ["self", "byte"] (defScope s_push) := ⟨rfl, rfl, rfl, by decide +kernel, rfl, by decide +kernel, by decide +kernel⟩
def spPush (C : Addr) : Sp := spM C fun rest _ m v m' => ∃ (b : Nat), rest = [.int (b : Int)] ∧ b < 256 ∧ v = .non ∧ m' = Ql29.push m b
theorem nf_get : NoF "get" := by decide +kernel
theorem nf_put : NoF "put" := by decide +kernel
theorem ok_push (h : MAt K C "push" "Chip.push" s_push) (T : Txt K C) (g : IntG mg "SP" 129) (m1 : MOk P w K mg base C "get" 1 ["self", "number"] (spGet C)) (m2 : MOk P w K mg base C "put" 1 ["self", "number", "byte"] (spPut C)) : MOk P w K mg base C "push" 2 ["self", "byte"] (spPush C) := by
  refine h.ok sc_push (fun vs H Q E h => ?_) (fun _ _ _ _ _ _ us hl => match us, hl with | [_, _], _ => rfl) fun cdv f A outer s H vs Q E hr h => ⟨_, pss_cons (ps_expr (pe_m m2 T.cl hr (pv 0) (pa_cons (pe_n g) (pa_cons (pe_op op_add (pe_m m1 T.cl hr (pv 0) (pa_cons (pe_n g) pa_nil)) pe_int) pa_nil))))
      (pss_one (ps_asg (pv 1) (pg_sub (pe_fld (pv 0) rfl) (pe_m m1 T.cl hr (pv 0) (pa_cons (pe_n g) pa_nil)) set_list))), ?_⟩
  · obtain ⟨L, m, rest, v, m', rfl, hC, ⟨b, rfl, _⟩, q⟩ := h
    rfl
  · obtain ⟨L, m, rest, v, m', rfl, hC, ⟨b, rfl, h1, rfl, rfl⟩, q⟩ := h
    refine ⟨_, rfl, L.c, L.dx, _, rfl, hC.obj, nf_put.lk _ _, _, rfl, L.c, L.dx, _, rfl, hC.obj, nf_get.lk _ _, L, m, _, _, rfl, hC, ⟨129, rfl, by decide, by decide, rfl⟩, _, _, rfl, rfl, L, m, _, _, _, rfl, hC, ⟨129, _, (Ql29.sfr m 129 + 1) % 256, rfl, by decide, by decide, ?_, rfl, rfl⟩, fun H1 hC1 e1 => ?_⟩
    · omega
    · refine ⟨_, rfl, _, rfl, L.c, C, L.dx, _, _, rfl, hC1.obj, T.cl, T.nR, lk_ram _ _, _, rfl, L.c, L.dx, _, rfl, hC1.obj, nf_get.lk _ _, L, _, _, _, rfl, hC1, ⟨129, rfl, by decide, by decide, rfl⟩, L.r, _, _, (Ql29.sfr m 129 + 1) % 256, rfl, rfl, hC1.ram, ixN_mem ?_ (by rw [hC1.wf.ram]; exact Nat.mod_lt _ (by decide)), ?_⟩
      · rw [Cm.sfr_put_same hC.wf _ (by decide), Nat.mod_mod]
      · exact q _ (hC1.putR (v := b) (by rw [Nat.mod_eq_of_lt h1])) (e1.trans Ext.upd_r)

abbrev s_push_pc : Stmt := inClass (top 5) 20
theorem sc_push_pc : FnScope ["self"] ["self"] (defScope s_push_pc) := ⟨rfl, rfl, rfl, by decide +kernel, rfl, by decide +kernel, by decide +kernel⟩
def spPushPc (C : Addr) : Sp := spM C fun rest _ m v m' => rest = [] ∧ v = .non ∧ m' = Cm.pushPc m
theorem nf_push : NoF "push" := by decide +kernel
theorem ok_push_pc (h : MAt K C "push_pc" "Chip.push_pc" s_push_pc) (T : Txt K C) (m1 : MOk P w K mg base C "push" 2 ["self", "byte"] (spPush C)) : MOk P w K mg base C "push_pc" 3 ["self"] (spPushPc C) := by
  refine h.ok sc_push_pc (fun vs H Q E h => ?_) (fun _ _ _ _ _ _ us hl => match us, hl with | [_], _ => rfl) fun cdv f A outer s H vs Q E hr h => ⟨_, pss_cons (ps_expr (pe_m m1 T.cl hr (pv 0) (pa_cons (pe_op op_and (pe_fld (pv 0) rfl) pe_int) pa_nil)))
      (pss_one (ps_expr (pe_m m1 T.cl hr (pv 0) (pa_cons (pe_op op_shr (pe_fld (pv 0) rfl) pe_int) pa_nil)))), ?_⟩
  · obtain ⟨L, m, rest, v, m', rfl, hC, ⟨rfl, _⟩, q⟩ := h
    rfl
  · obtain ⟨L, m, rest, v, m', rfl, hC, ⟨rfl, rfl, rfl⟩, q⟩ := h
    have hp := hC.wf.pc
    refine ⟨_, rfl, L.c, L.dx, _, rfl, hC.obj, nf_push.lk _ _, _, rfl, L.c, C, L.dx, _, _, rfl, hC.obj, T.cl, T.nP, lk_pc _ _, _, _, rfl, rfl, L, m, _, _, _, rfl, hC, ⟨m.pc % 256, ?_, by omega, rfl, rfl⟩, fun H1 hC1 e1 => ?_⟩
    · show [V.int (Builtin.bitAnd (m.pc : Int) 255)] = _
      rw [bAnd255]
      rfl
    · refine ⟨_, rfl, L.c, L.dx, _, rfl, hC1.obj, nf_push.lk _ _, _, rfl, L.c, C, L.dx, _, _, rfl, hC1.obj, T.cl, T.nP, lk_pc _ _, _, _, rfl, rfl, (by show (0 : Int) ≤ 8; decide), L, _, _, _, _, rfl, hC1, ⟨m.pc / 256, ?_, by omega, rfl, rfl⟩, fun H2 hC2 e2 => ?_⟩
      · show [V.int ((m.pc : Int) / 2 ^ (8 : Int).toNat)] = _
        rfl
      · exact q H2 hC2 (e1.trans e2)

abbrev s_look : Stmt := inClass (top 5) 24
theorem sc_look : FnScope ["self", "number"] ["self", "number"] (defScope s_look) := ⟨rfl, rfl, rfl, by decide +kernel, rfl, by decide +kernel, by decide +kernel⟩


def spLook (C : Addr) : Sp := spP C fun rest m v => ∃ n : Nat, rest = [.int (n : Int)] ∧ n < 65920 ∧ v = .int (Cm.lookV m n : Int)
theorem ok_look (h : MAt K C "look" "Chip.look" s_look) (T : Txt K C) : MOk P w K mg base C "look" 1 ["self", "number"] (spLook C) := by
  refine h.ok sc_look (fun vs H Q E h => ?_) (fun _ _ _ _ _ _ us hl => match us, hl with | [_, _], _ => rfl) fun cdv f A outer s H vs Q E hr h => ⟨_, pss_cons (ps_if (pt_cmpR op_lt (pv 1) pe_int (nomark _)) (pss_one (ps_ret (pe_ix ix_list (pe_fld (pv 0) rfl) (pv 1) (fun _ _ => rfl)))) pss_nil)
      (pss_cons (ps_if (pt_cmpR op_lt (pv 1) pe_int (nomark _)) (pss_one (ps_ret (pe_ix ix_list (pe_fld (pv 0) rfl) (pe_op op_sub (pv 1) pe_int) (fun _ _ => rfl)))) pss_nil)
      (pss_one (ps_ret (pe_dget2 (hu_of hr) (pe_fld (pv 0) rfl) (pe_op op_sub (pv 1) pe_int) pe_int ⟨rfl, rfl, rfl, rfl⟩)))), ?_⟩
  · obtain ⟨L, m, rest, v, rfl, hC, ⟨n, rfl, _⟩, q⟩ := h
    rfl
  · obtain ⟨L, m, rest, v, rfl, hC, ⟨n, rfl, h1, rfl⟩, q⟩ := h
    refine ⟨_, rfl, _, _, rfl, rfl, _, rfl, ite2 (fun h2 => ?_) fun h2 => ⟨_, rfl, _, _, rfl, rfl, _, rfl, ite2 (fun h3 => ?_) fun h3 => ?_⟩⟩
    · have h2' : n < 256 := by have := of_decide_eq_true h2; omega
      refine ⟨_, rfl, L.c, C, L.dx, _, _, rfl, hC.obj, T.cl, T.nR, lk_ram _ _, _, rfl, L.r, _, _, _, rfl, rfl, SqL.of hC.ram, atI_mem rfl (by rw [hC.wf.ram]; omega), ?_⟩
      unfold Cm.lookV at q
      rw [if_pos h2'] at q
      exact q
    · have h2' : ¬ n < 256 := fun z => h2 (decide_eq_true (by omega))
      have h3' : n < 384 := by have := of_decide_eq_true h3; omega
      refine ⟨_, rfl, L.c, C, L.dx, _, _, rfl, hC.obj, T.cl, T.nS, lk_sp _ _, _, rfl, _, _, rfl, rfl, L.s, _, _, _, rfl, rfl, SqL.of hC.sp, atI_mem (n := n - 256) (by omega) (by rw [hC.wf.sfr]; omega), ?_⟩
      unfold Cm.lookV at q
      rw [if_neg h2', if_pos h3'] at q
      exact q
    · have h2' : ¬ n < 256 := fun z => h2 (decide_eq_true (by omega))
      have h3' : ¬ n < 384 := fun z => h3 (decide_eq_true (by omega))
      obtain ⟨kvs, hk, d⟩ := hC.ext
      have e : ((n : Int) - 384) = ((n - 384 : Nat) : Int) := by omega
      refine ⟨_, rfl, L.c, C, L.dx, _, _, rfl, hC.obj, T.cl, T.nE, lk_ext _ _, L.ex, rfl, .inl ⟨_, .inl hk⟩, _, rfl, _, _, rfl, rfl, _, DGet.k (k := Sum.inl ((n : Int) - 384)) hk, ?_⟩
      unfold Cm.lookV at q
      rw [if_neg h2', if_neg h3'] at q
      rw [e, d.val _ (by omega)]
      exact q

/-! ### lists that are read, heaps that only grow -/
theorem rg2 {n : Nat} (h : n < 4611686018427387904) : RgC 0 ((2 * n : Nat) : Int) 2 n := by
  refine ⟨by decide, by decide, ?_, ?_⟩
  · have e : Builtin.Range.rangeSize 0 ((2 * n : Nat) : Int) 2 = (n : Int) := by
      unfold Builtin.Range.rangeSize
      by_cases hn : n = 0
      · subst hn
        decide
      · rw [if_pos (by decide), if_pos (by omega)]
        omega
    unfold Builtin.Range.small
    rw [e]
    unfold Builtin.Range.rangeFitsLong
    simp only [Bool.and_eq_true, Bool.or_eq_true, decide_eq_true_eq]
    refine ⟨⟨⟨⟨by omega, by omega⟩, by omega, by omega⟩, by omega, by omega⟩, Or.inr ?_⟩
    rw [if_pos (by decide)]
    simp only [Bool.and_eq_true, decide_eq_true_eq]
    omega
  · unfold Builtin.Range.rangeSize
    by_cases hn : n = 0
    · subst hn
      decide
    · rw [if_pos (by decide), if_pos (by omega)]
      omega
theorem at_ints {ns : List Int} {i : Nat} (h : i < ns.length) {z : Int} (e : z = (i : Int)) : atI (ns.map V.int) z = some (.int ns[i]) := by
  refine at_of e ?_
  rw [List.getElem?_map, List.getElem?_eq_getElem h]
  rfl
theorem drop_parts {ns : List Int} {i n : Nat} (hk : ns.length = 2 * n) (hi : i < n) : ∃ (h1 : 2 * i < ns.length) (h2 : 2 * i + 1 < ns.length), ns.drop (2 * i) = ns[2 * i] :: ns[2 * i + 1] :: ns.drop (2 * (i + 1)) :=
  ⟨by omega, by omega, Cm.drop_two (by omega)⟩
theorem rep_zero (n : Nat) : (List.replicate n [V.int 0]).flatten = memV (List.replicate n 0) := by
  unfold memV
  rw [List.map_replicate]
  induction n with
  | zero => rfl
  | succ n ih => rw [List.replicate_succ, List.flatten_cons, ih, List.replicate_succ]; rfl
theorem smNew {H : Hp} {p : Addr} {o : HO} (h : H p = none) : Same H (upd H p o) := fun b u e => by
  rw [upd_ne (ne_of_none e h)]
  exact e
/-- an object that H does not know may change -/
theorem smMut {H H' : Hp} {p : Addr} {o : HO} (e : Same H H') (h : H p = none) : Same H (upd H' p o) := fun a u ha => by
  rw [upd_ne (ne_of_none ha h)]
  exact e a u ha

abbrev s_poked : Stmt := top 3
theorem sc_poked : FnScope ["size", "pokes", "out", "at"] ["size", "pokes"] (defScope s_poked) := ⟨rfl, rfl, rfl, by decide +kernel, rfl, by decide +kernel, by decide +kernel⟩
def spPoked (K : PySem.W.Frag) : Sp := fun vs H Q _ => ∃ (n : Nat) (a : Addr) (ns : List Int), vs = [.int (n : Int), .ref a] ∧ SqL K H a (ns.map V.int) ∧ Ql29Neutral.pokes (n : Int) ns = true ∧ ns.length ≤ 40000 ∧ n ≤ 100000 ∧
  ∀ H' p, Same H H' → H p = none → H' p = some (.lst (memV (Ql29Neutral.memory n ns))) → Q (.ref p) H'
theorem ok_poked (h : GAt K mg "poked" s_poked) (mr : mg "range" = none) (ml : mg "len" = none) : GOk P w K mg base "poked" 1 ["size", "pokes"] (spPoked K) := by
  refine h.ok sc_poked (fun vs H Q E h => ?_) (fun _ _ _ _ _ _ us hl => match us, hl with | [_, _], _ => rfl) fun cdv f A outer s H vs Q E hr h => ⟨_, pss_cons (ps_set (i := 2) sc_poked.nd rfl (Or.inl rfl) (pe_op op_rep (pe_lst (pa_cons pe_int pa_nil)) (pv 0)))
      (pss_cons (ps_for PassesOwn.never rfl (pi_range3 rfl mr (pa_cons pe_int (pa_cons (pe_callB call_len_seq rfl ml PySem.boot_len (pa_cons (pv 1) pa_nil)) (pa_cons pe_int pa_nil)))) (pg_name (i := 3) sc_poked.nd rfl (Or.inl rfl))
        (pss_one (ps_asg (pe_ix ix_list (pv 1) (pe_op op_add (pv 3) pe_int) (fun _ _ => rfl)) (pg_sub (pv 2) (pe_ix ix_list (pv 1) (pv 3) (fun _ _ => rfl)) set_list))))
      (pss_one (ps_ret (pv 2)))), ?_⟩
  · obtain ⟨n, a, ns, rfl, _⟩ := h
    rfl
  · obtain ⟨n, a, ns, rfl, hS, hp, hlen, hn, q⟩ := h
    obtain ⟨k, hk⟩ := Cm.pokes_len hp
    have sz : sizeLine = 16777216 := by decide
    have hnn : ((n : Int)).toNat = n := Int.toNat_natCast n
    refine ⟨by show 1 ≤ sizeLine; decide, fun l hl => ?_⟩
    refine ⟨_, rfl, l, _, _, rfl, rfl, upd_same, by omega, by omega, by show 1 * (n : Int).toNat ≤ _; omega, fun p hp2 => ?_⟩
    have hpl : p ≠ l := fun e => by rw [e, upd_same] at hp2; cases hp2
    have hp0 : H p = none := by rw [upd_ne hpl] at hp2; exact hp2
    have s1 : Same H (upd (upd H l (.lst [.int 0])) p (.lst (List.replicate (n : Int).toNat [V.int 0]).flatten)) := smMut (smNew hl) hp0
    refine ⟨_, rfl, a, _, rfl, .inl (s1.seq hS), 0, _, 2, k, rfl, by rw [List.length_map, hk]; exact rg2 (by omega), for_rangeC (lo := 0) (c := 2) (n := k) (fun i σ H' => ∃ (v : Option V) (cur : List UInt8), σ = [some (.int (n : Int)), some (.ref a), some (.ref p), v] ∧ Same H H' ∧
      H' p = some (.lst (memV cur)) ∧ cur.length = n ∧ Cm.pokeL cur (ns.drop (2 * i)) = Cm.pokeL (List.replicate n 0) ns ∧ Ql29Neutral.pokes (n : Int) (ns.drop (2 * i)) = true) ?_ ?_ ?_⟩
    · refine ⟨none, List.replicate n 0, rfl, s1, ?_, List.length_replicate, rfl, hp⟩
      rw [upd_same, rep_zero, hnn]
    · rintro i σ H' hi ⟨v, cur, rfl, s2, h2, hc, he, hpk⟩
      obtain ⟨i1, i2, ed⟩ := drop_parts hk hi
      rw [ed] at he hpk
      obtain ⟨b1, b2, b3, b4, hpk'⟩ := Cm.pokes_cons hpk
      have hj : ns[2 * i].toNat < cur.length := by omega
      refine ⟨_, rfl, _, rfl, _, _, rfl, rfl, a, _, _, _, rfl, rfl, s2.seq hS, at_ints i2 (by omega), _, rfl, _, rfl, _, rfl, a, _, _, _, rfl, rfl, s2.seq hS, at_ints i1 (by omega), p, _, _, ns[2 * i].toNat, rfl, rfl, h2, ixN_mem (by omega) hj, ?_⟩
      refine ⟨_, set_ cur ns[2 * i].toNat ns[2 * i + 1].toNat, rfl, smMut s2 hp0, ?_, (Cm.set_len _ _ _).trans hc, he, hpk'⟩
      rw [upd_same, memV_set (v := ns[2 * i + 1].toNat) (by omega)]
    · rintro σ H' ⟨v, cur, rfl, s2, h2, hc, he, hpk⟩
      refine ⟨_, rfl, q H' p s2 hp0 ?_⟩
      rw [h2, Cm.memory_eq, ← he, ← hk, List.drop_length]
      rfl

abbrev s_poked_dict : Stmt := top 4
theorem sc_poked_dict : FnScope ["pokes", "out", "at"] ["pokes"] (defScope s_poked_dict) := ⟨rfl, rfl, rfl, by decide +kernel, rfl, by decide +kernel, by decide +kernel⟩
def spPokedD (K : PySem.W.Frag) : Sp := fun vs H Q _ => ∃ (a : Addr) (ns : List Int), vs = [.ref a] ∧ SqL K H a (ns.map V.int) ∧ Ql29Neutral.pokes 65536 ns = true ∧ ns.length ≤ 40000 ∧
  ∀ H' p kvs, Same H H' → H p = none → H' p = some (.dK kvs) → DictMem kvs (Ql29Neutral.memory 65536 ns) → Q (.ref p) H'
theorem dm_nil : DictMem [] (List.replicate 65536 0) := by
  refine ⟨fun n hn => ?_, List.nodup_nil, fun k hk => by cases hk⟩
  have e : at_ (List.replicate 65536 0) n = 0 := by
    unfold at_
    rw [List.getD_eq_getElem?_getD, List.getElem?_replicate, if_pos hn]
    rfl
  rw [e]
  rfl
theorem ok_poked_dict (h : GAt K mg "poked_dict" s_poked_dict) (mr : mg "range" = none) (ml : mg "len" = none) : GOk P w K mg base "poked_dict" 1 ["pokes"] (spPokedD K) := by
  refine h.ok sc_poked_dict (fun vs H Q E h => ?_) (fun _ _ _ _ _ _ us hl => match us, hl with | [_], _ => rfl) fun cdv f A outer s H vs Q E hr h => ⟨_, pss_cons (ps_set (i := 1) sc_poked_dict.nd rfl (Or.inl rfl) pe_dnewK)
      (pss_cons (ps_for PassesOwn.never rfl (pi_range3 rfl mr (pa_cons pe_int (pa_cons (pe_callB call_len_seq rfl ml PySem.boot_len (pa_cons (pv 0) pa_nil)) (pa_cons pe_int pa_nil)))) (pg_name (i := 2) sc_poked_dict.nd rfl (Or.inl rfl))
        (pss_one (ps_dput (hu_of hr) (pv 1) (pe_ix ix_list (pv 0) (pv 2) (fun _ _ => rfl)) (pe_ix ix_list (pv 0) (pe_op op_add (pv 2) pe_int) (fun _ _ => rfl)) rfl)))
      (pss_one (ps_ret (pv 1)))), ?_⟩
  · obtain ⟨a, ns, rfl, _⟩ := h
    rfl
  · obtain ⟨a, ns, rfl, hS, hp, hlen, q⟩ := h
    obtain ⟨k, hk⟩ := Cm.pokes_len hp
    intro p hp0
    have s1 : Same H (upd H p (.dK [])) := smNew hp0
    refine ⟨_, rfl, a, _, rfl, .inl (s1.seq hS), 0, _, 2, k, rfl, by rw [List.length_map, hk]; exact rg2 (by omega), for_rangeC (lo := 0) (c := 2) (n := k) (fun i σ H' => ∃ (v : Option V) (cur : List UInt8) (kvs : List (Key × V)), σ = [some (.ref a), some (.ref p), v] ∧ Same H H' ∧
      H' p = some (.dK kvs) ∧ DictMem kvs cur ∧ cur.length = 65536 ∧ Cm.pokeL cur (ns.drop (2 * i)) = Cm.pokeL (List.replicate 65536 0) ns ∧ Ql29Neutral.pokes 65536 (ns.drop (2 * i)) = true) ?_ ?_ ?_⟩
    · exact ⟨none, List.replicate 65536 0, [], rfl, s1, upd_same, dm_nil, List.length_replicate, rfl, hp⟩
    · rintro i σ H' hi ⟨v, cur, kvs, rfl, s2, h2, hd, hc, he, hpk⟩
      obtain ⟨i1, i2, ed⟩ := drop_parts hk hi
      rw [ed] at he hpk
      obtain ⟨b1, b2, b3, b4, hpk'⟩ := Cm.pokes_cons hpk
      have hj : ns[2 * i].toNat < 65536 := by omega
      have ej : ns[2 * i] = ((ns[2 * i].toNat : Nat) : Int) := by omega
      have d2 := hd.put hc (n := ns[2 * i].toNat) (v := ns[2 * i + 1].toNat) hj (z := ns[2 * i + 1]) (by omega)
      refine ⟨_, rfl, _, rfl, _, _, rfl, rfl, a, _, _, _, rfl, rfl, s2.seq hS, at_ints i2 (by omega), _, rfl, _, rfl, _, rfl, a, _, _, _, rfl, rfl, s2.seq hS, at_ints i1 (by omega), p, _, rfl, DPut.k (k := Sum.inl ns[2 * i]) h2 hd.len, ?_⟩
      refine ⟨_, _, _, rfl, smMut s2 hp0, upd_same, ?_, (Cm.set_len _ _ _).trans hc, he, hpk'⟩
      rw [← ej] at d2
      exact d2
    · rintro σ H' ⟨v, cur, kvs, rfl, s2, h2, hd, hc, he, hpk⟩
      refine ⟨_, rfl, q H' p kvs s2 hp0 h2 ?_⟩
      have e : cur = Ql29Neutral.memory 65536 ns := by
        rw [Cm.memory_eq, ← he, ← hk, List.drop_length]
        rfl
      rw [← e]
      exact hd

abbrev s___init__ : Stmt := inClass (top 5) 0
theorem sc___init__ : FnScope ["self", "pc", "ram", "sfr", "code", "ext"] ["self", "pc", "ram", "sfr", "code", "ext"] (defScope s___init__) := ⟨rfl, rfl, rfl, by decide +kernel, rfl, by decide +kernel, by decide +kernel⟩
def spInit (K : PySem.W.Frag) (C : Addr) : Sp := fun vs H Q _ => ∃ (x dx : Addr) (pc : Nat) (a1 a2 a3 a4 : Addr) (n1 n2 n3 n4 : List Int), vs = [.ref x, .int (pc : Int), .ref a1, .ref a2, .ref a3, .ref a4] ∧ H x = some (.ins C dx []) ∧ pc < 65536 ∧
  SqL K H a1 (n1.map V.int) ∧ Ql29Neutral.pokes 256 n1 = true ∧ n1.length ≤ 40000 ∧ SqL K H a2 (n2.map V.int) ∧ Ql29Neutral.pokes 128 n2 = true ∧ n2.length ≤ 40000 ∧
  SqL K H a3 (n3.map V.int) ∧ Ql29Neutral.pokes 65536 n3 = true ∧ n3.length ≤ 40000 ∧ SqL K H a4 (n4.map V.int) ∧ Ql29Neutral.pokes 65536 n4 = true ∧ n4.length ≤ 40000 ∧
  ∀ H' L, L.c = x → ChipAt C L H' ⟨pc, Ql29Neutral.memory 256 n1, Ql29Neutral.memory 128 n2, Ql29Neutral.memory 65536 n3, Ql29Neutral.memory 65536 n4⟩ → (∀ b o, H b = some o → b ≠ x → H' b = some o) → Q .non H'
theorem pf_past {f g : Str} {v x : V} {r : List (Str × V)} (h : ¬ g = f) : putF f v ((g, x) :: r) = (g, x) :: putF f v r := if_neg h
theorem flds_all (p r s c e : V) : putF "ext" e (putF "code" c (putF "special" s (putF "ram" r (putF "pc" p [])))) = ([("pc", p), ("ram", r), ("special", s), ("code", c), ("ext", e)] : List (Str × V)) := by
  show putF "ext" e (putF "code" c (putF "special" s (putF "ram" r ([("pc", p)] : List (Str × V))))) = _
  rw [pf_past (f := "ram") (by decide +kernel)]
  rw [pf_past (f := "special") (by decide +kernel)]
  rw [show putF "ram" r [] = ([("ram", r)] : List (Str × V)) from rfl, pf_past (f := "special") (by decide +kernel)]
  rw [show putF "special" s [] = ([("special", s)] : List (Str × V)) from rfl]
  rw [pf_past (f := "code") (by decide +kernel), pf_past (f := "code") (by decide +kernel), pf_past (f := "code") (by decide +kernel)]
  rw [show putF "code" c [] = ([("code", c)] : List (Str × V)) from rfl]
  rw [pf_past (f := "ext") (by decide +kernel), pf_past (f := "ext") (by decide +kernel), pf_past (f := "ext") (by decide +kernel), pf_past (f := "ext") (by decide +kernel)]
  rfl
theorem seq_upd {K : PySem.W.Frag} {H H' : Hp} {a x : Addr} {C dx : Addr} {fs : List (Str × V)} {xs : List V} (e : ∀ b o, H b = some o → b ≠ x → H' b = some o) (hx : H x = some (.ins C dx fs)) (h : SqL K H a xs) : SqL K H' a xs := by
  rcases h with (h | ⟨o, h⟩) | h
  · exact .inl (.inl (e _ _ h (ne_of h hx (by simp))))
  · exact .inl (.inr ⟨o, e _ _ h (ne_of h hx (by simp))⟩)
  · exact .inr h
theorem ok_init (h : ∃ f fd, PySem.W.findIn K (.ref C) "__init__" = some (some (.ref f)) ∧ PySem.W.isFn K (.ref f) = true ∧ Fun K "__init__" "Chip.__init__" s___init__ f fd) (T : Txt K C) (g1 : GOk P w K mg base "poked" 1 ["size", "pokes"] (spPoked K)) (g2 : GOk P w K mg base "poked_dict" 1 ["pokes"] (spPokedD K)) :
    ∃ f fd, PySem.W.findIn K (.ref C) "__init__" = some (some (.ref f)) ∧ PySem.W.isFn K (.ref f) = true ∧ FnOk P w K mg base CX0 2 f fd ["self", "pc", "ram", "sfr", "code", "ext"] (spInit K C) ∧ Binds K fd ["self", "pc", "ram", "sfr", "code", "ext"] [] := by
  obtain ⟨f, fd, h1, h2, F⟩ := h
  refine ⟨f, fd, h1, h2, F.ok sc___init__ (fun vs H Q E h => ?_) (fun cdv A outer s H vs Q E hr h => ⟨_, pss_cons (ps_fld (pv 0) (pv 1) rfl) (pss_cons (ps_fld (pv 0) (pe_g g1 hr (pa_cons pe_int (pa_cons (pv 2) pa_nil))) rfl) (pss_cons (ps_fld (pv 0) (pe_g g1 hr (pa_cons pe_int (pa_cons (pv 3) pa_nil))) rfl)
      (pss_cons (ps_fld (pv 0) (pe_g g2 hr (pa_cons (pv 4) pa_nil)) rfl) (pss_one (ps_fld (pv 0) (pe_g g2 hr (pa_cons (pv 5) pa_nil)) rfl))))), ?_⟩), F.binds fun _ _ _ _ _ _ us hl => match us, hl with | [_, _, _, _, _, _], _ => rfl⟩
  · obtain ⟨x, dx, pc, a1, a2, a3, a4, n1, n2, n3, n4, rfl, _⟩ := h
    rfl
  · obtain ⟨x, dx, pc, a1, a2, a3, a4, n1, n2, n3, n4, rfl, hx, hpc, q1, p1, l1, q2, p2, l2, q3, p3, l3, q4, p4, l4, q⟩ := h
    refine ⟨_, rfl, _, rfl, x, C, dx, _, rfl, hx, T.cl, T.nP, (by show 0 < 1000; decide), ?_⟩
    have k0 : ∀ b o, H b = some o → b ≠ x → upd H x (.ins C dx (putF "pc" (.int (pc : Int)) [])) b = some o := fun b o e n => by rw [upd_ne n]; exact e
    have x0 : upd H x (.ins C dx (putF "pc" (.int (pc : Int)) [])) x = some (.ins C dx (putF "pc" (.int (pc : Int)) [])) := upd_same
    generalize upd H x (.ins C dx (putF "pc" (.int (pc : Int)) [])) = H0 at k0 x0
    -- ram
    refine ⟨_, rfl, 256, a1, n1, rfl, seq_upd k0 hx q1, p1, l1, by decide, fun H1 r s1 fr hr1 => ?_⟩
    have x1 := s1 _ _ x0
    have nr : r ≠ x := fun e => by rw [e, x0] at fr; cases fr
    refine ⟨_, rfl, x, C, dx, _, rfl, x1, T.cl, T.nR, (by show 1 < 1000; decide), ?_⟩
    have k1 : ∀ b o, H b = some o → b ≠ x → upd H1 x (.ins C dx (putF "ram" (.ref r) (putF "pc" (.int (pc : Int)) []))) b = some o := fun b o e n => by rw [upd_ne n]; exact s1 _ _ (k0 b o e n)
    have r1 : upd H1 x (.ins C dx (putF "ram" (.ref r) (putF "pc" (.int (pc : Int)) []))) r = some (.lst (memV (Ql29Neutral.memory 256 n1))) := by rw [upd_ne nr]; exact hr1
    have x1 : upd H1 x (.ins C dx (putF "ram" (.ref r) (putF "pc" (.int (pc : Int)) []))) x = some (.ins C dx (putF "ram" (.ref r) (putF "pc" (.int (pc : Int)) []))) := upd_same
    generalize upd H1 x (.ins C dx (putF "ram" (.ref r) (putF "pc" (.int (pc : Int)) []))) = H1' at k1 r1 x1
    -- special
    refine ⟨_, rfl, 128, a2, n2, rfl, seq_upd k1 hx q2, p2, l2, by decide, fun H2 sp s2 fs hs2 => ?_⟩
    have x2 := s2 _ _ x1
    have r2 := s2 _ _ r1
    have ns : sp ≠ x := fun e => by rw [e, x1] at fs; cases fs
    have rs : r ≠ sp := fun e => by rw [← e, r1] at fs; cases fs
    refine ⟨_, rfl, x, C, dx, _, rfl, x2, T.cl, T.nS, (by show 2 < 1000; decide), ?_⟩
    have k2 : ∀ b o, H b = some o → b ≠ x → upd H2 x (.ins C dx (putF "special" (.ref sp) (putF "ram" (.ref r) (putF "pc" (.int (pc : Int)) [])))) b = some o := fun b o e n => by rw [upd_ne n]; exact s2 _ _ (k1 b o e n)
    have r2 : upd H2 x (.ins C dx (putF "special" (.ref sp) (putF "ram" (.ref r) (putF "pc" (.int (pc : Int)) [])))) r = some (.lst (memV (Ql29Neutral.memory 256 n1))) := by rw [upd_ne nr]; exact r2
    have sp2 : upd H2 x (.ins C dx (putF "special" (.ref sp) (putF "ram" (.ref r) (putF "pc" (.int (pc : Int)) [])))) sp = some (.lst (memV (Ql29Neutral.memory 128 n2))) := by rw [upd_ne ns]; exact hs2
    have x2 : upd H2 x (.ins C dx (putF "special" (.ref sp) (putF "ram" (.ref r) (putF "pc" (.int (pc : Int)) [])))) x = some (.ins C dx (putF "special" (.ref sp) (putF "ram" (.ref r) (putF "pc" (.int (pc : Int)) [])))) := upd_same
    generalize upd H2 x (.ins C dx (putF "special" (.ref sp) (putF "ram" (.ref r) (putF "pc" (.int (pc : Int)) [])))) = H2' at k2 r2 sp2 x2
    -- code
    refine ⟨_, rfl, a3, n3, rfl, seq_upd k2 hx q3, p3, l3, fun H3 cd kc s3 fc hc3 dc => ?_⟩
    have x3 := s3 _ _ x2
    have r3 := s3 _ _ r2
    have sp3 := s3 _ _ sp2
    have nc : cd ≠ x := fun e => by rw [e, x2] at fc; cases fc
    refine ⟨_, rfl, x, C, dx, _, rfl, x3, T.cl, T.nC, (by show 3 < 1000; decide), ?_⟩
    have k3 : ∀ b o, H b = some o → b ≠ x → upd H3 x (.ins C dx (putF "code" (.ref cd) (putF "special" (.ref sp) (putF "ram" (.ref r) (putF "pc" (.int (pc : Int)) []))))) b = some o := fun b o e n => by rw [upd_ne n]; exact s3 _ _ (k2 b o e n)
    have r3 : upd H3 x (.ins C dx (putF "code" (.ref cd) (putF "special" (.ref sp) (putF "ram" (.ref r) (putF "pc" (.int (pc : Int)) []))))) r = some (.lst (memV (Ql29Neutral.memory 256 n1))) := by rw [upd_ne nr]; exact r3
    have sp3 : upd H3 x (.ins C dx (putF "code" (.ref cd) (putF "special" (.ref sp) (putF "ram" (.ref r) (putF "pc" (.int (pc : Int)) []))))) sp = some (.lst (memV (Ql29Neutral.memory 128 n2))) := by rw [upd_ne ns]; exact sp3
    have c3 : upd H3 x (.ins C dx (putF "code" (.ref cd) (putF "special" (.ref sp) (putF "ram" (.ref r) (putF "pc" (.int (pc : Int)) []))))) cd = some (.dK kc) := by rw [upd_ne nc]; exact hc3
    have x3 : upd H3 x (.ins C dx (putF "code" (.ref cd) (putF "special" (.ref sp) (putF "ram" (.ref r) (putF "pc" (.int (pc : Int)) []))))) x = some (.ins C dx (putF "code" (.ref cd) (putF "special" (.ref sp) (putF "ram" (.ref r) (putF "pc" (.int (pc : Int)) []))))) := upd_same
    generalize upd H3 x (.ins C dx (putF "code" (.ref cd) (putF "special" (.ref sp) (putF "ram" (.ref r) (putF "pc" (.int (pc : Int)) []))))) = H3' at k3 r3 sp3 c3 x3
    -- ext
    refine ⟨_, rfl, a4, n4, rfl, seq_upd k3 hx q4, p4, l4, fun H4 ex kx s4 fx hx4 dxm => ?_⟩
    have ne : ex ≠ x := fun e => by rw [e, x3] at fx; cases fx
    have ce : cd ≠ ex := fun e => by rw [← e, c3] at fx; cases fx
    refine ⟨_, rfl, x, C, dx, _, rfl, s4 _ _ x3, T.cl, T.nE, (by show 4 < 1000; decide), ?_⟩
    refine q _ ⟨x, dx, r, sp, cd, ex⟩ rfl ⟨⟨hpc, Cm.memory_len _ _, Cm.memory_len _ _, Cm.memory_len _ _, Cm.memory_len _ _⟩, ?_, ?_, ?_, ⟨kc, ?_, dc⟩, ⟨kx, ?_, dxm⟩, rs, ce⟩ fun b o e n => ?_
    · rw [upd_same, flds_all]
      rfl
    · rw [upd_ne nr]; exact s4 _ _ r3
    · rw [upd_ne ns]; exact s4 _ _ sp3
    · rw [upd_ne nc]; exact s4 _ _ c3
    · rw [upd_ne ne]; exact hx4
    · rw [upd_ne n]; exact s4 _ _ (k3 b o e n)

abbrev s_looked : Stmt := top 7
theorem sc_looked : FnScope ["chip", "looks", "number"] ["chip", "looks"] (defScope s_looked) := ⟨rfl, rfl, rfl, by decide +kernel, rfl, by decide +kernel, by decide +kernel⟩
def spLooked (K : PySem.W.Frag) (C : Addr) : Sp := fun vs H Q _ => ∃ (L : Ad) (m : Ql29.St) (a : Addr) (ns : List Int), vs = [.ref L.c, .ref a] ∧ ChipAt C L H m ∧ SqL K H a (ns.map V.int) ∧ (∀ x ∈ ns, 0 ≤ x ∧ x ≤ 65919) ∧ ns.length ≤ 40000 ∧
  ∀ H' p, Same H H' → H p = none → H' p = some (.lst (.int (m.pc : Int) :: ns.map fun x => V.int (Cm.lookV m x.toNat : Int))) → Q (.ref p) H'
theorem nf_look : NoF "look" := by decide +kernel
theorem ok_looked (h : GAt K mg "looked" s_looked) (T : Txt K C) (m1 : MOk P w K mg base C "look" 1 ["self", "number"] (spLook C)) : GOk P w K mg base "looked" 2 ["chip", "looks"] (spLooked K C) := by
  refine h.ok sc_looked (fun vs H Q E h => ?_) (fun _ _ _ _ _ _ us hl => match us, hl with | [_, _], _ => rfl) fun cdv f A outer s H vs Q E hr h => ⟨_, pss_one (ps_ret (pe_op op_cat (pe_lst (pa_cons (pe_fld (pv 0) rfl) pa_nil))
      (pe_lc (own := [("number", 2)]) (g := gName 2) (tt := tYes) rfl sc_looked.nd (pi_list (pv 1)) (blkOk_by (own := [("number", 2)]) (N := ["chip", "looks", "number"]) (sc := defScope s_looked) (by decide +kernel)) (fun _ _ _ _ _ => pg_name (i := 2) sc_looked.nd rfl (Or.inl rfl)) (fun _ _ _ _ _ => pts_nil)
        (fun _ _ _ _ _ => pe_m m1 T.cl hr (pv 0) (pa_cons (pv 2) pa_nil))))), ?_⟩
  · obtain ⟨L, m, a, ns, rfl, _⟩ := h
    rfl
  · obtain ⟨L, m, a, ns, rfl, hC, hS, hb, hlen, q⟩ := h
    have sz : sizeLine = 16777216 := by decide
    refine ⟨_, rfl, L.c, C, L.dx, _, _, rfl, hC.obj, T.cl, T.nP, lk_pc _ _, by show 1 ≤ sizeLine; decide, fun l hl => ?_⟩
    have sl : Same H (upd H l (.lst [.int (m.pc : Int)])) := smNew hl
    refine ⟨_, rfl, a, rfl, ⟨_, sl.seq hS⟩, fun D hD => ?_⟩
    have hDl : D ≠ l := fun e => by rw [e, upd_same] at hD; cases hD
    have hD0 : H D = none := by rw [upd_ne hDl] at hD; exact hD
    refine lc_list (K := K) (a := a) (xs := ns.map V.int) (fun i H' => Same H H' ∧ H' l = some (.lst [.int (m.pc : Int)]) ∧ H' D = some (.lst ((ns.take i).map fun x => V.int (Cm.lookV m x.toNat : Int)))) ?_ ?_ ?_ ?_
    · exact ⟨smMut sl hD0, by rw [upd_ne (Ne.symm hDl)]; exact upd_same, upd_same⟩
    · exact fun i H' hi ⟨s2, _⟩ => s2.seq hS
    · rintro i x H' hi ⟨s2, h2, h3⟩
      obtain ⟨z, hz, rfl⟩ : ∃ z, ns[i]? = some z ∧ x = V.int z := by
        rw [List.getElem?_map] at hi
        cases e : ns[i]? with
        | none =>
          rw [e] at hi
          cases hi
        | some z =>
          rw [e] at hi
          exact ⟨z, rfl, (Option.some.inj hi).symm⟩
      have hi' : i < ns.length := (List.getElem?_eq_some_iff.mp hz).1
      obtain ⟨b1, b2⟩ := hb z (List.mem_of_getElem? hz)
      have hC2 := hC.kept s2
      refine ⟨rfl, ?_⟩
      show tMeth C "look" (spLook C) [] E0 (tVar 0) (tCons (tVar 2) tNil) _ _ _
      refine ⟨_, rfl, L.c, L.dx, _, rfl, hC2.obj, nf_look.lk _ _, _, rfl, L, m, _, _, rfl, hC2, ⟨z.toNat, by rw [show ((z.toNat : Nat) : Int) = z by omega]; rfl, by omega, rfl⟩, _, h3, ?_, smMut s2 hD0, by rw [upd_ne (Ne.symm hDl)]; exact h2, ?_⟩
      · rw [List.length_map, List.length_take]
        omega
      · have et : ns.take (i + 1) = ns.take i ++ [z] := by
          rw [List.take_add_one, hz]
          rfl
        rw [upd_same, et, List.map_append]
        rfl
    · rintro H' ⟨s2, h2, h3⟩
      rw [List.length_map, List.take_length] at h3
      have lm : (ns.map fun x => V.int (Cm.lookV m x.toNat : Int)).length = ns.length := List.length_map _
      refine ⟨l, D, _, _, rfl, rfl, h2, h3, by show 1 + _ ≤ _; omega, fun p hp => q _ p (smMut s2 ?_) ?_ upd_same⟩
      · exact s2.free hp
      · exact s2.free hp

abbrev s_c51_interrupt : Stmt := top 8
theorem sc_c51_interrupt : FnScope ["place", "pc", "ram", "sfr", "code", "ext", "looks", "chip"] ["place", "pc", "ram", "sfr", "code", "ext", "looks"] (defScope s_c51_interrupt) := ⟨rfl, rfl, rfl, by decide +kernel, rfl, by decide +kernel, by decide +kernel⟩
def spIrq (K : PySem.W.Frag) : Sp := fun vs H Q _ => ∃ (pl pc : Int) (a1 a2 a3 a4 a5 : Addr) (n1 n2 n3 n4 n5 : List Int), vs = [.int pl, .int pc, .ref a1, .ref a2, .ref a3, .ref a4, .ref a5] ∧ 0 ≤ pl ∧ 0 ≤ pc ∧ pc ≤ 65535 ∧
  SqL K H a1 (n1.map V.int) ∧ Ql29Neutral.pokes 256 n1 = true ∧ n1.length ≤ 40000 ∧ SqL K H a2 (n2.map V.int) ∧ Ql29Neutral.pokes 128 n2 = true ∧ n2.length ≤ 40000 ∧
  SqL K H a3 (n3.map V.int) ∧ Ql29Neutral.pokes 65536 n3 = true ∧ n3.length ≤ 40000 ∧ SqL K H a4 (n4.map V.int) ∧ Ql29Neutral.pokes 65536 n4 = true ∧ n4.length ≤ 40000 ∧
  SqL K H a5 (n5.map V.int) ∧ (∀ x ∈ n5, 0 ≤ x ∧ x ≤ 65919) ∧ n5.length ≤ 40000 ∧ (∀ b, H b = none ∨ ∃ o u, H b = some (.frz o u)) ∧
  ∀ H' p, H' p = some (.lst ((PyQl29.c51_interrupt pl pc n1 n2 n3 n4 n5).map V.int)) → Q (.ref p) H'
structure InitOk (P : Program) (w : World) (K : PySem.W.Frag) (mg : Str → Option Value) (base : Heap) (C : Addr) : Prop where
  ex : ∃ f fd, PySem.W.findIn K (.ref C) "__init__" = some (some (.ref f)) ∧ PySem.W.isFn K (.ref f) = true ∧ FnOk P w K mg base CX0 2 f fd ["self", "pc", "ram", "sfr", "code", "ext"] (spInit K C) ∧ Binds K fd ["self", "pc", "ram", "sfr", "code", "ext"] []
theorem nf_push_pc : NoF "push_pc" := by decide +kernel
/-- in a heap of frozen things alone all is kept -/
theorem frz_seq {K : PySem.W.Frag} {H H' : Hp} {a x : Addr} {xs : List V} (hO : ∀ b, H b = none ∨ ∃ o u, H b = some (.frz o u)) (e : ∀ b o u, H b = some (.frz o u) → H' b = some (.frz o u)) (h : SqL K H a xs) : SqL K H' a xs := by
  rcases h with (h | ⟨o, h⟩) | h
  · rcases hO a with z | ⟨o, u, z⟩
    · rw [z] at h; cases h
    · rw [z] at h; cases h
  · exact .inl (.inr ⟨o, e _ _ _ h⟩)
  · exact .inr h
theorem ok_c51_interrupt {ff : Addr} {fd : FuncData} (F : Fun K "c51_interrupt" "c51_interrupt" s_c51_interrupt ff fd) (T : Txt K C) (mk : PySem.W.makesIn K C = true) (kC : PySem.W.keepIn K (.ref C) = true) (gC : mg "Chip" = some (.ref C)) (gi : InitOk P w K mg base C) (m1 : MOk P w K mg base C "push_pc" 3 ["self"] (spPushPc C))
    (g1 : GOk P w K mg base "looked" 2 ["chip", "looks"] (spLooked K C)) : FnOk P w K mg base CX0 5 ff fd ["place", "pc", "ram", "sfr", "code", "ext", "looks"] (spIrq K) := by
  obtain ⟨fi, fdi, hi1, hi2, GI, bI⟩ := gi.ex
  refine F.ok sc_c51_interrupt (fun vs H Q E h => ?_) fun cdv A outer s H vs Q E hr h => ⟨_,
    pss_cons (ps_set (i := 7) sc_c51_interrupt.nd rfl (Or.inl rfl) (pe_make ⟨mk, hi1, hi2, kC⟩ GI (hr.mono (by decide)) rfl gC bI .nil pass0 (pa_cons (pv 1) (pa_cons (pv 2) (pa_cons (pv 3) (pa_cons (pv 4) (pa_cons (pv 5) pa_nil)))))))
      (pss_cons (ps_expr (pe_m0 m1 T.cl hr (pv 7))) (pss_cons (ps_fld (pv 7) (pe_op op_and (pv 0) pe_int) rfl)
      (pss_one (ps_ret (pe_op op_cat (pe_lst (pa_cons pe_int pa_nil)) (pe_g g1 hr (pa_cons (pv 7) (pa_cons (pv 6) pa_nil)))))))), ?_⟩
  · obtain ⟨pl, pc, a1, a2, a3, a4, a5, n1, n2, n3, n4, n5, rfl, _⟩ := h
    rfl
  · obtain ⟨pl, pc, a1, a2, a3, a4, a5, n1, n2, n3, n4, n5, rfl, hpl, hpc0, hpc1, q1, p1, l1, q2, p2, l2, q3, p3, l3, q4, p4, l4, q5, p5, l5, hO, q⟩ := h
    have sz : sizeLine = 16777216 := by decide
    refine ⟨_, rfl, _, rfl, _, rfl, _, rfl, _, rfl, fun x dx nx nd ne => ?_⟩
    have k0 : ∀ b o, H b = some o → upd (upd H dx (.own x)) x (.ins C dx []) b = some o := fun b o e => by
      rw [upd_ne (ne_of_none e nx), upd_ne (ne_of_none e nd)]
      exact e
    have s0 : Same H (upd (upd H dx (.own x)) x (.ins C dx [])) := k0
    refine ⟨x, dx, pc.toNat, a1, a2, a3, a4, n1, n2, n3, n4, by rw [show ((pc.toNat : Nat) : Int) = pc by omega]; rfl, upd_same, by omega, s0.seq q1, p1, l1, s0.seq q2, p2, l2, s0.seq q3, p3, l3, s0.seq q4, p4, l4, fun H1 L hL hC k1 => ⟨rfl, ?_⟩⟩
    subst hL
    have f1 : ∀ b o u, H b = some (.frz o u) → H1 b = some (.frz o u) := fun b o u e => k1 _ _ (k0 _ _ e) (ne_of_none e nx)
    refine ⟨_, rfl, L.c, L.dx, _, rfl, hC.obj, nf_push_pc.lk _ _, L, _, _, _, _, rfl, hC, ⟨rfl, rfl, rfl⟩, fun H2 hC2 e2 => ?_⟩
    refine ⟨_, rfl, _, _, rfl, rfl, _, rfl, L.c, C, L.dx, _, rfl, hC2.obj, T.cl, T.nP, (by show 5 < 1000; decide), ?_⟩
    have hz : Builtin.bitAnd pl 65535 = ((pl.toNat % 65536 % 65536 : Nat) : Int) := by
      rw [bAnd65535]
      omega
    have hC3 := hC2.putPc (q := pl.toNat % 65536) hz
    have f3 : ∀ b o u, H b = some (.frz o u) → upd H2 L.c (.ins C L.dx (putF "pc" (.int (Builtin.bitAnd pl 65535)) (flds L (Cm.pushPc ⟨pc.toNat, Ql29Neutral.memory 256 n1, Ql29Neutral.memory 128 n2, Ql29Neutral.memory 65536 n3, Ql29Neutral.memory 65536 n4⟩).pc))) b = some (.frz o u) := fun b o u e =>
      (e2.trans Ext.upd_c).frz hC (f1 _ _ _ e)
    revert hC3 f3
    generalize upd H2 L.c (.ins C L.dx (putF "pc" (.int (Builtin.bitAnd pl 65535)) (flds L (Cm.pushPc ⟨pc.toNat, Ql29Neutral.memory 256 n1, Ql29Neutral.memory 128 n2, Ql29Neutral.memory 65536 n3, Ql29Neutral.memory 65536 n4⟩).pc))) = H3
    intro hC3 f3
    refine ⟨by show 1 ≤ sizeLine; decide, fun l hl => ?_⟩
    have s4 : Same H3 (upd H3 l (.lst [.int 2])) := smNew hl
    refine ⟨_, rfl, _, rfl, L, _, a5, n5, rfl, hC3.new hl, s4.seq (frz_seq (x := l) hO f3 q5), p5, l5, fun H5 D s5 fD hD => ?_⟩
    refine ⟨l, D, _, _, rfl, rfl, s5 _ _ upd_same, hD, ?_, fun p hp => q _ p ?_⟩
    · simp only [List.length_cons, List.length_map, List.length_nil]
      omega
    · rw [upd_same, Cm.irq_eq hpc0 hpc1 p5 _ rfl]
      simp only [List.map_cons, List.map_map]
      rfl

/-! ### the end: what the top has written -/
theorem mat {nm qual : Str} {st : Stmt} {f : Addr} {oc : Value} {od an : Option Addr} {osl : Array (Option Value)} {kV doc pm cdv ct : Value} (a : PySem.W.findIn K (.ref C) nm = some (some (.ref f))) (i : PySem.W.isFn K (.ref f) = true)
    (l : K.lookup f = some ⟨oc, od, .func (PySem.W.fnOf nm qual (defArgs st) (defBody st) (defScope st) .none kV doc pm an cdv ct), osl⟩) (c : PySem.W.codeIn K cdv qual = true) (k : PySem.W.keepIn K (.ref f) = true) : MAt K C nm qual st := ⟨f, _, ⟨a, i, k⟩, fun_mk l c k⟩
theorem gat {h : Heap} {nm : Str} {st : Stmt} {f : Addr} {oc : Value} {od an : Option Addr} {osl : Array (Option Value)} {kV doc pm cdv ct : Value} (X : K.In h) (G : h.Ns mainGlobals mg) (a : PySem.W.nsIn K mainGlobals nm = some (some (.ref f)))
    (l : K.lookup f = some ⟨oc, od, .func (PySem.W.fnOf nm nm (defArgs st) (defBody st) (defScope st) .none kV doc pm an cdv ct), osl⟩) (c : PySem.W.codeIn K cdv nm = true) (k : PySem.W.keepIn K (.ref f) = true) : GAt K mg nm st := ⟨f, _, PySem.W.mg_of X G a, fun_mk l c k⟩
theorem iat {h : Heap} {nm : Str} {n : Int} {t : Tok} (X : K.In h) (G : h.Ns mainGlobals mg) (a : PySem.W.nsIn K mainGlobals nm = some (some (.int n t))) : IntG mg nm n := ⟨t, PySem.W.mg_of X G a⟩
theorem init_at {qual : Str} {st : Stmt} {f : Addr} {oc : Value} {od an : Option Addr} {osl : Array (Option Value)} {kV doc pm cdv ct : Value} (a : PySem.W.findIn K (.ref C) "__init__" = some (some (.ref f))) (i : PySem.W.isFn K (.ref f) = true)
    (l : K.lookup f = some ⟨oc, od, .func (PySem.W.fnOf "__init__" qual (defArgs st) (defBody st) (defScope st) .none kV doc pm an cdv ct), osl⟩) (c : PySem.W.codeIn K cdv qual = true) (k : PySem.W.keepIn K (.ref f) = true) :
    ∃ f fd, PySem.W.findIn K (.ref C) "__init__" = some (some (.ref f)) ∧ PySem.W.isFn K (.ref f) = true ∧ Fun K "__init__" qual st f fd := ⟨f, _, a, i, fun_mk l c k⟩

/-! ### the request -/
theorem req_int {K : PySem.W.Frag} {H : Hp} {v : V} {z : Int} (h : Dw K H v (.int z)) : v = .int z := by
  cases h
  rfl
theorem req_ints {K : PySem.W.Frag} {H : Hp} {v : V} {l : List Int} (h : Dw K H v (.list (l.map PySem.W.WData.int))) : ∃ a, v = .ref a ∧ SqL K H a (l.map V.int) := by
  cases h with
  | lst hs ha =>
    have e := ints_dw l _ ha
    subst e
    exact ⟨_, rfl, hs⟩
theorem req_len {n : Nat} {l : List Int} {p : Int → Bool} (h : (PySem.W.Codec.inLen 0 n l && l.all p) = true) : l.length ≤ n := by
  rw [Bool.and_eq_true] at h
  exact (PySem.W.Codec.inNat_iff.mp h.1).2
theorem req_at {lo hi x : Int} (h : PySem.W.Codec.inInt lo hi x = true) : lo ≤ x ∧ x ≤ hi := by
  unfold PySem.W.Codec.inInt at h
  simpa using h

theorem all_mk {h : Heap} {fa f9 : Addr} {oc : Value} {od an : Option Addr} {osl : Array (Option Value)} {kV doc pm cdv ct : Value} (X : K.In h) (G : h.Ns mainGlobals mg) (hfa : mg "c51_interrupt" = some (.ref fa))
    (aC : PySem.W.nsIn K mainGlobals "Chip" = some (some (.ref C)))
    (pg : PySem.W.plainGet K C Str.empty = true) (hd : PySem.W.hasDictIn K C = true) (po : PySem.W.plainOver K C = true) (sa : PySem.W.findIn K (.ref C) "__setattr__" = some (some (.builtin "object.__setattr__"))) (mk : PySem.W.makesIn K C = true) (kc : PySem.W.keepIn K (.ref C) = true)
    (nP : PySem.W.findIn K (.ref C) "pc" = some none) (nR : PySem.W.findIn K (.ref C) "ram" = some none) (nS : PySem.W.findIn K (.ref C) "special" = some none) (nC : PySem.W.findIn K (.ref C) "code" = some none) (nE : PySem.W.findIn K (.ref C) "ext" = some none)
    (mr : PySem.W.nsIn K mainGlobals "range" = some none) (ml : PySem.W.nsIn K mainGlobals "len" = some none) (gSP : IntG mg "SP" 129)
    (m0 : ∃ f fd, PySem.W.findIn K (.ref C) "__init__" = some (some (.ref f)) ∧ PySem.W.isFn K (.ref f) = true ∧ Fun K "__init__" "Chip.__init__" s___init__ f fd)
    (m1 : MAt K C "get" "Chip.get" s_get) (m2 : MAt K C "put" "Chip.put" s_put) (m3 : MAt K C "push" "Chip.push" s_push) (m4 : MAt K C "push_pc" "Chip.push_pc" s_push_pc) (m5 : MAt K C "look" "Chip.look" s_look)
    (g1 : GAt K mg "poked" s_poked) (g2 : GAt K mg "poked_dict" s_poked_dict) (g3 : GAt K mg "looked" s_looked)
    (a9 : PySem.W.nsIn K mainGlobals "c51_interrupt" = some (some (.ref f9))) (l9 : K.lookup f9 = some ⟨oc, od, .func (PySem.W.fnOf "c51_interrupt" "c51_interrupt" (defArgs s_c51_interrupt) (defBody s_c51_interrupt) (defScope s_c51_interrupt) .none kV doc pm an cdv ct), osl⟩) (c9 : PySem.W.codeIn K cdv "c51_interrupt" = true) (k9 : PySem.W.keepIn K (.ref f9) = true) :
    ∃ fd : FuncData, (∀ (s : Shared) (us : List Value), us.length = (["place", "pc", "ram", "sfr", "code", "ext", "looks"] : List Str).length → BindsTo s fd ⟨us, []⟩ ((["place", "pc", "ram", "sfr", "code", "ext", "looks"] : List Str).zip us)) ∧ ∀ base : Heap, K.In base → base.Ns mainGlobals mg → FnOk P w K mg base CX0 5 fa fd ["place", "pc", "ram", "sfr", "code", "ext", "looks"] (spIrq K) := by
  have e := hfa.symm.trans (PySem.W.mg_of X G a9)
  cases e
  have T : Txt K C := ⟨⟨pg, hd, po, sa⟩, nP, nR, nS, nC, nE⟩
  refine ⟨PySem.W.fnOf "c51_interrupt" "c51_interrupt" (defArgs s_c51_interrupt) (defBody s_c51_interrupt) (defScope s_c51_interrupt) .none kV doc pm an cdv ct, fun s us hu => match us, hu with | [_, _, _, _, _, _, _], _ => .of_eq rfl, fun base _ _ => ?_⟩
  have hmr := PySem.W.mg_none_of X G mr
  have hml := PySem.W.mg_none_of X G ml
  have o1 : MOk P w K mg base C "get" 1 _ _ := ok_get m1 T
  have o2 : MOk P w K mg base C "put" 1 _ _ := ok_put m2 T
  have o3 : MOk P w K mg base C "push" 2 _ _ := ok_push m3 T gSP o1 o2
  have o4 : MOk P w K mg base C "push_pc" 3 _ _ := ok_push_pc m4 T o3
  have o5 : MOk P w K mg base C "look" 1 _ _ := ok_look m5 T
  have o6 : GOk P w K mg base "poked" 1 _ _ := ok_poked g1 hmr hml
  have o7 : GOk P w K mg base "poked_dict" 1 _ _ := ok_poked_dict g2 hmr hml
  have o8 : GOk P w K mg base "looked" 2 _ _ := ok_looked g3 T o5
  exact ok_c51_interrupt (fun_mk l9 c9 k9) T mk kc (PySem.W.mg_of X G aC) ⟨ok_init m0 T o6 o7⟩ o4 o8

end
end Cw

open PySem PySem.W PyProof.Rows
set_option maxRecDepth 100000 in
set_option maxHeartbeats 8000000 in
theorem PySem.Challenge.cw_smallchip_s03_c51_interrupt_holds : PySem.Challenge.rw_smallchip_s03_c51_interrupt.Holds := by
  w_on; k_headS; (case hw => exact ⟨[.int 0, .int 0, .list [], .list [], .list [], .list [], .list []], by decide +kernel, by decide +kernel⟩)
  k_fillS
  refine L2.walk_specK (r := PySem.Challenge.rw_smallchip_s03_c51_interrupt) (k := 5) (CX := L2.CX0) (ps := ["place", "pc", "ram", "sfr", "code", "ext", "looks"]) (sp := Cw.spIrq) (by decide +kernel) rfl rfl ⟨rfl, by decide, by decide⟩ (fun w h Y => PySem.W.kIn_of Y) ?F ?S (fun _ _ _ _ z => z)
  case F =>
    intro w mg fa h Y KX G hmg
    refine' Cw.all_mk KX G hmg ?aC ?pg ?hd ?po ?sa ?mk ?kc ?nP ?nR ?nS ?nC ?nE ?mr ?ml ?gSP ?m0 ?m1 ?m2 ?m3 ?m4 ?m5 ?g1 ?g2 ?g3 ?a9 ?l9 ?c9 ?k9
    (case aC => k_is); (case pg => k_is); (case hd => k_is); (case po => k_is); (case sa => k_is); (case mk => k_is); (case kc => k_is)
    (case nP => k_is); (case nR => k_is); (case nS => k_is); (case nC => k_is); (case nE => k_is); (case mr => k_is); (case ml => k_is)
    (case gSP => refine' Cw.iat KX G ?a; (case a => k_is))
    (case m0 => refine' Cw.init_at ?a ?i ?l ?c ?k; (case a => k_is); (case i => k_is); (case l => k_is); (case c => k_is); (case k => k_is))
    (case m1 => refine' Cw.mat ?a ?i ?l ?c ?k; (case a => k_is); (case i => k_is); (case l => k_is); (case c => k_is); (case k => k_is))
    (case m2 => refine' Cw.mat ?a ?i ?l ?c ?k; (case a => k_is); (case i => k_is); (case l => k_is); (case c => k_is); (case k => k_is))
    (case m3 => refine' Cw.mat ?a ?i ?l ?c ?k; (case a => k_is); (case i => k_is); (case l => k_is); (case c => k_is); (case k => k_is))
    (case m4 => refine' Cw.mat ?a ?i ?l ?c ?k; (case a => k_is); (case i => k_is); (case l => k_is); (case c => k_is); (case k => k_is))
    (case m5 => refine' Cw.mat ?a ?i ?l ?c ?k; (case a => k_is); (case i => k_is); (case l => k_is); (case c => k_is); (case k => k_is))
    (case g1 => refine' Cw.gat KX G ?a ?l ?c ?k; (case a => k_is); (case l => k_is); (case c => k_is); (case k => k_is))
    (case g2 => refine' Cw.gat KX G ?a ?l ?c ?k; (case a => k_is); (case l => k_is); (case c => k_is); (case k => k_is))
    (case g3 => refine' Cw.gat KX G ?a ?l ?c ?k; (case a => k_is); (case l => k_is); (case c => k_is); (case k => k_is))
    (case a9 => k_is); (case l9 => k_is); (case c9 => k_is); (case k9 => k_is)
  case S =>
    intro K H xs a hO hwi hask hx
    obtain ⟨pl, pc, n1, n2, n3, n4, n5, u⟩ := a
    have hw : (Codec.inInt 0 4294967295 pl && (Codec.inInt 0 65535 pc && ((Codec.inLen 0 1000 n1 && n1.all (Codec.inInt 0 255)) && ((Codec.inLen 0 600 n2 && n2.all (Codec.inInt 0 255)) && ((Codec.inLen 0 40000 n3 && n3.all (Codec.inInt 0 65535)) && ((Codec.inLen 0 40000 n4 && n4.all (Codec.inInt 0 65535)) && ((Codec.inLen 0 40000 n5 && n5.all (Codec.inInt 0 65919)) && true))))))) = true := hwi
    have ha : (Ql29Neutral.natural pl 32 && Ql29Neutral.machine [pc] n1 n2 n3 n4 n5) = true := hask
    obtain ⟨c0, hw⟩ := Bool.and_eq_true_iff.mp hw
    obtain ⟨c1, hw⟩ := Bool.and_eq_true_iff.mp hw
    obtain ⟨l1, hw⟩ := Bool.and_eq_true_iff.mp hw
    obtain ⟨l2, hw⟩ := Bool.and_eq_true_iff.mp hw
    obtain ⟨l3, hw⟩ := Bool.and_eq_true_iff.mp hw
    obtain ⟨l4, hw⟩ := Bool.and_eq_true_iff.mp hw
    obtain ⟨l5, hw⟩ := Bool.and_eq_true_iff.mp hw
    obtain ⟨h1, h2, p1, p2, p3, p4, p5⟩ := Cm.machine_parts (Bool.and_eq_true_iff.mp ha).2
    cases hx with
    | cons d0 hx => cases hx with
    | cons d1 hx => cases hx with
    | cons d2 hx => cases hx with
    | cons d3 hx => cases hx with
    | cons d4 hx => cases hx with
    | cons d5 hx => cases hx with
    | cons d6 hx =>
      cases hx
      obtain rfl := Cw.req_int d0
      obtain rfl := Cw.req_int d1
      obtain ⟨a1, rfl, q1⟩ := Cw.req_ints d2
      obtain ⟨a2, rfl, q2⟩ := Cw.req_ints d3
      obtain ⟨a3, rfl, q3⟩ := Cw.req_ints d4
      obtain ⟨a4, rfl, q4⟩ := Cw.req_ints d5
      obtain ⟨a5, rfl, q5⟩ := Cw.req_ints d6
      have k1 := Cw.req_len l1
      have k2 := Cw.req_len l2
      exact ⟨pl, pc, a1, a2, a3, a4, a5, n1, n2, n3, n4, n5, rfl, (Cw.req_at c0).1, h1, h2, q1, p1, by omega, q2, p2, by omega, q3, p3, Cw.req_len l3, q4, p4, Cw.req_len l4, q5, p5, Cw.req_len l5,
        fun b => hO b |>.imp id fun ⟨o, u, z⟩ => ⟨o, u, z⟩, fun H' p hp => .lst (L2.SqL.of hp) (L2.dw_ints _)⟩
#print axioms PySem.Challenge.cw_smallchip_s03_c51_interrupt_holds
