import PyProof.Rows.All
import Wide.All
import OpenK.AllK
import Wide.FinOn
import Open.SpecLaws
import KE.OsGo
import HandS.ForSpec
import HandS.ForMost
import PySem.Challenge.RW_smallchip_s02_c51_run
set_option Elab.async false
set_option linter.all false
set_option maxRecDepth 100000
set_option maxHeartbeats 4000000
namespace Cm
open Ql29 (St at_ set_ sfr putSfr direct putDirect inside putInside a putA psw withBit flags C bank r putR dptr putDptr jump skip signed away bitPlace bit putBit push pop call back odd settled SP DPL DPH P2 PSW ACC BREG W)
/-! ### what holds of every state -/
structure WF (s : St) : Prop where
  pc : s.pc < 65536
  ram : s.ram.length = 256
  sfr : s.sfr.length = 128
  code : s.code.length = 65536
  ext : s.ext.length = 65536
theorem at_lt (l : List UInt8) (i : Nat) : at_ l i < 256 := (l.getD i 0).toNat_lt
theorem u8_of (v : Nat) : (UInt8.ofNat (v % 256)).toNat = v % 256 := by
  rw [UInt8.toNat_ofNat']
  omega
theorem set_len (l : List UInt8) (i v : Nat) : (set_ l i v).length = l.length := List.length_set
theorem at_set_same {l : List UInt8} {i v : Nat} (h : i < l.length) : at_ (set_ l i v) i = v % 256 := by
  unfold at_ set_
  rw [List.getD_eq_getElem?_getD, List.getElem?_set_self h]
  exact u8_of v
theorem at_set_ne {l : List UInt8} {i j v : Nat} (h : i ≠ j) : at_ (set_ l i v) j = at_ l j := by
  unfold at_ set_
  rw [List.getD_eq_getElem?_getD, List.getElem?_set_ne h, List.getD_eq_getElem?_getD]
theorem set_mod (l : List UInt8) (i v : Nat) : set_ l i (v % 256) = set_ l i v := by
  unfold set_
  rw [Nat.mod_mod]
theorem set_set (l : List UInt8) (i v w : Nat) : set_ (set_ l i v) i w = set_ l i w := by
  unfold set_
  rw [List.set_set]
theorem set_comm (l : List UInt8) {i j : Nat} (v w : Nat) (h : i ≠ j) : set_ (set_ l i v) j w = set_ (set_ l j w) i v := by
  unfold set_
  rw [List.set_comm _ _ h]
theorem set_at {l : List UInt8} {i : Nat} : set_ l i (at_ l i) = l := by
  unfold set_ at_
  have e : UInt8.ofNat ((l.getD i 0).toNat % 256) = l.getD i 0 := by
    apply UInt8.toNat_inj.mp
    rw [u8_of]
    exact Nat.mod_eq_of_lt (l.getD i 0).toNat_lt
  rw [e, List.getD_eq_getElem?_getD]
  by_cases h : i < l.length
  · rw [List.getElem?_eq_getElem h]
    simp
  · rw [List.set_eq_of_length_le (by omega)]
/-! ### special registers -/
theorem sfr_lt (s : St) (p : Nat) : sfr s p < 256 := at_lt _ _
theorem ins_lt (s : St) (p : Nat) : inside s p < 256 := at_lt _ _
theorem dir_lt (s : St) (p : Nat) : direct s p < 256 := by
  unfold direct
  split
  · exact at_lt _ _
  · exact at_lt _ _
theorem code_lt (s : St) (p : Nat) : Ql29.code s p < 256 := at_lt _ _
theorem a_lt (s : St) : a s < 256 := at_lt _ _
theorem put_mod (s : St) (p v : Nat) : putSfr s p (v % 256) = putSfr s p v := by
  unfold putSfr
  rw [set_mod]
theorem putA_mod (s : St) (v : Nat) : putA s (v % 256) = putA s v := put_mod s ACC v
theorem putI_mod (s : St) (p v : Nat) : putInside s p (v % 256) = putInside s p v := by
  unfold putInside
  rw [set_mod]
theorem putD_mod (s : St) (p v : Nat) : putDirect s p (v % 256) = putDirect s p v := by
  unfold putDirect
  rw [set_mod, put_mod]
theorem put_put (s : St) (p v w : Nat) : putSfr (putSfr s p v) p w = putSfr s p w := by
  unfold putSfr
  rw [set_set]
theorem put_comm (s : St) {p q : Nat} (v w : Nat) (h : p - 128 ≠ q - 128) : putSfr (putSfr s p v) q w = putSfr (putSfr s q w) p v := by
  unfold putSfr
  exact congrArg (fun z => ({ s with sfr := z } : St)) (set_comm _ _ _ h)
theorem sfr_put_ne (s : St) {p q : Nat} (v : Nat) (h : p - 128 ≠ q - 128) : sfr (putSfr s p v) q = sfr s q := at_set_ne h
theorem sfr_put_same {s : St} (w : WF s) {p : Nat} (v : Nat) (h : p < 256) : sfr (putSfr s p v) p = v % 256 := at_set_same (by rw [w.sfr]; omega)
theorem sfr_ram (s : St) (l : List UInt8) (p : Nat) : sfr { s with ram := l } p = sfr s p := rfl
/-! ### all keep WF -/
theorem WF.put {s : St} (w : WF s) (p v : Nat) : WF (putSfr s p v) := ⟨w.pc, w.ram, (set_len _ _ _).trans w.sfr, w.code, w.ext⟩
theorem WF.putA {s : St} (w : WF s) (v : Nat) : WF (putA s v) := w.put _ _
theorem WF.putI {s : St} (w : WF s) (p v : Nat) : WF (putInside s p v) := ⟨w.pc, (set_len _ _ _).trans w.ram, w.sfr, w.code, w.ext⟩
theorem WF.putD {s : St} (w : WF s) (p v : Nat) : WF (putDirect s p v) := by
  unfold putDirect
  split
  · exact ⟨w.pc, (set_len _ _ _).trans w.ram, w.sfr, w.code, w.ext⟩
  · exact w.put _ _
theorem WF.flags {s : St} (w : WF s) (l : List (Nat × Bool)) : WF (flags s l) := w.put _ _
theorem WF.jump {s : St} (w : WF s) (p : Nat) : WF (jump s p) := ⟨Nat.mod_lt _ (by decide), w.ram, w.sfr, w.code, w.ext⟩
theorem WF.skip {s : St} (w : WF s) (k : Nat) : WF (skip s k) := w.jump _
theorem WF.ext' {s : St} (w : WF s) (i v : Nat) : WF { s with ext := set_ s.ext i v } := ⟨w.pc, w.ram, w.sfr, w.code, (set_len _ _ _).trans w.ext⟩
theorem WF.push {s : St} (w : WF s) (v : Nat) : WF (push s v) := (w.put _ _).putI _ _
theorem WF.settled {s : St} (w : WF s) : WF (settled s) := w.put _ _
theorem skip0 {s : St} (w : WF s) : skip s 0 = s := by
  unfold skip jump
  rw [Nat.add_zero, show s.pc % W = s.pc from Nat.mod_eq_of_lt w.pc]
theorem skip_skip (s : St) : skip (skip s 1) 1 = skip s 2 := by
  unfold skip jump
  show ({ s with pc := ((s.pc + 1) % W + 1) % W } : St) = { s with pc := (s.pc + 2) % W }
  have e : ((s.pc + 1) % W + 1) % W = (s.pc + 2) % W := by
    unfold W
    omega
  rw [e]
theorem code_skip (s : St) : Ql29.code (skip s 1) (skip s 1).pc = Ql29.code s (s.pc + 1) := by
  unfold skip jump Ql29.code
  show at_ s.code ((s.pc + 1) % W % W) = at_ s.code ((s.pc + 1) % W)
  rw [Nat.mod_mod]
/-! ### one flag -/
theorem withBit_lt {v k : Nat} {b : Bool} (hv : v < 256) (hk : k < 8) : withBit v k b < 256 := by
  unfold withBit
  split
  · exact hv
  · rename_i h
    split
    · rename_i hb
      subst hb
      have hh : v.testBit k = false := by
        cases e : v.testBit k with
        | false => rfl
        | true => exact absurd e h
      revert hh
      have all : ∀ v < 256, ∀ k < 8, v.testBit k = false → v + 2 ^ k < 256 := by decide +kernel
      exact all v hv k hk
    · exact Nat.lt_of_le_of_lt (Nat.sub_le _ _) hv
theorem withBit_eq {v k : Nat} (b : Bool) (hv : v < 256) (hk : k < 8) : withBit v k b = (v &&& (255 ^^^ 2 ^ k)) ||| (if b = true then 2 ^ k else 0) := by
  have all : ∀ v < 256, ∀ k < 8, ∀ b : Bool, withBit v k b = (v &&& (255 ^^^ 2 ^ k)) ||| (if b = true then 2 ^ k else 0) := by decide +kernel
  exact all v hv k hk b
abbrev flag1 (s : St) (k : Nat) (b : Bool) : St := flags s [(k, b)]
theorem fold_lt {l : List (Nat × Bool)} : ∀ {v : Nat}, v < 256 → (∀ x ∈ l, x.1 < 8) → l.foldl (fun f x => withBit f x.1 x.2) v < 256 := by
  induction l with
  | nil => exact fun h _ => h
  | cons x l ih =>
    intro v hv hl
    exact ih (withBit_lt hv (hl x List.mem_cons_self)) fun y hy => hl y (List.mem_cons_of_mem _ hy)
theorem flags_flags {s : St} (w : WF s) (l m : List (Nat × Bool)) (hl : ∀ x ∈ l, x.1 < 8) : flags (flags s l) m = flags s (l ++ m) := by
  unfold flags
  rw [sfr_put_same w _ (by decide), put_put, List.foldl_append, Nat.mod_eq_of_lt (fold_lt (sfr_lt s PSW) hl)]
theorem flags_putSfr (s : St) (l : List (Nat × Bool)) {p : Nat} (v : Nat) (h : p - 128 ≠ PSW - 128) : flags (putSfr s p v) l = putSfr (flags s l) p v := by
  unfold flags
  rw [sfr_put_ne _ _ h, put_comm _ _ _ h]
theorem sfr_flags (s : St) (l : List (Nat × Bool)) {p : Nat} (h : PSW - 128 ≠ p - 128) : sfr (flags s l) p = sfr s p := sfr_put_ne _ _ h
end Cm

namespace Cm
open Ql29 (St at_ set_ sfr putSfr direct putDirect inside putInside a putA psw withBit flags C bank r putR dptr putDptr jump skip signed away bitPlace bit putBit push pop call back odd settled SP DPL DPH P2 PSW ACC BREG W)
/-! ### the program's defs, as functions of the state -/
def getP (s : St) (p : Bool × Nat) : Nat := if p.1 = true then direct s p.2 else inside s p.2
def putP (s : St) (p : Bool × Nat) (v : Nat) : St := if p.1 = true then putDirect s p.2 v else putInside s p.2 v
def fv (s : St) : Nat := Ql29.code s s.pc
def nx (s : St) : St := skip s 1
def opP (s : St) (k : Nat) : Bool × Nat := if k = 5 then (true, fv s) else if k < 8 then (false, r s (k % 2)) else (false, bank s + k % 8)
def opS (s : St) (k : Nat) : St := if k = 5 then nx s else s
def opV (s : St) (k : Nat) : Nat := if k = 4 then fv s else getP (opS s k) (opP s k)
def opT (s : St) (k : Nat) : St := if k = 4 then nx s else opS s k
def joined (row x y : Nat) : Nat := if row = 4 then x ||| y else if row = 5 then x &&& y else x ^^^ y
def stepI (x : Nat) (d : Int) : Nat := (((x : Int) + d) % 256).toNat
def countBy (s : St) (k : Nat) (d : Int) : St := if k = 4 then putA s (stepI (a s) d) else putP (opS s k) (opP s k) (stepI (getP (opS s k) (opP s k)) d)
def mAdd (s : St) (y c : Nat) : St := Ql29.add s y c
def mSub (s : St) (y : Nat) : St := Ql29.sub s y
def joinAdd (s : St) (op : Nat) : St :=
  let y := opV s (op % 16)
  let t := opT s (op % 16)
  if op / 16 = 2 then mAdd t y 0 else if op / 16 = 3 then mAdd t y (C t).toNat else if op / 16 = 9 then mSub t y else putA t (joined (op / 16) (a t) y)
def mul (s : St) : St := flags (putSfr (putA s (a s * sfr s BREG)) BREG (a s * sfr s BREG / 256)) [(7, false), (2, decide (255 < a s * sfr s BREG))]
def dvd (s : St) : St :=
  let t := flags s [(7, false), (2, decide (sfr s BREG = 0))]
  if 0 < sfr s BREG then putSfr (putA t (a s / sfr s BREG)) BREG (a s % sfr s BREG) else t
def row7 (s : St) (k : Nat) : St := if k = 4 then putA (nx s) (fv s) else putP (nx (opS s k)) (opP s k) (fv (opS s k))
def row8 (s : St) (k : Nat) : St := if k = 4 then dvd s else putDirect (nx (opS s k)) (fv (opS s k)) (getP (opS s k) (opP s k))
def row10 (s : St) (k : Nat) : St := if k = 4 then mul s else putP (nx (opS s k)) (opP s k) (direct (nx (opS s k)) (fv (opS s k)))
def jumpBy (s : St) (d : Nat) : St := jump s (away s.pc d)
def jumpIf (s : St) (b : Bool) : St := if b = true then jumpBy (nx s) (fv s) else nx s
def cmpEnd (s : St) (x y : Nat) : St := flag1 (jumpIf s (x != y)) 7 (decide (x < y))
def compare (s : St) (k : Nat) : St :=
  if k = 4 then cmpEnd (nx s) (a s) (fv s)
  else if k = 5 then cmpEnd (nx s) (a s) (direct (nx s) (fv s))
  else cmpEnd (nx (opS s k)) (getP (opS s k) (opP s k)) (fv (opS s k))
def exchange (s : St) (k : Nat) : St :=
  if k = 4 then putA s ((a s / 16) ||| (a s * 16)) else putA (putP (opS s k) (opP s k) (a s)) (getP (opS s k) (opP s k))
def row13 (s : St) (k : Nat) : St :=
  if k = 4 then Ql29.daa s
  else
    let p := opP s k
    let t := opS s k
    let v := getP t p
    if k = 6 ∨ k = 7 then putA (putP t p ((v &&& 240) ||| (a t &&& 15))) ((a t &&& 240) ||| (v &&& 15))
    else jumpIf (putP t p ((v + 255) % 256)) ((v + 255) % 256 != 0)
def row14 (s : St) (k : Nat) : St := if k = 4 then putA s 0 else putA (opS s k) (getP (opS s k) (opP s k))
def row15 (s : St) (k : Nat) : St := if k = 4 then putA s (255 ^^^ a s) else putP (opS s k) (opP s k) (a s)
def pushPc (s : St) : St := push (push s (s.pc % 256)) (s.pc / 256)
def pageGoal (s : St) (op : Nat) : Nat := ((nx s).pc &&& 63488) ||| (op / 32 * 256) ||| fv s
def pageJump (s : St) (op : Nat) : St := jump (if 0 < op &&& 16 then pushPc (nx s) else nx s) (pageGoal s op)
def bitJump (s : St) (row : Nat) : St :=
  let b := fv s
  let t := nx s
  let v := bit t b
  jumpIf (if row = 1 ∧ v = true then putBit t b false else t) (v == (row != 3))
def cwb (s : St) (isOr turned : Bool) : St :=
  let v := (bit (nx s) (fv s)) != turned
  flag1 (nx s) 7 (if isOr = true then C s || v else C s && v)
def newBit (row : Nat) (v : Bool) : Bool := if row = 11 then !v else row == 13
def moveOut (s : St) (row n : Nat) : St :=
  let p := 256 * sfr s P2 + r s n
  if row = 14 then putA s (at_ s.ext p) else { s with ext := set_ s.ext p (a s) }
def col0 (s : St) (row : Nat) : St :=
  if row = 1 ∨ row = 2 ∨ row = 3 then bitJump s row
  else if row = 4 ∨ row = 5 then jumpIf s (C s == (row == 4))
  else if row = 6 ∨ row = 7 then jumpIf s ((a s == 0) == (row == 6))
  else if row = 8 then jumpBy (nx s) (fv s)
  else if row = 9 then putSfr (putSfr (nx (nx s)) DPL (fv (nx s))) DPH (fv s)
  else if row = 10 ∨ row = 11 then cwb s (row == 10) true
  else if row = 12 then push (nx s) (direct (nx s) (fv s))
  else if row = 13 then putDirect (pop (nx s)).2 (fv s) (pop (nx s)).1
  else if row = 14 then putA s (at_ s.ext (dptr s))
  else if row = 15 then { s with ext := set_ s.ext (dptr s) (a s) }
  else s
def col2 (s : St) (row : Nat) : St :=
  if row = 0 ∨ row = 1 then jump (if row = 1 then pushPc (nx (nx s)) else nx (nx s)) (256 * fv s + fv (nx s))
  else if row = 2 ∨ row = 3 then back s
  else if row = 4 ∨ row = 5 ∨ row = 6 then putDirect (nx s) (fv s) (joined row (direct (nx s) (fv s)) (a s))
  else if row = 7 ∨ row = 8 then cwb s (row == 7) false
  else if row = 9 then putBit (nx s) (fv s) (C s)
  else if row = 10 then flag1 (nx s) 7 (bit (nx s) (fv s))
  else if row = 11 ∨ row = 12 ∨ row = 13 then putBit (nx s) (fv s) (newBit row (bit (nx s) (fv s)))
  else moveOut s row 0
def turnA (s : St) (row : Nat) : St :=
  if row = 0 then putA s ((a s / 2) ||| (a s * 128))
  else if row = 1 then flag1 (putA s ((a s / 2) ||| ((C s).toNat * 128))) 7 (a s % 2 == 1)
  else if row = 2 then putA s ((a s * 2) ||| (a s / 128))
  else flag1 (putA s ((a s * 2) ||| (C s).toNat)) 7 (a s / 128 == 1)
def col3 (s : St) (row : Nat) : St :=
  if row < 4 then turnA s row
  else if row < 7 then putDirect (nx (nx s)) (fv s) (joined row (direct (nx (nx s)) (fv s)) (fv (nx s)))
  else if row = 7 then jump s (dptr s + a s)
  else if row = 8 then putA s (Ql29.code s (s.pc + a s))
  else if row = 9 then putA s (Ql29.code s (dptr s + a s))
  else if row = 10 then putSfr (putSfr s DPL ((dptr s + 1) % 65536)) DPH ((dptr s + 1) % 65536 / 256)
  else if row = 11 ∨ row = 12 ∨ row = 13 then flag1 s 7 (newBit row (C s))
  else moveOut s row 1
def body (s : St) (op : Nat) : St :=
  let k := op % 16
  let h := op / 16
  if k = 0 then col0 s h
  else if k = 1 then pageJump s op
  else if k = 2 then col2 s h
  else if k = 3 then col3 s h
  else if h = 0 then countBy s k 1
  else if h = 1 then countBy s k (-1)
  else if h = 7 then row7 s k
  else if h = 8 then row8 s k
  else if h = 10 then row10 s k
  else if h = 11 then compare s k
  else if h = 12 then exchange s k
  else if h = 13 then row13 s k
  else if h = 14 then row14 s k
  else if h = 15 then row15 s k
  else joinAdd s op
def timeOf (op : Nat) : Nat :=
  let k := op % 16
  let h := op / 16
  if op = 132 ∨ op = 164 then 4
  else if k = 1 ∨ op ∈ [2, 18, 34, 50, 115, 131, 147, 163, 117, 67, 83, 99, 114, 130, 146, 213] then 2
  else if k = 0 then (if h = 0 then 1 else 2)
  else if (h = 14 ∨ h = 15) ∧ k < 4 then 2
  else if h = 11 ∧ 4 ≤ k then 2
  else if (h = 8 ∧ 5 ≤ k) ∨ (h = 10 ∧ 6 ≤ k) ∨ (h = 13 ∧ 8 ≤ k) then 2
  else 1
end Cm

namespace Cm
open Ql29 (St at_ set_ sfr putSfr direct putDirect inside putInside a putA psw withBit flags C bank r putR dptr putDptr jump skip signed away bitPlace bit putBit push pop call back odd settled SP DPL DPH P2 PSW ACC BREG W)
theorem nx_jump (s : St) : (nx s).pc = (s.pc + 1) % 65536 := rfl
theorem two_nx (s : St) : nx (nx s) = skip s 2 := skip_skip s
theorem fv_nx (s : St) : fv (nx s) = Ql29.code s (s.pc + 1) := code_skip s
theorem getP_nx (s : St) (p : Bool × Nat) : getP (nx s) p = getP s p := rfl
theorem getP_opS (s : St) (k : Nat) (p : Bool × Nat) : getP (opS s k) p = getP s p := by
  unfold opS
  split <;> rfl
theorem opV_eq (s : St) {k : Nat} (h4 : 4 ≤ k) (h16 : k < 16) : (Ql29.operand s k).1 = opV s k := by
  unfold opV Ql29.operand
  by_cases e4 : k = 4
  · rw [if_pos e4, if_pos e4]; rfl
  rw [if_neg e4, if_neg e4, getP_opS]
  unfold opP
  by_cases e5 : k = 5
  · rw [if_pos e5, if_pos e5]; rfl
  rw [if_neg e5, if_neg e5]
  by_cases e8 : k < 8
  · rw [if_pos e8, if_pos e8]
    have e : k % 2 = k - 6 := by omega
    rw [e]; rfl
  · rw [if_neg e8, if_neg e8]
    have e : k % 8 = k - 8 := by omega
    rw [e]; rfl
theorem opT_eq {s : St} (w : WF s) {k : Nat} : skip s (Ql29.operand s k).2 = opT s k := by
  unfold opT opS Ql29.operand
  by_cases e4 : k = 4
  · rw [if_pos e4, if_pos e4]; rfl
  rw [if_neg e4, if_neg e4]
  by_cases e5 : k = 5
  · rw [if_pos e5, if_pos e5]; rfl
  rw [if_neg e5, if_neg e5]
  split <;> exact skip0 w
theorem getP_op (s : St) {k : Nat} (h : 5 ≤ k) : getP (opS s k) (opP s k) = opV s k := by
  unfold opV
  rw [if_neg (by omega)]
theorem opS_T (s : St) {k : Nat} (h : 5 ≤ k) : opS s k = opT s k := by
  unfold opT
  rw [if_neg (by omega)]
/-- putOperand, in any state with the same ram and sfr -/
theorem putP_eq (s t : St) {k : Nat} (h4 : 5 ≤ k) (h16 : k < 16) (v : Nat) (er : t.ram = s.ram) (es : t.sfr = s.sfr) : putP t (opP s k) v = Ql29.putOperand t k (fv s) v := by
  unfold Ql29.putOperand opP putP
  by_cases e5 : k = 5
  · rw [if_pos e5, if_pos e5]; rfl
  rw [if_neg e5, if_neg e5]
  have eb : bank t = bank s := by unfold bank sfr; rw [es]
  by_cases e8 : k < 8
  · rw [if_pos e8, if_pos e8]
    have e : k % 2 = k - 6 := by omega
    have ei : r t (k - 6) = r s (k - 6) := by unfold r inside; rw [eb, er]
    rw [e, ei]; rfl
  · rw [if_neg e8, if_neg e8]
    have e : k % 8 = k - 8 := by omega
    unfold putR
    rw [e, eb]; rfl
theorem opS_ram (s : St) (k : Nat) : (opS s k).ram = s.ram := by
  unfold opS
  split <;> rfl
theorem opS_sfr (s : St) (k : Nat) : (opS s k).sfr = s.sfr := by
  unfold opS
  split <;> rfl
theorem opS_ne {s : St} {k : Nat} (h : k ≠ 5) : opS s k = s := if_neg h
theorem opV_lt (s : St) (k : Nat) : opV s k < 256 := by
  unfold opV
  split
  · exact at_lt _ _
  · unfold getP
    split
    · exact dir_lt _ _
    · exact at_lt _ _
/-! ### times -/
theorem time_all : ∀ op < 256, (timeOf op =
   (if op % 16 = 1 then 2 else if 4 ≤ op % 16 ∧ (op / 16 = 2 ∨ op / 16 = 3 ∨ op / 16 = 4 ∨ op / 16 = 5 ∨ op / 16 = 6 ∨ op / 16 = 9) then 1
    else if 5 ≤ op % 16 ∧ (op / 16 = 0 ∨ op / 16 = 1) then 1
    else if 5 ≤ op % 16 ∧ op / 16 = 7 then (if op % 16 = 5 then 2 else 1)
    else if 5 ≤ op % 16 ∧ op / 16 = 8 then 2
    else if 6 ≤ op % 16 ∧ op / 16 = 10 then 2
    else if 4 ≤ op % 16 ∧ op / 16 = 11 then 2
    else if 5 ≤ op % 16 ∧ op / 16 = 12 then 1
    else if op / 16 = 13 ∧ (op % 16 = 6 ∨ op % 16 = 7) then 1
    else if op / 16 = 13 ∧ 5 ≤ op % 16 then 2
    else if 5 ≤ op % 16 ∧ op / 16 = 14 then 1
    else if 5 ≤ op % 16 ∧ op / 16 = 15 then 1
    else timeOf op)) := by decide +kernel
end Cm

namespace Cm
open Ql29 (St at_ set_ sfr putSfr direct putDirect inside putInside a putA psw withBit flags C bank r putR dptr putDptr jump skip signed away bitPlace bit putBit push pop call back odd settled SP DPL DPH P2 PSW ACC BREG W)
/-! ### bytes -/
theorem or_add : ∀ x < 16, ∀ y < 16, (x * 16 ||| y) = x * 16 + y := by decide +kernel
theorem swap_or : ∀ x < 256, ((x / 16) ||| (x * 16)) % 256 = (x / 16 + x % 16 * 16) % 256 := by decide +kernel
theorem and240 : ∀ v < 256, v &&& 240 = v / 16 * 16 := by decide +kernel
theorem and15 : ∀ v < 256, v &&& 15 = v % 16 := by decide +kernel
theorem xch1 (v : Nat) (hv : v < 256) (x : Nat) (hx : x < 256) : ((v &&& 240) ||| (x &&& 15)) = v / 16 * 16 + x % 16 := by
  rw [and240 v hv, and15 x hx]
  exact or_add _ (by omega) _ (by omega)
theorem cplA : ∀ x < 256, 255 ^^^ x = 255 - x := by decide +kernel
theorem rr : ∀ x < 256, ((x / 2) ||| (x * 128)) % 256 = (x / 2 + x % 2 * 128) % 256 := by decide +kernel
theorem rrc : ∀ x < 256, ∀ c : Bool, ((x / 2) ||| (c.toNat * 128)) = (x / 2 + c.toNat * 128) := by decide +kernel
theorem rl : ∀ x < 256, ((x * 2) ||| (x / 128)) = (x * 2 + x / 128) := by decide +kernel
theorem rlc : ∀ x < 256, ∀ c : Bool, ((x * 2) ||| c.toNat) = (x * 2 + c.toNat) := by decide +kernel
theorem bit0 : ∀ x < 256, (x % 2 == 1) = x.testBit 0 := by decide +kernel
theorem bit7 : ∀ x < 256, (x / 128 == 1) = x.testBit 7 := by decide +kernel
theorem put_congr (s : St) (p : Nat) {v w : Nat} (h : v % 256 = w % 256) : putSfr s p v = putSfr s p w := by rw [← put_mod s p v, h, put_mod]
theorem putA_congr (s : St) {v w : Nat} (h : v % 256 = w % 256) : putA s v = putA s w := put_congr s ACC h
theorem putD_congr (s : St) (p : Nat) {v w : Nat} (h : v % 256 = w % 256) : putDirect s p v = putDirect s p w := by rw [← putD_mod s p v, h, putD_mod]
theorem putP_congr (s : St) (p : Bool × Nat) {v w : Nat} (h : v % 256 = w % 256) : putP s p v = putP s p w := by
  unfold putP
  rw [putD_congr s p.2 h, ← putI_mod s p.2 v, h, putI_mod]
theorem step_up {x : Nat} : stepI x 1 % 256 = (x + 1) % 256 := by unfold stepI; omega
theorem step_down {x : Nat} : stepI x (-1) % 256 = (x + 255) % 256 := by unfold stepI; omega
theorem byte_dec (x : Nat) : stepI x (-1) = (x + 255) % 256 := by unfold stepI; omega
/-! ### the groups -/
theorem gA {s : St} (w : WF s) {op : Nat} (hk : 4 ≤ op % 16) (hh : op / 16 = 2 ∨ op / 16 = 3 ∨ op / 16 = 4 ∨ op / 16 = 5 ∨ op / 16 = 6 ∨ op / 16 = 9) : Ql29.did s op = some (joinAdd s op, 1) := by
  unfold Ql29.did
  dsimp only
  rw [if_neg (by omega), if_pos ⟨hk, hh⟩, opV_eq s hk (Nat.mod_lt _ (by decide)), opT_eq w]
  unfold joinAdd
  dsimp only
  have ea : a (opT s (op % 16)) = a s := by
    unfold opT
    split
    · rfl
    · unfold a sfr; rw [opS_sfr]
  have eC : C (opT s (op % 16)) = C s := by
    unfold opT
    split
    · rfl
    · unfold C psw sfr; rw [opS_sfr]
  rw [ea, eC]
  rcases hh with e | e | e | e | e | e <;> rw [e] <;> rfl
theorem gB {s : St} (w : WF s) {op : Nat} (hk : 5 ≤ op % 16) (hh : op / 16 = 0 ∨ op / 16 = 1) : Ql29.did s op = some (countBy s (op % 16) (if op / 16 = 0 then 1 else -1), 1) := by
  unfold Ql29.did
  dsimp only
  rw [if_neg (by omega), if_neg (by omega), if_pos ⟨hk, hh⟩, opV_eq s (by omega) (Nat.mod_lt _ (by decide)), opT_eq w]
  unfold countBy
  have h4 : ¬ op % 16 = 4 := by omega
  rw [if_neg h4, putP_eq s _ hk (Nat.mod_lt _ (by decide)) _ (opS_ram _ _) (opS_sfr _ _), getP_op s hk, opS_T s hk]
  have e : ∀ t v u, v % 256 = u % 256 → Ql29.putOperand t (op % 16) (fv s) v = Ql29.putOperand t (op % 16) (fv s) u := fun t v u h => by
    unfold Ql29.putOperand
    rw [putD_congr t _ h]
    have e1 : ∀ p, putInside t p v = putInside t p u := fun p => by rw [← putI_mod t p v, h, putI_mod]
    unfold putR
    rw [e1, e1]
  rcases hh with e0 | e0
  · rw [if_pos e0, if_pos e0]
    exact congrArg (fun z => some (z, 1)) (e _ _ _ step_up.symm)
  · rw [if_neg (by omega), if_neg (by omega)]
    exact congrArg (fun z => some (z, 1)) (e _ _ _ step_down.symm)
theorem nx2 (s : St) : skip s 2 = nx (nx s) := (two_nx s).symm
theorem fv2 (s : St) : Ql29.code s (s.pc + 1) = fv (nx s) := (fv_nx s).symm
theorem gC {s : St} (w : WF s) {op : Nat} (hk : 5 ≤ op % 16) (hh : op / 16 = 7) : Ql29.did s op = some (row7 s (op % 16), if op % 16 = 5 then 2 else 1) := by
  unfold Ql29.did
  dsimp only
  rw [if_neg (by omega), if_neg (by omega), if_neg (by omega), if_pos ⟨hk, hh⟩]
  unfold row7
  have h4 : ¬ op % 16 = 4 := by omega
  rw [if_neg h4]
  by_cases e5 : op % 16 = 5
  · rw [if_pos e5, if_pos e5, e5, nx2, fv2]
    rfl
  · rw [if_neg e5, if_neg e5, putP_eq s _ hk (Nat.mod_lt _ (by decide)) _ (by show (nx (opS s (op % 16))).ram = _; exact opS_ram _ _) (by show (nx (opS s (op % 16))).sfr = _; exact opS_sfr _ _), opS_ne e5]
    unfold Ql29.putOperand
    rw [if_neg e5, if_neg e5]
    rfl
theorem gD {s : St} (w : WF s) {op : Nat} (hk : 5 ≤ op % 16) (hh : op / 16 = 8) : Ql29.did s op = some (row8 s (op % 16), 2) := by
  unfold Ql29.did
  dsimp only
  rw [if_neg (by omega), if_neg (by omega), if_neg (by omega), if_neg (by omega), if_pos ⟨hk, hh⟩]
  unfold row8
  have h4 : ¬ op % 16 = 4 := by omega
  rw [if_neg h4, getP_op s hk, opV_eq s (by omega) (Nat.mod_lt _ (by decide))]
  by_cases e5 : op % 16 = 5
  · rw [if_pos e5, e5, nx2, fv2]
    rfl
  · rw [if_neg e5, opS_ne e5]
    rfl
theorem gE {s : St} (w : WF s) {op : Nat} (hk : 6 ≤ op % 16) (hh : op / 16 = 10) : Ql29.did s op = some (row10 s (op % 16), 2) := by
  unfold Ql29.did
  dsimp only
  rw [if_neg (by omega), if_neg (by omega), if_neg (by omega), if_neg (by omega), if_neg (by omega), if_pos ⟨hk, hh⟩]
  unfold row10
  have e5 : op % 16 ≠ 5 := by omega
  have h4 : ¬ op % 16 = 4 := by omega
  rw [if_neg h4, putP_eq s _ (by omega) (Nat.mod_lt _ (by decide)) _ (by show (nx (opS s (op % 16))).ram = _; exact opS_ram _ _) (by show (nx (opS s (op % 16))).sfr = _; exact opS_sfr _ _), opS_ne e5]
  unfold Ql29.putOperand
  rw [if_neg e5, if_neg e5]
  rfl
theorem unlike_eq (t : St) (x y : Nat) : Ql29.unlike (nx t) x y (fv t) = cmpEnd t x y := by
  unfold Ql29.unlike cmpEnd jumpIf
  dsimp only
  by_cases e : x = y
  · subst e
    rw [if_neg (by simp), if_neg (by simp)]
  · rw [if_pos e, if_pos (by simp [e])]
    rfl
theorem gF {s : St} (w : WF s) {op : Nat} (hk : 4 ≤ op % 16) (hh : op / 16 = 11) : Ql29.did s op = some (compare s (op % 16), 2) := by
  unfold Ql29.did
  dsimp only
  rw [if_neg (by omega), if_neg (by omega), if_neg (by omega), if_neg (by omega), if_neg (by omega), if_neg (by omega), if_pos ⟨hk, hh⟩]
  unfold compare
  rw [← unlike_eq, ← unlike_eq, ← unlike_eq, nx2, fv2]
  by_cases e4 : op % 16 = 4
  · rw [if_pos e4, if_pos e4]
    rfl
  rw [if_neg e4, if_neg e4]
  by_cases e5 : op % 16 = 5
  · rw [if_pos e5, if_pos e5]
    rfl
  rw [if_neg e5, if_neg e5, getP_op s (by omega), opS_ne e5, opV_eq s hk (Nat.mod_lt _ (by decide))]
  rfl
end Cm

namespace Cm
open Ql29 (St at_ set_ sfr putSfr direct putDirect inside putInside a putA psw withBit flags C bank r putR dptr putDptr jump skip signed away bitPlace bit putBit push pop call back odd settled SP DPL DPH P2 PSW ACC BREG W)
theorem putO_congr (t : St) (k n : Nat) {v u : Nat} (h : v % 256 = u % 256) : Ql29.putOperand t k n v = Ql29.putOperand t k n u := by
  unfold Ql29.putOperand
  rw [putD_congr t _ h]
  have e1 : ∀ p, putInside t p v = putInside t p u := fun p => by rw [← putI_mod t p v, h, putI_mod]
  unfold putR
  rw [e1, e1]
theorem gG {s : St} (w : WF s) {op : Nat} (hk : 5 ≤ op % 16) (hh : op / 16 = 12) : Ql29.did s op = some (exchange s (op % 16), 1) := by
  unfold Ql29.did
  dsimp only
  rw [if_neg (by omega), if_neg (by omega), if_neg (by omega), if_neg (by omega), if_neg (by omega), if_neg (by omega), if_neg (by omega), if_pos ⟨hk, hh⟩]
  unfold exchange
  have h4 : ¬ op % 16 = 4 := by omega
  rw [if_neg h4, getP_op s hk, opV_eq s (by omega) (Nat.mod_lt _ (by decide)), opT_eq w, putP_eq s _ hk (Nat.mod_lt _ (by decide)) _ (opS_ram _ _) (opS_sfr _ _), opS_T s hk]
  rfl
theorem gH1 {s : St} {op : Nat} (hk : op % 16 = 6 ∨ op % 16 = 7) (hh : op / 16 = 13) : Ql29.did s op = some (row13 s (op % 16), 1) := by
  unfold Ql29.did
  dsimp only
  have h16 : op % 16 < 16 := Nat.mod_lt _ (by decide)
  have h4 : ¬ op % 16 = 4 := by omega
  have h5 : ¬ op % 16 = 5 := by omega
  rw [if_neg (by omega), if_neg (by omega), if_neg (by omega), if_neg (by omega), if_neg (by omega), if_neg (by omega), if_neg (by omega), if_neg (by omega), if_pos ⟨hh, hk⟩]
  unfold row13
  dsimp only
  rw [if_neg h4, if_pos hk, getP_op s (by omega), opV_eq s (by omega) h16, putP_eq s _ (by omega) h16 _ (opS_ram _ _) (opS_sfr _ _), opS_ne h5]
  rw [xch1 _ (opV_lt _ _) _ (a_lt _), xch1 _ (a_lt _) _ (opV_lt _ _)]
  unfold Ql29.putOperand
  rw [if_neg h5, if_neg h5]
theorem jumpIf_eq (s : St) (b : Bool) : jumpIf s b = if b = true then jump (nx s) (away (nx s).pc (fv s)) else nx s := rfl
theorem nx_putD (s : St) (p v : Nat) : nx (putDirect s p v) = putDirect (nx s) p v := by
  unfold putDirect
  split <;> rfl
theorem fv_putD (s : St) (p v : Nat) : fv (putDirect s p v) = fv s := by
  unfold putDirect
  split <;> rfl
theorem gH2 {s : St} {op : Nat} (hk : 5 ≤ op % 16) (h6 : ¬ (op % 16 = 6 ∨ op % 16 = 7)) (hh : op / 16 = 13) : Ql29.did s op = some (row13 s (op % 16), 2) := by
  unfold Ql29.did
  dsimp only
  have h16 : op % 16 < 16 := Nat.mod_lt _ (by decide)
  have h4 : ¬ op % 16 = 4 := by omega
  rw [if_neg (by omega), if_neg (by omega), if_neg (by omega), if_neg (by omega), if_neg (by omega), if_neg (by omega), if_neg (by omega), if_neg (by omega), if_neg (by omega)]
  unfold row13
  dsimp only
  rw [if_neg h4, if_neg h6, getP_op s hk, putP_eq s _ hk h16 _ (opS_ram _ _) (opS_sfr _ _), jumpIf_eq]
  by_cases h5 : op % 16 = 5
  · rw [if_pos ⟨hh, h5⟩, h5, nx2, fv2]
    show _ = some (if ((direct s (fv s) + 255) % 256 != 0) = true then jump (nx (putDirect (nx s) (fv s) ((direct s (fv s) + 255) % 256))) (away (nx (putDirect (nx s) (fv s) ((direct s (fv s) + 255) % 256))).pc (fv (putDirect (nx s) (fv s) ((direct s (fv s) + 255) % 256)))) else nx (putDirect (nx s) (fv s) ((direct s (fv s) + 255) % 256)), 2)
    rw [nx_putD, fv_putD]
    rfl
  · have h8 : 8 ≤ op % 16 := by omega
    have hn5 : ¬ (op / 16 = 13 ∧ op % 16 = 5) := fun z => h5 z.2
    rw [if_neg hn5, if_pos ⟨hh, h8⟩, opS_ne h5]
    have e : opV s (op % 16) = r s (op % 16 - 8) := by
      rw [← opV_eq s (by omega) h16]
      unfold Ql29.operand
      have h7 : ¬ op % 16 < 8 := by omega
      rw [if_neg h4, if_neg h5, if_neg h7]
    rw [e]
    unfold Ql29.putOperand
    have h7 : ¬ op % 16 < 8 := by omega
    rw [if_neg h5, if_neg h7]
    rfl
theorem gI {s : St} (w : WF s) {op : Nat} (hk : 5 ≤ op % 16) (hh : op / 16 = 14) : Ql29.did s op = some (row14 s (op % 16), 1) := by
  unfold Ql29.did
  dsimp only
  have h16 : op % 16 < 16 := Nat.mod_lt _ (by decide)
  have h4 : ¬ op % 16 = 4 := by omega
  rw [if_neg (by omega), if_neg (by omega), if_neg (by omega), if_neg (by omega), if_neg (by omega), if_neg (by omega), if_neg (by omega), if_neg (by omega), if_neg (by omega), if_neg (by omega), if_neg (by omega), if_pos ⟨hk, hh⟩]
  unfold row14
  rw [if_neg h4, getP_op s hk, opS_T s hk, opT_eq w, opV_eq s (by omega) h16]
theorem gJ {s : St} {op : Nat} (hk : 5 ≤ op % 16) (hh : op / 16 = 15) : Ql29.did s op = some (row15 s (op % 16), 1) := by
  unfold Ql29.did
  dsimp only
  have h16 : op % 16 < 16 := Nat.mod_lt _ (by decide)
  have h4 : ¬ op % 16 = 4 := by omega
  rw [if_neg (by omega), if_neg (by omega), if_neg (by omega), if_neg (by omega), if_neg (by omega), if_neg (by omega), if_neg (by omega), if_neg (by omega), if_neg (by omega), if_neg (by omega), if_neg (by omega), if_neg (by omega), if_pos ⟨hk, hh⟩]
  unfold row15
  rw [if_neg h4, putP_eq s _ hk h16 _ (opS_ram _ _) (opS_sfr _ _)]
  rfl
/-! ### the calls of two pages -/
theorem goal_eq : ∀ n < 256, ∀ g < 8, (g * 256 ||| n) = g * 256 + n := by decide +kernel
theorem page_or (p n g : Nat) (hp : p < 65536) (hn : n < 256) (hg : g < 8) : (p &&& 63488) ||| (g * 256) ||| n = p / 2048 * 2048 + g * 256 + n := by
  have e1 : (p &&& 63488) = p / 2048 * 2048 := by
    have h := Nat.and_two_pow_sub_one_eq_mod p 11
    apply Nat.eq_of_testBit_eq
    intro i
    rw [Nat.testBit_and, show p / 2048 * 2048 = (p >>> 11) <<< 11 by rw [Nat.shiftRight_eq_div_pow, Nat.shiftLeft_eq], Nat.testBit_shiftLeft, Nat.testBit_shiftRight]
    by_cases hi : i < 16
    · have all : ∀ i < 16, Nat.testBit 63488 i = decide (11 ≤ i) := by decide +kernel
      rw [all i hi]
      by_cases h11 : 11 ≤ i
      · rw [decide_eq_true h11, Bool.and_true, Bool.true_and, Nat.add_sub_cancel' h11]
      · simp [h11]
    · have z : p.testBit i = false := Nat.testBit_lt_two_pow (Nat.lt_of_lt_of_le (show p < 2 ^ 16 from hp) (Nat.pow_le_pow_right (show 0 < 2 by decide) (Nat.le_of_not_lt hi)))
      have h11 : 11 ≤ i := by omega
      rw [z, Bool.false_and, Nat.add_sub_cancel' h11, z, Bool.and_false]
  rw [Nat.or_assoc, goal_eq n hn g hg, e1]
  have hlow : g * 256 + n < 2 ^ 11 := by omega
  have h2 := Nat.two_pow_add_eq_or_of_lt hlow (p / 2048)
  rw [show p / 2048 * 2048 = 2 ^ 11 * (p / 2048) by omega, ← h2]
  omega
theorem gK {s : St} {op : Nat} (h256 : op < 256) (hk : op % 16 = 1) : Ql29.did s op = some (pageJump s op, 2) := by
  unfold Ql29.did
  dsimp only
  rw [if_pos hk]
  unfold pageJump pageGoal
  have hp : (nx s).pc < 65536 := Nat.mod_lt _ (by decide)
  have hf : fv s < 256 := code_lt _ _
  rw [page_or _ _ _ hp hf (by omega)]
  have all : ∀ op < 256, (0 < op &&& 16) = ¬ (op / 16 % 2 = 0) := by decide +kernel
  by_cases e : op / 16 % 2 = 0
  · have n : ¬ 0 < op &&& 16 := by rw [all op h256]; exact fun z => z e
    rw [if_pos e, if_neg n]
    rfl
  · have n : 0 < op &&& 16 := by rw [all op h256]; exact e
    rw [if_neg e, if_pos n]
    rfl
end Cm

namespace Cm
open Ql29 (St at_ set_ sfr putSfr direct putDirect inside putInside a putA psw withBit flags C bank r putR dptr putDptr jump skip signed away bitPlace bit putBit push pop call back odd settled SP DPL DPH P2 PSW ACC BREG W)
theorem nx_putB (s : St) (p : Nat) (v : Bool) : nx (putBit s p v) = putBit (nx s) p v := by
  unfold putBit
  rw [nx_putD]
  rfl
theorem fv_putB (s : St) (p : Nat) (v : Bool) : fv (putBit s p v) = fv s := by
  unfold putBit
  rw [fv_putD]
theorem c00 (s : St) : Ql29.did s 0x00 = some (col0 s 0, 1) := rfl
theorem c10 (s : St) : Ql29.did s 0x10 = some (col0 s 1, 2) := by
  show some (if bit s (fv s) = true then jump (putBit (skip s 2) (fv s) false) (away (putBit (skip s 2) (fv s) false).pc (Ql29.code s (s.pc + 1))) else skip s 2, 2) = some (jumpIf (if 1 = 1 ∧ bit (nx s) (fv s) = true then putBit (nx s) (fv s) false else nx s) (bit (nx s) (fv s) == true), 2)
  rw [nx2, fv2, jumpIf_eq]
  by_cases e : bit s (fv s) = true
  · have e' : bit (nx s) (fv s) = true := e
    rw [if_pos e, if_pos (show 1 = 1 ∧ bit (nx s) (fv s) = true from ⟨rfl, e'⟩), if_pos (by rw [e']; rfl), nx_putB, fv_putB]
  · have e' : bit (nx s) (fv s) = false := by
      have z : bit s (fv s) = false := by simpa using e
      exact z
    have n : ¬ (1 = 1 ∧ bit (nx s) (fv s) = true) := fun z => e z.2
    rw [if_neg e, if_neg (by rw [e']; decide), if_neg n]
theorem c20 (s : St) : Ql29.did s 0x20 = some (col0 s 2, 2) := by
  show some (if bit s (fv s) = true then jump (skip s 2) (away (skip s 2).pc (Ql29.code s (s.pc + 1))) else skip s 2, 2) = some (jumpIf (nx s) (bit s (fv s) == true), 2)
  rw [nx2, fv2, jumpIf_eq]
  cases e : bit s (fv s) <;> rfl
theorem c30 (s : St) : Ql29.did s 0x30 = some (col0 s 3, 2) := by
  show some (if (!(bit s (fv s))) = true then jump (skip s 2) (away (skip s 2).pc (Ql29.code s (s.pc + 1))) else skip s 2, 2) = some (jumpIf (nx s) (bit s (fv s) == false), 2)
  rw [nx2, fv2, jumpIf_eq]
  cases e : bit s (fv s) <;> rfl
theorem c40 (s : St) : Ql29.did s 0x40 = some (col0 s 4, 2) := by
  show some (if C s = true then jump (nx s) (away (nx s).pc (fv s)) else nx s, 2) = some (jumpIf s (C s == true), 2)
  rw [jumpIf_eq]
  cases e : C s <;> rfl
theorem c50 (s : St) : Ql29.did s 0x50 = some (col0 s 5, 2) := by
  show some (if (!(C s)) = true then jump (nx s) (away (nx s).pc (fv s)) else nx s, 2) = some (jumpIf s (C s == false), 2)
  rw [jumpIf_eq]
  cases e : C s <;> rfl
theorem c60 (s : St) : Ql29.did s 0x60 = some (col0 s 6, 2) := by
  show some (if (a s == 0) = true then jump (nx s) (away (nx s).pc (fv s)) else nx s, 2) = some (jumpIf s ((a s == 0) == true), 2)
  rw [jumpIf_eq]
  cases e : a s == 0 <;> rfl
theorem c70 (s : St) : Ql29.did s 0x70 = some (col0 s 7, 2) := by
  show some (if (!(a s == 0)) = true then jump (nx s) (away (nx s).pc (fv s)) else nx s, 2) = some (jumpIf s ((a s == 0) == false), 2)
  rw [jumpIf_eq]
  cases e : a s == 0 <;> rfl
theorem c80 (s : St) : Ql29.did s 0x80 = some (col0 s 8, 2) := rfl
theorem put_dptr (t : St) (h l : Nat) (hl : l < 256) (hh : h < 256) : putDptr t (256 * h + l) = putSfr (putSfr t DPL l) DPH h := by
  unfold putDptr
  rw [put_comm _ _ _ (show DPL - 128 ≠ DPH - 128 by decide), show (256 * h + l) / 256 % 256 = h by omega, show (256 * h + l) % 256 = l by omega]
theorem c90 (s : St) : Ql29.did s 0x90 = some (col0 s 9, 2) := by
  show some (putDptr (skip s 2) (256 * fv s + Ql29.code s (s.pc + 1)), 2) = some (putSfr (putSfr (nx (nx s)) DPL (fv (nx s))) DPH (fv s), 2)
  rw [nx2, fv2, put_dptr _ _ _ (show fv (nx s) < 256 from code_lt _ _) (show fv s < 256 from code_lt _ _)]
theorem cA0 (s : St) : Ql29.did s 0xA0 = some (col0 s 10, 2) := by
  show some (flags (nx s) [(7, C s || !(bit s (fv s)))], 2) = some (flags (nx s) [(7, C s || (bit s (fv s) != true))], 2)
  cases bit s (fv s) <;> rfl
theorem cB0 (s : St) : Ql29.did s 0xB0 = some (col0 s 11, 2) := by
  show some (flags (nx s) [(7, C s && !(bit s (fv s)))], 2) = some (flags (nx s) [(7, C s && (bit s (fv s) != true))], 2)
  cases bit s (fv s) <;> rfl
theorem cC0 (s : St) : Ql29.did s 0xC0 = some (col0 s 12, 2) := rfl
theorem cD0 (s : St) : Ql29.did s 0xD0 = some (col0 s 13, 2) := rfl
theorem cE0 (s : St) : Ql29.did s 0xE0 = some (col0 s 14, 2) := rfl
theorem cF0 (s : St) : Ql29.did s 0xF0 = some (col0 s 15, 2) := rfl
theorem c02 (s : St) : Ql29.did s 0x02 = some (col2 s 0, 2) := by
  show some (jump s (256 * fv s + Ql29.code s (s.pc + 1)), 2) = some (jump (nx (nx s)) (256 * fv s + fv (nx s)), 2)
  rw [fv2]
  rfl
theorem c12 (s : St) : Ql29.did s 0x12 = some (col2 s 1, 2) := by
  show some (call (skip s 2) (256 * fv s + Ql29.code s (s.pc + 1)), 2) = some (jump (pushPc (nx (nx s))) (256 * fv s + fv (nx s)), 2)
  rw [fv2, nx2]
  rfl
theorem c22 (s : St) : Ql29.did s 0x22 = some (col2 s 2, 2) := rfl
theorem c32 (s : St) : Ql29.did s 0x32 = some (col2 s 3, 2) := rfl
theorem c42 (s : St) : Ql29.did s 0x42 = some (col2 s 4, 1) := rfl
theorem c52 (s : St) : Ql29.did s 0x52 = some (col2 s 5, 1) := rfl
theorem c62 (s : St) : Ql29.did s 0x62 = some (col2 s 6, 1) := rfl
theorem c72 (s : St) : Ql29.did s 0x72 = some (col2 s 7, 2) := by
  show some (flags (nx s) [(7, C s || bit s (fv s))], 2) = some (flags (nx s) [(7, C s || (bit s (fv s) != false))], 2)
  cases bit s (fv s) <;> rfl
theorem c82 (s : St) : Ql29.did s 0x82 = some (col2 s 8, 2) := by
  show some (flags (nx s) [(7, C s && bit s (fv s))], 2) = some (flags (nx s) [(7, C s && (bit s (fv s) != false))], 2)
  cases bit s (fv s) <;> rfl
theorem c92 (s : St) : Ql29.did s 0x92 = some (col2 s 9, 2) := rfl
theorem cA2 (s : St) : Ql29.did s 0xA2 = some (col2 s 10, 1) := rfl
theorem cB2 (s : St) : Ql29.did s 0xB2 = some (col2 s 11, 1) := rfl
theorem cC2 (s : St) : Ql29.did s 0xC2 = some (col2 s 12, 1) := rfl
theorem cD2 (s : St) : Ql29.did s 0xD2 = some (col2 s 13, 1) := rfl
theorem cE2 (s : St) : Ql29.did s 0xE2 = some (col2 s 14, 2) := rfl
theorem cF2 (s : St) : Ql29.did s 0xF2 = some (col2 s 15, 2) := rfl
theorem c03 (s : St) : Ql29.did s 0x03 = some (col3 s 0, 1) := by
  show some (putA s (a s / 2 + a s % 2 * 128), 1) = some (putA s ((a s / 2) ||| (a s * 128)), 1)
  rw [putA_congr s (rr _ (a_lt s))]
theorem c13 (s : St) : Ql29.did s 0x13 = some (col3 s 1, 1) := by
  show some (flags (putA s (a s / 2 + (C s).toNat * 128)) [(7, (a s).testBit 0)], 1) = some (flags (putA s ((a s / 2) ||| ((C s).toNat * 128))) [(7, a s % 2 == 1)], 1)
  rw [rrc _ (a_lt s), bit0 _ (a_lt s)]
theorem c23 (s : St) : Ql29.did s 0x23 = some (col3 s 2, 1) := by
  show some (putA s (a s * 2 + a s / 128), 1) = some (putA s ((a s * 2) ||| (a s / 128)), 1)
  rw [rl _ (a_lt s)]
theorem c33 (s : St) : Ql29.did s 0x33 = some (col3 s 3, 1) := by
  show some (flags (putA s (a s * 2 + (C s).toNat)) [(7, (a s).testBit 7)], 1) = some (flags (putA s ((a s * 2) ||| (C s).toNat)) [(7, a s / 128 == 1)], 1)
  rw [rlc _ (a_lt s), bit7 _ (a_lt s)]
theorem c43 (s : St) : Ql29.did s 0x43 = some (col3 s 4, 2) := by
  show some (putDirect (skip s 2) (fv s) (direct s (fv s) ||| Ql29.code s (s.pc + 1)), 2) = some (putDirect (nx (nx s)) (fv s) (direct s (fv s) ||| fv (nx s)), 2)
  rw [nx2, fv2]
theorem c53 (s : St) : Ql29.did s 0x53 = some (col3 s 5, 2) := by
  show some (putDirect (skip s 2) (fv s) (direct s (fv s) &&& Ql29.code s (s.pc + 1)), 2) = some (putDirect (nx (nx s)) (fv s) (direct s (fv s) &&& fv (nx s)), 2)
  rw [nx2, fv2]
theorem c63 (s : St) : Ql29.did s 0x63 = some (col3 s 6, 2) := by
  show some (putDirect (skip s 2) (fv s) (direct s (fv s) ^^^ Ql29.code s (s.pc + 1)), 2) = some (putDirect (nx (nx s)) (fv s) (direct s (fv s) ^^^ fv (nx s)), 2)
  rw [nx2, fv2]
theorem c73 (s : St) : Ql29.did s 0x73 = some (col3 s 7, 2) := by
  show some (jump s (a s + dptr s), 2) = some (jump s (dptr s + a s), 2)
  rw [Nat.add_comm]
theorem c83 (s : St) : Ql29.did s 0x83 = some (col3 s 8, 2) := by
  show some (putA s (Ql29.code s (a s + s.pc)), 2) = some (putA s (Ql29.code s (s.pc + a s)), 2)
  rw [Nat.add_comm]
theorem c93 (s : St) : Ql29.did s 0x93 = some (col3 s 9, 2) := by
  show some (putA s (Ql29.code s (a s + dptr s)), 2) = some (putA s (Ql29.code s (dptr s + a s)), 2)
  rw [Nat.add_comm]
theorem cA3 (s : St) : Ql29.did s 0xA3 = some (col3 s 10, 2) := by
  show some (putDptr s ((dptr s + 1) % 65536), 2) = some (putSfr (putSfr s DPL ((dptr s + 1) % 65536)) DPH ((dptr s + 1) % 65536 / 256), 2)
  unfold putDptr
  rw [put_comm _ _ _ (show DPL - 128 ≠ DPH - 128 by decide), put_mod, put_mod]
theorem cB3 (s : St) : Ql29.did s 0xB3 = some (col3 s 11, 1) := rfl
theorem cC3 (s : St) : Ql29.did s 0xC3 = some (col3 s 12, 1) := rfl
theorem cD3 (s : St) : Ql29.did s 0xD3 = some (col3 s 13, 1) := rfl
theorem cE3 (s : St) : Ql29.did s 0xE3 = some (col3 s 14, 2) := rfl
theorem cF3 (s : St) : Ql29.did s 0xF3 = some (col3 s 15, 2) := rfl
theorem c04 (s : St) : Ql29.did s 0x04 = some (countBy s 4 1, 1) := by
  show some (putA s (a s + 1), 1) = some (putA s (stepI (a s) 1), 1)
  rw [putA_congr s step_up]
theorem c14 (s : St) : Ql29.did s 0x14 = some (countBy s 4 (-1), 1) := by
  show some (putA s (a s + 255), 1) = some (putA s (stepI (a s) (-1)), 1)
  rw [putA_congr s step_down]
theorem c74 (s : St) : Ql29.did s 0x74 = some (row7 s 4, 1) := rfl
theorem c84 (s : St) : Ql29.did s 0x84 = some (row8 s 4, 4) := by
  show some (if sfr s BREG = 0 then flags s [(7, false), (2, true)] else flags (putSfr (putA s (a s / sfr s BREG)) BREG (a s % sfr s BREG)) [(7, false), (2, false)], 4) = some (dvd s, 4)
  unfold dvd
  dsimp only
  by_cases e : sfr s BREG = 0
  · rw [if_pos e, if_neg (by omega), decide_eq_true e]
  · rw [if_neg e, if_pos (by omega), decide_eq_false e]
    unfold putA
    rw [flags_putSfr _ _ _ (show BREG - 128 ≠ PSW - 128 by decide), flags_putSfr _ _ _ (show ACC - 128 ≠ PSW - 128 by decide)]
theorem cA4 (s : St) : Ql29.did s 0xA4 = some (row10 s 4, 4) := by
  show some (flags (putSfr (putA s (a s * sfr s BREG % 256)) BREG (a s * sfr s BREG / 256)) [(7, false), (2, decide (256 ≤ a s * sfr s BREG))], 4) = some (mul s, 4)
  unfold mul
  rw [putA_mod]
  rfl
theorem cC4 (s : St) : Ql29.did s 0xC4 = some (exchange s 4, 1) := by
  show some (putA s (a s / 16 + a s % 16 * 16), 1) = some (putA s ((a s / 16) ||| (a s * 16)), 1)
  rw [putA_congr s (swap_or _ (a_lt s))]
theorem cD4 (s : St) : Ql29.did s 0xD4 = some (row13 s 4, 1) := rfl
theorem cE4 (s : St) : Ql29.did s 0xE4 = some (row14 s 4, 1) := rfl
theorem cF4 (s : St) : Ql29.did s 0xF4 = some (row15 s 4, 1) := by
  show some (putA s (255 - a s), 1) = some (putA s (255 ^^^ a s), 1)
  rw [cplA _ (a_lt s)]
theorem cA5 (s : St) : Ql29.did s 0xA5 = none := rfl
/-! ### all of them -/
theorem did_eq {s : St} (w : WF s) {op : Nat} (h : op < 256) (hn : op ≠ 165) : Ql29.did s op = some (body s op, timeOf op) := by
  have ht := time_all op h
  by_cases k1 : op % 16 = 1
  · rw [gK h k1, ht, if_pos k1]
    unfold body
    dsimp only
    rw [if_neg (by omega), if_pos k1]
  rw [if_neg k1] at ht
  by_cases k4 : 5 ≤ op % 16
  · have n0 : ¬ op % 16 = 0 := by omega
    have n2 : ¬ op % 16 = 2 := by omega
    have n3 : ¬ op % 16 = 3 := by omega
    have n4 : 4 ≤ op % 16 := by omega
    unfold body
    dsimp only
    rw [if_neg n0, if_neg k1, if_neg n2, if_neg n3]
    have hc : op / 16 = 0 ∨ op / 16 = 1 ∨ (op / 16 = 2 ∨ op / 16 = 3 ∨ op / 16 = 4 ∨ op / 16 = 5 ∨ op / 16 = 6 ∨ op / 16 = 9) ∨ op / 16 = 7 ∨ op / 16 = 8 ∨ op / 16 = 10 ∨ op / 16 = 11 ∨ op / 16 = 12 ∨ op / 16 = 13 ∨ op / 16 = 14 ∨ op / 16 = 15 := by omega
    rcases hc with e | e | e | e | e | e | e | e | e | e | e
    · rw [gB w k4 (Or.inl e), ht, e]
      simp [k4]
    · rw [gB w k4 (Or.inr e), ht, e]
      simp [k4]
    · rw [gA w n4 e, ht]
      rcases e with e | e | e | e | e | e <;> simp [e, n4]
    · rw [gC w k4 e, ht, e]
      simp [k4]
    · rw [gD w k4 e, ht, e]
      simp [k4]
    · rw [gE w (by omega) e, ht, e]
      simp [show 6 ≤ op % 16 by omega]
    · rw [gF w n4 e, ht, e]
      simp [n4]
    · rw [gG w k4 e, ht, e]
      simp [k4]
    · by_cases h6 : op % 16 = 6 ∨ op % 16 = 7
      · rw [gH1 h6 e, ht, e]
        simp [h6]
      · rw [gH2 k4 h6 e, ht, e]
        simp [k4, h6]
    · rw [gI w k4 e, ht, e]
      simp [k4]
    · rw [gJ k4 e, ht, e]
      simp [k4]
  · have hk : op % 16 = 0 ∨ op % 16 = 2 ∨ op % 16 = 3 ∨ op % 16 = 4 := by omega
    clear ht
    obtain ⟨g, hg⟩ : ∃ g, g = op / 16 := ⟨_, rfl⟩
    have hg16 : g < 16 := by omega
    rcases hk with e | e | e | e
    · obtain rfl : op = 16 * g := by omega
      clear hg e k4 k1 hn h
      match g, hg16 with
      | 0, _ => exact c00 s
      | 1, _ => exact c10 s
      | 2, _ => exact c20 s
      | 3, _ => exact c30 s
      | 4, _ => exact c40 s
      | 5, _ => exact c50 s
      | 6, _ => exact c60 s
      | 7, _ => exact c70 s
      | 8, _ => exact c80 s
      | 9, _ => exact c90 s
      | 10, _ => exact cA0 s
      | 11, _ => exact cB0 s
      | 12, _ => exact cC0 s
      | 13, _ => exact cD0 s
      | 14, _ => exact cE0 s
      | 15, _ => exact cF0 s
      | n + 16, h => exact absurd h (by omega)
    · obtain rfl : op = 16 * g + 2 := by omega
      clear hg e k4 k1 hn h
      match g, hg16 with
      | 0, _ => exact c02 s
      | 1, _ => exact c12 s
      | 2, _ => exact c22 s
      | 3, _ => exact c32 s
      | 4, _ => exact c42 s
      | 5, _ => exact c52 s
      | 6, _ => exact c62 s
      | 7, _ => exact c72 s
      | 8, _ => exact c82 s
      | 9, _ => exact c92 s
      | 10, _ => exact cA2 s
      | 11, _ => exact cB2 s
      | 12, _ => exact cC2 s
      | 13, _ => exact cD2 s
      | 14, _ => exact cE2 s
      | 15, _ => exact cF2 s
      | n + 16, h => exact absurd h (by omega)
    · obtain rfl : op = 16 * g + 3 := by omega
      clear hg e k4 k1 hn h
      match g, hg16 with
      | 0, _ => exact c03 s
      | 1, _ => exact c13 s
      | 2, _ => exact c23 s
      | 3, _ => exact c33 s
      | 4, _ => exact c43 s
      | 5, _ => exact c53 s
      | 6, _ => exact c63 s
      | 7, _ => exact c73 s
      | 8, _ => exact c83 s
      | 9, _ => exact c93 s
      | 10, _ => exact cA3 s
      | 11, _ => exact cB3 s
      | 12, _ => exact cC3 s
      | 13, _ => exact cD3 s
      | 14, _ => exact cE3 s
      | 15, _ => exact cF3 s
      | n + 16, h => exact absurd h (by omega)
    · obtain rfl : op = 16 * g + 4 := by omega
      clear hg e k4 k1 hn h
      match g, hg16 with
      | 0, _ => exact c04 s
      | 1, _ => exact c14 s
      | 2, _ => exact gA w (op := 0x24) (by decide) (by decide)
      | 3, _ => exact gA w (op := 0x34) (by decide) (by decide)
      | 4, _ => exact gA w (op := 0x44) (by decide) (by decide)
      | 5, _ => exact gA w (op := 0x54) (by decide) (by decide)
      | 6, _ => exact gA w (op := 0x64) (by decide) (by decide)
      | 7, _ => exact c74 s
      | 8, _ => exact c84 s
      | 9, _ => exact gA w (op := 0x94) (by decide) (by decide)
      | 10, _ => exact cA4 s
      | 11, _ => exact gF w (op := 0xB4) (by decide) (by decide)
      | 12, _ => exact cC4 s
      | 13, _ => exact cD4 s
      | 14, _ => exact cE4 s
      | 15, _ => exact cF4 s
      | n + 16, h => exact absurd h (by omega)
end Cm

namespace Cm
open Ql29 (St at_ set_)
/-! ### pokes -/
def pokeL : List UInt8 → List Int → List UInt8
  | l, a :: b :: r => pokeL (set_ l a.toNat b.toNat) r
  | l, _ => l
theorem u8_mod (v : Nat) : UInt8.ofNat (v % 256) = UInt8.ofNat v := by
  apply UInt8.toNat_inj.mp
  rw [UInt8.toNat_ofNat', UInt8.toNat_ofNat']
  omega
theorem poke_eq : ∀ (r : List Int) (l : List UInt8), (Ql29Neutral.poke l.toArray r).toList = pokeL l r
  | [], l => rfl
  | [_], l => rfl
  | a :: b :: r, l => by
    show (Ql29Neutral.poke (l.toArray.setIfInBounds a.toNat (UInt8.ofNat b.toNat)) r).toList = pokeL (set_ l a.toNat b.toNat) r
    rw [List.setIfInBounds_toArray, poke_eq r]
    unfold set_
    rw [u8_mod]
theorem memory_eq (n : Nat) (r : List Int) : Ql29Neutral.memory n r = pokeL (List.replicate n 0) r := by
  unfold Ql29Neutral.memory
  exact poke_eq r _
theorem pokeL_len : ∀ (r : List Int) (l : List UInt8), (pokeL l r).length = l.length
  | [], l => rfl
  | [_], l => rfl
  | a :: b :: r, l => by
    show (pokeL (set_ l a.toNat b.toNat) r).length = l.length
    rw [pokeL_len r, set_len]
theorem memory_len (n : Nat) (r : List Int) : (Ql29Neutral.memory n r).length = n := by
  rw [memory_eq, pokeL_len, List.length_replicate]
theorem pokes_cons {z a b : Int} {r : List Int} (h : Ql29Neutral.pokes z (a :: b :: r) = true) : 0 ≤ a ∧ a ≤ z - 1 ∧ 0 ≤ b ∧ b ≤ 255 ∧ Ql29Neutral.pokes z r = true := by
  have h' : (NeutralIO.within a 0 (z - 1) && (NeutralIO.within b 0 255 && Ql29Neutral.pokes z r)) = true := h
  unfold NeutralIO.within at h'
  simp only [Bool.and_eq_true, decide_eq_true_eq] at h'
  exact ⟨h'.1.1, h'.1.2, h'.2.1.1, h'.2.1.2, h'.2.2⟩
theorem pokes_len : ∀ {z : Int} {r : List Int}, Ql29Neutral.pokes z r = true → ∃ k, r.length = 2 * k
  | _, [], _ => ⟨0, rfl⟩
  | _, [_], h => by cases (show false = true from h)
  | z, a :: b :: r, h => by
    obtain ⟨k, hk⟩ := pokes_len (pokes_cons h).2.2.2.2
    exact ⟨k + 1, by simp only [List.length_cons]; omega⟩
/-- the rest of the pokes behind i turns -/
theorem drop_two {ns : List Int} {i : Nat} (h : 2 * i + 1 < ns.length) : ns.drop (2 * i) = ns[2 * i] :: ns[2 * i + 1] :: ns.drop (2 * (i + 1)) := by
  rw [List.drop_eq_getElem_cons (show 2 * i < ns.length by omega), List.drop_eq_getElem_cons (show 2 * i + 1 < ns.length by omega)]
  rfl
theorem wf_of {pc : Int} {ram sfr code ext : List Int} (h0 : 0 ≤ pc) (h1 : pc ≤ 65535) : WF ⟨pc.toNat, Ql29Neutral.memory 256 ram, Ql29Neutral.memory 128 sfr, Ql29Neutral.memory 65536 code, Ql29Neutral.memory 65536 ext⟩ :=
  ⟨by show pc.toNat < 65536; omega, memory_len _ _, memory_len _ _, memory_len _ _, memory_len _ _⟩
end Cm

namespace Cm
open Ql29 (St at_ set_)
/-! ### looks -/
/-- the byte that a look asks for -/
def lookV (m : St) (n : Nat) : Nat := if n < 256 then at_ m.ram n else if n < 384 then at_ m.sfr (n - 256) else at_ m.ext (n - 384)
theorem look_eq {m : St} (w : WF m) {n : Nat} (h : n < 65920) : ((m.ram ++ m.sfr ++ m.ext).toArray.getD n 0).toNat = lookV m n := by
  have e : (m.ram ++ m.sfr ++ m.ext).toArray.getD n 0 = ((m.ram ++ m.sfr ++ m.ext)[n]?).getD 0 := by
    rw [Array.getD_eq_getD_getElem?, List.getElem?_toArray]
  rw [e]
  unfold lookV at_
  have h1 := w.ram
  have h2 := w.sfr
  by_cases a1 : n < 256
  · rw [if_pos a1, List.append_assoc, List.getElem?_append_left (by omega), List.getD_eq_getElem?_getD]
  · rw [if_neg a1]
    by_cases a2 : n < 384
    · rw [if_pos a2, List.getElem?_append_left (by rw [List.length_append]; omega), List.getElem?_append_right (by omega), List.getD_eq_getElem?_getD, h1]
    · rw [if_neg a2, List.getElem?_append_right (by rw [List.length_append]; omega), List.getD_eq_getElem?_getD, List.length_append, h1, h2]
/-- the answer behind the first numbers -/
theorem told_eq {m : St} (w : WF m) (t : List Nat) {looks : List Int} (h : ∀ x ∈ looks, 0 ≤ x ∧ x ≤ 65919) : Ql29Neutral.told m t looks = t.map (fun (x : Nat) => (x : Int)) ++ (m.pc : Int) :: looks.map fun x => (lookV m x.toNat : Int) := by
  unfold Ql29Neutral.told
  dsimp only
  unfold Ql29Neutral.ints
  rw [List.map_append, List.append_assoc]
  have e : looks.map (fun (x : Int) => (((m.ram ++ m.sfr ++ m.ext).toArray.getD x.toNat 0).toNat : Int)) = looks.map fun x => (lookV m x.toNat : Int) := by
    apply List.map_congr_left
    intro x hx
    obtain ⟨h1, h2⟩ := h x hx
    rw [look_eq w (by omega)]
  rw [e]
  rfl
theorem call_eq (s : St) (p : Nat) : Ql29.call s p = Ql29.jump (pushPc s) p := rfl
theorem WF.pushPc {s : St} (w : WF s) : WF (pushPc s) := (w.push _).push _
theorem irq_eq {place pc : Int} {ram sfr code ext looks : List Int} (h0 : 0 ≤ pc) (h1 : pc ≤ 65535) (h : ∀ x ∈ looks, 0 ≤ x ∧ x ≤ 65919) (s : St) (hs : s = ⟨pc.toNat, Ql29Neutral.memory 256 ram, Ql29Neutral.memory 128 sfr, Ql29Neutral.memory 65536 code, Ql29Neutral.memory 65536 ext⟩) :
    PyQl29.c51_interrupt place pc ram sfr code ext looks = 2 :: (((Ql29.jump (pushPc s) (place.toNat % 65536)).pc : Nat) : Int) :: looks.map fun x => (lookV (Ql29.jump (pushPc s) (place.toNat % 65536)) x.toNat : Int) := by
  have w : WF s := by rw [hs]; exact wf_of h0 h1
  show 2 :: Ql29Neutral.told (Ql29.call ⟨pc.toNat, Ql29Neutral.memory 256 ram, Ql29Neutral.memory 128 sfr, Ql29Neutral.memory 65536 code, Ql29Neutral.memory 65536 ext⟩ (place.toNat % 65536)) [] looks = _
  rw [← hs, call_eq, told_eq ((w.pushPc).jump _) [] h]
  rfl
theorem machine_parts {pc : Int} {ram sfr code ext looks : List Int} (h : Ql29Neutral.machine [pc] ram sfr code ext looks = true) : 0 ≤ pc ∧ pc ≤ 65535 ∧ Ql29Neutral.pokes 256 ram = true ∧ Ql29Neutral.pokes 128 sfr = true ∧ Ql29Neutral.pokes 65536 code = true ∧ Ql29Neutral.pokes 65536 ext = true ∧ ∀ x ∈ looks, 0 ≤ x ∧ x ≤ 65919 := by
  unfold Ql29Neutral.machine at h
  simp only [Bool.and_eq_true] at h
  obtain ⟨_, h1, h2, h3, h4, h5, h6⟩ := h
  have h1 : (Ql29Neutral.natural pc 16 && true) = true := h1
  unfold Ql29Neutral.natural at h1
  simp only [Bool.and_eq_true, decide_eq_true_eq] at h1
  refine ⟨h1.1.1, by have := h1.1.2; omega, h2, h3, h4, h5, fun x hx => ?_⟩
  have q := List.all_eq_true.mp h6 x hx
  unfold NeutralIO.within at q
  simp only [Bool.and_eq_true, decide_eq_true_eq] at q
  exact q
end Cm

namespace Cm
open Ql29 (St at_ set_ sfr putSfr direct putDirect inside putInside a putA psw withBit flags C bank r putR dptr putDptr jump skip signed away bitPlace bit putBit push pop call back odd settled SP DPL DPH P2 PSW ACC BREG W)
/-! ### sums and differences -/
theorem and128 (n : Nat) : (0 < n &&& 128) ↔ n / 128 % 2 = 1 := by
  have hb : n.testBit 7 = decide (n / 128 % 2 = 1) := Nat.testBit_eq_decide_div_mod_eq
  have h128 : ∀ i, Nat.testBit 128 i = decide (i = 7) := fun i => by
    rw [show (128 : Nat) = 2 ^ 7 from rfl, Nat.testBit_two_pow]
    by_cases h : i = 7
    · subst h
      rfl
    · rw [decide_eq_false h, decide_eq_false (fun q => h q.symm)]
  constructor
  · intro h
    cases e : n.testBit 7 with
    | true =>
      rw [e] at hb
      exact of_decide_eq_true hb.symm
    | false =>
      have z : n &&& 128 = 0 := by
        apply Nat.eq_of_testBit_eq
        intro i
        rw [Nat.zero_testBit, Nat.testBit_and, h128]
        by_cases hi : i = 7
        · subst hi
          rw [e]
          rfl
        · rw [decide_eq_false hi, Bool.and_false]
      omega
  · intro h
    rw [decide_eq_true h] at hb
    cases Nat.eq_zero_or_pos (n &&& 128) with
    | inr h => exact h
    | inl z =>
      have q : (n &&& 128).testBit 7 = true := by
        rw [Nat.testBit_and, hb, h128]
        rfl
      rw [z, Nat.zero_testBit] at q
      cases q
theorem top_xor (x y : Nat) : (x ^^^ y) / 128 % 2 = (x / 128 + y / 128) % 2 := by
  rw [show (128 : Nat) = 2 ^ 7 from rfl, ← Nat.shiftRight_eq_div_pow, Nat.shiftRight_xor_distrib, Nat.shiftRight_eq_div_pow, Nat.shiftRight_eq_div_pow]
  have h := @Nat.xor_mod_two_eq_one (x / 2 ^ 7) (y / 2 ^ 7)
  omega
theorem top_and (x y : Nat) : ((x &&& y) / 128 % 2 = 1) ↔ (x / 128 % 2 = 1 ∧ y / 128 % 2 = 1) := by
  rw [show (128 : Nat) = 2 ^ 7 from rfl, ← Nat.shiftRight_eq_div_pow, Nat.shiftRight_and_distrib, Nat.and_mod_two_eq_one, Nat.shiftRight_eq_div_pow, Nat.shiftRight_eq_div_pow]
theorem signed_of {v : Nat} (h : v < 256) : signed v = if v < 128 then (v : Int) else (v : Int) - 256 := by
  unfold signed
  rw [Nat.mod_eq_of_lt h]
theorem add_ov {x y c : Nat} (hx : x < 256) (hy : y < 256) (hc : c ≤ 1) : decide (0 < ((x ^^^ (x + y + c)) &&& (y ^^^ (x + y + c))) &&& 128) = decide (signed ((x + y + c) % 256) ≠ signed x + signed y + c) := by
  rw [signed_of hx, signed_of hy, signed_of (Nat.mod_lt _ (by decide))]
  apply decide_eq_decide.mpr
  rw [and128, top_and, top_xor, top_xor]
  split <;> split <;> split <;> omega
theorem sub_ov {x y c : Nat} (hx : x < 256) (hy : y < 256) (hc : c ≤ 1) : decide (0 < ((x ^^^ y) &&& (x ^^^ ((x + 512 - y - c) % 256))) &&& 128) = decide (signed ((x + 512 - y - c) % 256) ≠ signed x - signed y - c) := by
  rw [signed_of hx, signed_of hy, signed_of (Nat.mod_lt _ (by decide))]
  apply decide_eq_decide.mpr
  rw [and128, top_and, top_xor, top_xor]
  split <;> split <;> split <;> omega
theorem xor255 : ∀ t < 256, 255 - t = 255 ^^^ t := by decide +kernel
/-- what f has in common with the ones' complement -/
theorem and_compl {f t : Nat} (hf : f < 256) (ht : t < 256) : f - (f &&& (255 - t)) = f &&& t := by
  have e : (f &&& (255 - t)) ^^^ (f &&& t) = f := by
    rw [xor255 t ht, ← Nat.and_xor_distrib_left, Nat.xor_assoc, Nat.xor_self, Nat.xor_zero]
    have h := Nat.and_two_pow_sub_one_eq_mod f 8
    rw [show (2 ^ 8 - 1 : Nat) = 255 from rfl, show (2 ^ 8 : Nat) = 256 from rfl] at h
    rw [h, Nat.mod_eq_of_lt hf]
  have z : (f &&& (255 - t)) &&& (f &&& t) = 0 := by
    rw [xor255 t ht]
    apply Nat.eq_of_testBit_eq
    intro i
    rw [Nat.zero_testBit, Nat.testBit_and, Nat.testBit_and, Nat.testBit_and, Nat.testBit_xor]
    by_cases hi : i < 8
    · have all : ∀ i < 8, Nat.testBit 255 i = true := by decide +kernel
      rw [all i hi]
      cases f.testBit i <;> cases t.testBit i <;> rfl
    · have hz : f.testBit i = false := Nat.testBit_lt_two_pow (Nat.lt_of_lt_of_le (show f < 2 ^ 8 from hf) (Nat.pow_le_pow_right (show 0 < 2 by decide) (Nat.le_of_not_lt hi)))
      rw [hz]
      simp
  have s : ∀ m n : Nat, (m ^^^ n) + 2 * (m &&& n) = m + n := by
    intro m
    induction m using Nat.strongRecOn with
    | _ m ih =>
      intro n
      by_cases h0 : m = 0
      · subst h0
        simp
      · have ih' := ih (m / 2) (by omega) (n / 2)
        rw [← Nat.xor_div_two, ← Nat.and_div_two] at ih'
        have o1 := @Nat.xor_mod_two_eq_one m n
        have a1 := @Nat.and_mod_two_eq_one m n
        omega
  have s1 := s (f &&& (255 - t)) (f &&& t)
  rw [e, z] at s1
  omega
/-! ### the flags one after another are the flags at once -/
theorem three {s : St} (w : WF s) (i j k : Nat) (b c d : Bool) (hi : i < 8) (hj : j < 8) : flag1 (flag1 (flag1 s i b) j c) k d = flags s [(i, b), (j, c), (k, d)] := by
  have e1 : flag1 (flag1 s i b) j c = flags s [(i, b), (j, c)] := flags_flags w [(i, b)] [(j, c)] (by simp [hi])
  rw [e1]
  exact flags_flags w [(i, b), (j, c)] [(k, d)] (by simp [hi, hj])
theorem two {s : St} (w : WF s) (i j : Nat) (b c : Bool) (hi : i < 8) : flag1 (flag1 s i b) j c = flags s [(i, b), (j, c)] := flags_flags w [(i, b)] [(j, c)] (by simp [hi])
theorem add_eq {s : St} (w : WF s) {y c : Nat} (hy : y < 256) (hc : c ≤ 1) : flag1 (flag1 (flag1 (putA s (a s + y + c)) 7 (decide (255 < a s + y + c))) 6 (decide (15 < a s % 16 + y % 16 + c))) 2 (decide (0 < ((a s ^^^ (a s + y + c)) &&& (y ^^^ (a s + y + c))) &&& 128)) = Ql29.add s y c := by
  rw [three (w.putA _) _ _ _ _ _ _ (by decide) (by decide), add_ov (a_lt s) hy hc, ← putA_mod]
  rfl
theorem sub_eq {s : St} (w : WF s) {y : Nat} (hy : y < 256) : flag1 (flag1 (flag1 (putA s ((a s + 512 - y - (C s).toNat) % 256)) 7 (decide (a s < y + (C s).toNat))) 6 (decide (a s % 16 < y % 16 + (C s).toNat))) 2 (decide (0 < ((a s ^^^ y) &&& (a s ^^^ ((a s + 512 - y - (C s).toNat) % 256))) &&& 128)) = Ql29.sub s y := by
  have hc : (C s).toNat ≤ 1 := by cases C s <;> decide
  rw [three (w.putA _) _ _ _ _ _ _ (by decide) (by decide), sub_ov (a_lt s) hy hc]
  rfl
end Cm

namespace Cm
open Ql29 (St at_ set_ settled)
/-! ### a step, many steps -/
theorem step_none {s : St} (h : fv s = 165) : Ql29.step s = none := by
  show (Ql29.did (nx s) (fv s)).map _ = none
  rw [h, show (165 : Nat) = 0xA5 from rfl, cA5]
  rfl
theorem fv_small (s : St) : fv s < 256 := code_lt s _
theorem step_some {s : St} (w : WF s) (h : fv s ≠ 165) : Ql29.step s = some (settled (body (nx s) (fv s)), timeOf (fv s)) := by
  show (Ql29.did (nx s) (fv s)).map _ = _
  rw [did_eq (show WF (nx s) from w.skip 1) (fv_small s) h]
  rfl
abbrev st0 (pc : Int) (ram sfr code ext : List Int) : St := ⟨pc.toNat, Ql29Neutral.memory 256 ram, Ql29Neutral.memory 128 sfr, Ql29Neutral.memory 65536 code, Ql29Neutral.memory 65536 ext⟩
theorem py_step_none {pc : Int} {ram sfr code ext looks : List Int} (h : fv (st0 pc ram sfr code ext) = 165) : PyQl29.c51_step pc ram sfr code ext looks = [-1] := by
  show (match Ql29.step (st0 pc ram sfr code ext) with
      | some y => (y.2 : Int) :: Ql29Neutral.told y.1 [] looks
      | none => [-1]) = _
  rw [step_none h]
theorem py_step_some {pc : Int} {ram sfr code ext looks : List Int} (h0 : 0 ≤ pc) (h1 : pc ≤ 65535) (hl : ∀ x ∈ looks, 0 ≤ x ∧ x ≤ 65919) (h : fv (st0 pc ram sfr code ext) ≠ 165) (w2 : WF (settled (body (nx (st0 pc ram sfr code ext)) (fv (st0 pc ram sfr code ext))))) :
    PyQl29.c51_step pc ram sfr code ext looks = (timeOf (fv (st0 pc ram sfr code ext)) : Int) :: (((settled (body (nx (st0 pc ram sfr code ext)) (fv (st0 pc ram sfr code ext)))).pc : Nat) : Int) :: looks.map fun x => (lookV (settled (body (nx (st0 pc ram sfr code ext)) (fv (st0 pc ram sfr code ext)))) x.toNat : Int) := by
  show (match Ql29.step (st0 pc ram sfr code ext) with
      | some y => (y.2 : Int) :: Ql29Neutral.told y.1 [] looks
      | none => [-1]) = _
  rw [step_some (wf_of h0 h1) h]
  dsimp only
  rw [told_eq w2 [] hl]
  rfl
theorem run_stop {s : St} (h : fv s = 165) : ∀ n, Ql29.run n s = (0, 0, s)
  | 0 => rfl
  | n + 1 => by
    unfold Ql29.run
    rw [step_none h]
theorem run_succ {s : St} (w : WF s) (h : fv s ≠ 165) (n : Nat) : Ql29.run (n + 1) s = ((Ql29.run n (settled (body (nx s) (fv s)))).1 + 1, (Ql29.run n (settled (body (nx s) (fv s)))).2.1 + timeOf (fv s), (Ql29.run n (settled (body (nx s) (fv s)))).2.2) := by
  rw [Ql29.run]
  rw [step_some w h]
theorem time_le (op : Nat) : timeOf op ≤ 4 := by
  unfold timeOf
  dsimp only
  repeat' split
  all_goals omega
/-- where a run stands: so many steps done, so long, the state -/
structure Ran (s : St) (n c t : Nat) (u : St) : Prop where
  le : c ≤ n
  ti : t ≤ 4 * c
  eq : Ql29.run n s = ((Ql29.run (n - c) u).1 + c, (Ql29.run (n - c) u).2.1 + t, (Ql29.run (n - c) u).2.2)
theorem ran0 (s : St) (n : Nat) : Ran s n 0 0 s := ⟨Nat.zero_le _, Nat.le_refl _, rfl⟩
theorem Ran.next {s u : St} {n c t : Nat} (r : Ran s n c t u) (w : WF u) (h : fv u ≠ 165) (hc : c < n) : Ran s n (c + 1) (t + timeOf (fv u)) (settled (body (nx u) (fv u))) := by
  have hl := time_le (fv u)
  refine ⟨hc, by have := r.ti; omega, ?_⟩
  obtain ⟨d, hd⟩ : ∃ d, n - c = d + 1 := ⟨n - c - 1, by omega⟩
  have e := r.eq
  rw [hd, run_succ w h] at e
  have hd2 : n - (c + 1) = d := by omega
  rw [hd2, e]
  refine Prod.ext ?_ (Prod.ext ?_ rfl)
  · show (Ql29.run d _).1 + 1 + c = (Ql29.run d _).1 + (c + 1)
    omega
  · show (Ql29.run d _).2.1 + timeOf (fv u) + t = (Ql29.run d _).2.1 + (t + timeOf (fv u))
    omega
theorem Ran.done {s u : St} {n c t : Nat} (r : Ran s n c t u) (h : ¬ (c < n ∧ fv u ≠ 165)) : Ql29.run n s = (c, t, u) := by
  have e := r.eq
  have hz : Ql29.run (n - c) u = (0, 0, u) := by
    by_cases hf : fv u = 165
    · exact run_stop hf _
    · have hc : n - c = 0 := by
        have := r.le
        by_cases hc : c < n
        · exact absurd ⟨hc, hf⟩ h
        · omega
      rw [hc]
      rfl
  rw [hz] at e
  rw [e]
  refine Prod.ext ?_ (Prod.ext ?_ rfl)
  · exact Nat.zero_add _
  · exact Nat.zero_add _
theorem py_run_big {n pc : Int} {ram sfr code ext looks : List Int} (h : 1000000 < n) : PyQl29.c51_run n pc ram sfr code ext looks = [-3] := by
  show (if (1000000 : Int) < n then [-3] else _) = _
  rw [if_pos h]
theorem py_run {n pc : Int} {ram sfr code ext looks : List Int} (hn : ¬ 1000000 < n) (hl : ∀ x ∈ looks, 0 ≤ x ∧ x ≤ 65919) {c t : Nat} {u : St} (hr : Ql29.run n.toNat (st0 pc ram sfr code ext) = (c, t, u)) (w2 : WF u) :
    PyQl29.c51_run n pc ram sfr code ext looks = (c : Int) :: (t : Int) :: (u.pc : Int) :: looks.map fun x => (lookV u x.toNat : Int) := by
  show (if (1000000 : Int) < n then [-3] else (((Ql29.run n.toNat (st0 pc ram sfr code ext)).1 : Nat) : Int) :: Ql29Neutral.told (Ql29.run n.toNat (st0 pc ram sfr code ext)).2.2 [(Ql29.run n.toNat (st0 pc ram sfr code ext)).2.1] looks) = _
  rw [if_neg hn, hr]
  dsimp only
  rw [told_eq w2 _ hl]
  rfl
end Cm

namespace Cw
open PySem PySem.Spec PyProof.Rows L2
open Ql29 (at_ set_)
/-! ### bytes as values -/
def bV (b : UInt8) : V := .int (b.toNat : Int)
def memV (l : List UInt8) : List V := l.map bV
theorem memV_len (l : List UInt8) : (memV l).length = l.length := List.length_map _
theorem memV_at {l : List UInt8} {i : Nat} (h : i < l.length) : (memV l)[i]? = some (.int (at_ l i : Int)) := by
  unfold memV at_
  rw [List.getElem?_map, List.getElem?_eq_getElem h, List.getD_eq_getElem?_getD, List.getElem?_eq_getElem h]
  rfl
theorem atI_mem {l : List UInt8} {z : Int} {n : Nat} (e : z = (n : Int)) (h : n < l.length) : atI (memV l) z = some (.int (at_ l n : Int)) := at_of e (memV_at h)
theorem ixN_nat {n : Nat} {z : Int} {j : Nat} (e : z = (j : Int)) (h : j < n) : ixN n z = some j := by
  subst e
  unfold ixN
  rw [if_pos (by omega), if_pos (by omega)]
  simp
theorem ixN_mem {l : List UInt8} {z : Int} {j : Nat} (e : z = (j : Int)) (h : j < l.length) : ixN (memV l).length z = some j := ixN_nat e (by rw [memV_len]; exact h)
theorem memV_set {l : List UInt8} {i v : Nat} {z : Int} (e : z = ((v % 256 : Nat) : Int)) : (memV l).set i (.int z) = memV (set_ l i v) := by
  subst e
  unfold memV set_
  rw [List.map_set]
  congr 1
  unfold bV
  rw [Cm.u8_of]
/-! ### the bit operators of numbers from nought -/
theorem bAnd (x y : Nat) : Builtin.bitAnd (x : Int) (y : Int) = ((x &&& y : Nat) : Int) := by rw [bitAnd_pp (Int.natCast_nonneg x) (Int.natCast_nonneg y), Int.toNat_natCast, Int.toNat_natCast]
theorem bOr (x y : Nat) : Builtin.bitOr (x : Int) (y : Int) = ((x ||| y : Nat) : Int) := by rw [Bits.bitOr_pp (Int.natCast_nonneg x) (Int.natCast_nonneg y), Int.toNat_natCast, Int.toNat_natCast]
theorem bXor (x y : Nat) : Builtin.bitXor (x : Int) (y : Int) = ((x ^^^ y : Nat) : Int) := by rw [Bits.bitXor_pp (Int.natCast_nonneg x) (Int.natCast_nonneg y), Int.toNat_natCast, Int.toNat_natCast]
theorem bAnd255 (z : Int) : Builtin.bitAnd z 255 = z % 256 := bitAnd_m8 z
theorem bAnd65535 (z : Int) : Builtin.bitAnd z 65535 = z % 65536 := bitAnd_m16 z
/-! ### a chip in the heap -/
structure Ad where
  c : Addr
  dx : Addr
  r : Addr
  s : Addr
  cd : Addr
  ex : Addr
def flds (L : Ad) (pc : Nat) : List (Str × V) := [("pc", .int (pc : Int)), ("ram", .ref L.r), ("special", .ref L.s), ("code", .ref L.cd), ("ext", .ref L.ex)]
/-- a dict that stands for a memory -/
structure DictMem (kvs : List (Key × V)) (l : List UInt8) : Prop where
  val : ∀ n : Nat, n < 65536 → (valV kvs (Sum.inl (n : Int))).getD (.int 0) = .int (at_ l n : Int)
  nd : (kvs.map (·.1)).Nodup
  rg : ∀ k ∈ kvs.map (·.1), ∃ n : Nat, n < 65536 ∧ k = Sum.inl (n : Int)
theorem nodup_nat : ∀ {n : Nat} {l : List Nat}, l.Nodup → (∀ k ∈ l, k < n) → l.length ≤ n
  | 0, [], _, _ => Nat.le_refl _
  | 0, k :: r, _, h => absurd (h k List.mem_cons_self) (Nat.not_lt_zero _)
  | n + 1, l, hn, h => by
    have h1 := nodup_nat (n := n) (l := l.erase n) (hn.erase _) (fun k hk => by
      have hm := List.mem_of_mem_erase hk
      have hi := h k hm
      have ne : k ≠ n := by
        rintro rfl
        exact (List.Nodup.not_mem_erase hn) hk
      omega)
    have h3 : l.length ≤ (l.erase n).length + 1 := by
      rw [List.length_erase]
      split <;> omega
    omega
def keyN : Key → Nat
  | .inl i => i.toNat
  | .inr _ => 0
theorem nodup_le {n : Nat} {l : List Key} (hn : l.Nodup) (h : ∀ k ∈ l, ∃ i : Nat, i < n ∧ k = Sum.inl (i : Int)) : l.length ≤ n := by
  have h2 : ∀ k ∈ l.map keyN, k < n := fun k hk => by
    obtain ⟨x, hx, e⟩ := List.mem_map.mp hk
    obtain ⟨i, hi, rfl⟩ := h x hx
    have e2 : keyN (Sum.inl (i : Int)) = i := Int.toNat_natCast i
    omega
  have h1 : (l.map keyN).Nodup := by
    clear h2
    induction l with
    | nil => exact List.nodup_nil
    | cons a r ih =>
      obtain ⟨n1, n2⟩ := List.nodup_cons.mp hn
      refine List.nodup_cons.mpr ⟨fun hm => ?_, ih n2 fun k hk => h k (List.mem_cons_of_mem _ hk)⟩
      obtain ⟨b, hb, e⟩ := List.mem_map.mp hm
      obtain ⟨i, _, rfl⟩ := h a List.mem_cons_self
      obtain ⟨j, _, rfl⟩ := h b (List.mem_cons_of_mem _ hb)
      have e2 : j = i := by
        have q : (j : Int).toNat = (i : Int).toNat := e
        rw [Int.toNat_natCast, Int.toNat_natCast] at q
        exact q
      subst e2
      exact n1 hb
  have h3 := nodup_nat h1 h2
  rw [List.length_map] at h3
  exact h3
theorem DictMem.len {kvs : List (Key × V)} {l : List UInt8} (d : DictMem kvs l) : kvs.length < sizeLine := by
  have h := nodup_le d.nd d.rg
  rw [List.length_map] at h
  exact Nat.lt_of_le_of_lt h (by decide)
theorem nd_put {kvs : List (Key × V)} (k : Key) (v : V) (hn : (kvs.map (·.1)).Nodup) : ((putK kvs k v).map (·.1)).Nodup := by
  cases h : valV kvs k with
  | none => exact nd_putK v hn h
  | some x =>
    have ha : (kvs.any fun kv => decide (kv.1 = k)) = true := by rw [valV_any, h]; rfl
    unfold putK
    rw [if_pos ha, List.map_map]
    have e : ((fun kv : Key × V => kv.1) ∘ fun kv => if kv.1 = k then (kv.1, v) else kv) = fun kv => kv.1 := by
      funext kv
      show (if kv.1 = k then (kv.1, v) else kv).1 = kv.1
      split <;> rfl
    rw [e]
    exact hn
theorem keys_put {kvs : List (Key × V)} {k j : Key} {v : V} (h : j ∈ (putK kvs k v).map (·.1)) : j = k ∨ j ∈ kvs.map (·.1) := by
  unfold putK at h
  split at h
  · rw [List.map_map] at h
    obtain ⟨p, hp, e⟩ := List.mem_map.mp h
    have e' : (if p.1 = k then (p.1, v) else p).1 = p.1 := by split <;> rfl
    exact Or.inr (List.mem_map.mpr ⟨p, hp, e'.symm.trans e⟩)
  · rw [List.map_append] at h
    rcases List.mem_append.mp h with h | h
    · exact Or.inr h
    · exact Or.inl (List.mem_singleton.mp h)
theorem DictMem.put {kvs : List (Key × V)} {l : List UInt8} (d : DictMem kvs l) (hl : l.length = 65536) {n v : Nat} (hn : n < 65536) {z : Int} (e : z = ((v % 256 : Nat) : Int)) :
    DictMem (putK kvs (Sum.inl (n : Int)) (.int z)) (set_ l n v) := by
  subst e
  refine ⟨fun j hj => ?_, nd_put _ _ d.nd, fun k hk => ?_⟩
  · rw [valV_put]
    by_cases ej : j = n
    · subst ej
      rw [if_pos rfl, Cm.at_set_same (by omega)]
      rfl
    · have ne : ¬ (Sum.inl (j : Int) : Key) = Sum.inl (n : Int) := fun q => ej (by have := Sum.inl.inj q; omega)
      rw [if_neg ne, Cm.at_set_ne (fun q => ej q.symm)]
      exact d.val j hj
  · rcases keys_put hk with e | e
    · exact ⟨n, hn, e⟩
    · exact d.rg k e
structure ChipAt (C : Addr) (L : Ad) (H : Hp) (m : Ql29.St) : Prop where
  wf : Cm.WF m
  obj : H L.c = some (.ins C L.dx (flds L m.pc))
  ram : H L.r = some (.lst (memV m.ram))
  sp : H L.s = some (.lst (memV m.sfr))
  code : ∃ kvs, H L.cd = some (.dK kvs) ∧ DictMem kvs m.code
  ext : ∃ kvs, H L.ex = some (.dK kvs) ∧ DictMem kvs m.ext
  rs : L.r ≠ L.s
  ce : L.cd ≠ L.ex
/-- all but the chip's own stands as it was -/
def Ext (L : Ad) (H H' : Hp) : Prop := ∀ b o, H b = some o → b ≠ L.c → b ≠ L.r → b ≠ L.s → b ≠ L.ex → H' b = some o
section
variable {C : Addr} {L : Ad} {H H1 H2 : Hp} {m : Ql29.St}
theorem Ext.refl (H : Hp) : Ext L H H := fun _ _ h _ _ _ _ => h
theorem Ext.trans (a : Ext L H H1) (b : Ext L H1 H2) : Ext L H H2 := fun x o h h1 h2 h3 h4 => b x o (a x o h h1 h2 h3 h4) h1 h2 h3 h4
theorem Ext.new {p : Addr} {o : HO} (h : H p = none) : Ext L H (upd H p o) := fun b u e _ _ _ _ => by
  rw [upd_ne (ne_of_none e h)]
  exact e
theorem Ext.upd_c {o : HO} : Ext L H (upd H L.c o) := fun b u e h _ _ _ => by rw [upd_ne h]; exact e
theorem Ext.upd_r {o : HO} : Ext L H (upd H L.r o) := fun b u e _ h _ _ => by rw [upd_ne h]; exact e
theorem Ext.upd_s {o : HO} : Ext L H (upd H L.s o) := fun b u e _ _ h _ => by rw [upd_ne h]; exact e
theorem Ext.upd_x {o : HO} : Ext L H (upd H L.ex o) := fun b u e _ _ _ h => by rw [upd_ne h]; exact e
/-- what is no list, no dict, no instance is none of the chip's -/
theorem Ext.other (x : Ext L H H1) (h : ChipAt C L H m) {p : Addr} {o : HO} (e : H p = some o) (n1 : ∀ xs, o ≠ .lst xs) (n2 : ∀ k, o ≠ .dK k) (n3 : ∀ a b f, o ≠ .ins a b f) : H1 p = some o := by
  obtain ⟨kx, hx, _⟩ := h.ext
  exact x p o e (ne_of e h.obj (n3 _ _ _)) (ne_of e h.ram (n1 _)) (ne_of e h.sp (n1 _)) (ne_of e hx (n2 _))
theorem Ext.tup (x : Ext L H H1) (h : ChipAt C L H m) {p : Addr} {xs : List V} (e : H p = some (.tup xs)) : H1 p = some (.tup xs) := x.other h e (by simp) (by simp) (by simp)
theorem Ext.frz (x : Ext L H H1) (h : ChipAt C L H m) {p : Addr} {o : Obj} {u : HO} (e : H p = some (.frz o u)) : H1 p = some (.frz o u) := x.other h e (by simp) (by simp) (by simp)
theorem ChipAt.new (h : ChipAt C L H m) {p : Addr} {o : HO} (hp : H p = none) : ChipAt C L (upd H p o) m := by
  obtain ⟨w, h1, h2, h3, ⟨k1, h4, d1⟩, ⟨k2, h5, d2⟩, h6, h7⟩ := h
  exact ⟨w, by rw [upd_ne (ne_of_none h1 hp)]; exact h1, by rw [upd_ne (ne_of_none h2 hp)]; exact h2, by rw [upd_ne (ne_of_none h3 hp)]; exact h3,
    ⟨k1, by rw [upd_ne (ne_of_none h4 hp)]; exact h4, d1⟩, ⟨k2, by rw [upd_ne (ne_of_none h5 hp)]; exact h5, d2⟩, h6, h7⟩
theorem ChipAt.kept (h : ChipAt C L H m) (k : ∀ b o, H b = some o → H1 b = some o) : ChipAt C L H1 m := by
  obtain ⟨w, h1, h2, h3, ⟨k1, h4, d1⟩, ⟨k2, h5, d2⟩, h6, h7⟩ := h
  exact ⟨w, k _ _ h1, k _ _ h2, k _ _ h3, ⟨k1, k _ _ h4, d1⟩, ⟨k2, k _ _ h5, d2⟩, h6, h7⟩
/-- a special register is written -/
theorem ChipAt.putS (h : ChipAt C L H m) {p v : Nat} {z : Int} (e : z = ((v % 256 : Nat) : Int)) {j : Nat} (ej : j = p - 128) : ChipAt C L (upd H L.s (.lst ((memV m.sfr).set j (.int z)))) (Ql29.putSfr m p v) := by
  subst ej
  obtain ⟨w, h1, h2, h3, ⟨k1, h4, d1⟩, ⟨k2, h5, d2⟩, h6, h7⟩ := h
  exact ⟨w.put _ _, by rw [upd_ne (ne_of h1 h3 (by simp))]; exact h1, by rw [upd_ne h6]; exact h2, by rw [upd_same, memV_set e]; rfl,
    ⟨k1, by rw [upd_ne (ne_of h4 h3 (by simp))]; exact h4, d1⟩, ⟨k2, by rw [upd_ne (ne_of h5 h3 (by simp))]; exact h5, d2⟩, h6, h7⟩
/-- a byte inside is written -/
theorem ChipAt.putR (h : ChipAt C L H m) {p v : Nat} {z : Int} (e : z = ((v % 256 : Nat) : Int)) : ChipAt C L (upd H L.r (.lst ((memV m.ram).set p (.int z)))) (Ql29.putInside m p v) := by
  obtain ⟨w, h1, h2, h3, ⟨k1, h4, d1⟩, ⟨k2, h5, d2⟩, h6, h7⟩ := h
  exact ⟨w.putI _ _, by rw [upd_ne (ne_of h1 h2 (by simp))]; exact h1, by rw [upd_same, memV_set e]; rfl, by rw [upd_ne (Ne.symm h6)]; exact h3,
    ⟨k1, by rw [upd_ne (ne_of h4 h2 (by simp))]; exact h4, d1⟩, ⟨k2, by rw [upd_ne (ne_of h5 h2 (by simp))]; exact h5, d2⟩, h6, h7⟩
/-- pc is written -/
theorem flds_pc (L : Ad) (p q : Nat) {z : Int} (e : z = (q : Int)) : putF "pc" (.int z) (flds L p) = flds L q := by
  subst e
  exact if_pos rfl
theorem ChipAt.putPc (h : ChipAt C L H m) {q : Nat} {z : Int} (e : z = ((q % 65536 : Nat) : Int)) : ChipAt C L (upd H L.c (.ins C L.dx (putF "pc" (.int z) (flds L m.pc)))) (Ql29.jump m q) := by
  obtain ⟨w, h1, h2, h3, ⟨k1, h4, d1⟩, ⟨k2, h5, d2⟩, h6, h7⟩ := h
  exact ⟨w.jump _, by rw [upd_same, flds_pc _ _ _ e]; rfl, by rw [upd_ne (ne_of h2 h1 (by simp))]; exact h2, by rw [upd_ne (ne_of h3 h1 (by simp))]; exact h3,
    ⟨k1, by rw [upd_ne (ne_of h4 h1 (by simp))]; exact h4, d1⟩, ⟨k2, by rw [upd_ne (ne_of h5 h1 (by simp))]; exact h5, d2⟩, h6, h7⟩
/-- a byte outside is written -/
theorem ChipAt.putX (h : ChipAt C L H m) {kvs : List (Key × V)} (hk : H L.ex = some (.dK kvs)) {n v : Nat} (hn : n < 65536) {z : Int} (e : z = ((v % 256 : Nat) : Int)) :
    ChipAt C L (upd H L.ex (.dK (putK kvs (Sum.inl (n : Int)) (.int z)))) { m with ext := set_ m.ext n v } := by
  obtain ⟨w, h1, h2, h3, ⟨k1, h4, d1⟩, ⟨k2, h5, d2⟩, h6, h7⟩ := h
  rw [hk] at h5
  cases h5
  exact ⟨w.ext' _ _, by rw [upd_ne (ne_of h1 hk (by simp))]; exact h1, by rw [upd_ne (ne_of h2 hk (by simp))]; exact h2, by rw [upd_ne (ne_of h3 hk (by simp))]; exact h3,
    ⟨k1, by rw [upd_ne h7]; exact h4, d1⟩, ⟨_, upd_same, d2.put w.ext hn e⟩, h6, h7⟩
end
/-! ### fields by name -/
theorem lk_here {k : Str} {v : V} {r : List (Str × V)} : List.lookup k ((k, v) :: r) = some v := by
  have e : (k == k) = true := beq_self_eq_true k
  simp only [List.lookup, e]
theorem lk_past {k g : Str} {v : V} {r : List (Str × V)} (h : (k == g) = false) : List.lookup k ((g, v) :: r) = List.lookup k r := by
  simp only [List.lookup, h]
theorem lk_pc (L : Ad) (p : Nat) : (flds L p).lookup ("pc" : Str) = some (.int (p : Int)) := lk_here
theorem lk_ram (L : Ad) (p : Nat) : (flds L p).lookup ("ram" : Str) = some (.ref L.r) := (lk_past (by decide +kernel)).trans lk_here
theorem lk_sp (L : Ad) (p : Nat) : (flds L p).lookup ("special" : Str) = some (.ref L.s) := (lk_past (by decide +kernel)).trans ((lk_past (by decide +kernel)).trans lk_here)
theorem lk_code (L : Ad) (p : Nat) : (flds L p).lookup ("code" : Str) = some (.ref L.cd) := (lk_past (by decide +kernel)).trans ((lk_past (by decide +kernel)).trans ((lk_past (by decide +kernel)).trans lk_here))
theorem lk_ext (L : Ad) (p : Nat) : (flds L p).lookup ("ext" : Str) = some (.ref L.ex) := (lk_past (by decide +kernel)).trans ((lk_past (by decide +kernel)).trans ((lk_past (by decide +kernel)).trans ((lk_past (by decide +kernel)).trans lk_here)))
/-- no attribute of that name -/
abbrev NoF (k : Str) : Prop := (k == ("pc" : Str)) = false ∧ (k == ("ram" : Str)) = false ∧ (k == ("special" : Str)) = false ∧ (k == ("code" : Str)) = false ∧ (k == ("ext" : Str)) = false
theorem NoF.lk {k : Str} (h : NoF k) (L : Ad) (p : Nat) : (flds L p).lookup k = none := (lk_past h.1).trans ((lk_past h.2.1).trans ((lk_past h.2.2.1).trans ((lk_past h.2.2.2.1).trans ((lk_past h.2.2.2.2).trans rfl))))
/-! ### what the top has written -/
structure Txt (K : PySem.W.Frag) (C : Addr) : Prop where
  cl : Cls K C
  nP : NoAttr K C "pc"
  nR : NoAttr K C "ram"
  nS : NoAttr K C "special"
  nC : NoAttr K C "code"
  nE : NoAttr K C "ext"
/-- a method's def stands in the class; a def at the top -/
def MAt (K : PySem.W.Frag) (C : Addr) (nm qual : Str) (st : Stmt) : Prop := ∃ f fd, Meth K C nm f ∧ Fun K nm qual st f fd
def GAt (K : PySem.W.Frag) (mg : Str → Option Value) (nm : Str) (st : Stmt) : Prop := ∃ f fd, mg nm = some (.ref f) ∧ Fun K nm nm st f fd
def IntG (mg : Str → Option Value) (x : Str) (n : Int) : Prop := ∃ t, mg x = some (.int n t)
structure MOk (P : Program) (w : World) (K : PySem.W.Frag) (mg : Str → Option Value) (base : Heap) (C : Addr) (nm : Str) (k : Nat) (ps : List Str) (sp : Sp) : Prop where
  ex : ∃ f fd, Meth K C nm f ∧ FnOk P w K mg base CX0 k f fd ps sp ∧ Binds K fd ps []
structure GOk (P : Program) (w : World) (K : PySem.W.Frag) (mg : Str → Option Value) (base : Heap) (nm : Str) (k : Nat) (ps : List Str) (sp : Sp) : Prop where
  ex : ∃ f fd, mg nm = some (.ref f) ∧ PySem.W.keepIn K (.ref f) = true ∧ FnOk P w K mg base CX0 k f fd ps sp ∧ Binds K fd ps []
section
variable {P : Program} {w : World} {K : PySem.W.Frag} {mg : Str → Option Value} {base : Heap} {C : Addr} {nm qual : Str} {st : Stmt} {N ps : List Str} {k : Nat} {sp : Sp}
abbrev BodyOk (P : Program) (w : World) (K : PySem.W.Frag) (mg : Str → Option Value) (base : Heap) (qual : Str) (st : Stmt) (N : List Str) (k : Nat) (sp : Sp) : Prop :=
  ∀ (cdv : Value) (f : Addr) (A : Around) (outer : List Env) (s : Shared) (H : Hp) (vs : List V) (Q : VK) (E : XK), Room k (A.deeper (envOfC qual (defScope st) s.heap.objs.size f cdv)) → sp vs H Q E →
      ∃ t, PSs (cxOf CX0 P w K mg base N qual (defScope st) f cdv A outer s H E).nox (defBody st) t ∧ t { nx := fun _ H' => Q .non H', rt := Q } (start N vs) H
theorem MAt.ok (h : MAt K C nm qual st) (S : FnScope N ps (defScope st)) (len : ∀ vs H Q E, sp vs H Q E → vs.length = ps.length)
    (hb : ∀ (kV doc pm : Value) (an : Option Addr) (cdv ct : Value) (us : List Value), us.length = ps.length → bindArgs (PySem.W.fnOf nm qual (defArgs st) (defBody st) (defScope st) .none kV doc pm an cdv ct) ⟨us, []⟩ = pure (ps.zip us))
    (hbody : BodyOk P w K mg base qual st N k sp) : MOk P w K mg base C nm (k + 1) ps sp := by
  obtain ⟨f, fd, M, F⟩ := h
  exact ⟨f, fd, M, F.ok S len fun cdv A outer s H vs Q E hr h => hbody cdv f A outer s H vs Q E hr h, F.binds hb⟩
theorem GAt.ok (h : GAt K mg nm st) (S : FnScope N ps (defScope st)) (len : ∀ vs H Q E, sp vs H Q E → vs.length = ps.length)
    (hb : ∀ (kV doc pm : Value) (an : Option Addr) (cdv ct : Value) (us : List Value), us.length = ps.length → bindArgs (PySem.W.fnOf nm nm (defArgs st) (defBody st) (defScope st) .none kV doc pm an cdv ct) ⟨us, []⟩ = pure (ps.zip us))
    (hbody : BodyOk P w K mg base nm st N k sp) : GOk P w K mg base nm (k + 1) ps sp := by
  obtain ⟨f, fd, M, F⟩ := h
  exact ⟨f, fd, M, F.kp, F.ok S len fun cdv A outer s H vs Q E hr h => hbody cdv f A outer s H vs Q E hr h, F.binds hb⟩
end
section
variable {X : Cx} {C : Addr} {nm : Str} {k j : Nat} {ps : List Str} {sp : Sp} {e o : Expr} {es : List Expr} {ta : TE} {t : TA} {pos apos p : Pos}
/-- o.m(e, ..) -/
theorem pe_m {pl : Sem Bool} (M : MOk X.prog X.w X.K X.mg X.base C nm k ps sp) (c : Cls X.K C) (hr : Room j X.A) (he : PE X o ta) (ha : PA X (e :: es) t) (hjk : k ≤ j := by decide)
    (hst : starEach (e :: es) X.env = (false, eval e X.env) :: starEach es X.env := by rfl) (hpl : (backTo pos (starEach es X.env)).any (·.1) = false := by rfl)
    (ht : eval (.Call (.Attribute o nm apos) (e :: es) [] pos) X.env = (do
      let ov ← eval o X.env
      standAt apos.atName
      let (f, first) ← holding [ov] (getMethod ov nm pl)
      callWith pos f first (backTo pos (starEach (e :: es) X.env)) (backToKw pos (keywordEach [] X.env))) := by rfl) :
    PE X (.Call (.Attribute o nm apos) (e :: es) [] pos) (tMeth C nm sp [] E0 ta t) := by
  obtain ⟨f, fd, m, F, b⟩ := M.ex
  exact pe_meth (pl := pl) he c m F (hr.mono hjk) b .nil pass0 ha hst hpl ht
theorem pe_m0 {pl : Sem Bool} (M : MOk X.prog X.w X.K X.mg X.base C nm k ps sp) (c : Cls X.K C) (hr : Room j X.A) (he : PE X o ta) (hjk : k ≤ j := by decide)
    (ht : eval (.Call (.Attribute o nm apos) [] [] pos) X.env = (do
      let ov ← eval o X.env
      standAt apos.atName
      let (f, first) ← holding [ov] (getMethod ov nm pl)
      callWith pos f first (backTo pos (starEach [] X.env)) (backToKw pos (keywordEach [] X.env))) := by rfl) :
    PE X (.Call (.Attribute o nm apos) [] [] pos) (tMeth C nm sp [] E0 ta tNil) := by
  obtain ⟨f, fd, m, F, b⟩ := M.ex
  exact pe_meth0 (pl := pl) he c m F (hr.mono hjk) b .nil pass0 ht
/-- f(e, ..) -/
theorem pe_g (M : GOk X.prog X.w X.K X.mg X.base nm k ps sp) (hr : Room j X.A) (ha : PA X (e :: es) t) (hjk : k ≤ j := by decide) (hg : Gl X nm := by rfl) (hdb : (nm == ("__debug__" : Str)) = false := by decide)
    (he : starEach (e :: es) X.env = (false, eval e X.env) :: starEach es X.env := by rfl) (hpl : (backTo pos (starEach es X.env)).any (·.1) = false := by rfl) : PE X (.Call (.Name nm p) (e :: es) [] pos) (tCall sp [] E0 t) := by
  obtain ⟨f, fd, m, kp, F, b⟩ := M.ex
  exact pe_call F (hr.mono hjk) hg m kp b .nil pass0 ha hdb he hpl
/-- a constant of the module -/
theorem pe_n {n : Int} (h : IntG X.mg nm n) (hg : Gl X nm := by rfl) (hdb : (nm == ("__debug__" : Str)) = false := by decide) : PE X (.Name nm p) (tC (.int n)) := by
  obtain ⟨t, e⟩ := h
  exact pe_glob hg e ⟨_, rfl⟩ hdb
end
/-! ### promises: of the chip at L; the first asks it alone -/
def spP (C : Addr) (A : List V → Ql29.St → V → Prop) : Sp := fun vs H Q _ => ∃ (L : Ad) (m : Ql29.St) (rest : List V) (v : V), vs = .ref L.c :: rest ∧ ChipAt C L H m ∧ A rest m v ∧ Q v H
def spM (C : Addr) (A : List V → Hp → Ql29.St → V → Ql29.St → Prop) : Sp := fun vs H Q _ => ∃ (L : Ad) (m : Ql29.St) (rest : List V) (v : V) (m' : Ql29.St), vs = .ref L.c :: rest ∧ ChipAt C L H m ∧ A rest H m v m' ∧
  ∀ H', ChipAt C L H' m' → Ext L H H' → Q v H'
/-- a place as a tuple -/
def PlAt (H : Hp) (v : V) (pl : Bool × Nat) : Prop := ∃ p, v = .ref p ∧ H p = some (.tup [.bl pl.1, .int (pl.2 : Int)])
theorem PlAt.ext {C : Addr} {L : Ad} {H H1 : Hp} {m : Ql29.St} {v : V} {pl : Bool × Nat} (h : PlAt H v pl) (x : Ext L H H1) (hC : ChipAt C L H m) : PlAt H1 v pl := by
  obtain ⟨p, e, hp⟩ := h
  exact ⟨p, e, x.tup hC hp⟩
def spT (C : Addr) (A : List V → Ql29.St → (Bool × Nat) → Ql29.St → Prop) : Sp := fun vs H Q _ => ∃ (L : Ad) (m : Ql29.St) (rest : List V) (pl : Bool × Nat) (m' : Ql29.St), vs = .ref L.c :: rest ∧ ChipAt C L H m ∧ A rest m pl m' ∧
  ∀ H' v, ChipAt C L H' m' → Ext L H H' → PlAt H' v pl → Q v H'
end Cw

namespace Cw
open PySem PySem.Spec PyProof.Rows L2
open Ql29 (at_ set_)
abbrev PRG : Program := PySem.Challenge.pw_smallchip_s02_c51_run
abbrev top (i : Nat) : Stmt := PRG.main.body.getD i (.Pass ⟨0, 0, 0, 0⟩)
section
variable {P : Program} {w : World} {K : PySem.W.Frag} {mg : Str → Option Value} {base : Heap} {C : Addr}

abbrev s_get : Stmt := inClass (top 11) 1
theorem sc_get : FnScope ["self", "number"] ["self", "number"] (defScope s_get) := ⟨rfl, rfl, rfl, by decide +kernel, rfl, by decide +kernel, by decide +kernel⟩
def spGet (C : Addr) : Sp := spP C fun rest m v => ∃ n : Nat, rest = [.int (n : Int)] ∧ 128 ≤ n ∧ n < 256 ∧ v = .int (Ql29.sfr m n : Int)
theorem ok_get (h : MAt K C "get" "Chip.get" s_get) (T : Txt K C) : MOk P w K mg base C "get" 1 ["self", "number"] (spGet C) := by
  refine h.ok sc_get (fun vs H Q E h => ?_) (fun _ _ _ _ _ _ us hl => match us, hl with | [_, _], _ => rfl) fun cdv f A outer s H vs Q E hr h => ⟨_, pss_one (ps_ret (pe_ix ix_list (pe_fld (pv 0) rfl) (pe_op op_sub (pv 1) pe_int) (fun _ _ => rfl))), ?_⟩
  · obtain ⟨L, m, rest, v, rfl, hC, ⟨n, rfl, _⟩, q⟩ := h
    rfl
  · obtain ⟨L, m, rest, v, rfl, hC, ⟨n, rfl, h1, h2, rfl⟩, q⟩ := h
    exact ⟨_, rfl, L.c, C, L.dx, _, _, rfl, hC.obj, T.cl, T.nS, lk_sp _ _, _, rfl, _, _, rfl, rfl, L.s, _, _, _, rfl, rfl, SqL.of hC.sp, atI_mem (n := n - 128) (by omega) (by rw [hC.wf.sfr]; omega), q⟩

abbrev s_put : Stmt := inClass (top 11) 2
theorem sc_put : FnScope ["self", "number", "byte"] ["self", "number", "byte"] (defScope s_put) := ⟨rfl, rfl, rfl, by decide +kernel, rfl, by decide +kernel, by decide +kernel⟩
def spPut (C : Addr) : Sp := spM C fun rest _ m v m' => ∃ (n : Nat) (z : Int) (b : Nat), rest = [.int (n : Int), .int z] ∧ 128 ≤ n ∧ n < 256 ∧ z % 256 = ((b % 256 : Nat) : Int) ∧ v = .non ∧ m' = Ql29.putSfr m n b
theorem ok_put (h : MAt K C "put" "Chip.put" s_put) (T : Txt K C) : MOk P w K mg base C "put" 1 ["self", "number", "byte"] (spPut C) := by
  refine h.ok sc_put (fun vs H Q E h => ?_) (fun _ _ _ _ _ _ us hl => match us, hl with | [_, _, _], _ => rfl) fun cdv f A outer s H vs Q E hr h => ⟨_, pss_one (ps_asg (pe_op op_and (pv 2) pe_int) (pg_sub (pe_fld (pv 0) rfl) (pe_op op_sub (pv 1) pe_int) set_list)), ?_⟩
  · obtain ⟨L, m, rest, v, m', rfl, hC, ⟨n, z, b, rfl, _⟩, q⟩ := h
    rfl
  · obtain ⟨L, m, rest, v, m', rfl, hC, ⟨n, z, b, rfl, h1, h2, hz, rfl, rfl⟩, q⟩ := h
    refine ⟨_, rfl, _, _, rfl, rfl, _, rfl, L.c, C, L.dx, _, _, rfl, hC.obj, T.cl, T.nS, lk_sp _ _, _, rfl, _, _, rfl, rfl, L.s, _, _, n - 128, rfl, rfl, hC.sp, ixN_mem (by omega) (by rw [hC.wf.sfr]; omega), ?_⟩
    exact q _ (hC.putS (by rw [bAnd255]; exact hz) rfl) Ext.upd_s

abbrev s_push : Stmt := inClass (top 11) 18
theorem sc_push : FnScope ["self", "byte"] ["self", "byte"] (defScope s_push) := ⟨rfl, rfl, rfl, by decide +kernel, rfl, by decide +kernel, by decide +kernel⟩
def spPush (C : Addr) : Sp := spM C fun rest _ m v m' => ∃ (b : Nat), rest = [.int (b : Int)] ∧ b < 256 ∧ v = .non ∧ m' = Ql29.push m b
theorem nf_get : NoF "get" := by decide +kernel
theorem nf_put : NoF "put" := by decide +kernel
theorem ok_push (h : MAt K C "push" "Chip.push" s_push) (T : Txt K C) (g : IntG mg "SP" 129) (m1 : MOk P w K mg base C "get" 1 ["self", "number"] (spGet C)) (m2 : MOk P w K mg base C "put" 1 ["self", "number", "byte"] (spPut C)) : MOk P w K mg base C "push" 2 ["self", "byte"] (spPush C) := by
  refine h.ok sc_push (fun vs H Q E h => ?_) (fun _ _ _ _ _ _ us hl => match us, hl with | [_, _], _ => rfl) fun cdv f A outer s H vs Q E hr h => ⟨_, pss_cons (ps_expr (pe_m m2 T.cl hr (pv 0) (pa_cons (pe_n g) (pa_cons (pe_op op_add (pe_m m1 T.cl hr (pv 0) (pa_cons (pe_n g) pa_nil)) pe_int) pa_nil))))
      (pss_one (ps_asg (pv 1) (pg_sub (pe_fld (pv 0) rfl) (pe_m m1 T.cl hr (pv 0) (pa_cons (pe_n g) pa_nil)) set_list))), ?_⟩
  · obtain ⟨L, m, rest, v, m', rfl, hC, ⟨b, rfl, _⟩, q⟩ := h
    rfl
  · obtain ⟨L, m, rest, v, m', rfl, hC, ⟨b, rfl, h1, rfl, rfl⟩, q⟩ := h
    refine ⟨_, rfl, L.c, L.dx, _, rfl, hC.obj, nf_put.lk _ _, _, rfl, L.c, L.dx, _, rfl, hC.obj, nf_get.lk _ _, L, m, _, _, rfl, hC, ⟨129, rfl, by decide, by decide, rfl⟩, _, _, rfl, rfl, L, m, _, _, _, rfl, hC, ⟨129, _, (Ql29.sfr m 129 + 1) % 256, rfl, by decide, by decide, ?_, rfl, rfl⟩, fun H1 hC1 e1 => ?_⟩
    · omega
    · refine ⟨_, rfl, _, rfl, L.c, C, L.dx, _, _, rfl, hC1.obj, T.cl, T.nR, lk_ram _ _, _, rfl, L.c, L.dx, _, rfl, hC1.obj, nf_get.lk _ _, L, _, _, _, rfl, hC1, ⟨129, rfl, by decide, by decide, rfl⟩, L.r, _, _, (Ql29.sfr m 129 + 1) % 256, rfl, rfl, hC1.ram, ixN_mem ?_ (by rw [hC1.wf.ram]; exact Nat.mod_lt _ (by decide)), ?_⟩
      · rw [Cm.sfr_put_same hC.wf _ (by decide), Nat.mod_mod]
      · exact q _ (hC1.putR (v := b) (by rw [Nat.mod_eq_of_lt h1])) (e1.trans Ext.upd_r)

abbrev s_push_pc : Stmt := inClass (top 11) 20
theorem sc_push_pc : FnScope ["self"] ["self"] (defScope s_push_pc) := ⟨rfl, rfl, rfl, by decide +kernel, rfl, by decide +kernel, by decide +kernel⟩
def spPushPc (C : Addr) : Sp := spM C fun rest _ m v m' => rest = [] ∧ v = .non ∧ m' = Cm.pushPc m
theorem nf_push_pc : NoF "push_pc" := by decide +kernel
theorem nf_push : NoF "push" := by decide +kernel
theorem ok_push_pc (h : MAt K C "push_pc" "Chip.push_pc" s_push_pc) (T : Txt K C) (m1 : MOk P w K mg base C "push" 2 ["self", "byte"] (spPush C)) : MOk P w K mg base C "push_pc" 3 ["self"] (spPushPc C) := by
  refine h.ok sc_push_pc (fun vs H Q E h => ?_) (fun _ _ _ _ _ _ us hl => match us, hl with | [_], _ => rfl) fun cdv f A outer s H vs Q E hr h => ⟨_, pss_cons (ps_expr (pe_m m1 T.cl hr (pv 0) (pa_cons (pe_op op_and (pe_fld (pv 0) rfl) pe_int) pa_nil)))
      (pss_one (ps_expr (pe_m m1 T.cl hr (pv 0) (pa_cons (pe_op op_shr (pe_fld (pv 0) rfl) pe_int) pa_nil)))), ?_⟩
  · obtain ⟨L, m, rest, v, m', rfl, hC, ⟨rfl, _⟩, q⟩ := h
    rfl
  · obtain ⟨L, m, rest, v, m', rfl, hC, ⟨rfl, rfl, rfl⟩, q⟩ := h
    have hp := hC.wf.pc
    refine ⟨_, rfl, L.c, L.dx, _, rfl, hC.obj, nf_push.lk _ _, _, rfl, L.c, C, L.dx, _, _, rfl, hC.obj, T.cl, T.nP, lk_pc _ _, _, _, rfl, rfl, L, m, _, _, _, rfl, hC, ⟨m.pc % 256, ?_, by omega, rfl, rfl⟩, fun H1 hC1 e1 => ?_⟩
    · show [V.int (Builtin.bitAnd (m.pc : Int) 255)] = _
      rw [bAnd255]
      rfl
    · refine ⟨_, rfl, L.c, L.dx, _, rfl, hC1.obj, nf_push.lk _ _, _, rfl, L.c, C, L.dx, _, _, rfl, hC1.obj, T.cl, T.nP, lk_pc _ _, _, _, rfl, rfl, (by show (0 : Int) ≤ 8; decide), L, _, _, _, _, rfl, hC1, ⟨m.pc / 256, ?_, by omega, rfl, rfl⟩, fun H2 hC2 e2 => ?_⟩
      · show [V.int ((m.pc : Int) / 2 ^ (8 : Int).toNat)] = _
        rfl
      · exact q H2 hC2 (e1.trans e2)

abbrev s_look : Stmt := inClass (top 11) 24
theorem sc_look : FnScope ["self", "number"] ["self", "number"] (defScope s_look) := ⟨rfl, rfl, rfl, by decide +kernel, rfl, by decide +kernel, by decide +kernel⟩


def spLook (C : Addr) : Sp := spP C fun rest m v => ∃ n : Nat, rest = [.int (n : Int)] ∧ n < 65920 ∧ v = .int (Cm.lookV m n : Int)
theorem ok_look (h : MAt K C "look" "Chip.look" s_look) (T : Txt K C) : MOk P w K mg base C "look" 1 ["self", "number"] (spLook C) := by
  refine h.ok sc_look (fun vs H Q E h => ?_) (fun _ _ _ _ _ _ us hl => match us, hl with | [_, _], _ => rfl) fun cdv f A outer s H vs Q E hr h => ⟨_, pss_cons (ps_if (pt_cmpR op_lt (pv 1) pe_int (nomark _)) (pss_one (ps_ret (pe_ix ix_list (pe_fld (pv 0) rfl) (pv 1) (fun _ _ => rfl)))) pss_nil)
      (pss_cons (ps_if (pt_cmpR op_lt (pv 1) pe_int (nomark _)) (pss_one (ps_ret (pe_ix ix_list (pe_fld (pv 0) rfl) (pe_op op_sub (pv 1) pe_int) (fun _ _ => rfl)))) pss_nil)
      (pss_one (ps_ret (pe_dget2 (hu_of hr) (pe_fld (pv 0) rfl) (pe_op op_sub (pv 1) pe_int) pe_int ⟨rfl, rfl, rfl, rfl⟩)))), ?_⟩
  · obtain ⟨L, m, rest, v, rfl, hC, ⟨n, rfl, _⟩, q⟩ := h
    rfl
  · obtain ⟨L, m, rest, v, rfl, hC, ⟨n, rfl, h1, rfl⟩, q⟩ := h
    refine ⟨_, rfl, _, _, rfl, rfl, _, rfl, ite2 (fun h2 => ?_) fun h2 => ⟨_, rfl, _, _, rfl, rfl, _, rfl, ite2 (fun h3 => ?_) fun h3 => ?_⟩⟩
    · have h2' : n < 256 := by have := of_decide_eq_true h2; omega
      refine ⟨_, rfl, L.c, C, L.dx, _, _, rfl, hC.obj, T.cl, T.nR, lk_ram _ _, _, rfl, L.r, _, _, _, rfl, rfl, SqL.of hC.ram, atI_mem rfl (by rw [hC.wf.ram]; omega), ?_⟩
      unfold Cm.lookV at q
      rw [if_pos h2'] at q
      exact q
    · have h2' : ¬ n < 256 := fun z => h2 (decide_eq_true (by omega))
      have h3' : n < 384 := by have := of_decide_eq_true h3; omega
      refine ⟨_, rfl, L.c, C, L.dx, _, _, rfl, hC.obj, T.cl, T.nS, lk_sp _ _, _, rfl, _, _, rfl, rfl, L.s, _, _, _, rfl, rfl, SqL.of hC.sp, atI_mem (n := n - 256) (by omega) (by rw [hC.wf.sfr]; omega), ?_⟩
      unfold Cm.lookV at q
      rw [if_neg h2', if_pos h3'] at q
      exact q
    · have h2' : ¬ n < 256 := fun z => h2 (decide_eq_true (by omega))
      have h3' : ¬ n < 384 := fun z => h3 (decide_eq_true (by omega))
      obtain ⟨kvs, hk, d⟩ := hC.ext
      have e : ((n : Int) - 384) = ((n - 384 : Nat) : Int) := by omega
      refine ⟨_, rfl, L.c, C, L.dx, _, _, rfl, hC.obj, T.cl, T.nE, lk_ext _ _, L.ex, rfl, .inl ⟨_, .inl hk⟩, _, rfl, _, _, rfl, rfl, _, DGet.k (k := Sum.inl ((n : Int) - 384)) hk, ?_⟩
      unfold Cm.lookV at q
      rw [if_neg h2', if_neg h3'] at q
      rw [e, d.val _ (by omega)]
      exact q

/-! ### lists that are read, heaps that only grow -/
theorem rg2 {n : Nat} (h : n < 4611686018427387904) : RgC 0 ((2 * n : Nat) : Int) 2 n := by
  refine ⟨by decide, by decide, ?_, ?_⟩
  · have e : Builtin.Range.rangeSize 0 ((2 * n : Nat) : Int) 2 = (n : Int) := by
      unfold Builtin.Range.rangeSize
      by_cases hn : n = 0
      · subst hn
        decide
      · rw [if_pos (by decide), if_pos (by omega)]
        omega
    unfold Builtin.Range.small
    rw [e]
    unfold Builtin.Range.rangeFitsLong
    simp only [Bool.and_eq_true, Bool.or_eq_true, decide_eq_true_eq]
    refine ⟨⟨⟨⟨by omega, by omega⟩, by omega, by omega⟩, by omega, by omega⟩, Or.inr ?_⟩
    rw [if_pos (by decide)]
    simp only [Bool.and_eq_true, decide_eq_true_eq]
    omega
  · unfold Builtin.Range.rangeSize
    by_cases hn : n = 0
    · subst hn
      decide
    · rw [if_pos (by decide), if_pos (by omega)]
      omega
theorem at_ints {ns : List Int} {i : Nat} (h : i < ns.length) {z : Int} (e : z = (i : Int)) : atI (ns.map V.int) z = some (.int ns[i]) := by
  refine at_of e ?_
  rw [List.getElem?_map, List.getElem?_eq_getElem h]
  rfl
theorem drop_parts {ns : List Int} {i n : Nat} (hk : ns.length = 2 * n) (hi : i < n) : ∃ (h1 : 2 * i < ns.length) (h2 : 2 * i + 1 < ns.length), ns.drop (2 * i) = ns[2 * i] :: ns[2 * i + 1] :: ns.drop (2 * (i + 1)) :=
  ⟨by omega, by omega, Cm.drop_two (by omega)⟩
theorem rep_zero (n : Nat) : (List.replicate n [V.int 0]).flatten = memV (List.replicate n 0) := by
  unfold memV
  rw [List.map_replicate]
  induction n with
  | zero => rfl
  | succ n ih => rw [List.replicate_succ, List.flatten_cons, ih, List.replicate_succ]; rfl
theorem smNew {H : Hp} {p : Addr} {o : HO} (h : H p = none) : Same H (upd H p o) := fun b u e => by
  rw [upd_ne (ne_of_none e h)]
  exact e
/-- an object that H does not know may change -/
theorem smMut {H H' : Hp} {p : Addr} {o : HO} (e : Same H H') (h : H p = none) : Same H (upd H' p o) := fun a u ha => by
  rw [upd_ne (ne_of_none ha h)]
  exact e a u ha

/-! ### bits of bytes -/
theorem and24 : ∀ v < 256, v &&& 24 = 8 * (v / 8 % 4) := by decide +kernel
theorem and248 : ∀ v < 256, v &&& 248 = v / 8 * 8 := by decide +kernel
theorem par_fold : ∀ x < 256, (((x ^^^ (x / 16)) ^^^ ((x ^^^ (x / 16)) / 4)) ^^^ (((x ^^^ (x / 16)) ^^^ ((x ^^^ (x / 16)) / 4)) / 2)) &&& 1 = (Ql29.odd x).toNat := by decide +kernel
theorem par_put : ∀ v < 256, ∀ b : Bool, (v &&& 254) ||| b.toNat = Ql29.withBit v 0 b := by decide +kernel
theorem bAnd15 (n : Nat) : Builtin.bitAnd (n : Int) 15 = ((n % 16 : Nat) : Int) := by rw [bitAnd_m4]; rfl
theorem bAnd7 (n : Nat) : Builtin.bitAnd (n : Int) 7 = ((n % 8 : Nat) : Int) := by rw [bitAnd_m3]; rfl
theorem bAnd1 (n : Nat) : Builtin.bitAnd (n : Int) 1 = ((n % 2 : Nat) : Int) := by rw [bitAnd_m1]; rfl
theorem bAndL (n k : Nat) (z : Int) (e : z = (k : Int)) : Builtin.bitAnd (n : Int) z = ((n &&& k : Nat) : Int) := by subst e; exact bAnd n k
/-- x >> k & 1 -/
theorem bit_of (x k : Nat) {z : Int} (e : z = (k : Int)) : Builtin.bitAnd ((x : Int) / 2 ^ z.toNat) 1 = ((x.testBit k).toNat : Int) := by
  subst e
  rw [Int.toNat_natCast, show ((x : Int) / 2 ^ k) = ((x / 2 ^ k : Nat) : Int) by rw [Int.natCast_ediv, Int.natCast_pow]; rfl, bAnd1, Nat.toNat_testBit]
/-- the mask of a bit, put -/
theorem mask_of {k : Nat} {z : Int} (e : z = (k : Int)) : (1 : Int) * 2 ^ z.toNat = ((2 ^ k : Nat) : Int) := by
  subst e
  rw [Int.toNat_natCast, Int.one_mul, Int.natCast_pow]
  rfl
theorem clr_of (v k : Nat) : Builtin.bitAnd (v : Int) (Builtin.bitXor 255 ((2 ^ k : Nat) : Int)) = ((v &&& (255 ^^^ 2 ^ k) : Nat) : Int) := by
  rw [show (255 : Int) = ((255 : Nat) : Int) from rfl, bXor, bAnd]
theorem with_t (v k : Nat) (hv : v < 256) (hk : k < 8) : Builtin.bitOr ((v &&& (255 ^^^ 2 ^ k) : Nat) : Int) ((2 ^ k : Nat) : Int) = (Ql29.withBit v k true : Int) := by
  rw [bOr, Cm.withBit_eq true hv hk, if_pos rfl]
theorem with_f (v k : Nat) (hv : v < 256) (hk : k < 8) : ((v &&& (255 ^^^ 2 ^ k) : Nat) : Int) = (Ql29.withBit v k false : Int) := by
  rw [Cm.withBit_eq false hv hk, if_neg (by decide), Nat.or_zero]

/-! ### tests of numbers from nought -/
theorem iteD {c : Prop} [Decidable c] {A B : Prop} (h1 : c → A) (h2 : ¬ c → B) : if decide c = true then A else B := by
  by_cases h : c
  · rw [if_pos (decide_eq_true h)]
    exact h1 h
  · rw [if_neg (by rw [decide_eq_false h]; decide)]
    exact h2 h
theorem ifEq {i z : Int} (x y : Nat) {A B : Prop} (ei : i = (x : Int)) (ez : z = (y : Int)) (h1 : x = y → A) (h2 : ¬ x = y → B) : if decide (V.int i = V.int z) = true then A else B := by
  subst ei ez
  exact iteD (fun e => h1 (by have := V.int.inj e; omega)) fun e => h2 fun q => e (by rw [q])
theorem ifLt {i z : Int} (x y : Nat) {A B : Prop} (ei : i = (x : Int)) (ez : z = (y : Int)) (h1 : x < y → A) (h2 : ¬ x < y → B) : if decide (i < z) = true then A else B := by
  subst ei ez
  exact iteD (fun e => h1 (by omega)) fun e => h2 fun q => e (by omega)
theorem ifGe {i z : Int} (x y : Nat) {A B : Prop} (ei : i = (x : Int)) (ez : z = (y : Int)) (h1 : y ≤ x → A) (h2 : ¬ y ≤ x → B) : if decide (z ≤ i) = true then A else B := by
  subst ei ez
  exact iteD (fun e => h1 (by omega)) fun e => h2 fun q => e (by omega)

abbrev s_get_a : Stmt := inClass (top 11) 3
theorem sc_get_a : FnScope ["self"] ["self"] (defScope s_get_a) := ⟨rfl, rfl, rfl, by decide +kernel, rfl, by decide +kernel, by decide +kernel⟩
def spGetA (C : Addr) : Sp := spP C fun rest m v => rest = [] ∧ v = .int (Ql29.a m : Int)
theorem nf_get_a : NoF "get_a" := by decide +kernel
theorem ok_get_a (h : MAt K C "get_a" "Chip.get_a" s_get_a) (T : Txt K C) : MOk P w K mg base C "get_a" 1 ["self"] (spGetA C) := by
  refine h.ok sc_get_a (fun vs H Q E h => ?_) (fun _ _ _ _ _ _ us hl => match us, hl with | [_], _ => rfl) fun cdv f A outer s H vs Q E hr h => ⟨_, pss_one (ps_ret (pe_ix ix_list (pe_fld (pv 0) rfl) pe_int (fun _ _ => rfl))), ?_⟩
  · obtain ⟨L, m, rest, v, rfl, hC, ⟨rfl, _⟩, q⟩ := h
    rfl
  · obtain ⟨L, m, rest, v, rfl, hC, ⟨rfl, rfl⟩, q⟩ := h
    exact ⟨_, rfl, L.c, C, L.dx, _, _, rfl, hC.obj, T.cl, T.nS, lk_sp _ _, L.s, _, _, _, rfl, rfl, SqL.of hC.sp, atI_mem (n := 96) rfl (by rw [hC.wf.sfr]; decide), q⟩

abbrev s_put_a : Stmt := inClass (top 11) 4
theorem sc_put_a : FnScope ["self", "byte"] ["self", "byte"] (defScope s_put_a) := ⟨rfl, rfl, rfl, by decide +kernel, rfl, by decide +kernel, by decide +kernel⟩
def spPutA (C : Addr) : Sp := spM C fun rest _ m v m' => ∃ (z : Int) (b : Nat), rest = [.int z] ∧ z % 256 = ((b % 256 : Nat) : Int) ∧ v = .non ∧ m' = Ql29.putA m b
theorem nf_put_a : NoF "put_a" := by decide +kernel
theorem ok_put_a (h : MAt K C "put_a" "Chip.put_a" s_put_a) (T : Txt K C) : MOk P w K mg base C "put_a" 1 ["self", "byte"] (spPutA C) := by
  refine h.ok sc_put_a (fun vs H Q E h => ?_) (fun _ _ _ _ _ _ us hl => match us, hl with | [_, _], _ => rfl) fun cdv f A outer s H vs Q E hr h => ⟨_, pss_one (ps_asg (pe_op op_and (pv 1) pe_int) (pg_sub (pe_fld (pv 0) rfl) pe_int set_list)), ?_⟩
  · obtain ⟨L, m, rest, v, m', rfl, hC, ⟨z, b, rfl, _⟩, q⟩ := h
    rfl
  · obtain ⟨L, m, rest, v, m', rfl, hC, ⟨z, b, rfl, hz, rfl, rfl⟩, q⟩ := h
    refine ⟨_, rfl, _, _, rfl, rfl, _, rfl, L.c, C, L.dx, _, _, rfl, hC.obj, T.cl, T.nS, lk_sp _ _, L.s, _, _, 96, rfl, rfl, hC.sp, ixN_mem (j := 96) rfl (by rw [hC.wf.sfr]; decide), ?_⟩
    exact q _ (hC.putS (by rw [bAnd255]; exact hz) rfl) Ext.upd_s

abbrev s_pointer : Stmt := inClass (top 11) 5
theorem sc_pointer : FnScope ["self"] ["self"] (defScope s_pointer) := ⟨rfl, rfl, rfl, by decide +kernel, rfl, by decide +kernel, by decide +kernel⟩
def spPtr (C : Addr) : Sp := spP C fun rest m v => rest = [] ∧ v = .int (Ql29.dptr m : Int)
theorem nf_pointer : NoF "pointer" := by decide +kernel
theorem ok_pointer (h : MAt K C "pointer" "Chip.pointer" s_pointer) (T : Txt K C) (gH : IntG mg "DPH" 131) (gL : IntG mg "DPL" 130) (m1 : MOk P w K mg base C "get" 1 ["self", "number"] (spGet C)) : MOk P w K mg base C "pointer" 2 ["self"] (spPtr C) := by
  refine h.ok sc_pointer (fun vs H Q E h => ?_) (fun _ _ _ _ _ _ us hl => match us, hl with | [_], _ => rfl) fun cdv f A outer s H vs Q E hr h => ⟨_, pss_one (ps_ret (pe_op op_add (pe_op op_mul pe_int (pe_m m1 T.cl hr (pv 0) (pa_cons (pe_n gH) pa_nil))) (pe_m m1 T.cl hr (pv 0) (pa_cons (pe_n gL) pa_nil)))), ?_⟩
  · obtain ⟨L, m, rest, v, rfl, hC, ⟨rfl, _⟩, q⟩ := h
    rfl
  · obtain ⟨L, m, rest, v, rfl, hC, ⟨rfl, rfl⟩, q⟩ := h
    refine ⟨_, rfl, L.c, L.dx, _, rfl, hC.obj, nf_get.lk _ _, L, m, _, _, rfl, hC, ⟨131, rfl, by decide, by decide, rfl⟩, _, _, rfl, rfl, .inl ⟨by decide, by decide⟩, _, rfl, L.c, L.dx, _, rfl, hC.obj, nf_get.lk _ _, L, m, _, _, rfl, hC, ⟨130, rfl, by decide, by decide, rfl⟩, _, _, rfl, rfl, ?_⟩
    exact q

abbrev s_fetch : Stmt := inClass (top 11) 6
theorem sc_fetch : FnScope ["self", "out"] ["self"] (defScope s_fetch) := ⟨rfl, rfl, rfl, by decide +kernel, rfl, by decide +kernel, by decide +kernel⟩
def spFetch (C : Addr) : Sp := spM C fun rest _ m v m' => rest = [] ∧ v = .int (Cm.fv m : Int) ∧ m' = Cm.nx m
theorem nf_fetch : NoF "fetch" := by decide +kernel
theorem fv_at {m : Ql29.St} (w : Cm.WF m) : at_ m.code m.pc = Cm.fv m := by
  unfold Cm.fv Ql29.code
  rw [show m.pc % Ql29.W = m.pc from Nat.mod_eq_of_lt w.pc]
theorem ok_fetch (h : MAt K C "fetch" "Chip.fetch" s_fetch) (T : Txt K C) : MOk P w K mg base C "fetch" 1 ["self"] (spFetch C) := by
  refine h.ok sc_fetch (fun vs H Q E h => ?_) (fun _ _ _ _ _ _ us hl => match us, hl with | [_], _ => rfl) fun cdv f A outer s H vs Q E hr h => ⟨_, pss_cons (ps_set (i := 1) sc_fetch.nd rfl (Or.inl rfl) (pe_dget2 (hu_of hr) (pe_fld (pv 0) rfl) (pe_fld (pv 0) rfl) pe_int ⟨rfl, rfl, rfl, rfl⟩))
      (pss_cons (ps_fld (pv 0) (pe_op op_and (pe_op op_add (pe_fld (pv 0) rfl) pe_int) pe_int) rfl) (pss_one (ps_ret (pv 1)))), ?_⟩
  · obtain ⟨L, m, rest, v, m', rfl, hC, ⟨rfl, _⟩, q⟩ := h
    rfl
  · obtain ⟨L, m, rest, v, m', rfl, hC, ⟨rfl, rfl, rfl⟩, q⟩ := h
    obtain ⟨kvs, hk, d⟩ := hC.code
    refine ⟨_, rfl, L.c, C, L.dx, _, _, rfl, hC.obj, T.cl, T.nC, lk_code _ _, L.cd, rfl, .inl ⟨_, .inl hk⟩, _, rfl, L.c, C, L.dx, _, _, rfl, hC.obj, T.cl, T.nP, lk_pc _ _, _, DGet.k (k := Sum.inl (m.pc : Int)) hk, ?_⟩
    rw [d.val _ hC.wf.pc, fv_at hC.wf]
    refine ⟨_, rfl, L.c, C, L.dx, _, _, rfl, hC.obj, T.cl, T.nP, lk_pc _ _, _, _, rfl, rfl, _, _, rfl, rfl, _, rfl, L.c, C, L.dx, _, rfl, hC.obj, T.cl, T.nP, (by show 5 < 1000; decide), _, rfl, ?_⟩
    exact q _ (hC.putPc (q := m.pc + 1) (by rw [bAnd65535]; rfl)) Ext.upd_c

abbrev s_register_place : Stmt := inClass (top 11) 7
theorem sc_register_place : FnScope ["self", "number"] ["self", "number"] (defScope s_register_place) := ⟨rfl, rfl, rfl, by decide +kernel, rfl, by decide +kernel, by decide +kernel⟩
def spRegP (C : Addr) : Sp := spP C fun rest m v => ∃ (z : Int) (n : Nat), rest = [.int z] ∧ z = (n : Int) ∧ v = .int ((Ql29.bank m + n : Nat) : Int)
theorem nf_register_place : NoF "register_place" := by decide +kernel
theorem bank_of {m : Ql29.St} : Builtin.bitAnd (at_ m.sfr 80 : Int) 24 = (Ql29.bank m : Int) := by
  rw [bAndL _ 24 24 rfl, and24 _ (Cm.at_lt _ _)]
  rfl
theorem ok_register_place (h : MAt K C "register_place" "Chip.register_place" s_register_place) (T : Txt K C) : MOk P w K mg base C "register_place" 1 ["self", "number"] (spRegP C) := by
  refine h.ok sc_register_place (fun vs H Q E h => ?_) (fun _ _ _ _ _ _ us hl => match us, hl with | [_, _], _ => rfl) fun cdv f A outer s H vs Q E hr h => ⟨_, pss_one (ps_ret (pe_op op_add (pe_op op_and (pe_ix ix_list (pe_fld (pv 0) rfl) pe_int (fun _ _ => rfl)) pe_int) (pv 1))), ?_⟩
  · obtain ⟨L, m, rest, v, rfl, hC, ⟨z, n, rfl, _⟩, q⟩ := h
    rfl
  · obtain ⟨L, m, rest, v, rfl, hC, ⟨z, n, rfl, rfl, rfl⟩, q⟩ := h
    refine ⟨_, rfl, L.c, C, L.dx, _, _, rfl, hC.obj, T.cl, T.nS, lk_sp _ _, L.s, _, _, _, rfl, rfl, SqL.of hC.sp, atI_mem (n := 80) rfl (by rw [hC.wf.sfr]; decide), _, _, rfl, rfl, _, rfl, _, _, rfl, rfl, ?_⟩
    rw [bank_of]
    exact q

abbrev s_bank_byte : Stmt := inClass (top 11) 8
theorem sc_bank_byte : FnScope ["self", "number"] ["self", "number"] (defScope s_bank_byte) := ⟨rfl, rfl, rfl, by decide +kernel, rfl, by decide +kernel, by decide +kernel⟩
def spBankB (C : Addr) : Sp := spP C fun rest m v => ∃ (z : Int) (n : Nat), rest = [.int z] ∧ z = (n : Int) ∧ n < 8 ∧ v = .int (Ql29.r m n : Int)
theorem nf_bank_byte : NoF "bank_byte" := by decide +kernel
theorem bank_lt (m : Ql29.St) : Ql29.bank m ≤ 24 := by
  unfold Ql29.bank
  omega
theorem ok_bank_byte (h : MAt K C "bank_byte" "Chip.bank_byte" s_bank_byte) (T : Txt K C) (m1 : MOk P w K mg base C "register_place" 1 ["self", "number"] (spRegP C)) : MOk P w K mg base C "bank_byte" 2 ["self", "number"] (spBankB C) := by
  refine h.ok sc_bank_byte (fun vs H Q E h => ?_) (fun _ _ _ _ _ _ us hl => match us, hl with | [_, _], _ => rfl) fun cdv f A outer s H vs Q E hr h => ⟨_, pss_one (ps_ret (pe_ix ix_list (pe_fld (pv 0) rfl) (pe_m m1 T.cl hr (pv 0) (pa_cons (pv 1) pa_nil)) (fun _ _ => rfl))), ?_⟩
  · obtain ⟨L, m, rest, v, rfl, hC, ⟨z, n, rfl, _⟩, q⟩ := h
    rfl
  · obtain ⟨L, m, rest, v, rfl, hC, ⟨z, n, rfl, rfl, hn, rfl⟩, q⟩ := h
    have hb := bank_lt m
    exact ⟨_, rfl, L.c, C, L.dx, _, _, rfl, hC.obj, T.cl, T.nR, lk_ram _ _, _, rfl, L.c, L.dx, _, rfl, hC.obj, nf_register_place.lk _ _, _, rfl, L, m, _, _, rfl, hC, ⟨_, n, rfl, rfl, rfl⟩, L.r, _, _, _, rfl, rfl, SqL.of hC.ram, atI_mem rfl (by rw [hC.wf.ram]; omega), q⟩

abbrev s_operand_place : Stmt := inClass (top 11) 9
theorem sc_operand_place : FnScope ["self", "first", "low"] ["self", "first"] (defScope s_operand_place) := ⟨rfl, rfl, rfl, by decide +kernel, rfl, by decide +kernel, by decide +kernel⟩
def spOpP (C : Addr) : Sp := spT C fun rest m pl m' => ∃ op : Nat, rest = [.int (op : Int)] ∧ 5 ≤ op % 16 ∧ pl = Cm.opP m (op % 16) ∧ m' = Cm.opS m (op % 16)
theorem nf_operand_place : NoF "operand_place" := by decide +kernel
theorem ok_operand_place (h : MAt K C "operand_place" "Chip.operand_place" s_operand_place) (T : Txt K C) (m1 : MOk P w K mg base C "register_place" 1 ["self", "number"] (spRegP C)) (m2 : MOk P w K mg base C "bank_byte" 2 ["self", "number"] (spBankB C)) (m3 : MOk P w K mg base C "fetch" 1 ["self"] (spFetch C)) :
    MOk P w K mg base C "operand_place" 3 ["self", "first"] (spOpP C) := by
  refine h.ok sc_operand_place (fun vs H Q E h => ?_) (fun _ _ _ _ _ _ us hl => match us, hl with | [_, _], _ => rfl) fun cdv f A outer s H vs Q E hr h => ⟨_, pss_cons (ps_set (i := 2) sc_operand_place.nd rfl (Or.inl rfl) (pe_op op_and (pv 1) pe_int))
      (pss_cons (ps_if (pt_cmpR op_eq (pv 2) pe_int (nomark _)) (pss_one (ps_ret (pe_tup (pa_cons pe_bl (pa_cons (pe_m0 m3 T.cl hr (pv 0)) pa_nil))))) pss_nil)
      (pss_cons (ps_if (pt_cmpR op_lt (pv 2) pe_int (nomark _)) (pss_one (ps_ret (pe_tup (pa_cons pe_bl (pa_cons (pe_m m2 T.cl hr (pv 0) (pa_cons (pe_op op_and (pv 2) pe_int) pa_nil)) pa_nil))))) pss_nil)
      (pss_one (ps_ret (pe_tup (pa_cons pe_bl (pa_cons (pe_m m1 T.cl hr (pv 0) (pa_cons (pe_op op_and (pv 2) pe_int) pa_nil)) pa_nil))))))), ?_⟩
  · obtain ⟨L, m, rest, pl, m', rfl, hC, ⟨op, rfl, _⟩, q⟩ := h
    rfl
  · obtain ⟨L, m, rest, pl, m', rfl, hC, ⟨op, rfl, h5, rfl, rfl⟩, q⟩ := h
    refine ⟨_, rfl, _, _, rfl, rfl, _, rfl, rfl, _, rfl, ifEq (op % 16) 5 (bAnd15 _) rfl (fun e5 => ?_) fun e5 => ⟨_, rfl, _, _, rfl, rfl, _, rfl, ?_⟩⟩
    · refine ⟨_, rfl, L.c, L.dx, _, rfl, hC.obj, nf_fetch.lk _ _, L, m, _, _, _, rfl, hC, ⟨rfl, rfl, rfl⟩, fun H1 hC1 e1 => ⟨by show 2 ≤ sizeLine; decide, fun p hp => ?_⟩⟩
      have eS : Cm.opS m (op % 16) = Cm.nx m := if_pos e5
      have eP : Cm.opP m (op % 16) = (true, Cm.fv m) := if_pos e5
      rw [eS, eP] at q
      exact q _ _ (hC1.new hp) (e1.trans (Ext.new hp)) ⟨p, rfl, upd_same⟩
    · have eS : Cm.opS m (op % 16) = m := if_neg e5
      rw [eS] at q
      refine ifLt (op % 16) 8 (bAnd15 _) rfl (fun e8 => ?_) fun e8 => ?_
      · have eP : Cm.opP m (op % 16) = (false, Ql29.r m (op % 16 % 2)) := (if_neg e5).trans (if_pos e8)
        rw [eP] at q
        refine ⟨_, rfl, L.c, L.dx, _, rfl, hC.obj, nf_bank_byte.lk _ _, _, rfl, _, _, rfl, rfl, L, m, _, _, rfl, hC, ⟨_, op % 16 % 2, rfl, by rw [bAnd15]; exact bAnd1 _, by omega, rfl⟩, by show 2 ≤ sizeLine; decide, fun p hp => ?_⟩
        exact q _ _ (hC.new hp) (Ext.new hp) ⟨p, rfl, upd_same⟩
      · have eP : Cm.opP m (op % 16) = (false, Ql29.bank m + op % 16 % 8) := (if_neg e5).trans (if_neg e8)
        rw [eP] at q
        refine ⟨_, rfl, L.c, L.dx, _, rfl, hC.obj, nf_register_place.lk _ _, _, rfl, _, _, rfl, rfl, L, m, _, _, rfl, hC, ⟨_, op % 16 % 8, rfl, by rw [bAnd15]; exact bAnd7 _, rfl⟩, by show 2 ≤ sizeLine; decide, fun p hp => ?_⟩
        exact q _ _ (hC.new hp) (Ext.new hp) ⟨p, rfl, upd_same⟩

abbrev s_get_place : Stmt := inClass (top 11) 10
theorem sc_get_place : FnScope ["self", "place", "direct", "number"] ["self", "place"] (defScope s_get_place) := ⟨rfl, rfl, rfl, by decide +kernel, rfl, by decide +kernel, by decide +kernel⟩
def spGetPl (C : Addr) : Sp := fun vs H Q _ => ∃ (L : Ad) (m : Ql29.St) (v0 : V) (pl : Bool × Nat), vs = [.ref L.c, v0] ∧ ChipAt C L H m ∧ PlAt H v0 pl ∧ pl.2 < 256 ∧ Q (.int (Cm.getP m pl : Int)) H
theorem nf_get_place : NoF "get_place" := by decide +kernel
theorem ok_get_place (h : MAt K C "get_place" "Chip.get_place" s_get_place) (T : Txt K C) : MOk P w K mg base C "get_place" 1 ["self", "place"] (spGetPl C) := by
  refine h.ok sc_get_place (fun vs H Q E h => ?_) (fun _ _ _ _ _ _ us hl => match us, hl with | [_, _], _ => rfl) fun cdv f A outer s H vs Q E hr h => ⟨_, pss_cons (ps_asg (pv 1) (pg_tup rfl (pgs_cons (pg_name (i := 2) sc_get_place.nd rfl (Or.inl rfl)) (pgs_cons (pg_name (i := 3) sc_get_place.nd rfl (Or.inl rfl)) pgs_nil))))
      (pss_cons (ps_if (PW.pt (pw_and (pt_val (pv 2)) (pw_and1 (pt_cmpR op_ge (pv 3) pe_int (nomark _))))) (pss_one (ps_ret (pe_ix ix_list (pe_fld (pv 0) rfl) (pe_op op_sub (pv 3) pe_int) (fun _ _ => rfl)))) pss_nil)
      (pss_one (ps_ret (pe_ix ix_list (pe_fld (pv 0) rfl) (pv 3) (fun _ _ => rfl))))), ?_⟩
  · obtain ⟨L, m, v0, pl, rfl, _⟩ := h
    rfl
  · obtain ⟨L, m, v0, ⟨d, n⟩, rfl, hC, ⟨p, rfl, hp⟩, hn, q⟩ := h
    have hn : n < 256 := hn
    refine ⟨_, rfl, p, _, rfl, SqT.of hp, rfl, _, _, rfl, _, _, rfl, rfl, _, rfl, _, rfl, ?_⟩
    cases d with
    | false =>
      exact iteF (iteF ⟨_, rfl, L.c, C, L.dx, _, _, rfl, hC.obj, T.cl, T.nR, lk_ram _ _, _, rfl, L.r, _, _, _, rfl, rfl, SqL.of hC.ram, atI_mem rfl (by rw [hC.wf.ram]; exact hn), q⟩)
    | true =>
      have e : Cm.getP m (true, n) = Ql29.direct m n := if_pos rfl
      rw [e] at q
      unfold Ql29.direct at q
      refine iteT ⟨_, rfl, _, _, rfl, rfl, _, rfl, ifGe n 128 rfl rfl (fun e => ?_) fun e => ?_⟩
      · rw [if_neg (by omega)] at q
        exact ⟨_, rfl, L.c, C, L.dx, _, _, rfl, hC.obj, T.cl, T.nS, lk_sp _ _, _, rfl, _, _, rfl, rfl, L.s, _, _, _, rfl, rfl, SqL.of hC.sp, atI_mem (n := n - 128) (by omega) (by rw [hC.wf.sfr]; omega), q⟩
      · rw [if_pos (by omega)] at q
        exact ⟨_, rfl, L.c, C, L.dx, _, _, rfl, hC.obj, T.cl, T.nR, lk_ram _ _, _, rfl, L.r, _, _, _, rfl, rfl, SqL.of hC.ram, atI_mem rfl (by rw [hC.wf.ram]; exact hn), q⟩

abbrev s_put_place : Stmt := inClass (top 11) 11
theorem sc_put_place : FnScope ["self", "place", "byte", "direct", "number"] ["self", "place", "byte"] (defScope s_put_place) := ⟨rfl, rfl, rfl, by decide +kernel, rfl, by decide +kernel, by decide +kernel⟩
def spPutPl (C : Addr) : Sp := spM C fun rest H m v m' => ∃ (v0 : V) (pl : Bool × Nat) (z : Int) (b : Nat), rest = [v0, .int z] ∧ PlAt H v0 pl ∧ pl.2 < 256 ∧ z % 256 = ((b % 256 : Nat) : Int) ∧ v = .non ∧ m' = Cm.putP m pl b
theorem nf_put_place : NoF "put_place" := by decide +kernel
theorem ok_put_place (h : MAt K C "put_place" "Chip.put_place" s_put_place) (T : Txt K C) : MOk P w K mg base C "put_place" 1 ["self", "place", "byte"] (spPutPl C) := by
  refine h.ok sc_put_place (fun vs H Q E h => ?_) (fun _ _ _ _ _ _ us hl => match us, hl with | [_, _, _], _ => rfl) fun cdv f A outer s H vs Q E hr h => ⟨_, pss_cons (ps_asg (pv 1) (pg_tup rfl (pgs_cons (pg_name (i := 3) sc_put_place.nd rfl (Or.inl rfl)) (pgs_cons (pg_name (i := 4) sc_put_place.nd rfl (Or.inl rfl)) pgs_nil))))
      (pss_one (ps_if (PW.pt (pw_and (pt_val (pv 3)) (pw_and1 (pt_cmpR op_ge (pv 4) pe_int (nomark _))))) (pss_one (ps_asg (pe_op op_and (pv 2) pe_int) (pg_sub (pe_fld (pv 0) rfl) (pe_op op_sub (pv 4) pe_int) set_list)))
        (pss_one (ps_asg (pe_op op_and (pv 2) pe_int) (pg_sub (pe_fld (pv 0) rfl) (pv 4) set_list))))), ?_⟩
  · obtain ⟨L, m, rest, v, m', rfl, hC, ⟨v0, pl, z, b, rfl, _⟩, q⟩ := h
    rfl
  · obtain ⟨L, m, rest, v, m', rfl, hC, ⟨v0, ⟨d, n⟩, z, b, rfl, ⟨p, rfl, hp⟩, hn, hz, rfl, rfl⟩, q⟩ := h
    have hn : n < 256 := hn
    have hz' : Builtin.bitAnd z 255 = ((b % 256 : Nat) : Int) := by rw [bAnd255]; exact hz
    refine ⟨_, rfl, p, _, rfl, SqT.of hp, rfl, _, _, rfl, _, _, rfl, rfl, _, rfl, _, rfl, ?_⟩
    cases d with
    | false =>
      refine iteF (iteF ⟨_, rfl, _, _, rfl, rfl, _, rfl, L.c, C, L.dx, _, _, rfl, hC.obj, T.cl, T.nR, lk_ram _ _, _, rfl, L.r, _, _, _, rfl, rfl, hC.ram, ixN_mem rfl (by rw [hC.wf.ram]; exact hn), ?_⟩)
      exact q _ (hC.putR hz') Ext.upd_r
    | true =>
      have e : Cm.putP m (true, n) b = Ql29.putDirect m n b := if_pos rfl
      rw [e] at q
      unfold Ql29.putDirect at q
      refine iteT ⟨_, rfl, _, _, rfl, rfl, _, rfl, ifGe n 128 rfl rfl (fun e => ?_) fun e => ?_⟩
      · rw [if_neg (by omega)] at q
        refine ⟨_, rfl, _, _, rfl, rfl, _, rfl, L.c, C, L.dx, _, _, rfl, hC.obj, T.cl, T.nS, lk_sp _ _, _, rfl, _, _, rfl, rfl, L.s, _, _, n - 128, rfl, rfl, hC.sp, ixN_mem (by omega) (by rw [hC.wf.sfr]; omega), ?_⟩
        exact q _ (hC.putS hz' rfl) Ext.upd_s
      · rw [if_pos (by omega)] at q
        refine ⟨_, rfl, _, _, rfl, rfl, _, rfl, L.c, C, L.dx, _, _, rfl, hC.obj, T.cl, T.nR, lk_ram _ _, _, rfl, L.r, _, _, _, rfl, rfl, hC.ram, ixN_mem rfl (by rw [hC.wf.ram]; exact hn), ?_⟩
        exact q _ (hC.putR hz') Ext.upd_r

abbrev s_bit_place : Stmt := inClass (top 11) 12
theorem sc_bit_place : FnScope ["self", "bit"] ["self", "bit"] (defScope s_bit_place) := ⟨rfl, rfl, rfl, by decide +kernel, rfl, by decide +kernel, by decide +kernel⟩
def spBitPl (C : Addr) : Sp := spT C fun rest m pl m' => ∃ b : Nat, rest = [.int (b : Int)] ∧ b < 256 ∧ pl = (true, Ql29.bitPlace b) ∧ m' = m
theorem nf_bit_place : NoF "bit_place" := by decide +kernel
theorem ok_bit_place (h : MAt K C "bit_place" "Chip.bit_place" s_bit_place) (T : Txt K C) : MOk P w K mg base C "bit_place" 1 ["self", "bit"] (spBitPl C) := by
  refine h.ok sc_bit_place (fun vs H Q E h => ?_) (fun _ _ _ _ _ _ us hl => match us, hl with | [_, _], _ => rfl) fun cdv f A outer s H vs Q E hr h => ⟨_, pss_cons (ps_if (pt_cmpR op_lt (pv 1) pe_int (nomark _)) (pss_one (ps_ret (pe_tup (pa_cons pe_bl (pa_cons (pe_op op_add pe_int (pe_op op_fdiv (pv 1) pe_int)) pa_nil))))) pss_nil)
      (pss_one (ps_ret (pe_tup (pa_cons pe_bl (pa_cons (pe_op op_and (pv 1) pe_int) pa_nil))))), ?_⟩
  · obtain ⟨L, m, rest, pl, m', rfl, hC, ⟨b, rfl, _⟩, q⟩ := h
    rfl
  · obtain ⟨L, m, rest, pl, m', rfl, hC, ⟨b, rfl, hb, rfl, rfl⟩, q⟩ := h
    refine ⟨_, rfl, _, _, rfl, rfl, _, rfl, ifLt b 128 rfl rfl (fun e => ?_) fun e => ?_⟩
    · refine ⟨_, rfl, _, _, rfl, rfl, ⟨by decide, by decide⟩, _, _, rfl, rfl, by show 2 ≤ sizeLine; decide, fun p hp => q _ _ (hC.new hp) (Ext.new hp) ⟨p, rfl, ?_⟩⟩
      have eb : Ql29.bitPlace b = 32 + b / 8 := if_pos e
      rw [upd_same, eb]
      rfl
    · refine ⟨_, rfl, _, _, rfl, rfl, by show 2 ≤ sizeLine; decide, fun p hp => q _ _ (hC.new hp) (Ext.new hp) ⟨p, rfl, ?_⟩⟩
      have eb : Ql29.bitPlace b = b / 8 * 8 := if_neg e
      rw [upd_same, eb]
      dsimp only
      rw [bAndL b 248 248 rfl, and248 b hb]

abbrev s_get_bit : Stmt := inClass (top 11) 13
theorem sc_get_bit : FnScope ["self", "bit"] ["self", "bit"] (defScope s_get_bit) := ⟨rfl, rfl, rfl, by decide +kernel, rfl, by decide +kernel, by decide +kernel⟩
def spGetBit (C : Addr) : Sp := spM C fun rest _ m v m' => ∃ b : Nat, rest = [.int (b : Int)] ∧ b < 256 ∧ v = .int ((Ql29.bit m b).toNat : Int) ∧ m' = m
theorem nf_get_bit : NoF "get_bit" := by decide +kernel
theorem bitPlace_lt {b : Nat} (h : b < 256) : Ql29.bitPlace b < 256 := by
  unfold Ql29.bitPlace
  split <;> omega
theorem ok_get_bit (h : MAt K C "get_bit" "Chip.get_bit" s_get_bit) (T : Txt K C) (m1 : MOk P w K mg base C "bit_place" 1 ["self", "bit"] (spBitPl C)) (m2 : MOk P w K mg base C "get_place" 1 ["self", "place"] (spGetPl C)) : MOk P w K mg base C "get_bit" 2 ["self", "bit"] (spGetBit C) := by
  refine h.ok sc_get_bit (fun vs H Q E h => ?_) (fun _ _ _ _ _ _ us hl => match us, hl with | [_, _], _ => rfl) fun cdv f A outer s H vs Q E hr h => ⟨_,
      pss_one (ps_ret (pe_op op_and (pe_op op_shr (pe_m m2 T.cl hr (pv 0) (pa_cons (pe_m m1 T.cl hr (pv 0) (pa_cons (pv 1) pa_nil)) pa_nil)) (pe_op op_and (pv 1) pe_int)) pe_int)), ?_⟩
  · obtain ⟨L, m, rest, v, m', rfl, hC, ⟨b, rfl, _⟩, q⟩ := h
    rfl
  · obtain ⟨L, m, rest, v, m', rfl, hC, ⟨b, rfl, hb, rfl, rfl⟩, q⟩ := h
    refine ⟨_, rfl, L.c, L.dx, _, rfl, hC.obj, nf_get_place.lk _ _, _, rfl, L.c, L.dx, _, rfl, hC.obj, nf_bit_place.lk _ _, _, rfl, L, _, _, _, _, rfl, hC, ⟨b, rfl, hb, rfl, rfl⟩, fun H1 v1 hC1 e1 hp => ?_⟩
    refine ⟨L, _, _, _, rfl, hC1, hp, bitPlace_lt hb, _, rfl, _, _, rfl, rfl, _, _, rfl, rfl, ?_, _, _, rfl, rfl, ?_⟩
    · show 0 ≤ Builtin.bitAnd (b : Int) 7
      rw [bAnd7]
      omega
    · dsimp only
      rw [bit_of (k := b % 8) _ (bAnd7 b)]
      exact q H1 hC1 e1

abbrev s_put_bit : Stmt := inClass (top 11) 14
theorem sc_put_bit : FnScope ["self", "bit", "value", "place", "mask", "byte"] ["self", "bit", "value"] (defScope s_put_bit) := ⟨rfl, rfl, rfl, by decide +kernel, rfl, by decide +kernel, by decide +kernel⟩
def spPutBit (C : Addr) : Sp := spM C fun rest _ m v m' => ∃ (b : Nat) (t : Bool), rest = [.int (b : Int), .int (t.toNat : Int)] ∧ b < 256 ∧ v = .non ∧ m' = Ql29.putBit m b t
theorem nf_put_bit : NoF "put_bit" := by decide +kernel
theorem ok_put_bit (h : MAt K C "put_bit" "Chip.put_bit" s_put_bit) (T : Txt K C) (m1 : MOk P w K mg base C "bit_place" 1 ["self", "bit"] (spBitPl C)) (m2 : MOk P w K mg base C "get_place" 1 ["self", "place"] (spGetPl C)) (m3 : MOk P w K mg base C "put_place" 1 ["self", "place", "byte"] (spPutPl C)) :
    MOk P w K mg base C "put_bit" 2 ["self", "bit", "value"] (spPutBit C) := by
  refine h.ok sc_put_bit (fun vs H Q E h => ?_) (fun _ _ _ _ _ _ us hl => match us, hl with | [_, _, _], _ => rfl) fun cdv f A outer s H vs Q E hr h => ⟨_,
      pss_cons (ps_set (i := 3) sc_put_bit.nd rfl (Or.inl rfl) (pe_m m1 T.cl hr (pv 0) (pa_cons (pv 1) pa_nil)))
      (pss_cons (ps_set (i := 4) sc_put_bit.nd rfl (Or.inl rfl) (pe_op op_shl pe_int (pe_op op_and (pv 1) pe_int)))
      (pss_cons (ps_set (i := 5) sc_put_bit.nd rfl (Or.inl rfl) (pe_op op_and (pe_m m2 T.cl hr (pv 0) (pa_cons (pv 3) pa_nil)) (pe_op op_xor pe_int (pv 4))))
      (pss_cons (ps_if (pt_cmpR op_eq (pv 2) pe_int (nomark _)) (pss_one (ps_set (i := 5) sc_put_bit.nd rfl (Or.inl rfl) (pe_op op_or (pv 5) (pv 4)))) pss_nil)
      (pss_one (ps_expr (pe_m m3 T.cl hr (pv 0) (pa_cons (pv 3) (pa_cons (pv 5) pa_nil)))))))), ?_⟩
  · obtain ⟨L, m, rest, v, m', rfl, hC, ⟨b, t, rfl, _⟩, q⟩ := h
    rfl
  · obtain ⟨L, m, rest, v, m', rfl, hC, ⟨b, t, rfl, hb, rfl, rfl⟩, q⟩ := h
    refine ⟨_, rfl, L.c, L.dx, _, rfl, hC.obj, nf_bit_place.lk _ _, _, rfl, L, _, _, _, _, rfl, hC, ⟨b, rfl, hb, rfl, rfl⟩, fun H1 v1 hC1 e1 hp => ?_⟩
    refine ⟨_, rfl, _, _, rfl, rfl, _, _, rfl, rfl, ?_, _, rfl, L.c, L.dx, _, rfl, hC1.obj, nf_get_place.lk _ _, _, rfl, L, _, _, _, rfl, hC1, hp, bitPlace_lt hb, _, rfl, _, _, rfl, rfl, _, _, rfl, rfl, _, rfl, rfl, _, rfl, ifEq t.toNat 1 rfl rfl (fun et => ?_) fun et => ?_⟩
    · refine ⟨?_, ?_, by decide⟩
      · show 0 ≤ Builtin.bitAnd (b : Int) 7
        rw [bAnd7]
        omega
      · show Builtin.bitAnd (b : Int) 7 ≤ 1000000
        rw [bAnd7]
        omega
    all_goals
      have hx : Cm.getP m (true, Ql29.bitPlace b) < 256 := Cm.dir_lt m _
      have hk : b % 8 < 8 := Nat.mod_lt _ (by decide)
      have ez : Builtin.bitAnd ((Cm.getP m (true, Ql29.bitPlace b) : Nat) : Int) (Builtin.bitXor 255 (1 * 2 ^ (Builtin.bitAnd (b : Int) 7).toNat)) = ((Cm.getP m (true, Ql29.bitPlace b) &&& (255 ^^^ 2 ^ (b % 8)) : Nat) : Int) := by
        rw [mask_of (bAnd7 b), clr_of]
    · have tt : t = true := by cases t with
        | true => rfl
        | false => cases et
      subst tt
      refine ⟨_, rfl, _, rfl, _, _, rfl, rfl, _, rfl, L.c, L.dx, _, rfl, hC1.obj, nf_put_place.lk _ _, _, rfl, _, rfl, L, _, _, _, _, rfl, hC1, ⟨v1, (true, Ql29.bitPlace b), _, Ql29.withBit (Cm.getP m (true, Ql29.bitPlace b)) (b % 8) true, rfl, hp, bitPlace_lt hb, ?_, rfl, rfl⟩, fun H2 hC2 e2 => q H2 hC2 (e1.trans e2)⟩
      rw [ez, mask_of (bAnd7 b), with_t _ _ hx hk]
      omega
    · have tt : t = false := by cases t with
        | true => exact absurd rfl et
        | false => rfl
      subst tt
      refine ⟨_, rfl, L.c, L.dx, _, rfl, hC1.obj, nf_put_place.lk _ _, _, rfl, _, rfl, L, _, _, _, _, rfl, hC1, ⟨v1, (true, Ql29.bitPlace b), _, Ql29.withBit (Cm.getP m (true, Ql29.bitPlace b)) (b % 8) false, rfl, hp, bitPlace_lt hb, ?_, rfl, rfl⟩, fun H2 hC2 e2 => q H2 hC2 (e1.trans e2)⟩
      rw [ez, with_f _ _ hx hk]
      omega

abbrev s_get_flag : Stmt := inClass (top 11) 15
theorem sc_get_flag : FnScope ["self", "number"] ["self", "number"] (defScope s_get_flag) := ⟨rfl, rfl, rfl, by decide +kernel, rfl, by decide +kernel, by decide +kernel⟩
def spGetFlag (C : Addr) : Sp := spP C fun rest m v => ∃ k : Nat, rest = [.int (k : Int)] ∧ v = .int ((Ql29.psw m k).toNat : Int)
theorem nf_get_flag : NoF "get_flag" := by decide +kernel
theorem ok_get_flag (h : MAt K C "get_flag" "Chip.get_flag" s_get_flag) (T : Txt K C) : MOk P w K mg base C "get_flag" 1 ["self", "number"] (spGetFlag C) := by
  refine h.ok sc_get_flag (fun vs H Q E h => ?_) (fun _ _ _ _ _ _ us hl => match us, hl with | [_, _], _ => rfl) fun cdv f A outer s H vs Q E hr h => ⟨_, pss_one (ps_ret (pe_op op_and (pe_op op_shr (pe_ix ix_list (pe_fld (pv 0) rfl) pe_int (fun _ _ => rfl)) (pv 1)) pe_int)), ?_⟩
  · obtain ⟨L, m, rest, v, rfl, hC, ⟨k, rfl, _⟩, q⟩ := h
    rfl
  · obtain ⟨L, m, rest, v, rfl, hC, ⟨k, rfl, rfl⟩, q⟩ := h
    refine ⟨_, rfl, L.c, C, L.dx, _, _, rfl, hC.obj, T.cl, T.nS, lk_sp _ _, L.s, _, _, _, rfl, rfl, SqL.of hC.sp, atI_mem (n := 80) rfl (by rw [hC.wf.sfr]; decide), _, rfl, _, _, rfl, rfl, (by show (0 : Int) ≤ (k : Int); omega), _, _, rfl, rfl, ?_⟩
    dsimp only
    rw [bit_of (k := k) _ rfl]
    exact q

abbrev s_put_flag : Stmt := inClass (top 11) 16
theorem sc_put_flag : FnScope ["self", "number", "holds", "mask", "byte"] ["self", "number", "holds"] (defScope s_put_flag) := ⟨rfl, rfl, rfl, by decide +kernel, rfl, by decide +kernel, by decide +kernel⟩
def spPutFlag (C : Addr) : Sp := spM C fun rest _ m v m' => ∃ (k : Nat) (t : Bool), rest = [.int (k : Int), .bl t] ∧ k < 8 ∧ v = .non ∧ m' = Cm.flag1 m k t
theorem nf_put_flag : NoF "put_flag" := by decide +kernel
theorem ok_put_flag (h : MAt K C "put_flag" "Chip.put_flag" s_put_flag) (T : Txt K C) : MOk P w K mg base C "put_flag" 1 ["self", "number", "holds"] (spPutFlag C) := by
  refine h.ok sc_put_flag (fun vs H Q E h => ?_) (fun _ _ _ _ _ _ us hl => match us, hl with | [_, _, _], _ => rfl) fun cdv f A outer s H vs Q E hr h => ⟨_,
      pss_cons (ps_set (i := 3) sc_put_flag.nd rfl (Or.inl rfl) (pe_op op_shl pe_int (pv 1)))
      (pss_cons (ps_set (i := 4) sc_put_flag.nd rfl (Or.inl rfl) (pe_op op_and (pe_ix ix_list (pe_fld (pv 0) rfl) pe_int (fun _ _ => rfl)) (pe_op op_xor pe_int (pv 3))))
      (pss_cons (ps_if (pt_val (pv 2)) (pss_one (ps_set (i := 4) sc_put_flag.nd rfl (Or.inl rfl) (pe_op op_or (pv 4) (pv 3)))) pss_nil)
      (pss_one (ps_asg (pv 4) (pg_sub (pe_fld (pv 0) rfl) pe_int set_list))))), ?_⟩
  · obtain ⟨L, m, rest, v, m', rfl, hC, ⟨k, t, rfl, _⟩, q⟩ := h
    rfl
  · obtain ⟨L, m, rest, v, m', rfl, hC, ⟨k, t, rfl, hk, rfl, rfl⟩, q⟩ := h
    have hx : at_ m.sfr 80 < 256 := Cm.at_lt _ _
    have ez : Builtin.bitAnd ((at_ m.sfr 80 : Nat) : Int) (Builtin.bitXor 255 (1 * 2 ^ ((k : Nat) : Int).toNat)) = ((at_ m.sfr 80 &&& (255 ^^^ 2 ^ k) : Nat) : Int) := by
      rw [mask_of (k := k) rfl, clr_of]
    have hf : ∀ b, Ql29.withBit (at_ m.sfr 80) k b < 256 := fun b => Cm.withBit_lt hx hk
    refine ⟨_, rfl, _, _, rfl, rfl, ⟨by show (0 : Int) ≤ (k : Int); omega, by show (k : Int) ≤ 1000000; omega, by decide⟩, _, rfl, L.c, C, L.dx, _, _, rfl, hC.obj, T.cl, T.nS, lk_sp _ _, L.s, _, _, _, rfl, rfl, SqL.of hC.sp, atI_mem (n := 80) rfl (by rw [hC.wf.sfr]; decide), _, rfl, _, _, rfl, rfl, _, _, rfl, rfl, _, rfl, _, rfl, ?_⟩
    cases t with
    | true =>
      refine iteT ⟨_, rfl, _, rfl, _, _, rfl, rfl, _, rfl, _, rfl, L.c, C, L.dx, _, _, rfl, hC.obj, T.cl, T.nS, lk_sp _ _, L.s, _, _, 80, rfl, rfl, hC.sp, ixN_mem (j := 80) rfl (by rw [hC.wf.sfr]; decide), ?_⟩
      refine q _ (hC.putS (p := 208) (v := Ql29.withBit (at_ m.sfr 80) k true) ?_ rfl) Ext.upd_s
      rw [ez, mask_of (k := k) rfl, with_t _ _ hx hk, Nat.mod_eq_of_lt (hf true)]
    | false =>
      refine iteF ⟨_, rfl, _, rfl, L.c, C, L.dx, _, _, rfl, hC.obj, T.cl, T.nS, lk_sp _ _, L.s, _, _, 80, rfl, rfl, hC.sp, ixN_mem (j := 80) rfl (by rw [hC.wf.sfr]; decide), ?_⟩
      refine q _ (hC.putS (p := 208) (v := Ql29.withBit (at_ m.sfr 80) k false) ?_ rfl) Ext.upd_s
      rw [ez, with_f _ _ hx hk, Nat.mod_eq_of_lt (hf false)]

abbrev s_set_parity : Stmt := inClass (top 11) 17
theorem sc_set_parity : FnScope ["self", "byte"] ["self"] (defScope s_set_parity) := ⟨rfl, rfl, rfl, by decide +kernel, rfl, by decide +kernel, by decide +kernel⟩
def spSetPar (C : Addr) : Sp := spM C fun rest _ m v m' => rest = [] ∧ v = .non ∧ m' = Ql29.settled m
theorem nf_set_parity : NoF "set_parity" := by decide +kernel
theorem shr_of (x k : Nat) {z : Int} (e : z = (k : Int)) : (x : Int) / 2 ^ z.toNat = ((x / 2 ^ k : Nat) : Int) := by
  subst e
  rw [Int.toNat_natCast, Int.natCast_ediv, Int.natCast_pow]
  rfl
theorem xor_sh (x k : Nat) {z : Int} (e : z = (k : Int)) : Builtin.bitXor (x : Int) ((x : Int) / 2 ^ z.toNat) = ((x ^^^ (x / 2 ^ k) : Nat) : Int) := by rw [shr_of x k e, bXor]
theorem ok_set_parity (h : MAt K C "set_parity" "Chip.set_parity" s_set_parity) (T : Txt K C) : MOk P w K mg base C "set_parity" 1 ["self"] (spSetPar C) := by
  refine h.ok sc_set_parity (fun vs H Q E h => ?_) (fun _ _ _ _ _ _ us hl => match us, hl with | [_], _ => rfl) fun cdv f A outer s H vs Q E hr h => ⟨_,
      pss_cons (ps_set (i := 1) sc_set_parity.nd rfl (Or.inl rfl) (pe_ix ix_list (pe_fld (pv 0) rfl) pe_int (fun _ _ => rfl)))
      (pss_cons (ps_set (i := 1) sc_set_parity.nd rfl (Or.inl rfl) (pe_op op_xor (pv 1) (pe_op op_shr (pv 1) pe_int)))
      (pss_cons (ps_set (i := 1) sc_set_parity.nd rfl (Or.inl rfl) (pe_op op_xor (pv 1) (pe_op op_shr (pv 1) pe_int)))
      (pss_cons (ps_set (i := 1) sc_set_parity.nd rfl (Or.inl rfl) (pe_op op_xor (pv 1) (pe_op op_shr (pv 1) pe_int)))
      (pss_one (ps_asg (pe_op op_or (pe_op op_and (pe_ix ix_list (pe_fld (pv 0) rfl) pe_int (fun _ _ => rfl)) pe_int) (pe_op op_and (pv 1) pe_int)) (pg_sub (pe_fld (pv 0) rfl) pe_int set_list)))))), ?_⟩
  · obtain ⟨L, m, rest, v, m', rfl, hC, ⟨rfl, _⟩, q⟩ := h
    rfl
  · obtain ⟨L, m, rest, v, m', rfl, hC, ⟨rfl, rfl, rfl⟩, q⟩ := h
    have hx : at_ m.sfr 96 < 256 := Cm.at_lt _ _
    have hy : at_ m.sfr 80 < 256 := Cm.at_lt _ _
    refine ⟨_, rfl, L.c, C, L.dx, _, _, rfl, hC.obj, T.cl, T.nS, lk_sp _ _, L.s, _, _, _, rfl, rfl, SqL.of hC.sp, atI_mem (n := 96) rfl (by rw [hC.wf.sfr]; decide), ?_⟩
    refine ⟨_, rfl, _, rfl, _, _, rfl, rfl, (by show (0 : Int) ≤ 4; decide), _, _, rfl, rfl, _, rfl, _, rfl, _, _, rfl, rfl, (by show (0 : Int) ≤ 2; decide), _, _, rfl, rfl, _, rfl, _, rfl, _, _, rfl, rfl, (by show (0 : Int) ≤ 1; decide), _, _, rfl, rfl, ?_⟩
    refine ⟨_, rfl, L.c, C, L.dx, _, _, rfl, hC.obj, T.cl, T.nS, lk_sp _ _, L.s, _, _, _, rfl, rfl, SqL.of hC.sp, atI_mem (n := 80) rfl (by rw [hC.wf.sfr]; decide), _, _, rfl, rfl, _, rfl, _, _, rfl, rfl, _, _, rfl, rfl, _, rfl, L.c, C, L.dx, _, _, rfl, hC.obj, T.cl, T.nS, lk_sp _ _, L.s, _, _, 80, rfl, rfl, hC.sp, ixN_mem (j := 80) rfl (by rw [hC.wf.sfr]; decide), ?_⟩
    refine q _ (hC.putS (p := 208) (v := Ql29.withBit (at_ m.sfr 80) 0 (Ql29.odd (at_ m.sfr 96))) ?_ rfl) Ext.upd_s
    rw [Nat.mod_eq_of_lt (Cm.withBit_lt hy (by decide)), ← par_put _ hy, ← par_fold _ hx, xor_sh (at_ m.sfr 96) 4 (z := 4) rfl, xor_sh _ 2 (z := 2) rfl, xor_sh _ 1 (z := 1) rfl, bAndL _ 1 1 rfl, bAndL _ 254 254 rfl, bOr]

abbrev s_pop : Stmt := inClass (top 11) 19
theorem sc_pop : FnScope ["self", "out"] ["self"] (defScope s_pop) := ⟨rfl, rfl, rfl, by decide +kernel, rfl, by decide +kernel, by decide +kernel⟩
def spPop (C : Addr) : Sp := spM C fun rest _ m v m' => rest = [] ∧ v = .int ((Ql29.pop m).1 : Int) ∧ m' = (Ql29.pop m).2
theorem nf_pop : NoF "pop" := by decide +kernel
theorem ok_pop (h : MAt K C "pop" "Chip.pop" s_pop) (T : Txt K C) (g : IntG mg "SP" 129) (m1 : MOk P w K mg base C "get" 1 ["self", "number"] (spGet C)) (m2 : MOk P w K mg base C "put" 1 ["self", "number", "byte"] (spPut C)) : MOk P w K mg base C "pop" 2 ["self"] (spPop C) := by
  refine h.ok sc_pop (fun vs H Q E h => ?_) (fun _ _ _ _ _ _ us hl => match us, hl with | [_], _ => rfl) fun cdv f A outer s H vs Q E hr h => ⟨_,
      pss_cons (ps_set (i := 1) sc_pop.nd rfl (Or.inl rfl) (pe_ix ix_list (pe_fld (pv 0) rfl) (pe_m m1 T.cl hr (pv 0) (pa_cons (pe_n g) pa_nil)) (fun _ _ => rfl)))
      (pss_cons (ps_expr (pe_m m2 T.cl hr (pv 0) (pa_cons (pe_n g) (pa_cons (pe_op op_sub (pe_m m1 T.cl hr (pv 0) (pa_cons (pe_n g) pa_nil)) pe_int) pa_nil))))
      (pss_one (ps_ret (pv 1)))), ?_⟩
  · obtain ⟨L, m, rest, v, m', rfl, hC, ⟨rfl, _⟩, q⟩ := h
    rfl
  · obtain ⟨L, m, rest, v, m', rfl, hC, ⟨rfl, rfl, rfl⟩, q⟩ := h
    have hs : Ql29.sfr m 129 < 256 := Cm.sfr_lt m 129
    refine ⟨_, rfl, L.c, C, L.dx, _, _, rfl, hC.obj, T.cl, T.nR, lk_ram _ _, _, rfl, L.c, L.dx, _, rfl, hC.obj, nf_get.lk _ _, L, m, _, _, rfl, hC, ⟨129, rfl, by decide, by decide, rfl⟩, L.r, _, _, _, rfl, rfl, SqL.of hC.ram, atI_mem rfl (by rw [hC.wf.ram]; exact hs), ?_⟩
    refine ⟨_, rfl, L.c, L.dx, _, rfl, hC.obj, nf_put.lk _ _, _, rfl, L.c, L.dx, _, rfl, hC.obj, nf_get.lk _ _, L, m, _, _, rfl, hC, ⟨129, rfl, by decide, by decide, rfl⟩, _, _, rfl, rfl, L, m, _, _, _, rfl, hC, ⟨129, _, (Ql29.sfr m 129 + 255) % 256, rfl, by decide, by decide, ?_, rfl, rfl⟩, fun H1 hC1 e1 => ⟨_, rfl, q H1 hC1 e1⟩⟩
    omega

abbrev s_pop_pc : Stmt := inClass (top 11) 21
theorem sc_pop_pc : FnScope ["self", "high"] ["self"] (defScope s_pop_pc) := ⟨rfl, rfl, rfl, by decide +kernel, rfl, by decide +kernel, by decide +kernel⟩
def spPopPc (C : Addr) : Sp := spM C fun rest _ m v m' => rest = [] ∧ v = .non ∧ m' = Ql29.back m
theorem nf_pop_pc : NoF "pop_pc" := by decide +kernel
theorem pop_lt (m : Ql29.St) : (Ql29.pop m).1 < 256 := Cm.ins_lt m _
theorem ok_pop_pc (h : MAt K C "pop_pc" "Chip.pop_pc" s_pop_pc) (T : Txt K C) (m1 : MOk P w K mg base C "pop" 2 ["self"] (spPop C)) : MOk P w K mg base C "pop_pc" 3 ["self"] (spPopPc C) := by
  refine h.ok sc_pop_pc (fun vs H Q E h => ?_) (fun _ _ _ _ _ _ us hl => match us, hl with | [_], _ => rfl) fun cdv f A outer s H vs Q E hr h => ⟨_,
      pss_cons (ps_set (i := 1) sc_pop_pc.nd rfl (Or.inl rfl) (pe_m0 m1 T.cl hr (pv 0))) (pss_one (ps_fld (pv 0) (pe_op op_add (pe_op op_mul pe_int (pv 1)) (pe_m0 m1 T.cl hr (pv 0))) rfl)), ?_⟩
  · obtain ⟨L, m, rest, v, m', rfl, hC, ⟨rfl, _⟩, q⟩ := h
    rfl
  · obtain ⟨L, m, rest, v, m', rfl, hC, ⟨rfl, rfl, rfl⟩, q⟩ := h
    refine ⟨_, rfl, L.c, L.dx, _, rfl, hC.obj, nf_pop.lk _ _, L, m, _, _, _, rfl, hC, ⟨rfl, rfl, rfl⟩, fun H1 hC1 e1 => ⟨_, rfl, _, _, rfl, rfl, .inl ⟨by decide, by decide⟩, _, rfl, L.c, L.dx, _, rfl, hC1.obj, nf_pop.lk _ _, L, _, _, _, _, rfl, hC1, ⟨rfl, rfl, rfl⟩, fun H2 hC2 e2 => ?_⟩⟩
    refine ⟨_, _, rfl, rfl, _, rfl, L.c, C, L.dx, _, rfl, hC2.obj, T.cl, T.nP, (by show 5 < 1000; decide), ?_⟩
    refine q _ (hC2.putPc (q := 256 * (Ql29.pop m).1 + (Ql29.pop (Ql29.pop m).2).1) ?_) ((e1.trans e2).trans Ext.upd_c)
    have h1 := pop_lt m
    have h2 := pop_lt (Ql29.pop m).2
    omega

abbrev s_jump_by : Stmt := inClass (top 11) 22
theorem sc_jump_by : FnScope ["self", "distance"] ["self", "distance"] (defScope s_jump_by) := ⟨rfl, rfl, rfl, by decide +kernel, rfl, by decide +kernel, by decide +kernel⟩
def spJumpBy (C : Addr) : Sp := spM C fun rest _ m v m' => ∃ d : Nat, rest = [.int (d : Int)] ∧ d < 256 ∧ v = .non ∧ m' = Cm.jumpBy m d
theorem nf_jump_by : NoF "jump_by" := by decide +kernel
theorem ok_jump_by (h : MAt K C "jump_by" "Chip.jump_by" s_jump_by) (T : Txt K C) : MOk P w K mg base C "jump_by" 1 ["self", "distance"] (spJumpBy C) := by
  refine h.ok sc_jump_by (fun vs H Q E h => ?_) (fun _ _ _ _ _ _ us hl => match us, hl with | [_, _], _ => rfl) fun cdv f A outer s H vs Q E hr h => ⟨_,
      pss_cons (ps_if (pt_cmpR op_ge (pv 1) pe_int (nomark _)) (pss_one (ps_set (i := 1) sc_jump_by.nd rfl (Or.inl rfl) (pe_op op_sub (pv 1) pe_int))) pss_nil)
      (pss_one (ps_fld (pv 0) (pe_op op_and (pe_op op_add (pe_fld (pv 0) rfl) (pv 1)) pe_int) rfl)), ?_⟩
  · obtain ⟨L, m, rest, v, m', rfl, hC, ⟨d, rfl, _⟩, q⟩ := h
    rfl
  · obtain ⟨L, m, rest, v, m', rfl, hC, ⟨d, rfl, hd, rfl, rfl⟩, q⟩ := h
    unfold Cm.jumpBy Ql29.away Ql29.signed at q
    rw [Nat.mod_eq_of_lt hd] at q
    refine ⟨_, rfl, _, _, rfl, rfl, _, rfl, ifGe d 128 rfl rfl (fun e => ?_) fun e => ?_⟩
    · rw [if_neg (by omega)] at q
      refine ⟨_, rfl, _, _, rfl, rfl, _, rfl, L.c, C, L.dx, _, _, rfl, hC.obj, T.cl, T.nP, lk_pc _ _, _, rfl, _, _, rfl, rfl, _, _, rfl, rfl, _, rfl, L.c, C, L.dx, _, rfl, hC.obj, T.cl, T.nP, (by show 5 < 1000; decide), ?_⟩
      refine q _ (hC.putPc ?_) Ext.upd_c
      rw [bAnd65535]
      omega
    · rw [if_pos (by omega)] at q
      refine ⟨_, rfl, L.c, C, L.dx, _, _, rfl, hC.obj, T.cl, T.nP, lk_pc _ _, _, rfl, _, _, rfl, rfl, _, _, rfl, rfl, _, rfl, L.c, C, L.dx, _, rfl, hC.obj, T.cl, T.nP, (by show 5 < 1000; decide), ?_⟩
      refine q _ (hC.putPc ?_) Ext.upd_c
      rw [bAnd65535]
      omega

abbrev s_jump_if : Stmt := inClass (top 11) 23
theorem sc_jump_if : FnScope ["self", "holds", "distance"] ["self", "holds"] (defScope s_jump_if) := ⟨rfl, rfl, rfl, by decide +kernel, rfl, by decide +kernel, by decide +kernel⟩
def spJumpIf (C : Addr) : Sp := spM C fun rest _ m v m' => ∃ t : Bool, rest = [.bl t] ∧ v = .non ∧ m' = Cm.jumpIf m t
theorem nf_jump_if : NoF "jump_if" := by decide +kernel
theorem fv_lt (m : Ql29.St) : Cm.fv m < 256 := Cm.code_lt m _
theorem ok_jump_if (h : MAt K C "jump_if" "Chip.jump_if" s_jump_if) (T : Txt K C) (m1 : MOk P w K mg base C "fetch" 1 ["self"] (spFetch C)) (m2 : MOk P w K mg base C "jump_by" 1 ["self", "distance"] (spJumpBy C)) : MOk P w K mg base C "jump_if" 2 ["self", "holds"] (spJumpIf C) := by
  refine h.ok sc_jump_if (fun vs H Q E h => ?_) (fun _ _ _ _ _ _ us hl => match us, hl with | [_, _], _ => rfl) fun cdv f A outer s H vs Q E hr h => ⟨_,
      pss_cons (ps_set (i := 2) sc_jump_if.nd rfl (Or.inl rfl) (pe_m0 m1 T.cl hr (pv 0))) (pss_one (ps_if (pt_val (pv 1)) (pss_one (ps_expr (pe_m m2 T.cl hr (pv 0) (pa_cons (pv 2) pa_nil)))) pss_nil)), ?_⟩
  · obtain ⟨L, m, rest, v, m', rfl, hC, ⟨t, rfl, _⟩, q⟩ := h
    rfl
  · obtain ⟨L, m, rest, v, m', rfl, hC, ⟨t, rfl, rfl, rfl⟩, q⟩ := h
    refine ⟨_, rfl, L.c, L.dx, _, rfl, hC.obj, nf_fetch.lk _ _, L, m, _, _, _, rfl, hC, ⟨rfl, rfl, rfl⟩, fun H1 hC1 e1 => ⟨_, rfl, _, rfl, ?_⟩⟩
    cases t with
    | true => exact iteT ⟨_, rfl, L.c, L.dx, _, rfl, hC1.obj, nf_jump_by.lk _ _, _, rfl, L, _, _, _, _, rfl, hC1, ⟨Cm.fv m, rfl, fv_lt m, rfl, rfl⟩, fun H2 hC2 e2 => q H2 hC2 (e1.trans e2)⟩
    | false => exact iteF (q H1 hC1 e1)

/-! ### x in (1, 2, ..), the tuple written -/
def nV (n : Nat) : V := .int (n : Int)
def cNats : List Expr → Option (List Nat)
  | [] => some []
  | .Constant (.int (.ofNat n)) _ _ :: r => (cNats r).map (n :: ·)
  | _ => none
def tNats (ns : List Nat) : TA := fun _ H Q => Q (ns.map nV) H
theorem pa_nats {X : Cx} : ∀ {es : List Expr} {ns : List Nat}, cNats es = some ns → PA X es (tNats ns)
  | [], ns, h => by
    have e : ns = [] := (Option.some.inj h).symm
    subst e
    exact ⟨fun pos pins s σ H Q I q => pa_nil.run pos pins s σ H Q I q⟩
  | .Constant (.int (.ofNat n)) j p :: r, ns, h => by
    have h : (cNats r).map (n :: ·) = some ns := h
    cases e : cNats r with
    | none =>
      rw [e] at h
      cases h
    | some l =>
      rw [e] at h
      have e2 : ns = n :: l := (Option.some.inj h).symm
      subst e2
      exact ⟨fun pos pins s σ H Q I q => (pa_cons pe_int (pa_nats e)).run pos pins s σ H Q I q⟩
def tInN (ta : TE) (ns : List Nat) : TT := fun σ H Q => ta σ H fun x H1 => ∃ n : Nat, x = .int (n : Int) ∧ ∀ p, H1 p = none → Q (decide (n ∈ ns)) (upd H1 p (.tup (ns.map nV)))
theorem inV_nats (n : Nat) : ∀ ns : List Nat, inV (.int (n : Int)) (ns.map nV) = decide (n ∈ ns)
  | [] => rfl
  | a :: r => by
    have ih := inV_nats n r
    unfold inV at ih ⊢
    rw [List.map_cons, List.any_cons, ih]
    show (((a : Int) == (n : Int)) || decide (n ∈ r)) = decide (n ∈ a :: r)
    by_cases e : n = a
    · subst e
      simp
    · have ne : ¬ (a : Int) = (n : Int) := fun q => e (by omega)
      simp [e, ne]
theorem flat_nats : ∀ ns : List Nat, (ns.map nV).all flatV = true
  | [] => rfl
  | a :: r => by
    rw [List.map_cons, List.all_cons, flat_nats r]
    rfl
theorem pt_inN {X : Cx} {a : Expr} {es : List Expr} {x1 : Nat} {p1 pos : Pos} {ta : TE} {ns : List Nat} (ha : PE X a ta) (he : cNats es = some ns) (hl : ns.length ≤ 1000 := by decide) : PT X (.Compare a [.In] [.Tuple es x1 p1] pos) (tInN ta ns) := by
  refine ⟨fun pins s σ H Q I h => ?_⟩
  refine wpAny_isTrue_Compare1 (thn (ha.run pins s σ H _ I h) fun v s1 ⟨x, H1, I1, r1, q1⟩ => ?_) rfl
  obtain ⟨n, rfl, q1⟩ := q1
  have hlen : (ns.map nV).length ≤ sizeLine := by
    rw [List.length_map]
    exact Nat.le_trans hl (by decide)
  refine thn ((pe_tup (x1 := x1) (pos := p1) (pa_nats (X := X) he)).run pins s1 σ H1 (fun y H2 => ∃ p, H1 p = none ∧ y = .ref p ∧ H2 = upd H1 p (.tup (ns.map nV))) I1 ⟨hlen, fun p hp => ⟨p, hp, rfl, rfl⟩⟩) fun u s2 ⟨y, H2, I2, r2, p, hp, ey, eH⟩ => ?_
  subst ey eH
  refine thn (op_in_seq (X := X) pins s2 σ _ (.int (n : Int)) (.ref p) v u (fun z H3 => z = .bl (decide (n ∈ ns)) ∧ H3 = upd H1 p (.tup (ns.map nV))) I2 r1 r2 ⟨p, _, rfl, .inr (SqT.of upd_same), rfl, flat_nats ns, ?_, rfl⟩) fun c s3 ⟨z, H3, I3, r3, ez, eH⟩ => ?_
  · show V.bl (if false = true then _ else inV _ _) = _
    rw [if_neg Bool.false_ne_true, inV_nats]
  · subst ez eH
    cases r3
    exact wpAny_truthy_bool ⟨_, I3, q1 p hp⟩

/-! ### statements whose test is over a slot -/
section
variable {L : Ad} {m : Ql29.St} {H : Hp} {σ : L2.St} {D : Ends} {t u : TS} {i : Nat} {n : Nat} {z : Int}
theorem s_in {ns : List Nat} (hσ : σ[i]? = some (some (.int (n : Int)))) (hC : ChipAt C L H m) (h1 : n ∈ ns → ∀ H1, ChipAt C L H1 m → Ext L H H1 → t D σ H1) (h2 : ¬ n ∈ ns → ∀ H1, ChipAt C L H1 m → Ext L H H1 → u D σ H1) : tIfS (tInN (tVar i) ns) t u D σ H :=
  ⟨_, hσ, n, rfl, fun p hp => iteD (fun e => h1 e _ (hC.new hp) (Ext.new hp)) fun e => h2 e _ (hC.new hp) (Ext.new hp)⟩
theorem s_eq (y : Nat) (hσ : σ[i]? = some (some (.int (n : Int)))) (ez : z = (y : Int)) (h1 : n = y → t D σ H) (h2 : ¬ n = y → u D σ H) : tIfS (tTest (tOp rEq (tVar i) (tC (.int z)))) t u D σ H :=
  ⟨_, hσ, rfl, _, rfl, ifEq n y rfl ez h1 h2⟩
theorem s_lt (y : Nat) (hσ : σ[i]? = some (some (.int (n : Int)))) (ez : z = (y : Int)) (h1 : n < y → t D σ H) (h2 : ¬ n < y → u D σ H) : tIfS (tTest (tOp (rI0 fun i j => .bl (decide (i < j))) (tVar i) (tC (.int z)))) t u D σ H :=
  ⟨_, hσ, _, _, rfl, rfl, _, rfl, ifLt n y rfl ez h1 h2⟩
/-- the low four bits -/
theorem s_low (y : Nat) (hσ : σ[i]? = some (some (.int (n : Int)))) (ez : z = (y : Int)) (h1 : n % 16 = y → t D σ H) (h2 : ¬ n % 16 = y → u D σ H) :
    tIfS (tTest (tOp rEq (tOp (rI0 fun i j => .int (Builtin.bitAnd i j)) (tVar i) (tC (.int 15))) (tC (.int z)))) t u D σ H :=
  ⟨_, hσ, _, _, rfl, rfl, rfl, _, rfl, ifEq (n % 16) y (bAnd15 n) ez h1 h2⟩
/-- x or y of truth values -/
theorem orV {Q : VK} {c p : Bool} (q : Q (.bl (c || p)) H) : if c = true then Q (.bl true) H else Q (.bl p) H := by
  cases c with
  | true => exact iteT q
  | false => exact iteF q
end
theorem opP_lt {m : Ql29.St} {k : Nat} (hk : k < 16) : (Cm.opP m k).2 < 256 := by
  unfold Cm.opP
  split
  · exact fv_lt m
  · split
    · exact Cm.ins_lt m _
    · have := bank_lt m
      show Ql29.bank m + k % 8 < 256
      omega
theorem low_lt (n : Nat) : n % 16 < 16 := Nat.mod_lt _ (by decide)

abbrev s_joined : Stmt := top 15
theorem sc_joined : FnScope ["row", "first", "second"] ["row", "first", "second"] (defScope s_joined) := ⟨rfl, rfl, rfl, by decide +kernel, rfl, by decide +kernel, by decide +kernel⟩
def spJoined : Sp := fun vs H Q _ => ∃ row x y : Nat, vs = [.int (row : Int), .int (x : Int), .int (y : Int)] ∧ Q (.int (Cm.joined row x y : Int)) H
theorem ok_joined (h : GAt K mg "joined" s_joined) : GOk P w K mg base "joined" 1 ["row", "first", "second"] spJoined := by
  refine h.ok sc_joined (fun vs H Q E h => ?_) (fun _ _ _ _ _ _ us hl => match us, hl with | [_, _, _], _ => rfl) fun cdv f A outer s H vs Q E hr h => ⟨_,
      pss_cons (ps_if (pt_cmpR op_eq (pv 0) pe_int (nomark _)) (pss_one (ps_ret (pe_op op_or (pv 1) (pv 2)))) pss_nil)
      (pss_cons (ps_if (pt_cmpR op_eq (pv 0) pe_int (nomark _)) (pss_one (ps_ret (pe_op op_and (pv 1) (pv 2)))) pss_nil)
      (pss_one (ps_ret (pe_op op_xor (pv 1) (pv 2))))), ?_⟩
  · obtain ⟨row, x, y, rfl, _⟩ := h
    rfl
  · obtain ⟨row, x, y, rfl, q⟩ := h
    unfold Cm.joined at q
    refine s_eq 4 rfl rfl (fun e => ?_) fun e => s_eq 5 rfl rfl (fun e5 => ?_) fun e5 => ?_
    · rw [if_pos e] at q
      refine ⟨_, rfl, _, rfl, _, _, rfl, rfl, ?_⟩
      dsimp only
      rw [bOr]
      exact q
    · rw [if_neg e, if_pos e5] at q
      refine ⟨_, rfl, _, rfl, _, _, rfl, rfl, ?_⟩
      dsimp only
      rw [bAnd]
      exact q
    · rw [if_neg e, if_neg e5] at q
      refine ⟨_, rfl, _, rfl, _, _, rfl, rfl, ?_⟩
      dsimp only
      rw [bXor]
      exact q

abbrev s_new_bit : Stmt := top 35
theorem sc_new_bit : FnScope ["row", "value"] ["row", "value"] (defScope s_new_bit) := ⟨rfl, rfl, rfl, by decide +kernel, rfl, by decide +kernel, by decide +kernel⟩
def spNewBit : Sp := fun vs H Q _ => ∃ (row : Nat) (t : Bool), vs = [.int (row : Int), .int (t.toNat : Int)] ∧ (row = 11 ∨ row = 12 ∨ row = 13) ∧ Q (.int ((Cm.newBit row t).toNat : Int)) H
theorem ok_new_bit (h : GAt K mg "new_bit" s_new_bit) : GOk P w K mg base "new_bit" 1 ["row", "value"] spNewBit := by
  refine h.ok sc_new_bit (fun vs H Q E h => ?_) (fun _ _ _ _ _ _ us hl => match us, hl with | [_, _], _ => rfl) fun cdv f A outer s H vs Q E hr h => ⟨_,
      pss_cons (ps_if (pt_cmpR op_eq (pv 0) pe_int (nomark _)) (pss_one (ps_ret (pe_op op_sub pe_int (pv 1)))) pss_nil) (pss_one (ps_ret (pe_op op_sub (pv 0) pe_int))), ?_⟩
  · obtain ⟨row, t, rfl, _⟩ := h
    rfl
  · obtain ⟨row, t, rfl, hr3, q⟩ := h
    unfold Cm.newBit at q
    refine s_eq 11 rfl rfl (fun e => ?_) fun e => ?_
    · rw [if_pos e] at q
      refine ⟨_, rfl, _, _, rfl, rfl, ?_⟩
      cases t <;> exact q
    · rw [if_neg e] at q
      refine ⟨_, rfl, _, _, rfl, rfl, ?_⟩
      rcases hr3 with h3 | h3 | h3
      · exact absurd h3 e
      · subst h3
        exact q
      · subst h3
        exact q

abbrev s_operand : Stmt := top 16
theorem sc_operand : FnScope ["chip", "first"] ["chip", "first"] (defScope s_operand) := ⟨rfl, rfl, rfl, by decide +kernel, rfl, by decide +kernel, by decide +kernel⟩
def spOperand (C : Addr) : Sp := spM C fun rest _ m v m' => ∃ op : Nat, rest = [.int (op : Int)] ∧ 4 ≤ op % 16 ∧ v = .int (Cm.opV m (op % 16) : Int) ∧ m' = Cm.opT m (op % 16)
theorem ok_operand (h : GAt K mg "operand" s_operand) (T : Txt K C) (m1 : MOk P w K mg base C "fetch" 1 ["self"] (spFetch C)) (m2 : MOk P w K mg base C "operand_place" 3 ["self", "first"] (spOpP C)) (m3 : MOk P w K mg base C "get_place" 1 ["self", "place"] (spGetPl C)) :
    GOk P w K mg base "operand" 4 ["chip", "first"] (spOperand C) := by
  refine h.ok sc_operand (fun vs H Q E h => ?_) (fun _ _ _ _ _ _ us hl => match us, hl with | [_, _], _ => rfl) fun cdv f A outer s H vs Q E hr h => ⟨_,
      pss_cons (ps_if (pt_cmpR op_eq (pe_op op_and (pv 1) pe_int) pe_int (nomark _)) (pss_one (ps_ret (pe_m0 m1 T.cl hr (pv 0)))) pss_nil)
      (pss_one (ps_ret (pe_m m3 T.cl hr (pv 0) (pa_cons (pe_m m2 T.cl hr (pv 0) (pa_cons (pv 1) pa_nil)) pa_nil)))), ?_⟩
  · obtain ⟨L, m, rest, v, m', rfl, hC, ⟨op, rfl, _⟩, q⟩ := h
    rfl
  · obtain ⟨L, m, rest, v, m', rfl, hC, ⟨op, rfl, h4, rfl, rfl⟩, q⟩ := h
    refine s_low 4 rfl rfl (fun e => ?_) fun e => ?_
    · have eV : Cm.opV m (op % 16) = Cm.fv m := if_pos e
      have eT : Cm.opT m (op % 16) = Cm.nx m := if_pos e
      rw [eV, eT] at q
      exact ⟨_, rfl, L.c, L.dx, _, rfl, hC.obj, nf_fetch.lk _ _, L, _, _, _, _, rfl, hC, ⟨rfl, rfl, rfl⟩, q⟩
    · have eV : Cm.opV m (op % 16) = Cm.getP (Cm.opS m (op % 16)) (Cm.opP m (op % 16)) := if_neg e
      have eT : Cm.opT m (op % 16) = Cm.opS m (op % 16) := if_neg e
      rw [eV, eT] at q
      exact ⟨_, rfl, L.c, L.dx, _, rfl, hC.obj, nf_get_place.lk _ _, _, rfl, L.c, L.dx, _, rfl, hC.obj, nf_operand_place.lk _ _, _, rfl, L, m, _, _, _, rfl, hC, ⟨op, rfl, by omega, rfl, rfl⟩, fun H1 v1 hC1 e1 hp => ⟨L, _, _, _, rfl, hC1, hp, opP_lt (low_lt _), q H1 hC1 e1⟩⟩

abbrev s_count_by : Stmt := top 17
theorem sc_count_by : FnScope ["chip", "first", "step", "place"] ["chip", "first", "step"] (defScope s_count_by) := ⟨rfl, rfl, rfl, by decide +kernel, rfl, by decide +kernel, by decide +kernel⟩
def spCountBy (C : Addr) : Sp := spM C fun rest _ m v m' => ∃ (op : Nat) (d : Int), rest = [.int (op : Int), .int d] ∧ 4 ≤ op % 16 ∧ v = .non ∧ m' = Cm.countBy m (op % 16) d
theorem step_mod (x : Nat) (d : Int) : ((x : Int) + d) % 256 = ((Cm.stepI x d % 256 : Nat) : Int) := by
  unfold Cm.stepI
  omega
theorem ok_count_by (h : GAt K mg "count_by" s_count_by) (T : Txt K C) (m1 : MOk P w K mg base C "get_a" 1 ["self"] (spGetA C)) (m2 : MOk P w K mg base C "put_a" 1 ["self", "byte"] (spPutA C)) (m3 : MOk P w K mg base C "operand_place" 3 ["self", "first"] (spOpP C)) (m4 : MOk P w K mg base C "get_place" 1 ["self", "place"] (spGetPl C)) (m5 : MOk P w K mg base C "put_place" 1 ["self", "place", "byte"] (spPutPl C)) :
    GOk P w K mg base "count_by" 4 ["chip", "first", "step"] (spCountBy C) := by
  refine h.ok sc_count_by (fun vs H Q E h => ?_) (fun _ _ _ _ _ _ us hl => match us, hl with | [_, _, _], _ => rfl) fun cdv f A outer s H vs Q E hr h => ⟨_,
      pss_cons (ps_if (pt_cmpR op_eq (pe_op op_and (pv 1) pe_int) pe_int (nomark _)) (pss_cons (ps_expr (pe_m m2 T.cl hr (pv 0) (pa_cons (pe_op op_add (pe_m0 m1 T.cl hr (pv 0)) (pv 2)) pa_nil))) (pss_one ps_retN)) pss_nil)
      (pss_cons (ps_set (i := 3) sc_count_by.nd rfl (Or.inl rfl) (pe_m m3 T.cl hr (pv 0) (pa_cons (pv 1) pa_nil)))
      (pss_one (ps_expr (pe_m m5 T.cl hr (pv 0) (pa_cons (pv 3) (pa_cons (pe_op op_add (pe_m m4 T.cl hr (pv 0) (pa_cons (pv 3) pa_nil)) (pv 2)) pa_nil)))))), ?_⟩
  · obtain ⟨L, m, rest, v, m', rfl, hC, ⟨op, d, rfl, _⟩, q⟩ := h
    rfl
  · obtain ⟨L, m, rest, v, m', rfl, hC, ⟨op, d, rfl, h4, rfl, rfl⟩, q⟩ := h
    unfold Cm.countBy at q
    refine s_low 4 rfl rfl (fun e => ?_) fun e => ?_
    · rw [if_pos e] at q
      exact ⟨_, rfl, L.c, L.dx, _, rfl, hC.obj, nf_put_a.lk _ _, _, rfl, L.c, L.dx, _, rfl, hC.obj, nf_get_a.lk _ _, L, _, _, _, rfl, hC, ⟨rfl, rfl⟩, _, rfl, _, _, rfl, rfl, L, m, _, _, _, rfl, hC, ⟨_, _, rfl, step_mod _ _, rfl, rfl⟩, q⟩
    · rw [if_neg e] at q
      refine ⟨_, rfl, L.c, L.dx, _, rfl, hC.obj, nf_operand_place.lk _ _, _, rfl, L, m, _, _, _, rfl, hC, ⟨op, rfl, by omega, rfl, rfl⟩, fun H1 v1 hC1 e1 hp => ?_⟩
      exact ⟨_, rfl, L.c, L.dx, _, rfl, hC1.obj, nf_put_place.lk _ _, _, rfl, _, rfl, L.c, L.dx, _, rfl, hC1.obj, nf_get_place.lk _ _, _, rfl, L, _, _, _, rfl, hC1, hp, opP_lt (low_lt _), _, rfl, _, _, rfl, rfl, L, _, _, _, _, rfl, hC1, ⟨_, _, _, _, rfl, hp, opP_lt (low_lt _), step_mod _ _, rfl, rfl⟩, fun H2 hC2 e2 => q H2 hC2 (e1.trans e2)⟩

/-! ### sums and differences with a sign -/
theorem and_neg {f t : Nat} (hf : f < 256) (ht : t < 256) : Builtin.bitAnd (f : Int) ((t : Int) - 256) = ((f &&& t : Nat) : Int) := by
  rw [bitAnd_pn (by omega) (by omega), Int.toNat_natCast]
  have e : (Builtin.bitNot ((t : Int) - 256)).toNat = 255 - t := by
    unfold Builtin.bitNot
    omega
  rw [e, ← Cm.and_compl hf ht]
  have h : f &&& (255 - t) ≤ f := Nat.and_le_left
  omega
theorem xor_neg {f t : Nat} (hf : f < 256) (ht : t < 256) : Builtin.bitXor (f : Int) ((t : Int) - 256) = ((f ^^^ t : Nat) : Int) - 256 := by
  have h := bXor f t
  rw [bitXor_and, bAnd] at h
  rw [bitXor_and, and_neg hf ht]
  omega
theorem xor_lt {x y : Nat} (hx : x < 256) (hy : y < 256) : x ^^^ y < 256 := Nat.xor_lt_two_pow (n := 8) hx hy
theorem sub_bits {x y t : Nat} {out : Int} (hx : x < 256) (hy : y < 256) (ht : t < 256) (ho : out = (t : Int) ∨ out = (t : Int) - 256) : Builtin.bitAnd (Builtin.bitAnd (Builtin.bitXor (x : Int) (y : Int)) (Builtin.bitXor (x : Int) out)) 128 = ((((x ^^^ y) &&& (x ^^^ t)) &&& 128 : Nat) : Int) := by
  rcases ho with e | e
  · rw [e, bXor, bXor, bAnd, bAndL _ 128 128 rfl]
  · rw [e, bXor, xor_neg hx ht, and_neg (xor_lt hx hy) (xor_lt hx ht), bAndL _ 128 128 rfl]
/-- a flag's number and its truth -/
theorem fl_rest {p q : Prop} [Decidable p] [Decidable q] (k : Nat) (h : p ↔ q) : [V.int (k : Int), V.bl (decide p)] = [V.int (k : Int), V.bl (decide q)] := by rw [decide_eq_decide.mpr h]
theorem modC (x : Nat) : (x : Int) % 256 = ((x % 256 : Nat) : Int) := rfl

abbrev s_add : Stmt := top 13
theorem sc_add : FnScope ["chip", "second", "carry", "first", "out"] ["chip", "second", "carry"] (defScope s_add) := ⟨rfl, rfl, rfl, by decide +kernel, rfl, by decide +kernel, by decide +kernel⟩
def spAdd (C : Addr) : Sp := spM C fun rest _ m v m' => ∃ y c : Nat, rest = [.int (y : Int), .int (c : Int)] ∧ y < 256 ∧ c ≤ 1 ∧ v = .non ∧ m' = Cm.mAdd m y c
theorem ok_add (h : GAt K mg "add" s_add) (T : Txt K C) (gC : IntG mg "CARRY" 7) (gH : IntG mg "HALF_CARRY" 6) (gO : IntG mg "OVERFLOW" 2) (m1 : MOk P w K mg base C "get_a" 1 ["self"] (spGetA C)) (m2 : MOk P w K mg base C "put_a" 1 ["self", "byte"] (spPutA C)) (m3 : MOk P w K mg base C "put_flag" 1 ["self", "number", "holds"] (spPutFlag C)) :
    GOk P w K mg base "add" 2 ["chip", "second", "carry"] (spAdd C) := by
  refine h.ok sc_add (fun vs H Q E h => ?_) (fun _ _ _ _ _ _ us hl => match us, hl with | [_, _, _], _ => rfl) fun cdv f A outer s H vs Q E hr h => ⟨_,
      pss_cons (ps_set (i := 3) sc_add.nd rfl (Or.inl rfl) (pe_m0 m1 T.cl hr (pv 0)))
      (pss_cons (ps_set (i := 4) sc_add.nd rfl (Or.inl rfl) (pe_op op_add (pe_op op_add (pv 3) (pv 1)) (pv 2)))
      (pss_cons (ps_expr (pe_m m2 T.cl hr (pv 0) (pa_cons (pv 4) pa_nil)))
      (pss_cons (ps_expr (pe_m m3 T.cl hr (pv 0) (pa_cons (pe_n gC) (pa_cons (pe_cmpR op_gt (pv 4) pe_int (nomark _)) pa_nil))))
      (pss_cons (ps_expr (pe_m m3 T.cl hr (pv 0) (pa_cons (pe_n gH) (pa_cons (pe_cmpR op_gt (pe_op op_add (pe_op op_add (pe_op op_and (pv 3) pe_int) (pe_op op_and (pv 1) pe_int)) (pv 2)) pe_int (nomark _)) pa_nil))))
      (pss_one (ps_expr (pe_m m3 T.cl hr (pv 0) (pa_cons (pe_n gO) (pa_cons (pe_cmpR op_gt (pe_op op_and (pe_op op_and (pe_op op_xor (pv 3) (pv 4)) (pe_op op_xor (pv 1) (pv 4))) pe_int) pe_int (nomark _)) pa_nil))))))))), ?_⟩
  · obtain ⟨L, m, rest, v, m', rfl, hC, ⟨y, c, rfl, _⟩, q⟩ := h
    rfl
  · obtain ⟨L, m, rest, v, m', rfl, hC, ⟨y, c, rfl, hy, hc, rfl, rfl⟩, q⟩ := h
    refine ⟨_, rfl, L.c, L.dx, _, rfl, hC.obj, nf_get_a.lk _ _, L, _, _, _, rfl, hC, ⟨rfl, rfl⟩, _, rfl, _, rfl, _, _, rfl, rfl, _, rfl, _, _, rfl, rfl, _, rfl, L.c, L.dx, _, rfl, hC.obj, nf_put_a.lk _ _, _, rfl, L, m, _, _, _, rfl, hC, ⟨_, Ql29.a m + y + c, rfl, by omega, rfl, rfl⟩, fun H1 hC1 e1 => ?_⟩
    refine ⟨_, rfl, L.c, L.dx, _, rfl, hC1.obj, nf_put_flag.lk _ _, _, rfl, _, _, rfl, rfl, L, _, _, _, _, rfl, hC1, ⟨7, decide (255 < Ql29.a m + y + c), fl_rest 7 (by omega), by decide, rfl, rfl⟩, fun H2 hC2 e2 => ?_⟩
    refine ⟨_, rfl, L.c, L.dx, _, rfl, hC2.obj, nf_put_flag.lk _ _, _, rfl, _, _, rfl, rfl, _, rfl, _, _, rfl, rfl, _, _, rfl, rfl, _, rfl, _, _, rfl, rfl, _, _, rfl, rfl, L, _, _, _, _, rfl, hC2, ⟨6, decide (15 < Ql29.a m % 16 + y % 16 + c), fl_rest 6 ?_, by decide, rfl, rfl⟩, fun H3 hC3 e3 => ?_⟩
    · rw [bAnd15, bAnd15]
      omega
    refine ⟨_, rfl, L.c, L.dx, _, rfl, hC3.obj, nf_put_flag.lk _ _, _, rfl, _, rfl, _, _, rfl, rfl, _, rfl, _, rfl, _, _, rfl, rfl, _, _, rfl, rfl, _, _, rfl, rfl, _, _, rfl, rfl, L, _, _, _, _, rfl, hC3, ⟨2, decide (0 < ((Ql29.a m ^^^ (Ql29.a m + y + c)) &&& (y ^^^ (Ql29.a m + y + c))) &&& 128), fl_rest 2 ?_, by decide, rfl, rfl⟩, fun H4 hC4 e4 => ?_⟩
    · rw [show ((Ql29.a m : Int) + (y : Int) + (c : Int)) = ((Ql29.a m + y + c : Nat) : Int) by omega, bXor, bXor, bAnd, bAndL _ 128 128 rfl]
      omega
    · rw [Cm.add_eq hC.wf hy hc] at hC4
      exact q H4 hC4 (((e1.trans e2).trans e3).trans e4)

abbrev s_subtract : Stmt := top 14
theorem sc_subtract : FnScope ["chip", "second", "first", "borrow", "out"] ["chip", "second"] (defScope s_subtract) := ⟨rfl, rfl, rfl, by decide +kernel, rfl, by decide +kernel, by decide +kernel⟩
def spSub (C : Addr) : Sp := spM C fun rest _ m v m' => ∃ y : Nat, rest = [.int (y : Int)] ∧ y < 256 ∧ v = .non ∧ m' = Cm.mSub m y
theorem bool_le (b : Bool) : b.toNat ≤ 1 := by cases b <;> decide
theorem ok_subtract (h : GAt K mg "subtract" s_subtract) (T : Txt K C) (gC : IntG mg "CARRY" 7) (gH : IntG mg "HALF_CARRY" 6) (gO : IntG mg "OVERFLOW" 2) (m1 : MOk P w K mg base C "get_a" 1 ["self"] (spGetA C)) (m2 : MOk P w K mg base C "put_a" 1 ["self", "byte"] (spPutA C)) (m3 : MOk P w K mg base C "put_flag" 1 ["self", "number", "holds"] (spPutFlag C))
    (m4 : MOk P w K mg base C "get_flag" 1 ["self", "number"] (spGetFlag C)) : GOk P w K mg base "subtract" 2 ["chip", "second"] (spSub C) := by
  refine h.ok sc_subtract (fun vs H Q E h => ?_) (fun _ _ _ _ _ _ us hl => match us, hl with | [_, _], _ => rfl) fun cdv f A outer s H vs Q E hr h => ⟨_,
      pss_cons (ps_set (i := 2) sc_subtract.nd rfl (Or.inl rfl) (pe_m0 m1 T.cl hr (pv 0)))
      (pss_cons (ps_set (i := 3) sc_subtract.nd rfl (Or.inl rfl) (pe_m m4 T.cl hr (pv 0) (pa_cons (pe_n gC) pa_nil)))
      (pss_cons (ps_set (i := 4) sc_subtract.nd rfl (Or.inl rfl) (pe_op op_sub (pe_op op_sub (pv 2) (pv 1)) (pv 3)))
      (pss_cons (ps_expr (pe_m m2 T.cl hr (pv 0) (pa_cons (pv 4) pa_nil)))
      (pss_cons (ps_expr (pe_m m3 T.cl hr (pv 0) (pa_cons (pe_n gC) (pa_cons (pe_cmpR op_lt (pv 4) pe_int (nomark _)) pa_nil))))
      (pss_cons (ps_expr (pe_m m3 T.cl hr (pv 0) (pa_cons (pe_n gH) (pa_cons (pe_cmpR op_lt (pe_op op_sub (pe_op op_sub (pe_op op_and (pv 2) pe_int) (pe_op op_and (pv 1) pe_int)) (pv 3)) pe_int (nomark _)) pa_nil))))
      (pss_one (ps_expr (pe_m m3 T.cl hr (pv 0) (pa_cons (pe_n gO) (pa_cons (pe_cmpR op_gt (pe_op op_and (pe_op op_and (pe_op op_xor (pv 2) (pv 1)) (pe_op op_xor (pv 2) (pv 4))) pe_int) pe_int (nomark _)) pa_nil)))))))))), ?_⟩
  · obtain ⟨L, m, rest, v, m', rfl, hC, ⟨y, rfl, _⟩, q⟩ := h
    rfl
  · obtain ⟨L, m, rest, v, m', rfl, hC, ⟨y, rfl, hy, rfl, rfl⟩, q⟩ := h
    have hx := Cm.a_lt m
    have hc := bool_le (Ql29.C m)
    have ht : (Ql29.a m + 512 - y - (Ql29.C m).toNat) % 256 < 256 := Nat.mod_lt _ (by decide)
    have ho : ((Ql29.a m : Int) - (y : Int) - ((Ql29.C m).toNat : Int)) = (((Ql29.a m + 512 - y - (Ql29.C m).toNat) % 256 : Nat) : Int) ∨ ((Ql29.a m : Int) - (y : Int) - ((Ql29.C m).toNat : Int)) = (((Ql29.a m + 512 - y - (Ql29.C m).toNat) % 256 : Nat) : Int) - 256 := by omega
    refine ⟨_, rfl, L.c, L.dx, _, rfl, hC.obj, nf_get_a.lk _ _, L, _, _, _, rfl, hC, ⟨rfl, rfl⟩, _, rfl, L.c, L.dx, _, rfl, hC.obj, nf_get_flag.lk _ _, L, _, _, _, rfl, hC, ⟨7, rfl, rfl⟩, _, rfl, _, rfl, _, _, rfl, rfl, _, rfl, _, _, rfl, rfl, _, rfl, L.c, L.dx, _, rfl, hC.obj, nf_put_a.lk _ _, _, rfl, L, m, _, _, _, rfl, hC, ⟨_, (Ql29.a m + 512 - y - (Ql29.C m).toNat) % 256, rfl, ?_, rfl, rfl⟩, fun H1 hC1 e1 => ?_⟩
    · show ((Ql29.a m : Int) - (y : Int) - ((Ql29.C m).toNat : Int)) % 256 = _
      omega
    refine ⟨_, rfl, L.c, L.dx, _, rfl, hC1.obj, nf_put_flag.lk _ _, _, rfl, _, _, rfl, rfl, L, _, _, _, _, rfl, hC1, ⟨7, decide (Ql29.a m < y + (Ql29.C m).toNat), fl_rest 7 ?_, by decide, rfl, rfl⟩, fun H2 hC2 e2 => ?_⟩
    · show ((Ql29.a m : Int) - (y : Int) - ((Ql29.C m).toNat : Int)) < 0 ↔ _
      omega
    refine ⟨_, rfl, L.c, L.dx, _, rfl, hC2.obj, nf_put_flag.lk _ _, _, rfl, _, _, rfl, rfl, _, rfl, _, _, rfl, rfl, _, _, rfl, rfl, _, rfl, _, _, rfl, rfl, _, _, rfl, rfl, L, _, _, _, _, rfl, hC2, ⟨6, decide (Ql29.a m % 16 < y % 16 + (Ql29.C m).toNat), fl_rest 6 ?_, by decide, rfl, rfl⟩, fun H3 hC3 e3 => ?_⟩
    · show (Builtin.bitAnd (Ql29.a m : Int) 15 - Builtin.bitAnd (y : Int) 15 - ((Ql29.C m).toNat : Int)) < 0 ↔ _
      rw [bAnd15, bAnd15]
      omega
    refine ⟨_, rfl, L.c, L.dx, _, rfl, hC3.obj, nf_put_flag.lk _ _, _, rfl, _, rfl, _, _, rfl, rfl, _, rfl, _, rfl, _, _, rfl, rfl, _, _, rfl, rfl, _, _, rfl, rfl, _, _, rfl, rfl, L, _, _, _, _, rfl, hC3, ⟨2, decide (0 < ((Ql29.a m ^^^ y) &&& (Ql29.a m ^^^ ((Ql29.a m + 512 - y - (Ql29.C m).toNat) % 256))) &&& 128), fl_rest 2 ?_, by decide, rfl, rfl⟩, fun H4 hC4 e4 => ?_⟩
    · show (0 : Int) < Builtin.bitAnd (Builtin.bitAnd (Builtin.bitXor (Ql29.a m : Int) (y : Int)) (Builtin.bitXor (Ql29.a m : Int) ((Ql29.a m : Int) - (y : Int) - ((Ql29.C m).toNat : Int)))) 128 ↔ _
      rw [sub_bits hx hy ht ho]
      omega
    · rw [Cm.sub_eq hC.wf hy] at hC4
      exact q H4 hC4 (((e1.trans e2).trans e3).trans e4)

abbrev s_multiply : Stmt := top 19
theorem sc_multiply : FnScope ["chip", "out"] ["chip"] (defScope s_multiply) := ⟨rfl, rfl, rfl, by decide +kernel, rfl, by decide +kernel, by decide +kernel⟩
def spMul (C : Addr) : Sp := spM C fun rest _ m v m' => rest = [] ∧ v = .non ∧ m' = Cm.mul m
theorem ok_multiply (h : GAt K mg "multiply" s_multiply) (T : Txt K C) (gB : IntG mg "B" 240) (gC : IntG mg "CARRY" 7) (gO : IntG mg "OVERFLOW" 2) (m1 : MOk P w K mg base C "get_a" 1 ["self"] (spGetA C)) (m2 : MOk P w K mg base C "put_a" 1 ["self", "byte"] (spPutA C)) (m3 : MOk P w K mg base C "put_flag" 1 ["self", "number", "holds"] (spPutFlag C))
    (m4 : MOk P w K mg base C "get" 1 ["self", "number"] (spGet C)) (m5 : MOk P w K mg base C "put" 1 ["self", "number", "byte"] (spPut C)) : GOk P w K mg base "multiply" 2 ["chip"] (spMul C) := by
  refine h.ok sc_multiply (fun vs H Q E h => ?_) (fun _ _ _ _ _ _ us hl => match us, hl with | [_], _ => rfl) fun cdv f A outer s H vs Q E hr h => ⟨_,
      pss_cons (ps_set (i := 1) sc_multiply.nd rfl (Or.inl rfl) (pe_op op_mul (pe_m0 m1 T.cl hr (pv 0)) (pe_m m4 T.cl hr (pv 0) (pa_cons (pe_n gB) pa_nil))))
      (pss_cons (ps_expr (pe_m m2 T.cl hr (pv 0) (pa_cons (pv 1) pa_nil)))
      (pss_cons (ps_expr (pe_m m5 T.cl hr (pv 0) (pa_cons (pe_n gB) (pa_cons (pe_op op_shr (pv 1) pe_int) pa_nil))))
      (pss_cons (ps_expr (pe_m m3 T.cl hr (pv 0) (pa_cons (pe_n gC) (pa_cons pe_bl pa_nil))))
      (pss_one (ps_expr (pe_m m3 T.cl hr (pv 0) (pa_cons (pe_n gO) (pa_cons (pe_cmpR op_gt (pv 1) pe_int (nomark _)) pa_nil)))))))), ?_⟩
  · obtain ⟨L, m, rest, v, m', rfl, hC, ⟨rfl, _⟩, q⟩ := h
    rfl
  · obtain ⟨L, m, rest, v, m', rfl, hC, ⟨rfl, rfl, rfl⟩, q⟩ := h
    have hx : Ql29.a m < 256 := Cm.a_lt m
    have ep : (Ql29.a m : Int) * (Ql29.sfr m 240 : Int) = ((Ql29.a m * Ql29.sfr m 240 : Nat) : Int) := (Int.natCast_mul _ _).symm
    refine ⟨_, rfl, L.c, L.dx, _, rfl, hC.obj, nf_get_a.lk _ _, L, _, _, _, rfl, hC, ⟨rfl, rfl⟩, _, rfl, L.c, L.dx, _, rfl, hC.obj, nf_get.lk _ _, L, m, _, _, rfl, hC, ⟨240, rfl, by decide, by decide, rfl⟩, _, _, rfl, rfl, .inl ⟨by omega, by omega⟩, ?_⟩
    dsimp only
    rw [ep]
    refine ⟨_, rfl, L.c, L.dx, _, rfl, hC.obj, nf_put_a.lk _ _, _, rfl, L, m, _, _, _, rfl, hC, ⟨_, Ql29.a m * Ql29.sfr m 240, rfl, modC _, rfl, rfl⟩, fun H1 hC1 e1 => ?_⟩
    refine ⟨_, rfl, L.c, L.dx, _, rfl, hC1.obj, nf_put.lk _ _, _, rfl, _, _, rfl, rfl, (by show (0 : Int) ≤ 8; decide), L, _, _, _, _, rfl, hC1, ⟨240, _, Ql29.a m * Ql29.sfr m 240 / 256, rfl, by decide, by decide, modC _, rfl, rfl⟩, fun H2 hC2 e2 => ?_⟩
    refine ⟨_, rfl, L.c, L.dx, _, rfl, hC2.obj, nf_put_flag.lk _ _, L, _, _, _, _, rfl, hC2, ⟨7, false, rfl, by decide, rfl, rfl⟩, fun H3 hC3 e3 => ?_⟩
    refine ⟨_, rfl, L.c, L.dx, _, rfl, hC3.obj, nf_put_flag.lk _ _, _, rfl, _, _, rfl, rfl, L, _, _, _, _, rfl, hC3, ⟨2, decide (255 < Ql29.a m * Ql29.sfr m 240), fl_rest 2 (by omega), by decide, rfl, rfl⟩, fun H4 hC4 e4 => ?_⟩
    rw [Cm.two ((hC.wf.putA _).put _ _) _ _ _ _ (by decide)] at hC4
    exact q H4 hC4 (((e1.trans e2).trans e3).trans e4)

abbrev s_divide : Stmt := top 20
theorem sc_divide : FnScope ["chip", "first", "second"] ["chip"] (defScope s_divide) := ⟨rfl, rfl, rfl, by decide +kernel, rfl, by decide +kernel, by decide +kernel⟩
def spDiv (C : Addr) : Sp := spM C fun rest _ m v m' => rest = [] ∧ v = .non ∧ m' = Cm.dvd m
theorem ok_divide (h : GAt K mg "divide" s_divide) (T : Txt K C) (gB : IntG mg "B" 240) (gC : IntG mg "CARRY" 7) (gO : IntG mg "OVERFLOW" 2) (m1 : MOk P w K mg base C "get_a" 1 ["self"] (spGetA C)) (m2 : MOk P w K mg base C "put_a" 1 ["self", "byte"] (spPutA C)) (m3 : MOk P w K mg base C "put_flag" 1 ["self", "number", "holds"] (spPutFlag C))
    (m4 : MOk P w K mg base C "get" 1 ["self", "number"] (spGet C)) (m5 : MOk P w K mg base C "put" 1 ["self", "number", "byte"] (spPut C)) : GOk P w K mg base "divide" 2 ["chip"] (spDiv C) := by
  refine h.ok sc_divide (fun vs H Q E h => ?_) (fun _ _ _ _ _ _ us hl => match us, hl with | [_], _ => rfl) fun cdv f A outer s H vs Q E hr h => ⟨_,
      pss_cons (ps_expr (pe_m m3 T.cl hr (pv 0) (pa_cons (pe_n gC) (pa_cons pe_bl pa_nil))))
      (pss_cons (ps_set (i := 1) sc_divide.nd rfl (Or.inl rfl) (pe_m0 m1 T.cl hr (pv 0)))
      (pss_cons (ps_set (i := 2) sc_divide.nd rfl (Or.inl rfl) (pe_m m4 T.cl hr (pv 0) (pa_cons (pe_n gB) pa_nil)))
      (pss_cons (ps_expr (pe_m m3 T.cl hr (pv 0) (pa_cons (pe_n gO) (pa_cons (pe_cmpR op_eq (pv 2) pe_int (nomark _)) pa_nil))))
      (pss_one (ps_if (pt_cmpR op_gt (pv 2) pe_int (nomark _)) (pss_cons (ps_expr (pe_m m2 T.cl hr (pv 0) (pa_cons (pe_op op_fdiv (pv 1) (pv 2)) pa_nil)))
        (pss_one (ps_expr (pe_m m5 T.cl hr (pv 0) (pa_cons (pe_n gB) (pa_cons (pe_op op_mod (pv 1) (pv 2)) pa_nil)))))) pss_nil))))), ?_⟩
  · obtain ⟨L, m, rest, v, m', rfl, hC, ⟨rfl, _⟩, q⟩ := h
    rfl
  · obtain ⟨L, m, rest, v, m', rfl, hC, ⟨rfl, rfl, rfl⟩, q⟩ := h
    have ea : Ql29.a (Cm.flag1 m 7 false) = Ql29.a m := Cm.sfr_flags m _ (by decide)
    have eb : Ql29.sfr (Cm.flag1 m 7 false) 240 = Ql29.sfr m 240 := Cm.sfr_flags m _ (by decide)
    have hy : Ql29.sfr m 240 < 256 := Cm.sfr_lt m 240
    unfold Cm.dvd at q
    dsimp only at q
    refine ⟨_, rfl, L.c, L.dx, _, rfl, hC.obj, nf_put_flag.lk _ _, L, _, _, _, _, rfl, hC, ⟨7, false, rfl, by decide, rfl, rfl⟩, fun H1 hC1 e1 => ?_⟩
    refine ⟨_, rfl, L.c, L.dx, _, rfl, hC1.obj, nf_get_a.lk _ _, L, _, _, _, rfl, hC1, ⟨rfl, rfl⟩, _, rfl, L.c, L.dx, _, rfl, hC1.obj, nf_get.lk _ _, L, _, _, _, rfl, hC1, ⟨240, rfl, by decide, by decide, rfl⟩, ?_⟩
    rw [ea, eb]
    refine ⟨_, rfl, L.c, L.dx, _, rfl, hC1.obj, nf_put_flag.lk _ _, _, rfl, rfl, L, _, _, _, _, rfl, hC1, ⟨2, decide (Ql29.sfr m 240 = 0), fl_rest 2 ?_, by decide, rfl, rfl⟩, fun H2 hC2 e2 => ?_⟩
    · constructor
      · intro e
        have := V.int.inj e
        omega
      · intro e
        rw [e]
        rfl
    rw [Cm.two hC.wf _ _ _ _ (by decide)] at hC2
    refine ⟨_, rfl, _, _, rfl, rfl, _, rfl, iteD (fun e => ?_) fun e => ?_⟩
    · have e0 : 0 < Ql29.sfr m 240 := by omega
      have e0' : 0 < Ql29.sfr m Ql29.BREG := e0
      rw [if_pos e0'] at q
      refine ⟨_, rfl, L.c, L.dx, _, rfl, hC2.obj, nf_put_a.lk _ _, _, rfl, _, rfl, _, _, rfl, rfl, ⟨by omega, by omega⟩, L, _, _, _, _, rfl, hC2, ⟨_, Ql29.a m / Ql29.sfr m 240, rfl, modC _, rfl, rfl⟩, fun H3 hC3 e3 => ?_⟩
      exact ⟨_, rfl, L.c, L.dx, _, rfl, hC3.obj, nf_put.lk _ _, _, rfl, _, rfl, _, _, rfl, rfl, (by show (0 : Int) < (Ql29.sfr m 240 : Int); omega), L, _, _, _, _, rfl, hC3, ⟨240, _, Ql29.a m % Ql29.sfr m 240, rfl, by decide, by decide, modC _, rfl, rfl⟩, fun H4 hC4 e4 => q H4 hC4 (((e1.trans e2).trans e3).trans e4)⟩
    · have e0 : ¬ 0 < Ql29.sfr m 240 := by omega
      have e0' : ¬ 0 < Ql29.sfr m Ql29.BREG := e0
      rw [if_neg e0'] at q
      exact q H2 hC2 (e1.trans e2)

abbrev s_adjust : Stmt := top 21
theorem sc_adjust : FnScope ["chip", "out", "carry"] ["chip"] (defScope s_adjust) := ⟨rfl, rfl, rfl, by decide +kernel, rfl, by decide +kernel, by decide +kernel⟩
def spAdj (C : Addr) : Sp := spM C fun rest _ m v m' => rest = [] ∧ v = .non ∧ m' = Ql29.daa m
theorem orTest {c : Bool} (d : Bool) {A B U : Prop} (hU : (if d = true then A else B) → U) (hA : (c || d) = true → A) (hB : (c || d) = false → B) : if c = true then (if true = true then A else B) else U := by
  cases c with
  | true => exact iteT (iteT (hA rfl))
  | false =>
    refine iteF (hU ?_)
    cases d with
    | true => exact iteT (hA rfl)
    | false => exact iteF (hB rfl)
theorem flag_is (b : Bool) : decide (V.int ((b.toNat : Nat) : Int) = V.int 1) = b := by cases b <;> rfl
theorem ok_adjust (h : GAt K mg "adjust" s_adjust) (T : Txt K C) (gC : IntG mg "CARRY" 7) (gH : IntG mg "HALF_CARRY" 6) (m1 : MOk P w K mg base C "get_a" 1 ["self"] (spGetA C)) (m2 : MOk P w K mg base C "put_a" 1 ["self", "byte"] (spPutA C)) (m3 : MOk P w K mg base C "put_flag" 1 ["self", "number", "holds"] (spPutFlag C))
    (m4 : MOk P w K mg base C "get_flag" 1 ["self", "number"] (spGetFlag C)) : GOk P w K mg base "adjust" 2 ["chip"] (spAdj C) := by
  refine h.ok sc_adjust (fun vs H Q E h => ?_) (fun _ _ _ _ _ _ us hl => match us, hl with | [_], _ => rfl) fun cdv f A outer s H vs Q E hr h => ⟨_,
      pss_cons (ps_set (i := 1) sc_adjust.nd rfl (Or.inl rfl) (pe_m0 m1 T.cl hr (pv 0)))
      (pss_cons (ps_set (i := 2) sc_adjust.nd rfl (Or.inl rfl) (pe_cmpR op_eq (pe_m m4 T.cl hr (pv 0) (pa_cons (pe_n gC) pa_nil)) pe_int (nomark _)))
      (pss_cons (ps_if (PW.pt (pw_or (pt_cmpR op_gt (pe_op op_and (pv 1) pe_int) pe_int (nomark _)) (pw_or1 (pt_cmpR op_eq (pe_m m4 T.cl hr (pv 0) (pa_cons (pe_n gH) pa_nil)) pe_int (nomark _)))))
        (pss_cons (ps_set (i := 1) sc_adjust.nd rfl (Or.inl rfl) (pe_op op_add (pv 1) pe_int))
        (pss_cons (ps_set (i := 2) sc_adjust.nd rfl (Or.inl rfl) (pe_or (pv 2) (pe_one (pe_cmpR op_gt (pv 1) pe_int (nomark _)))))
        (pss_one (ps_set (i := 1) sc_adjust.nd rfl (Or.inl rfl) (pe_op op_and (pv 1) pe_int))))) pss_nil)
      (pss_cons (ps_if (PW.pt (pw_or (pt_cmpR op_gt (pe_op op_shr (pv 1) pe_int) pe_int (nomark _)) (pw_or1 (pt_val (pv 2)))))
        (pss_cons (ps_set (i := 1) sc_adjust.nd rfl (Or.inl rfl) (pe_op op_add (pv 1) pe_int))
        (pss_one (ps_set (i := 2) sc_adjust.nd rfl (Or.inl rfl) (pe_or (pv 2) (pe_one (pe_cmpR op_gt (pv 1) pe_int (nomark _))))))) pss_nil)
      (pss_cons (ps_expr (pe_m m2 T.cl hr (pv 0) (pa_cons (pv 1) pa_nil)))
      (pss_one (ps_expr (pe_m m3 T.cl hr (pv 0) (pa_cons (pe_n gC) (pa_cons (pv 2) pa_nil))))))))), ?_⟩
  · obtain ⟨L, m, rest, v, m', rfl, hC, ⟨rfl, _⟩, q⟩ := h
    rfl
  · obtain ⟨L, m, rest, v, m', rfl, hC, ⟨rfl, rfl, rfl⟩, q⟩ := h
    have hx : Ql29.a m < 256 := Cm.a_lt m
    -- the end, from any sum and carry
    have fin : ∀ (z : Int) (b : Nat) (k : Bool), z % 256 = ((b % 256 : Nat) : Int) → Ql29.daa m = Cm.flag1 (Ql29.putA m b) 7 k →
        tSeq (tDrop (tMeth C "put_a" (spPutA C) [] E0 (tVar 0) (tCons (tVar 1) tNil))) (tDrop (tMeth C "put_flag" (spPutFlag C) [] E0 (tVar 0) (tCons (tC (.int 7)) (tCons (tVar 2) tNil)))) { nx := fun _ H' => Q .non H', rt := Q } [some (.ref L.c), some (.int z), some (.bl k)] H := by
      intro z b k hz hd
      refine ⟨_, rfl, L.c, L.dx, _, rfl, hC.obj, nf_put_a.lk _ _, _, rfl, L, m, _, _, _, rfl, hC, ⟨z, b, rfl, hz, rfl, rfl⟩, fun H1 hC1 e1 => ?_⟩
      refine ⟨_, rfl, L.c, L.dx, _, rfl, hC1.obj, nf_put_flag.lk _ _, _, rfl, L, _, _, _, _, rfl, hC1, ⟨7, k, rfl, by decide, rfl, rfl⟩, fun H2 hC2 e2 => ?_⟩
      rw [← hd] at hC2
      exact q H2 hC2 (e1.trans e2)
    have e9 : ∀ o : Nat, decide ((9 : Int) < (o : Int) / 2 ^ (4 : Int).toNat) = decide (9 < o / 16) := fun o => decide_eq_decide.mpr (by rw [shr_of o 4 (z := 4) rfl]; omega)
    have e2 : ∀ o n : Nat, decide ((255 : Int) < (o : Int) + (n : Int)) = decide (256 ≤ o + n) := fun o n => decide_eq_decide.mpr (by omega)
    -- the second half, from any byte and carry
    have fin2 : ∀ (z : Int) (o : Nat) (k : Bool), z = (o : Int) → o < 256 → (∀ (z : Nat) (k' : Bool), z = (if (decide (9 < o / 16) || k) = true then o + 96 else o) → k' = (k || decide (256 ≤ z)) → Ql29.daa m = Cm.flag1 (Ql29.putA m z) 7 k') →
        tSeq (tIfS (tOr (tTest (tOp (rI0 fun i j => V.bl (decide (j < i))) (tOp (rI (fun _ j => 0 ≤ j) fun i j => V.int (i / 2 ^ j.toNat)) (tVar 1) (tC (.int 4))) (tC (.int 9)))) (tB (tVar 2)))
            (tSeq (tAsg (tOp (rI0 fun i j => V.int (i + j)) (tVar 1) (tC (.int 96))) (gName 1)) (tAsg (tOrV (tVar 2) (tOp (rI0 fun i j => V.bl (decide (j < i))) (tVar 1) (tC (.int 255)))) (gName 2))) tNext)
          (tSeq (tDrop (tMeth C "put_a" (spPutA C) [] E0 (tVar 0) (tCons (tVar 1) tNil))) (tDrop (tMeth C "put_flag" (spPutFlag C) [] E0 (tVar 0) (tCons (tC (.int 7)) (tCons (tVar 2) tNil))))) { nx := fun _ H' => Q .non H', rt := Q } [some (.ref L.c), some (.int z), some (.bl k)] H := by
      intro z o k hz ho hd
      subst hz
      refine ⟨_, rfl, _, _, rfl, rfl, (by show (0 : Int) ≤ 4; decide), _, _, rfl, rfl, _, rfl, orTest k (fun hU => ⟨_, rfl, _, rfl, hU⟩) (fun hA => ?_) fun hB => ?_⟩
      · have e : (decide (9 < o / 16) || k) = true := by
          rw [e9 o] at hA
          exact hA
        refine ⟨_, rfl, _, _, rfl, rfl, _, rfl, _, rfl, ?_⟩
        cases k with
        | true => exact iteT (fin _ (o + 96) true (modC _) (hd _ _ (by rw [e, if_pos rfl]) rfl))
        | false =>
          refine iteF ⟨_, rfl, _, _, rfl, rfl, ?_⟩
          have e3 := e2 o 96
          refine fin _ (o + 96) _ (modC _) (hd _ _ (by rw [e, if_pos rfl]) ?_)
          rw [Bool.false_or]
          exact e3
      · have e : (decide (9 < o / 16) || k) = false := by
          rw [e9 o] at hB
          exact hB
        refine fin _ o k (modC _) (hd _ _ ?_ ?_)
        · rw [e, if_neg (by decide)]
        · rw [decide_eq_false (show ¬ 256 ≤ o by omega), Bool.or_false]
    refine ⟨_, rfl, L.c, L.dx, _, rfl, hC.obj, nf_get_a.lk _ _, L, _, _, _, rfl, hC, ⟨rfl, rfl⟩, _, rfl, L.c, L.dx, _, rfl, hC.obj, nf_get_flag.lk _ _, L, _, _, _, rfl, hC, ⟨7, rfl, rfl⟩, rfl, ?_⟩
    rw [flag_is]
    have e15 : decide ((9 : Int) < Builtin.bitAnd (Ql29.a m : Int) 15) = decide (9 < Ql29.a m % 16) := by
      rw [bAnd15]
      exact decide_eq_decide.mpr (by omega)
    refine ⟨_, rfl, _, _, rfl, rfl, _, _, rfl, rfl, _, rfl, orTest (Ql29.psw m 6) (fun hU => ⟨_, rfl, L.c, L.dx, _, rfl, hC.obj, nf_get_flag.lk _ _, L, _, _, _, rfl, hC, ⟨6, rfl, rfl⟩, rfl, _, rfl, ?_⟩) (fun hA => ?_) fun hB => ?_⟩
    · rw [flag_is]
      exact hU
    · have hA' : (decide (9 < Ql29.a m % 16) || Ql29.psw m 6) = true := by
        rw [e15] at hA
        exact hA
      have hd : ∀ (z : Nat) (k : Bool), z = (if (decide (9 < (Ql29.a m + 6) % 256 / 16) || (Ql29.C m || decide (256 ≤ Ql29.a m + 6))) = true then (Ql29.a m + 6) % 256 + 96 else (Ql29.a m + 6) % 256) → k = ((Ql29.C m || decide (256 ≤ Ql29.a m + 6)) || decide (256 ≤ z)) → Ql29.daa m = Cm.flag1 (Ql29.putA m z) 7 k := by
        intro z k hz hk
        unfold Ql29.daa
        simp only [hA', if_true]
        rw [← hz, ← hk]
      have hz : Builtin.bitAnd ((Ql29.a m : Int) + 6) 255 = (((Ql29.a m + 6) % 256 : Nat) : Int) := by
        rw [bAnd255]
        omega
      refine ⟨_, rfl, _, _, rfl, rfl, _, rfl, _, rfl, ?_⟩
      have ePsw : Ql29.psw m 7 = Ql29.C m := rfl
      rw [ePsw]
      cases hk : Ql29.C m with
      | true =>
        rw [hk] at hd
        exact iteT ⟨_, rfl, _, _, rfl, rfl, fin2 _ _ true hz (Nat.mod_lt _ (by decide)) hd⟩
      | false =>
        rw [hk] at hd
        refine iteF ⟨_, rfl, _, _, rfl, rfl, _, rfl, _, _, rfl, rfl, fin2 _ _ _ hz (Nat.mod_lt _ (by decide)) ?_⟩
        rw [Bool.false_or, ← e2 (Ql29.a m) 6] at hd
        exact hd
    · have hB' : (decide (9 < Ql29.a m % 16) || Ql29.psw m 6) = false := by
        rw [e15] at hB
        exact hB
      have hd : ∀ (z : Nat) (k : Bool), z = (if (decide (9 < Ql29.a m / 16) || Ql29.C m) = true then Ql29.a m + 96 else Ql29.a m) → k = (Ql29.C m || decide (256 ≤ z)) → Ql29.daa m = Cm.flag1 (Ql29.putA m z) 7 k := by
        intro z k hz hk
        unfold Ql29.daa
        simp only [hB', if_false, Bool.false_eq_true]
        rw [Nat.mod_eq_of_lt hx, decide_eq_false (show ¬ 256 ≤ Ql29.a m by omega), Bool.or_false, ← hz, ← hk]
      exact fin2 _ (Ql29.a m) (Ql29.C m) rfl hx hd

abbrev s_join_or_add : Stmt := top 18
theorem sc_join_or_add : FnScope ["chip", "first", "row", "second"] ["chip", "first"] (defScope s_join_or_add) := ⟨rfl, rfl, rfl, by decide +kernel, rfl, by decide +kernel, by decide +kernel⟩
def spJoinAdd (C : Addr) : Sp := spM C fun rest _ m v m' => ∃ op : Nat, rest = [.int (op : Int)] ∧ 4 ≤ op % 16 ∧ v = .non ∧ m' = Cm.joinAdd m op
theorem ok_join_or_add (h : GAt K mg "join_or_add" s_join_or_add) (T : Txt K C) (g_operand : GOk P w K mg base "operand" 4 ["chip", "first"] (spOperand C)) (g_add : GOk P w K mg base "add" 2 ["chip", "second", "carry"] (spAdd C)) (m_get_flag : MOk P w K mg base C "get_flag" 1 ["self", "number"] (spGetFlag C)) (i_CARRY : IntG mg "CARRY" 7) (g_subtract : GOk P w K mg base "subtract" 2 ["chip", "second"] (spSub C)) (m_put_a : MOk P w K mg base C "put_a" 1 ["self", "byte"] (spPutA C)) (g_joined : GOk P w K mg base "joined" 1 ["row", "first", "second"] (spJoined)) (m_get_a : MOk P w K mg base C "get_a" 1 ["self"] (spGetA C)) : GOk P w K mg base "join_or_add" 5 ["chip", "first"] (spJoinAdd C) := by
  refine h.ok sc_join_or_add (fun vs H Q E h => ?_) (fun _ _ _ _ _ _ us hl => match us, hl with | [_, _], _ => rfl) fun cdv f A outer s H vs Q E hr h => ⟨_, (pss_cons (ps_set (i := 2) sc_join_or_add.nd rfl (Or.inl rfl) (pe_op op_shr (pv 1) pe_int))
      (pss_cons (ps_set (i := 3) sc_join_or_add.nd rfl (Or.inl rfl) (pe_g g_operand hr (pa_cons (pv 0) (pa_cons (pv 1) pa_nil))))
      (pss_one (ps_if (pt_cmpR op_eq (pv 2) pe_int (nomark _)) (pss_one (ps_expr (pe_g g_add hr (pa_cons (pv 0) (pa_cons (pv 3) (pa_cons pe_int pa_nil)))))) (pss_one (ps_if (pt_cmpR op_eq (pv 2) pe_int (nomark _)) (pss_one (ps_expr (pe_g g_add hr (pa_cons (pv 0) (pa_cons (pv 3) (pa_cons (pe_m m_get_flag T.cl hr (pv 0) (pa_cons (pe_n i_CARRY) pa_nil)) pa_nil)))))) (pss_one (ps_if (pt_cmpR op_eq (pv 2) pe_int (nomark _)) (pss_one (ps_expr (pe_g g_subtract hr (pa_cons (pv 0) (pa_cons (pv 3) pa_nil))))) (pss_one (ps_expr (pe_m m_put_a T.cl hr (pv 0) (pa_cons (pe_g g_joined hr (pa_cons (pv 2) (pa_cons (pe_m0 m_get_a T.cl hr (pv 0)) (pa_cons (pv 3) pa_nil)))) pa_nil)))))))))))), ?_⟩
  · obtain ⟨L, m, rest, v, m', rfl, hC, ⟨op, rfl, _⟩, q⟩ := h
    rfl
  · obtain ⟨L, m, rest, v, m', rfl, hC, ⟨op, rfl, h4, rfl, rfl⟩, q⟩ := h
    unfold Cm.joinAdd at q
    dsimp only at q
    have hy := Cm.opV_lt m (op % 16)
    refine ⟨_, rfl, _, _, rfl, rfl, (by show (0 : Int) ≤ 4; decide), _, rfl, _, rfl, L, m, _, _, _, rfl, hC, ⟨op, rfl, h4, rfl, rfl⟩, fun H1 hC1 e1 => ?_⟩
    refine s_eq (n := op / 16) 2 rfl rfl (fun e => ?_) fun n2 => s_eq (n := op / 16) 3 rfl rfl (fun e => ?_) fun n3 => s_eq (n := op / 16) 9 rfl rfl (fun e => ?_) fun n9 => ?_
    · rw [if_pos e] at q
      exact ⟨_, rfl, _, rfl, L, _, _, _, _, rfl, hC1, ⟨_, 0, rfl, hy, by decide, rfl, rfl⟩, fun H2 hC2 e2 => q H2 hC2 (e1.trans e2)⟩
    · rw [if_neg n2, if_pos e] at q
      exact ⟨_, rfl, _, rfl, _, rfl, L.c, L.dx, _, rfl, hC1.obj, nf_get_flag.lk _ _, L, _, _, _, rfl, hC1, ⟨7, rfl, rfl⟩, L, _, _, _, _, rfl, hC1, ⟨_, (Ql29.C (Cm.opT m (op % 16))).toNat, rfl, hy, bool_le _, rfl, rfl⟩, fun H2 hC2 e2 => q H2 hC2 (e1.trans e2)⟩
    · rw [if_neg n2, if_neg n3, if_pos e] at q
      exact ⟨_, rfl, _, rfl, L, _, _, _, _, rfl, hC1, ⟨_, rfl, hy, rfl, rfl⟩, fun H2 hC2 e2 => q H2 hC2 (e1.trans e2)⟩
    · rw [if_neg n2, if_neg n3, if_neg n9] at q
      exact ⟨_, rfl, L.c, L.dx, _, rfl, hC1.obj, nf_put_a.lk _ _, _, rfl, _, rfl, L.c, L.dx, _, rfl, hC1.obj, nf_get_a.lk _ _, L, _, _, _, rfl, hC1, ⟨rfl, rfl⟩, _, rfl, op / 16, _, _, rfl, L, _, _, _, _, rfl, hC1, ⟨_, _, rfl, modC _, rfl, rfl⟩, fun H2 hC2 e2 => q H2 hC2 (e1.trans e2)⟩

abbrev s_move_row_7 : Stmt := top 22
theorem sc_move_row_7 : FnScope ["chip", "first", "place"] ["chip", "first"] (defScope s_move_row_7) := ⟨rfl, rfl, rfl, by decide +kernel, rfl, by decide +kernel, by decide +kernel⟩
def spRow (C : Addr) (g : Ql29.St → Nat → Ql29.St) : Sp := spM C fun rest _ m v m' => ∃ op : Nat, rest = [.int (op : Int)] ∧ 4 ≤ op % 16 ∧ v = .non ∧ m' = g m (op % 16)
theorem ok_move_row_7 (h : GAt K mg "move_row_7" s_move_row_7) (T : Txt K C) (m_put_a : MOk P w K mg base C "put_a" 1 ["self", "byte"] (spPutA C)) (m_fetch : MOk P w K mg base C "fetch" 1 ["self"] (spFetch C)) (m_operand_place : MOk P w K mg base C "operand_place" 3 ["self", "first"] (spOpP C)) (m_put_place : MOk P w K mg base C "put_place" 1 ["self", "place", "byte"] (spPutPl C)) : GOk P w K mg base "move_row_7" 4 ["chip", "first"] (spRow C Cm.row7) := by
  refine h.ok sc_move_row_7 (fun vs H Q E h => ?_) (fun _ _ _ _ _ _ us hl => match us, hl with | [_, _], _ => rfl) fun cdv f A outer s H vs Q E hr h => ⟨_, (pss_cons (ps_if (pt_cmpR op_eq (pe_op op_and (pv 1) pe_int) pe_int (nomark _)) (pss_cons (ps_expr (pe_m m_put_a T.cl hr (pv 0) (pa_cons (pe_m0 m_fetch T.cl hr (pv 0)) pa_nil)))
      (pss_one ps_retN)) pss_nil)
      (pss_cons (ps_set (i := 2) sc_move_row_7.nd rfl (Or.inl rfl) (pe_m m_operand_place T.cl hr (pv 0) (pa_cons (pv 1) pa_nil)))
      (pss_one (ps_expr (pe_m m_put_place T.cl hr (pv 0) (pa_cons (pv 2) (pa_cons (pe_m0 m_fetch T.cl hr (pv 0)) pa_nil))))))), ?_⟩
  · obtain ⟨L, m, rest, v, m', rfl, hC, ⟨op, rfl, _⟩, q⟩ := h
    rfl
  · obtain ⟨L, m, rest, v, m', rfl, hC, ⟨op, rfl, h4, rfl, rfl⟩, q⟩ := h
    unfold Cm.row7 at q
    refine s_low 4 rfl rfl (fun e => ?_) fun e => ?_
    · rw [if_pos e] at q
      exact ⟨_, rfl, L.c, L.dx, _, rfl, hC.obj, nf_put_a.lk _ _, _, rfl, L.c, L.dx, _, rfl, hC.obj, nf_fetch.lk _ _, L, _, _, _, _, rfl, hC, ⟨rfl, rfl, rfl⟩, fun H1 hC1 e1 => ⟨L, _, _, _, _, rfl, hC1, ⟨_, _, rfl, modC _, rfl, rfl⟩, fun H2 hC2 e2 => q H2 hC2 (e1.trans e2)⟩⟩
    · rw [if_neg e] at q
      refine ⟨_, rfl, L.c, L.dx, _, rfl, hC.obj, nf_operand_place.lk _ _, _, rfl, L, m, _, _, _, rfl, hC, ⟨op, rfl, by omega, rfl, rfl⟩, fun H1 v1 hC1 e1 hp => ?_⟩
      exact ⟨_, rfl, L.c, L.dx, _, rfl, hC1.obj, nf_put_place.lk _ _, _, rfl, _, rfl, L.c, L.dx, _, rfl, hC1.obj, nf_fetch.lk _ _, L, _, _, _, _, rfl, hC1, ⟨rfl, rfl, rfl⟩, fun H2 hC2 e2 => ⟨L, _, _, _, _, rfl, hC2, ⟨_, _, _, _, rfl, hp.ext e2 hC1, opP_lt (low_lt _), modC _, rfl, rfl⟩, fun H3 hC3 e3 => q H3 hC3 ((e1.trans e2).trans e3)⟩⟩

abbrev s_move_row_8 : Stmt := top 23
theorem sc_move_row_8 : FnScope ["chip", "first", "byte"] ["chip", "first"] (defScope s_move_row_8) := ⟨rfl, rfl, rfl, by decide +kernel, rfl, by decide +kernel, by decide +kernel⟩
theorem PlAt.new {H : Hp} {p : Addr} {d : Bool} {z : Int} {n : Nat} (e : z = (n : Int)) : PlAt (upd H p (.tup [.bl d, .int z])) (.ref p) (d, n) := by
  subst e
  exact ⟨p, rfl, upd_same⟩
theorem ok_move_row_8 (h : GAt K mg "move_row_8" s_move_row_8) (T : Txt K C) (g_divide : GOk P w K mg base "divide" 2 ["chip"] (spDiv C)) (m_get_place : MOk P w K mg base C "get_place" 1 ["self", "place"] (spGetPl C)) (m_operand_place : MOk P w K mg base C "operand_place" 3 ["self", "first"] (spOpP C)) (m_put_place : MOk P w K mg base C "put_place" 1 ["self", "place", "byte"] (spPutPl C)) (m_fetch : MOk P w K mg base C "fetch" 1 ["self"] (spFetch C)) : GOk P w K mg base "move_row_8" 4 ["chip", "first"] (spRow C Cm.row8) := by
  refine h.ok sc_move_row_8 (fun vs H Q E h => ?_) (fun _ _ _ _ _ _ us hl => match us, hl with | [_, _], _ => rfl) fun cdv f A outer s H vs Q E hr h => ⟨_, (pss_cons (ps_if (pt_cmpR op_eq (pe_op op_and (pv 1) pe_int) pe_int (nomark _)) (pss_cons (ps_expr (pe_g g_divide hr (pa_cons (pv 0) pa_nil)))
      (pss_one ps_retN)) pss_nil)
      (pss_cons (ps_set (i := 2) sc_move_row_8.nd rfl (Or.inl rfl) (pe_m m_get_place T.cl hr (pv 0) (pa_cons (pe_m m_operand_place T.cl hr (pv 0) (pa_cons (pv 1) pa_nil)) pa_nil)))
      (pss_one (ps_expr (pe_m m_put_place T.cl hr (pv 0) (pa_cons (pe_tup (pa_cons pe_bl (pa_cons (pe_m0 m_fetch T.cl hr (pv 0)) pa_nil))) (pa_cons (pv 2) pa_nil))))))), ?_⟩
  · obtain ⟨L, m, rest, v, m', rfl, hC, ⟨op, rfl, _⟩, q⟩ := h
    rfl
  · obtain ⟨L, m, rest, v, m', rfl, hC, ⟨op, rfl, h4, rfl, rfl⟩, q⟩ := h
    unfold Cm.row8 at q
    refine s_low 4 rfl rfl (fun e => ?_) fun e => ?_
    · rw [if_pos e] at q
      exact ⟨_, rfl, L, _, _, _, _, rfl, hC, ⟨rfl, rfl, rfl⟩, q⟩
    · rw [if_neg e] at q
      refine ⟨_, rfl, L.c, L.dx, _, rfl, hC.obj, nf_get_place.lk _ _, _, rfl, L.c, L.dx, _, rfl, hC.obj, nf_operand_place.lk _ _, _, rfl, L, m, _, _, _, rfl, hC, ⟨op, rfl, by omega, rfl, rfl⟩, fun H1 v1 hC1 e1 hp => ⟨L, _, _, _, rfl, hC1, hp, opP_lt (low_lt _), ?_⟩⟩
      refine ⟨_, rfl, L.c, L.dx, _, rfl, hC1.obj, nf_put_place.lk _ _, _, rfl, L.c, L.dx, _, rfl, hC1.obj, nf_fetch.lk _ _, L, _, _, _, _, rfl, hC1, ⟨rfl, rfl, rfl⟩, fun H2 hC2 e2 => ⟨by show 2 ≤ sizeLine; decide, fun p hp2 => ⟨_, rfl, ?_⟩⟩⟩
      exact ⟨L, _, _, _, _, rfl, hC2.new hp2, ⟨_, (true, Cm.fv (Cm.opS m (op % 16))), _, _, rfl, PlAt.new rfl, fv_lt _, modC _, rfl, rfl⟩, fun H3 hC3 e3 => q H3 hC3 ((e1.trans e2).trans ((Ext.new hp2).trans e3))⟩

abbrev s_move_row_10 : Stmt := top 24
theorem sc_move_row_10 : FnScope ["chip", "first", "place"] ["chip", "first"] (defScope s_move_row_10) := ⟨rfl, rfl, rfl, by decide +kernel, rfl, by decide +kernel, by decide +kernel⟩
theorem ok_move_row_10 (h : GAt K mg "move_row_10" s_move_row_10) (T : Txt K C) (g_multiply : GOk P w K mg base "multiply" 2 ["chip"] (spMul C)) (m_operand_place : MOk P w K mg base C "operand_place" 3 ["self", "first"] (spOpP C)) (m_put_place : MOk P w K mg base C "put_place" 1 ["self", "place", "byte"] (spPutPl C)) (m_get_place : MOk P w K mg base C "get_place" 1 ["self", "place"] (spGetPl C)) (m_fetch : MOk P w K mg base C "fetch" 1 ["self"] (spFetch C)) : GOk P w K mg base "move_row_10" 4 ["chip", "first"] (spRow C Cm.row10) := by
  refine h.ok sc_move_row_10 (fun vs H Q E h => ?_) (fun _ _ _ _ _ _ us hl => match us, hl with | [_, _], _ => rfl) fun cdv f A outer s H vs Q E hr h => ⟨_, (pss_cons (ps_if (pt_cmpR op_eq (pe_op op_and (pv 1) pe_int) pe_int (nomark _)) (pss_cons (ps_expr (pe_g g_multiply hr (pa_cons (pv 0) pa_nil)))
      (pss_one ps_retN)) pss_nil)
      (pss_cons (ps_set (i := 2) sc_move_row_10.nd rfl (Or.inl rfl) (pe_m m_operand_place T.cl hr (pv 0) (pa_cons (pv 1) pa_nil)))
      (pss_one (ps_expr (pe_m m_put_place T.cl hr (pv 0) (pa_cons (pv 2) (pa_cons (pe_m m_get_place T.cl hr (pv 0) (pa_cons (pe_tup (pa_cons pe_bl (pa_cons (pe_m0 m_fetch T.cl hr (pv 0)) pa_nil))) pa_nil)) pa_nil))))))), ?_⟩
  · obtain ⟨L, m, rest, v, m', rfl, hC, ⟨op, rfl, _⟩, q⟩ := h
    rfl
  · obtain ⟨L, m, rest, v, m', rfl, hC, ⟨op, rfl, h4, rfl, rfl⟩, q⟩ := h
    unfold Cm.row10 at q
    refine s_low 4 rfl rfl (fun e => ?_) fun e => ?_
    · rw [if_pos e] at q
      exact ⟨_, rfl, L, _, _, _, _, rfl, hC, ⟨rfl, rfl, rfl⟩, q⟩
    · rw [if_neg e] at q
      refine ⟨_, rfl, L.c, L.dx, _, rfl, hC.obj, nf_operand_place.lk _ _, _, rfl, L, m, _, _, _, rfl, hC, ⟨op, rfl, by omega, rfl, rfl⟩, fun H1 v1 hC1 e1 hp => ?_⟩
      refine ⟨_, rfl, L.c, L.dx, _, rfl, hC1.obj, nf_put_place.lk _ _, _, rfl, _, rfl, L.c, L.dx, _, rfl, hC1.obj, nf_get_place.lk _ _, _, rfl, L.c, L.dx, _, rfl, hC1.obj, nf_fetch.lk _ _, L, _, _, _, _, rfl, hC1, ⟨rfl, rfl, rfl⟩, fun H2 hC2 e2 => ⟨by show 2 ≤ sizeLine; decide, fun p hp2 => ?_⟩⟩
      have hC3 := hC2.new (o := .tup [.bl true, .int (Cm.fv (Cm.opS m (op % 16)) : Int)]) hp2
      have e3 := e2.trans (Ext.new (L := L) (o := .tup [.bl true, .int (Cm.fv (Cm.opS m (op % 16)) : Int)]) hp2)
      exact ⟨L, _, _, (true, Cm.fv (Cm.opS m (op % 16))), rfl, hC3, PlAt.new rfl, fv_lt _, L, _, _, _, _, rfl, hC3, ⟨_, _, _, _, rfl, hp.ext e3 hC1, opP_lt (low_lt _), modC _, rfl, rfl⟩, fun H4 hC4 e4 => q H4 hC4 ((e1.trans e3).trans e4)⟩

abbrev s_compare : Stmt := top 25
theorem sc_compare : FnScope ["chip", "first", "one", "other"] ["chip", "first"] (defScope s_compare) := ⟨rfl, rfl, rfl, by decide +kernel, rfl, by decide +kernel, by decide +kernel⟩
theorem ne_of_int {x : Nat} {z : Int} (y : Nat) (e : z = (y : Int)) : (!decide (V.int (x : Int) = V.int z)) = (x != y) := by
  subst e
  by_cases h : x = y
  · subst h
    simp
  · have n : ¬ V.int (x : Int) = V.int (y : Int) := fun q => h (by have := V.int.inj q; omega)
    rw [decide_eq_false n]
    simp [h]
theorem shl_of (x k : Nat) {z : Int} (e : z = (k : Int)) : (x : Int) * 2 ^ z.toNat = ((x * 2 ^ k : Nat) : Int) := by
  subst e
  rw [Int.toNat_natCast, Int.natCast_mul, Int.natCast_pow]
  rfl
theorem ok_compare (h : GAt K mg "compare" s_compare) (T : Txt K C) (m_get_a : MOk P w K mg base C "get_a" 1 ["self"] (spGetA C)) (m_fetch : MOk P w K mg base C "fetch" 1 ["self"] (spFetch C)) (m_get_place : MOk P w K mg base C "get_place" 1 ["self", "place"] (spGetPl C)) (m_operand_place : MOk P w K mg base C "operand_place" 3 ["self", "first"] (spOpP C)) (m_jump_if : MOk P w K mg base C "jump_if" 2 ["self", "holds"] (spJumpIf C)) (m_put_flag : MOk P w K mg base C "put_flag" 1 ["self", "number", "holds"] (spPutFlag C)) (i_CARRY : IntG mg "CARRY" 7) : GOk P w K mg base "compare" 4 ["chip", "first"] (spRow C Cm.compare) := by
  refine h.ok sc_compare (fun vs H Q E h => ?_) (fun _ _ _ _ _ _ us hl => match us, hl with | [_, _], _ => rfl) fun cdv f A outer s H vs Q E hr h => ⟨_, (pss_cons (ps_if (pt_cmpR op_eq (pe_op op_and (pv 1) pe_int) pe_int (nomark _)) (pss_cons (ps_set (i := 2) sc_compare.nd rfl (Or.inl rfl) (pe_m0 m_get_a T.cl hr (pv 0)))
      (pss_one (ps_set (i := 3) sc_compare.nd rfl (Or.inl rfl) (pe_m0 m_fetch T.cl hr (pv 0))))) (pss_one (ps_if (pt_cmpR op_eq (pe_op op_and (pv 1) pe_int) pe_int (nomark _)) (pss_cons (ps_set (i := 2) sc_compare.nd rfl (Or.inl rfl) (pe_m0 m_get_a T.cl hr (pv 0)))
      (pss_one (ps_set (i := 3) sc_compare.nd rfl (Or.inl rfl) (pe_m m_get_place T.cl hr (pv 0) (pa_cons (pe_tup (pa_cons pe_bl (pa_cons (pe_m0 m_fetch T.cl hr (pv 0)) pa_nil))) pa_nil))))) (pss_cons (ps_set (i := 2) sc_compare.nd rfl (Or.inl rfl) (pe_m m_get_place T.cl hr (pv 0) (pa_cons (pe_m m_operand_place T.cl hr (pv 0) (pa_cons (pv 1) pa_nil)) pa_nil)))
      (pss_one (ps_set (i := 3) sc_compare.nd rfl (Or.inl rfl) (pe_m0 m_fetch T.cl hr (pv 0))))))))
      (pss_cons (ps_expr (pe_m m_jump_if T.cl hr (pv 0) (pa_cons (pe_cmpR op_ne (pv 2) (pv 3) (nomark _)) pa_nil)))
      (pss_one (ps_expr (pe_m m_put_flag T.cl hr (pv 0) (pa_cons (pe_n i_CARRY) (pa_cons (pe_cmpR op_lt (pv 2) (pv 3) (nomark _)) pa_nil))))))), ?_⟩
  · obtain ⟨L, m, rest, v, m', rfl, hC, ⟨op, rfl, _⟩, q⟩ := h
    rfl
  · obtain ⟨L, m, rest, v, m', rfl, hC, ⟨op, rfl, h4, rfl, rfl⟩, q⟩ := h
    have fin : ∀ (H1 : Hp) (t : Ql29.St) (x y : Nat), ChipAt C L H1 t → Ext L H H1 → Cm.compare m (op % 16) = Cm.cmpEnd t x y →
        tSeq (tDrop (tMeth C "jump_if" (spJumpIf C) [] E0 (tVar 0) (tCons (tOp rNe (tVar 2) (tVar 3)) tNil))) (tDrop (tMeth C "put_flag" (spPutFlag C) [] E0 (tVar 0) (tCons (tC (.int 7)) (tCons (tOp (rI0 fun i j => V.bl (decide (i < j))) (tVar 2) (tVar 3)) tNil)))) { nx := fun _ H' => Q .non H', rt := Q } [some (.ref L.c), some (.int (op : Int)), some (.int (x : Int)), some (.int (y : Int))] H1 := by
      intro H1 t x y hC1 e1 hd
      refine ⟨_, rfl, L.c, L.dx, _, rfl, hC1.obj, nf_jump_if.lk _ _, _, rfl, _, rfl, rfl, L, _, _, _, _, rfl, hC1, ⟨x != y, by rw [ne_of_int y rfl]; rfl, rfl, rfl⟩, fun H2 hC2 e2 => ?_⟩
      refine ⟨_, rfl, L.c, L.dx, _, rfl, hC2.obj, nf_put_flag.lk _ _, _, rfl, _, rfl, _, _, rfl, rfl, L, _, _, _, _, rfl, hC2, ⟨7, decide (x < y), fl_rest 7 (by omega), by decide, rfl, rfl⟩, fun H3 hC3 e3 => ?_⟩
      rw [hd] at q
      exact q H3 hC3 ((e1.trans e2).trans e3)
    unfold Cm.compare at fin
    refine s_low 4 rfl rfl (fun e => ?_) fun n4 => s_low 5 rfl rfl (fun e => ?_) fun n5 => ?_
    · rw [if_pos e] at fin
      exact ⟨_, rfl, L.c, L.dx, _, rfl, hC.obj, nf_get_a.lk _ _, L, _, _, _, rfl, hC, ⟨rfl, rfl⟩, _, rfl, L.c, L.dx, _, rfl, hC.obj, nf_fetch.lk _ _, L, _, _, _, _, rfl, hC, ⟨rfl, rfl, rfl⟩, fun H1 hC1 e1 => fin H1 _ _ _ hC1 e1 rfl⟩
    · rw [if_neg n4, if_pos e] at fin
      refine ⟨_, rfl, L.c, L.dx, _, rfl, hC.obj, nf_get_a.lk _ _, L, _, _, _, rfl, hC, ⟨rfl, rfl⟩, _, rfl, L.c, L.dx, _, rfl, hC.obj, nf_get_place.lk _ _, _, rfl, L.c, L.dx, _, rfl, hC.obj, nf_fetch.lk _ _, L, _, _, _, _, rfl, hC, ⟨rfl, rfl, rfl⟩, fun H1 hC1 e1 => ⟨by show 2 ≤ sizeLine; decide, fun p hp => ?_⟩⟩
      exact ⟨L, _, _, (true, Cm.fv m), rfl, hC1.new hp, PlAt.new rfl, fv_lt _, fin _ _ _ _ (hC1.new hp) (e1.trans (Ext.new hp)) rfl⟩
    · rw [if_neg n4, if_neg n5] at fin
      refine ⟨_, rfl, L.c, L.dx, _, rfl, hC.obj, nf_get_place.lk _ _, _, rfl, L.c, L.dx, _, rfl, hC.obj, nf_operand_place.lk _ _, _, rfl, L, m, _, _, _, rfl, hC, ⟨op, rfl, by omega, rfl, rfl⟩, fun H1 v1 hC1 e1 hp => ⟨L, _, _, _, rfl, hC1, hp, opP_lt (low_lt _), ?_⟩⟩
      exact ⟨_, rfl, L.c, L.dx, _, rfl, hC1.obj, nf_fetch.lk _ _, L, _, _, _, _, rfl, hC1, ⟨rfl, rfl, rfl⟩, fun H2 hC2 e2 => fin H2 _ _ _ hC2 (e1.trans e2) rfl⟩

abbrev s_exchange : Stmt := top 26
theorem sc_exchange : FnScope ["chip", "first", "byte", "place", "other"] ["chip", "first"] (defScope s_exchange) := ⟨rfl, rfl, rfl, by decide +kernel, rfl, by decide +kernel, by decide +kernel⟩
theorem ok_exchange (h : GAt K mg "exchange" s_exchange) (T : Txt K C) (m_get_a : MOk P w K mg base C "get_a" 1 ["self"] (spGetA C)) (m_put_a : MOk P w K mg base C "put_a" 1 ["self", "byte"] (spPutA C)) (m_operand_place : MOk P w K mg base C "operand_place" 3 ["self", "first"] (spOpP C)) (m_get_place : MOk P w K mg base C "get_place" 1 ["self", "place"] (spGetPl C)) (m_put_place : MOk P w K mg base C "put_place" 1 ["self", "place", "byte"] (spPutPl C)) : GOk P w K mg base "exchange" 4 ["chip", "first"] (spRow C Cm.exchange) := by
  refine h.ok sc_exchange (fun vs H Q E h => ?_) (fun _ _ _ _ _ _ us hl => match us, hl with | [_, _], _ => rfl) fun cdv f A outer s H vs Q E hr h => ⟨_, (pss_cons (ps_set (i := 2) sc_exchange.nd rfl (Or.inl rfl) (pe_m0 m_get_a T.cl hr (pv 0)))
      (pss_cons (ps_if (pt_cmpR op_eq (pe_op op_and (pv 1) pe_int) pe_int (nomark _)) (pss_cons (ps_expr (pe_m m_put_a T.cl hr (pv 0) (pa_cons (pe_op op_or (pe_op op_shr (pv 2) pe_int) (pe_op op_shl (pv 2) pe_int)) pa_nil)))
      (pss_one ps_retN)) pss_nil)
      (pss_cons (ps_set (i := 3) sc_exchange.nd rfl (Or.inl rfl) (pe_m m_operand_place T.cl hr (pv 0) (pa_cons (pv 1) pa_nil)))
      (pss_cons (ps_set (i := 4) sc_exchange.nd rfl (Or.inl rfl) (pe_m m_get_place T.cl hr (pv 0) (pa_cons (pv 3) pa_nil)))
      (pss_cons (ps_expr (pe_m m_put_place T.cl hr (pv 0) (pa_cons (pv 3) (pa_cons (pv 2) pa_nil))))
      (pss_one (ps_expr (pe_m m_put_a T.cl hr (pv 0) (pa_cons (pv 4) pa_nil))))))))), ?_⟩
  · obtain ⟨L, m, rest, v, m', rfl, hC, ⟨op, rfl, _⟩, q⟩ := h
    rfl
  · obtain ⟨L, m, rest, v, m', rfl, hC, ⟨op, rfl, h4, rfl, rfl⟩, q⟩ := h
    unfold Cm.exchange at q
    have hx := Cm.a_lt m
    refine ⟨_, rfl, L.c, L.dx, _, rfl, hC.obj, nf_get_a.lk _ _, L, _, _, _, rfl, hC, ⟨rfl, rfl⟩, s_low 4 rfl rfl (fun e => ?_) fun e => ?_⟩
    · rw [if_pos e] at q
      refine ⟨_, rfl, L.c, L.dx, _, rfl, hC.obj, nf_put_a.lk _ _, _, rfl, _, _, rfl, rfl, (by show (0 : Int) ≤ 4; decide), _, rfl, _, _, rfl, rfl, ⟨by decide, by decide, by omega⟩, _, _, rfl, rfl, L, m, _, _, _, rfl, hC, ⟨_, (Ql29.a m / 16) ||| (Ql29.a m * 16), rfl, ?_, rfl, rfl⟩, q⟩
      rw [shr_of _ 4 (z := 4) rfl, shl_of _ 4 (z := 4) rfl, bOr]
      exact modC _
    · rw [if_neg e] at q
      refine ⟨_, rfl, L.c, L.dx, _, rfl, hC.obj, nf_operand_place.lk _ _, _, rfl, L, m, _, _, _, rfl, hC, ⟨op, rfl, by omega, rfl, rfl⟩, fun H1 v1 hC1 e1 hp => ?_⟩
      refine ⟨_, rfl, L.c, L.dx, _, rfl, hC1.obj, nf_get_place.lk _ _, _, rfl, L, _, _, _, rfl, hC1, hp, opP_lt (low_lt _), _, rfl, L.c, L.dx, _, rfl, hC1.obj, nf_put_place.lk _ _, _, rfl, _, rfl, L, _, _, _, _, rfl, hC1, ⟨_, _, _, _, rfl, hp, opP_lt (low_lt _), modC _, rfl, rfl⟩, fun H2 hC2 e2 => ?_⟩
      exact ⟨_, rfl, L.c, L.dx, _, rfl, hC2.obj, nf_put_a.lk _ _, _, rfl, L, _, _, _, _, rfl, hC2, ⟨_, _, rfl, modC _, rfl, rfl⟩, fun H3 hC3 e3 => q H3 hC3 ((e1.trans e2).trans e3)⟩

abbrev s_count_row_13 : Stmt := top 27
theorem sc_count_row_13 : FnScope ["chip", "first", "low", "place", "byte", "mine"] ["chip", "first"] (defScope s_count_row_13) := ⟨rfl, rfl, rfl, by decide +kernel, rfl, by decide +kernel, by decide +kernel⟩
theorem ok_count_row_13 (h : GAt K mg "count_row_13" s_count_row_13) (T : Txt K C) (g_adjust : GOk P w K mg base "adjust" 2 ["chip"] (spAdj C)) (m_operand_place : MOk P w K mg base C "operand_place" 3 ["self", "first"] (spOpP C)) (m_get_place : MOk P w K mg base C "get_place" 1 ["self", "place"] (spGetPl C)) (m_get_a : MOk P w K mg base C "get_a" 1 ["self"] (spGetA C)) (m_put_place : MOk P w K mg base C "put_place" 1 ["self", "place", "byte"] (spPutPl C)) (m_put_a : MOk P w K mg base C "put_a" 1 ["self", "byte"] (spPutA C)) (m_jump_if : MOk P w K mg base C "jump_if" 2 ["self", "holds"] (spJumpIf C)) : GOk P w K mg base "count_row_13" 4 ["chip", "first"] (spRow C Cm.row13) := by
  refine h.ok sc_count_row_13 (fun vs H Q E h => ?_) (fun _ _ _ _ _ _ us hl => match us, hl with | [_, _], _ => rfl) fun cdv f A outer s H vs Q E hr h => ⟨_, (pss_cons (ps_set (i := 2) sc_count_row_13.nd rfl (Or.inl rfl) (pe_op op_and (pv 1) pe_int))
      (pss_cons (ps_if (pt_cmpR op_eq (pv 2) pe_int (nomark _)) (pss_cons (ps_expr (pe_g g_adjust hr (pa_cons (pv 0) pa_nil)))
      (pss_one ps_retN)) pss_nil)
      (pss_cons (ps_set (i := 3) sc_count_row_13.nd rfl (Or.inl rfl) (pe_m m_operand_place T.cl hr (pv 0) (pa_cons (pv 1) pa_nil)))
      (pss_cons (ps_set (i := 4) sc_count_row_13.nd rfl (Or.inl rfl) (pe_m m_get_place T.cl hr (pv 0) (pa_cons (pv 3) pa_nil)))
      (pss_cons (ps_if (pt_inN (pv 2) rfl) (pss_cons (ps_set (i := 5) sc_count_row_13.nd rfl (Or.inl rfl) (pe_m0 m_get_a T.cl hr (pv 0)))
      (pss_cons (ps_expr (pe_m m_put_place T.cl hr (pv 0) (pa_cons (pv 3) (pa_cons (pe_op op_or (pe_op op_and (pv 4) pe_int) (pe_op op_and (pv 5) pe_int)) pa_nil))))
      (pss_cons (ps_expr (pe_m m_put_a T.cl hr (pv 0) (pa_cons (pe_op op_or (pe_op op_and (pv 5) pe_int) (pe_op op_and (pv 4) pe_int)) pa_nil)))
      (pss_one ps_retN)))) pss_nil)
      (pss_cons (ps_set (i := 4) sc_count_row_13.nd rfl (Or.inl rfl) (pe_op op_and (pe_op op_sub (pv 4) pe_int) pe_int))
      (pss_cons (ps_expr (pe_m m_put_place T.cl hr (pv 0) (pa_cons (pv 3) (pa_cons (pv 4) pa_nil))))
      (pss_one (ps_expr (pe_m m_jump_if T.cl hr (pv 0) (pa_cons (pe_cmpR op_ne (pv 4) pe_int (nomark _)) pa_nil))))))))))), ?_⟩
  · obtain ⟨L, m, rest, v, m', rfl, hC, ⟨op, rfl, _⟩, q⟩ := h
    rfl
  · obtain ⟨L, m, rest, v, m', rfl, hC, ⟨op, rfl, h4, rfl, rfl⟩, q⟩ := h
    unfold Cm.row13 at q
    dsimp only at q
    refine ⟨_, rfl, _, _, rfl, rfl, ?_⟩
    dsimp only
    rw [bAnd15]
    refine s_eq (n := op % 16) 4 rfl rfl (fun e => ?_) fun n4 => ?_
    · rw [if_pos e] at q
      exact ⟨_, rfl, L, _, _, _, _, rfl, hC, ⟨rfl, rfl, rfl⟩, q⟩
    · rw [if_neg n4] at q
      refine ⟨_, rfl, L.c, L.dx, _, rfl, hC.obj, nf_operand_place.lk _ _, _, rfl, L, m, _, _, _, rfl, hC, ⟨op, rfl, by omega, rfl, rfl⟩, fun H1 v1 hC1 e1 hp => ⟨_, rfl, L.c, L.dx, _, rfl, hC1.obj, nf_get_place.lk _ _, _, rfl, L, _, _, _, rfl, hC1, hp, opP_lt (low_lt _), ?_⟩⟩
      have hv : Cm.getP (Cm.opS m (op % 16)) (Cm.opP m (op % 16)) < 256 := by
        rw [Cm.getP_op m (by omega)]
        exact Cm.opV_lt _ _
      refine s_in (n := op % 16) (ns := [6, 7]) rfl hC1 (fun e H2 hC2 e2 => ?_) fun e H2 hC2 e2 => ?_
      · have e67 : op % 16 = 6 ∨ op % 16 = 7 := by simpa using e
        rw [if_pos e67] at q
        have hp2 := hp.ext e2 hC1
        refine ⟨_, rfl, L.c, L.dx, _, rfl, hC2.obj, nf_get_a.lk _ _, L, _, _, _, rfl, hC2, ⟨rfl, rfl⟩, _, rfl, L.c, L.dx, _, rfl, hC2.obj, nf_put_place.lk _ _, _, rfl, _, rfl, _, _, rfl, rfl, _, rfl, _, _, rfl, rfl, _, _, rfl, rfl, L, _, _, _, _, rfl, hC2, ⟨_, _, _, (Cm.getP (Cm.opS m (op % 16)) (Cm.opP m (op % 16)) &&& 240) ||| (Ql29.a (Cm.opS m (op % 16)) &&& 15), rfl, hp2, opP_lt (low_lt _), ?_, rfl, rfl⟩, fun H3 hC3 e3 => ?_⟩
        · rw [bAndL _ 240 240 rfl, bAndL _ 15 15 rfl, bOr]
          exact modC _
        · refine ⟨_, rfl, L.c, L.dx, _, rfl, hC3.obj, nf_put_a.lk _ _, _, rfl, _, _, rfl, rfl, _, rfl, _, _, rfl, rfl, _, _, rfl, rfl, L, _, _, _, _, rfl, hC3, ⟨_, (Ql29.a (Cm.opS m (op % 16)) &&& 240) ||| (Cm.getP (Cm.opS m (op % 16)) (Cm.opP m (op % 16)) &&& 15), rfl, ?_, rfl, rfl⟩, fun H4 hC4 e4 => q H4 hC4 (((e1.trans e2).trans e3).trans e4)⟩
          rw [bAndL _ 240 240 rfl, bAndL _ 15 15 rfl, bOr]
          exact modC _
      · have e67 : ¬ (op % 16 = 6 ∨ op % 16 = 7) := by simpa using e
        rw [if_neg e67] at q
        have hp2 := hp.ext e2 hC1
        have ez : Builtin.bitAnd ((Cm.getP (Cm.opS m (op % 16)) (Cm.opP m (op % 16)) : Int) - 1) 255 = (((Cm.getP (Cm.opS m (op % 16)) (Cm.opP m (op % 16)) + 255) % 256 : Nat) : Int) := by
          rw [bAnd255]
          omega
        refine ⟨_, rfl, _, _, rfl, rfl, _, _, rfl, rfl, ?_⟩
        dsimp only
        rw [ez]
        refine ⟨_, rfl, L.c, L.dx, _, rfl, hC2.obj, nf_put_place.lk _ _, _, rfl, _, rfl, L, _, _, _, _, rfl, hC2, ⟨_, _, _, _, rfl, hp2, opP_lt (low_lt _), modC _, rfl, rfl⟩, fun H3 hC3 e3 => ?_⟩
        exact ⟨_, rfl, L.c, L.dx, _, rfl, hC3.obj, nf_jump_if.lk _ _, _, rfl, rfl, L, _, _, _, _, rfl, hC3, ⟨_, by rw [ne_of_int 0 (z := 0) rfl]; rfl, rfl, rfl⟩, fun H4 hC4 e4 => q H4 hC4 (((e1.trans e2).trans e3).trans e4)⟩

abbrev s_move_row_14 : Stmt := top 28
theorem sc_move_row_14 : FnScope ["chip", "first"] ["chip", "first"] (defScope s_move_row_14) := ⟨rfl, rfl, rfl, by decide +kernel, rfl, by decide +kernel, by decide +kernel⟩
theorem ok_move_row_14 (h : GAt K mg "move_row_14" s_move_row_14) (T : Txt K C) (m_put_a : MOk P w K mg base C "put_a" 1 ["self", "byte"] (spPutA C)) (m_get_place : MOk P w K mg base C "get_place" 1 ["self", "place"] (spGetPl C)) (m_operand_place : MOk P w K mg base C "operand_place" 3 ["self", "first"] (spOpP C)) : GOk P w K mg base "move_row_14" 4 ["chip", "first"] (spRow C Cm.row14) := by
  refine h.ok sc_move_row_14 (fun vs H Q E h => ?_) (fun _ _ _ _ _ _ us hl => match us, hl with | [_, _], _ => rfl) fun cdv f A outer s H vs Q E hr h => ⟨_, (pss_one (ps_if (pt_cmpR op_eq (pe_op op_and (pv 1) pe_int) pe_int (nomark _)) (pss_one (ps_expr (pe_m m_put_a T.cl hr (pv 0) (pa_cons pe_int pa_nil)))) (pss_one (ps_expr (pe_m m_put_a T.cl hr (pv 0) (pa_cons (pe_m m_get_place T.cl hr (pv 0) (pa_cons (pe_m m_operand_place T.cl hr (pv 0) (pa_cons (pv 1) pa_nil)) pa_nil)) pa_nil)))))), ?_⟩
  · obtain ⟨L, m, rest, v, m', rfl, hC, ⟨op, rfl, _⟩, q⟩ := h
    rfl
  · obtain ⟨L, m, rest, v, m', rfl, hC, ⟨op, rfl, h4, rfl, rfl⟩, q⟩ := h
    unfold Cm.row14 at q
    refine s_low 4 rfl rfl (fun e => ?_) fun e => ?_
    · rw [if_pos e] at q
      exact ⟨_, rfl, L.c, L.dx, _, rfl, hC.obj, nf_put_a.lk _ _, L, _, _, _, _, rfl, hC, ⟨_, 0, rfl, rfl, rfl, rfl⟩, q⟩
    · rw [if_neg e] at q
      refine ⟨_, rfl, L.c, L.dx, _, rfl, hC.obj, nf_put_a.lk _ _, _, rfl, L.c, L.dx, _, rfl, hC.obj, nf_get_place.lk _ _, _, rfl, L.c, L.dx, _, rfl, hC.obj, nf_operand_place.lk _ _, _, rfl, L, m, _, _, _, rfl, hC, ⟨op, rfl, by omega, rfl, rfl⟩, fun H1 v1 hC1 e1 hp => ⟨L, _, _, _, rfl, hC1, hp, opP_lt (low_lt _), ?_⟩⟩
      exact ⟨L, _, _, _, _, rfl, hC1, ⟨_, _, rfl, modC _, rfl, rfl⟩, fun H2 hC2 e2 => q H2 hC2 (e1.trans e2)⟩

abbrev s_move_row_15 : Stmt := top 29
theorem sc_move_row_15 : FnScope ["chip", "first"] ["chip", "first"] (defScope s_move_row_15) := ⟨rfl, rfl, rfl, by decide +kernel, rfl, by decide +kernel, by decide +kernel⟩
theorem a_opS (m : Ql29.St) (k : Nat) : Ql29.a (Cm.opS m k) = Ql29.a m := by
  unfold Ql29.a Ql29.sfr
  rw [Cm.opS_sfr]
theorem ok_move_row_15 (h : GAt K mg "move_row_15" s_move_row_15) (T : Txt K C) (m_put_a : MOk P w K mg base C "put_a" 1 ["self", "byte"] (spPutA C)) (m_get_a : MOk P w K mg base C "get_a" 1 ["self"] (spGetA C)) (m_put_place : MOk P w K mg base C "put_place" 1 ["self", "place", "byte"] (spPutPl C)) (m_operand_place : MOk P w K mg base C "operand_place" 3 ["self", "first"] (spOpP C)) : GOk P w K mg base "move_row_15" 4 ["chip", "first"] (spRow C Cm.row15) := by
  refine h.ok sc_move_row_15 (fun vs H Q E h => ?_) (fun _ _ _ _ _ _ us hl => match us, hl with | [_, _], _ => rfl) fun cdv f A outer s H vs Q E hr h => ⟨_, (pss_one (ps_if (pt_cmpR op_eq (pe_op op_and (pv 1) pe_int) pe_int (nomark _)) (pss_one (ps_expr (pe_m m_put_a T.cl hr (pv 0) (pa_cons (pe_op op_xor pe_int (pe_m0 m_get_a T.cl hr (pv 0))) pa_nil)))) (pss_one (ps_expr (pe_m m_put_place T.cl hr (pv 0) (pa_cons (pe_m m_operand_place T.cl hr (pv 0) (pa_cons (pv 1) pa_nil)) (pa_cons (pe_m0 m_get_a T.cl hr (pv 0)) pa_nil))))))), ?_⟩
  · obtain ⟨L, m, rest, v, m', rfl, hC, ⟨op, rfl, _⟩, q⟩ := h
    rfl
  · obtain ⟨L, m, rest, v, m', rfl, hC, ⟨op, rfl, h4, rfl, rfl⟩, q⟩ := h
    unfold Cm.row15 at q
    refine s_low 4 rfl rfl (fun e => ?_) fun e => ?_
    · rw [if_pos e] at q
      refine ⟨_, rfl, L.c, L.dx, _, rfl, hC.obj, nf_put_a.lk _ _, _, rfl, L.c, L.dx, _, rfl, hC.obj, nf_get_a.lk _ _, L, _, _, _, rfl, hC, ⟨rfl, rfl⟩, _, _, rfl, rfl, L, _, _, _, _, rfl, hC, ⟨_, 255 ^^^ Ql29.a m, rfl, ?_, rfl, rfl⟩, q⟩
      rw [show (255 : Int) = ((255 : Nat) : Int) from rfl, bXor]
      exact modC _
    · rw [if_neg e, ← a_opS m (op % 16)] at q
      refine ⟨_, rfl, L.c, L.dx, _, rfl, hC.obj, nf_put_place.lk _ _, _, rfl, L.c, L.dx, _, rfl, hC.obj, nf_operand_place.lk _ _, _, rfl, L, m, _, _, _, rfl, hC, ⟨op, rfl, by omega, rfl, rfl⟩, fun H1 v1 hC1 e1 hp => ⟨_, rfl, L.c, L.dx, _, rfl, hC1.obj, nf_get_a.lk _ _, L, _, _, _, rfl, hC1, ⟨rfl, rfl⟩, L, _, _, _, _, rfl, hC1, ⟨_, _, _, _, rfl, hp, opP_lt (low_lt _), modC _, rfl, rfl⟩, fun H2 hC2 e2 => q H2 hC2 (e1.trans e2)⟩⟩

abbrev s_page_jump : Stmt := top 30
theorem sc_page_jump : FnScope ["chip", "first", "low", "goal"] ["chip", "first"] (defScope s_page_jump) := ⟨rfl, rfl, rfl, by decide +kernel, rfl, by decide +kernel, by decide +kernel⟩
def spPage (C : Addr) : Sp := spM C fun rest _ m v m' => ∃ op : Nat, rest = [.int (op : Int)] ∧ op < 256 ∧ v = .non ∧ m' = Cm.pageJump m op
theorem goal_lt (m : Ql29.St) {op : Nat} (h : op < 256) : Cm.pageGoal m op < 65536 := by
  have hp : (Cm.nx m).pc < 65536 := Nat.mod_lt _ (by decide)
  have hn : Cm.fv m < 256 := fv_lt m
  have e : Cm.pageGoal m op = (Cm.nx m).pc / 2048 * 2048 + op / 32 * 256 + Cm.fv m := Cm.page_or _ _ _ hp hn (by omega)
  omega
theorem ok_page_jump (h : GAt K mg "page_jump" s_page_jump) (T : Txt K C) (m_fetch : MOk P w K mg base C "fetch" 1 ["self"] (spFetch C)) (m_push_pc : MOk P w K mg base C "push_pc" 3 ["self"] (spPushPc C)) : GOk P w K mg base "page_jump" 4 ["chip", "first"] (spPage C) := by
  refine h.ok sc_page_jump (fun vs H Q E h => ?_) (fun _ _ _ _ _ _ us hl => match us, hl with | [_, _], _ => rfl) fun cdv f A outer s H vs Q E hr h => ⟨_, (pss_cons (ps_set (i := 2) sc_page_jump.nd rfl (Or.inl rfl) (pe_m0 m_fetch T.cl hr (pv 0)))
      (pss_cons (ps_set (i := 3) sc_page_jump.nd rfl (Or.inl rfl) (pe_op op_or (pe_op op_or (pe_op op_and (pe_fld (pv 0) rfl) pe_int) (pe_op op_shl (pe_op op_shr (pv 1) pe_int) pe_int)) (pv 2)))
      (pss_cons (ps_if (pt_cmpR op_gt (pe_op op_and (pv 1) pe_int) pe_int (nomark _)) (pss_one (ps_expr (pe_m0 m_push_pc T.cl hr (pv 0)))) pss_nil)
      (pss_one (ps_fld (pv 0) (pv 3) rfl))))), ?_⟩
  · obtain ⟨L, m, rest, v, m', rfl, hC, ⟨op, rfl, _⟩, q⟩ := h
    rfl
  · obtain ⟨L, m, rest, v, m', rfl, hC, ⟨op, rfl, ho, rfl, rfl⟩, q⟩ := h
    unfold Cm.pageJump at q
    have hg := goal_lt m ho
    refine ⟨_, rfl, L.c, L.dx, _, rfl, hC.obj, nf_fetch.lk _ _, L, _, _, _, _, rfl, hC, ⟨rfl, rfl, rfl⟩, fun H1 hC1 e1 => ⟨_, rfl, L.c, C, L.dx, _, _, rfl, hC1.obj, T.cl, T.nP, lk_pc _ _, _, _, rfl, rfl, _, rfl, _, _, rfl, rfl, (by show (0 : Int) ≤ 5; decide), _, _, rfl, rfl, ⟨by decide, by decide, ?_⟩, _, _, rfl, rfl, _, rfl, _, _, rfl, rfl, ?_⟩⟩
    · rw [shr_of op 5 (z := 5) rfl]
      omega
    dsimp only
    have eg : Builtin.bitOr (Builtin.bitOr (Builtin.bitAnd ((Cm.nx m).pc : Int) 63488) ((op : Int) / 2 ^ (5 : Int).toNat * 2 ^ (8 : Int).toNat)) (Cm.fv m : Int) = (Cm.pageGoal m op : Int) := by
      rw [shr_of op 5 (z := 5) rfl, shl_of _ 8 (z := 8) rfl, bAndL _ 63488 63488 rfl, bOr, bOr]
      rfl
    rw [eg]
    have ei : (0 : Int) < Builtin.bitAnd (op : Int) 16 ↔ 0 < op &&& 16 := by
      rw [bAndL _ 16 16 rfl]
      omega
    refine ⟨_, rfl, _, _, rfl, rfl, _, _, rfl, rfl, _, rfl, iteD (fun e => ?_) fun e => ?_⟩
    · rw [if_pos (ei.mp e)] at q
      refine ⟨_, rfl, L.c, L.dx, _, rfl, hC1.obj, nf_push_pc.lk _ _, L, _, _, _, _, rfl, hC1, ⟨rfl, rfl, rfl⟩, fun H2 hC2 e2 => ⟨_, rfl, _, rfl, L.c, C, L.dx, _, rfl, hC2.obj, T.cl, T.nP, (by show 5 < 1000; decide), ?_⟩⟩
      exact q _ (hC2.putPc (by rw [Nat.mod_eq_of_lt hg])) ((e1.trans e2).trans Ext.upd_c)
    · rw [if_neg (fun z => e (ei.mpr z))] at q
      refine ⟨_, rfl, _, rfl, L.c, C, L.dx, _, rfl, hC1.obj, T.cl, T.nP, (by show 5 < 1000; decide), ?_⟩
      exact q _ (hC1.putPc (by rw [Nat.mod_eq_of_lt hg])) (e1.trans Ext.upd_c)

abbrev s_bit_jump : Stmt := top 32
theorem sc_bit_jump : FnScope ["chip", "row", "bit", "value"] ["chip", "row"] (defScope s_bit_jump) := ⟨rfl, rfl, rfl, by decide +kernel, rfl, by decide +kernel, by decide +kernel⟩
def spBitJump (C : Addr) : Sp := spM C fun rest _ m v m' => ∃ row : Nat, rest = [.int (row : Int)] ∧ v = .non ∧ m' = Cm.bitJump m row
theorem andTest {c : Bool} (d : Bool) {A B U : Prop} (hU : (if d = true then A else B) → U) (hA : c = true → d = true → A) (hB : (c && d) = false → B) : if c = true then U else (if false = true then A else B) := by
  cases c with
  | false => exact iteF (iteF (hB rfl))
  | true =>
    refine iteT (hU ?_)
    cases d with
    | true => exact iteT (hA rfl rfl)
    | false => exact iteF (hB rfl)
theorem eq_flag (b : Bool) (row : Nat) : decide (V.bl (decide (V.int ((b.toNat : Nat) : Int) = V.int 1)) = V.bl (!decide (V.int (row : Int) = V.int 3))) = (b == (row != 3)) := by
  rw [flag_is, ne_of_int 3 (z := 3) rfl]
  cases b <;> cases (row != 3) <;> rfl
theorem ok_bit_jump (h : GAt K mg "bit_jump" s_bit_jump) (T : Txt K C) (m_fetch : MOk P w K mg base C "fetch" 1 ["self"] (spFetch C)) (m_get_bit : MOk P w K mg base C "get_bit" 2 ["self", "bit"] (spGetBit C)) (m_put_bit : MOk P w K mg base C "put_bit" 2 ["self", "bit", "value"] (spPutBit C)) (m_jump_if : MOk P w K mg base C "jump_if" 2 ["self", "holds"] (spJumpIf C)) : GOk P w K mg base "bit_jump" 3 ["chip", "row"] (spBitJump C) := by
  refine h.ok sc_bit_jump (fun vs H Q E h => ?_) (fun _ _ _ _ _ _ us hl => match us, hl with | [_, _], _ => rfl) fun cdv f A outer s H vs Q E hr h => ⟨_, (pss_cons (ps_set (i := 2) sc_bit_jump.nd rfl (Or.inl rfl) (pe_m0 m_fetch T.cl hr (pv 0)))
      (pss_cons (ps_set (i := 3) sc_bit_jump.nd rfl (Or.inl rfl) (pe_m m_get_bit T.cl hr (pv 0) (pa_cons (pv 2) pa_nil)))
      (pss_cons (ps_if (PW.pt (pw_and (pt_cmpR op_eq (pv 1) pe_int (nomark _)) (pw_and1 (pt_cmpR op_eq (pv 3) pe_int (nomark _))))) (pss_one (ps_expr (pe_m m_put_bit T.cl hr (pv 0) (pa_cons (pv 2) (pa_cons pe_int pa_nil))))) pss_nil)
      (pss_one (ps_expr (pe_m m_jump_if T.cl hr (pv 0) (pa_cons (pe_cmpR op_eq (pe_cmpR op_eq (pv 3) pe_int (nomark _)) (pe_cmpR op_ne (pv 1) pe_int (nomark _)) (nomark _)) pa_nil))))))), ?_⟩
  · obtain ⟨L, m, rest, v, m', rfl, hC, ⟨row, rfl, _⟩, q⟩ := h
    rfl
  · obtain ⟨L, m, rest, v, m', rfl, hC, ⟨row, rfl, rfl, rfl⟩, q⟩ := h
    unfold Cm.bitJump at q
    dsimp only at q
    have hb := fv_lt m
    have fin : ∀ (H1 : Hp) (t : Ql29.St), ChipAt C L H1 t → Ext L H H1 → (if row = 1 ∧ Ql29.bit (Cm.nx m) (Cm.fv m) = true then Ql29.putBit (Cm.nx m) (Cm.fv m) false else Cm.nx m) = t →
        tDrop (tMeth C "jump_if" (spJumpIf C) [] E0 (tVar 0) (tCons (tOp rEq (tOp rEq (tVar 3) (tC (.int 1))) (tOp rNe (tVar 1) (tC (.int 3)))) tNil)) { nx := fun _ H' => Q .non H', rt := Q } [some (.ref L.c), some (.int (row : Int)), some (.int (Cm.fv m : Int)), some (.int ((Ql29.bit (Cm.nx m) (Cm.fv m)).toNat : Int))] H1 := by
      intro H1 t hC1 e1 hd
      refine ⟨_, rfl, L.c, L.dx, _, rfl, hC1.obj, nf_jump_if.lk _ _, _, rfl, rfl, _, rfl, rfl, rfl, L, _, _, _, _, rfl, hC1, ⟨Ql29.bit (Cm.nx m) (Cm.fv m) == (row != 3), by rw [eq_flag]; rfl, rfl, rfl⟩, fun H2 hC2 e2 => ?_⟩
      rw [hd] at q
      exact q H2 hC2 (e1.trans e2)
    refine ⟨_, rfl, L.c, L.dx, _, rfl, hC.obj, nf_fetch.lk _ _, L, _, _, _, _, rfl, hC, ⟨rfl, rfl, rfl⟩, fun H1 hC1 e1 => ⟨_, rfl, L.c, L.dx, _, rfl, hC1.obj, nf_get_bit.lk _ _, _, rfl, L, _, _, _, _, rfl, hC1, ⟨Cm.fv m, rfl, hb, rfl, rfl⟩, fun H2 hC2 e2 => ?_⟩⟩
    refine ⟨_, rfl, rfl, _, rfl, andTest (Ql29.bit (Cm.nx m) (Cm.fv m)) (fun hU => ⟨_, rfl, rfl, _, rfl, ?_⟩) (fun hc hd => ?_) fun hB => ?_⟩
    · rw [flag_is]
      exact hU
    · have h1 : row = 1 := by
        have := of_decide_eq_true hc
        have := V.int.inj this
        omega
      refine ⟨_, rfl, L.c, L.dx, _, rfl, hC2.obj, nf_put_bit.lk _ _, _, rfl, L, _, _, _, _, rfl, hC2, ⟨Cm.fv m, false, rfl, hb, rfl, rfl⟩, fun H3 hC3 e3 => ?_⟩
      exact fin H3 _ hC3 ((e1.trans e2).trans e3) (if_pos ⟨h1, hd⟩)
    · refine fin H2 _ hC2 (e1.trans e2) (if_neg fun z => ?_)
      obtain ⟨z1, z2⟩ := z
      subst z1
      rw [z2] at hB
      cases hB

abbrev s_carry_with_bit : Stmt := top 33
theorem sc_carry_with_bit : FnScope ["chip", "is_or", "turned", "value", "carry"] ["chip", "is_or", "turned"] (defScope s_carry_with_bit) := ⟨rfl, rfl, rfl, by decide +kernel, rfl, by decide +kernel, by decide +kernel⟩
def spCwb (C : Addr) : Sp := spM C fun rest _ m v m' => ∃ o t : Bool, rest = [.bl o, .int (t.toNat : Int)] ∧ v = .non ∧ m' = Cm.cwb m o t
theorem ok_carry_with_bit (h : GAt K mg "carry_with_bit" s_carry_with_bit) (T : Txt K C) (m_get_bit : MOk P w K mg base C "get_bit" 2 ["self", "bit"] (spGetBit C)) (m_fetch : MOk P w K mg base C "fetch" 1 ["self"] (spFetch C)) (m_get_flag : MOk P w K mg base C "get_flag" 1 ["self", "number"] (spGetFlag C)) (i_CARRY : IntG mg "CARRY" 7) (m_put_flag : MOk P w K mg base C "put_flag" 1 ["self", "number", "holds"] (spPutFlag C)) : GOk P w K mg base "carry_with_bit" 3 ["chip", "is_or", "turned"] (spCwb C) := by
  refine h.ok sc_carry_with_bit (fun vs H Q E h => ?_) (fun _ _ _ _ _ _ us hl => match us, hl with | [_, _, _], _ => rfl) fun cdv f A outer s H vs Q E hr h => ⟨_, (pss_cons (ps_set (i := 3) sc_carry_with_bit.nd rfl (Or.inl rfl) (pe_op op_xor (pe_m m_get_bit T.cl hr (pv 0) (pa_cons (pe_m0 m_fetch T.cl hr (pv 0)) pa_nil)) (pv 2)))
      (pss_cons (ps_set (i := 4) sc_carry_with_bit.nd rfl (Or.inl rfl) (pe_m m_get_flag T.cl hr (pv 0) (pa_cons (pe_n i_CARRY) pa_nil)))
      (pss_one (ps_if (pt_val (pv 1)) (pss_one (ps_expr (pe_m m_put_flag T.cl hr (pv 0) (pa_cons (pe_n i_CARRY) (pa_cons (pe_cmpR op_gt (pe_op op_add (pv 4) (pv 3)) pe_int (nomark _)) pa_nil))))) (pss_one (ps_expr (pe_m m_put_flag T.cl hr (pv 0) (pa_cons (pe_n i_CARRY) (pa_cons (pe_cmpR op_eq (pe_op op_add (pv 4) (pv 3)) pe_int (nomark _)) pa_nil))))))))), ?_⟩
  · obtain ⟨L, m, rest, v, m', rfl, hC, ⟨o, t, rfl, _⟩, q⟩ := h
    rfl
  · obtain ⟨L, m, rest, v, m', rfl, hC, ⟨o, t, rfl, rfl, rfl⟩, q⟩ := h
    unfold Cm.cwb at q
    dsimp only at q
    refine ⟨_, rfl, L.c, L.dx, _, rfl, hC.obj, nf_get_bit.lk _ _, _, rfl, L.c, L.dx, _, rfl, hC.obj, nf_fetch.lk _ _, L, _, _, _, _, rfl, hC, ⟨rfl, rfl, rfl⟩, fun H1 hC1 e1 => ⟨L, _, _, _, _, rfl, hC1, ⟨Cm.fv m, rfl, fv_lt m, rfl, rfl⟩, fun H2 hC2 e2 => ?_⟩⟩
    refine ⟨_, rfl, _, _, rfl, rfl, ?_⟩
    have ex : Builtin.bitXor (((Ql29.bit (Cm.nx m) (Cm.fv m)).toNat : Nat) : Int) ((t.toNat : Nat) : Int) = (((Ql29.bit (Cm.nx m) (Cm.fv m) != t).toNat : Nat) : Int) := by
      cases Ql29.bit (Cm.nx m) (Cm.fv m) <;> cases t <;> rfl
    dsimp only
    rw [ex]
    have eC : Ql29.C m = Ql29.psw (Cm.nx m) 7 := rfl
    rw [eC] at q
    generalize (Ql29.bit (Cm.nx m) (Cm.fv m) != t) = b at q ⊢
    refine ⟨_, rfl, L.c, L.dx, _, rfl, hC2.obj, nf_get_flag.lk _ _, L, _, _, _, rfl, hC2, ⟨7, rfl, rfl⟩, _, rfl, _, rfl, ?_⟩
    generalize Ql29.psw (Cm.nx m) 7 = c at q ⊢
    cases o with
    | true =>
      refine iteT ⟨_, rfl, L.c, L.dx, _, rfl, hC2.obj, nf_put_flag.lk _ _, _, rfl, _, rfl, _, _, rfl, rfl, _, _, rfl, rfl, L, _, _, _, _, rfl, hC2, ⟨7, c || b, ?_, by decide, rfl, rfl⟩, fun H3 hC3 e3 => q H3 hC3 ((e1.trans e2).trans e3)⟩
      cases c <;> cases b <;> rfl
    | false =>
      refine iteF ⟨_, rfl, L.c, L.dx, _, rfl, hC2.obj, nf_put_flag.lk _ _, _, rfl, _, rfl, _, _, rfl, rfl, rfl, L, _, _, _, _, rfl, hC2, ⟨7, c && b, ?_, by decide, rfl, rfl⟩, fun H3 hC3 e3 => q H3 hC3 ((e1.trans e2).trans e3)⟩
      cases c <;> cases b <;> rfl

abbrev s_move_outside : Stmt := top 36
theorem sc_move_outside : FnScope ["chip", "row", "number", "place"] ["chip", "row", "number"] (defScope s_move_outside) := ⟨rfl, rfl, rfl, by decide +kernel, rfl, by decide +kernel, by decide +kernel⟩
def spMoveOut (C : Addr) : Sp := spM C fun rest _ m v m' => ∃ row n : Nat, rest = [.int (row : Int), .int (n : Int)] ∧ n < 8 ∧ v = .non ∧ m' = Cm.moveOut m row n
theorem ok_move_outside (h : GAt K mg "move_outside" s_move_outside) (T : Txt K C) (m_get : MOk P w K mg base C "get" 1 ["self", "number"] (spGet C)) (i_P2 : IntG mg "P2" 160) (m_bank_byte : MOk P w K mg base C "bank_byte" 2 ["self", "number"] (spBankB C)) (m_put_a : MOk P w K mg base C "put_a" 1 ["self", "byte"] (spPutA C)) (m_get_a : MOk P w K mg base C "get_a" 1 ["self"] (spGetA C)) : GOk P w K mg base "move_outside" 3 ["chip", "row", "number"] (spMoveOut C) := by
  refine h.ok sc_move_outside (fun vs H Q E h => ?_) (fun _ _ _ _ _ _ us hl => match us, hl with | [_, _, _], _ => rfl) fun cdv f A outer s H vs Q E hr h => ⟨_, (pss_cons (ps_set (i := 3) sc_move_outside.nd rfl (Or.inl rfl) (pe_op op_add (pe_op op_mul pe_int (pe_m m_get T.cl hr (pv 0) (pa_cons (pe_n i_P2) pa_nil))) (pe_m m_bank_byte T.cl hr (pv 0) (pa_cons (pv 2) pa_nil))))
      (pss_one (ps_if (pt_cmpR op_eq (pv 1) pe_int (nomark _)) (pss_one (ps_expr (pe_m m_put_a T.cl hr (pv 0) (pa_cons (pe_dget2 (hu_of hr) (pe_fld (pv 0) rfl) (pv 3) pe_int ⟨rfl, rfl, rfl, rfl⟩) pa_nil)))) (pss_one (ps_dput (hu_of hr) (pe_fld (pv 0) rfl) (pv 3) (pe_m0 m_get_a T.cl hr (pv 0)) rfl))))), ?_⟩
  · obtain ⟨L, m, rest, v, m', rfl, hC, ⟨row, n, rfl, _⟩, q⟩ := h
    rfl
  · obtain ⟨L, m, rest, v, m', rfl, hC, ⟨row, n, rfl, hn, rfl, rfl⟩, q⟩ := h
    unfold Cm.moveOut at q
    dsimp only at q
    have h1 : Ql29.sfr m 160 < 256 := Cm.sfr_lt m 160
    have h2 : Ql29.r m n < 256 := Cm.ins_lt m _
    refine ⟨_, rfl, L.c, L.dx, _, rfl, hC.obj, nf_get.lk _ _, L, _, _, _, rfl, hC, ⟨160, rfl, by decide, by decide, rfl⟩, _, _, rfl, rfl, .inl ⟨by decide, by decide⟩, _, rfl, L.c, L.dx, _, rfl, hC.obj, nf_bank_byte.lk _ _, _, rfl, L, _, _, _, rfl, hC, ⟨_, n, rfl, rfl, hn, rfl⟩, _, _, rfl, rfl, ?_⟩
    have ep : ((256 : Int) * (Ql29.sfr m 160 : Int) + (Ql29.r m n : Int)) = ((256 * Ql29.sfr m 160 + Ql29.r m n : Nat) : Int) := by omega
    dsimp only
    rw [ep]
    have hp : 256 * Ql29.sfr m 160 + Ql29.r m n < 65536 := by omega
    have eP : 256 * Ql29.sfr m Ql29.P2 + Ql29.r m n = 256 * Ql29.sfr m 160 + Ql29.r m n := rfl
    rw [eP] at q
    generalize 256 * Ql29.sfr m 160 + Ql29.r m n = p at q hp ⊢
    obtain ⟨kvs, hk, d⟩ := hC.ext
    refine s_eq (n := row) 14 rfl rfl (fun e => ?_) fun e => ?_
    · rw [if_pos e] at q
      refine ⟨_, rfl, L.c, L.dx, _, rfl, hC.obj, nf_put_a.lk _ _, _, rfl, L.c, C, L.dx, _, _, rfl, hC.obj, T.cl, T.nE, lk_ext _ _, L.ex, rfl, .inl ⟨_, .inl hk⟩, _, rfl, _, DGet.k (k := Sum.inl (p : Int)) hk, ?_⟩
      rw [d.val _ hp]
      exact ⟨L, _, _, _, _, rfl, hC, ⟨_, at_ m.ext p, rfl, modC _, rfl, rfl⟩, q⟩
    · rw [if_neg e] at q
      refine ⟨_, rfl, L.c, L.dx, _, rfl, hC.obj, nf_get_a.lk _ _, L, _, _, _, rfl, hC, ⟨rfl, rfl⟩, _, rfl, L.c, C, L.dx, _, _, rfl, hC.obj, T.cl, T.nE, lk_ext _ _, _, rfl, L.ex, _, rfl, DPut.k (k := Sum.inl (p : Int)) hk d.len, ?_⟩
      refine q _ (hC.putX hk hp ?_) Ext.upd_x
      rw [Nat.mod_eq_of_lt (Cm.a_lt m)]

abbrev s_turn : Stmt := top 37
theorem sc_turn : FnScope ["chip", "row", "byte", "carry"] ["chip", "row"] (defScope s_turn) := ⟨rfl, rfl, rfl, by decide +kernel, rfl, by decide +kernel, by decide +kernel⟩
def spTurn (C : Addr) : Sp := spM C fun rest _ m v m' => ∃ row : Nat, rest = [.int (row : Int)] ∧ v = .non ∧ m' = Cm.turnA m row
theorem int_is {z : Int} (x y : Nat) {w : Int} (e : z = (x : Int)) (ew : w = (y : Int)) : decide (V.int z = V.int w) = (x == y) := by
  subst e ew
  by_cases h : x = y
  · subst h
    simp
  · have n : ¬ V.int (x : Int) = V.int (y : Int) := fun q => h (by have := V.int.inj q; omega)
    rw [decide_eq_false n]
    simp [h]
theorem ok_turn (h : GAt K mg "turn" s_turn) (T : Txt K C) (m_get_a : MOk P w K mg base C "get_a" 1 ["self"] (spGetA C)) (m_get_flag : MOk P w K mg base C "get_flag" 1 ["self", "number"] (spGetFlag C)) (i_CARRY : IntG mg "CARRY" 7) (m_put_a : MOk P w K mg base C "put_a" 1 ["self", "byte"] (spPutA C)) (m_put_flag : MOk P w K mg base C "put_flag" 1 ["self", "number", "holds"] (spPutFlag C)) : GOk P w K mg base "turn" 2 ["chip", "row"] (spTurn C) := by
  refine h.ok sc_turn (fun vs H Q E h => ?_) (fun _ _ _ _ _ _ us hl => match us, hl with | [_, _], _ => rfl) fun cdv f A outer s H vs Q E hr h => ⟨_, (pss_cons (ps_set (i := 2) sc_turn.nd rfl (Or.inl rfl) (pe_m0 m_get_a T.cl hr (pv 0)))
      (pss_cons (ps_set (i := 3) sc_turn.nd rfl (Or.inl rfl) (pe_m m_get_flag T.cl hr (pv 0) (pa_cons (pe_n i_CARRY) pa_nil)))
      (pss_one (ps_if (pt_cmpR op_eq (pv 1) pe_int (nomark _)) (pss_one (ps_expr (pe_m m_put_a T.cl hr (pv 0) (pa_cons (pe_op op_or (pe_op op_shr (pv 2) pe_int) (pe_op op_shl (pv 2) pe_int)) pa_nil)))) (pss_one (ps_if (pt_cmpR op_eq (pv 1) pe_int (nomark _)) (pss_cons (ps_expr (pe_m m_put_a T.cl hr (pv 0) (pa_cons (pe_op op_or (pe_op op_shr (pv 2) pe_int) (pe_op op_shl (pv 3) pe_int)) pa_nil)))
      (pss_one (ps_expr (pe_m m_put_flag T.cl hr (pv 0) (pa_cons (pe_n i_CARRY) (pa_cons (pe_cmpR op_eq (pe_op op_and (pv 2) pe_int) pe_int (nomark _)) pa_nil)))))) (pss_one (ps_if (pt_cmpR op_eq (pv 1) pe_int (nomark _)) (pss_one (ps_expr (pe_m m_put_a T.cl hr (pv 0) (pa_cons (pe_op op_or (pe_op op_shl (pv 2) pe_int) (pe_op op_shr (pv 2) pe_int)) pa_nil)))) (pss_cons (ps_expr (pe_m m_put_a T.cl hr (pv 0) (pa_cons (pe_op op_or (pe_op op_shl (pv 2) pe_int) (pv 3)) pa_nil)))
      (pss_one (ps_expr (pe_m m_put_flag T.cl hr (pv 0) (pa_cons (pe_n i_CARRY) (pa_cons (pe_cmpR op_eq (pe_op op_shr (pv 2) pe_int) pe_int (nomark _)) pa_nil)))))))))))))), ?_⟩
  · obtain ⟨L, m, rest, v, m', rfl, hC, ⟨row, rfl, _⟩, q⟩ := h
    rfl
  · obtain ⟨L, m, rest, v, m', rfl, hC, ⟨row, rfl, rfl, rfl⟩, q⟩ := h
    unfold Cm.turnA at q
    have hx := Cm.a_lt m
    have hc := bool_le (Ql29.psw m 7)
    have s1 : (Ql29.a m : Int) / 2 ^ (1 : Int).toNat = ((Ql29.a m / 2 : Nat) : Int) := shr_of _ 1 (z := 1) rfl
    have s7 : (Ql29.a m : Int) / 2 ^ (7 : Int).toNat = ((Ql29.a m / 128 : Nat) : Int) := shr_of _ 7 (z := 7) rfl
    have l1 : (Ql29.a m : Int) * 2 ^ (1 : Int).toNat = ((Ql29.a m * 2 : Nat) : Int) := shl_of _ 1 (z := 1) rfl
    have l7 : (Ql29.a m : Int) * 2 ^ (7 : Int).toNat = ((Ql29.a m * 128 : Nat) : Int) := shl_of _ 7 (z := 7) rfl
    have c7 : (((Ql29.psw m 7).toNat : Nat) : Int) * 2 ^ (7 : Int).toNat = (((Ql29.psw m 7).toNat * 128 : Nat) : Int) := shl_of _ 7 (z := 7) rfl
    refine ⟨_, rfl, L.c, L.dx, _, rfl, hC.obj, nf_get_a.lk _ _, L, _, _, _, rfl, hC, ⟨rfl, rfl⟩, _, rfl, L.c, L.dx, _, rfl, hC.obj, nf_get_flag.lk _ _, L, _, _, _, rfl, hC, ⟨7, rfl, rfl⟩, s_eq (n := row) 0 rfl rfl (fun e => ?_) fun n0 => s_eq (n := row) 1 rfl rfl (fun e => ?_) fun n1 => s_eq (n := row) 2 rfl rfl (fun e => ?_) fun n2 => ?_⟩
    · rw [if_pos e] at q
      refine ⟨_, rfl, L.c, L.dx, _, rfl, hC.obj, nf_put_a.lk _ _, _, rfl, _, _, rfl, rfl, (by show (0 : Int) ≤ 1; decide), _, rfl, _, _, rfl, rfl, ⟨by decide, by decide, by omega⟩, _, _, rfl, rfl, L, m, _, _, _, rfl, hC, ⟨_, (Ql29.a m / 2) ||| (Ql29.a m * 128), rfl, ?_, rfl, rfl⟩, q⟩
      rw [s1, l7, bOr]
      exact modC _
    · rw [if_neg n0, if_pos e] at q
      refine ⟨_, rfl, L.c, L.dx, _, rfl, hC.obj, nf_put_a.lk _ _, _, rfl, _, _, rfl, rfl, (by show (0 : Int) ≤ 1; decide), _, rfl, _, _, rfl, rfl, ⟨by decide, by decide, by omega⟩, _, _, rfl, rfl, L, m, _, _, _, rfl, hC, ⟨_, (Ql29.a m / 2) ||| ((Ql29.psw m 7).toNat * 128), rfl, ?_, rfl, rfl⟩, fun H1 hC1 e1 => ?_⟩
      · rw [s1, c7, bOr]
        exact modC _
      · refine ⟨_, rfl, L.c, L.dx, _, rfl, hC1.obj, nf_put_flag.lk _ _, _, rfl, _, _, rfl, rfl, rfl, L, _, _, _, _, rfl, hC1, ⟨7, Ql29.a m % 2 == 1, ?_, by decide, rfl, rfl⟩, fun H2 hC2 e2 => q H2 hC2 (e1.trans e2)⟩
        rw [int_is (Ql29.a m % 2) 1 (bAnd1 _) (w := 1) rfl]
        rfl
    · rw [if_neg n0, if_neg n1, if_pos e] at q
      refine ⟨_, rfl, L.c, L.dx, _, rfl, hC.obj, nf_put_a.lk _ _, _, rfl, _, _, rfl, rfl, ⟨by decide, by decide, by omega⟩, _, rfl, _, _, rfl, rfl, (by show (0 : Int) ≤ 7; decide), _, _, rfl, rfl, L, m, _, _, _, rfl, hC, ⟨_, (Ql29.a m * 2) ||| (Ql29.a m / 128), rfl, ?_, rfl, rfl⟩, q⟩
      rw [s7, l1, bOr]
      exact modC _
    · rw [if_neg n0, if_neg n1, if_neg n2] at q
      refine ⟨_, rfl, L.c, L.dx, _, rfl, hC.obj, nf_put_a.lk _ _, _, rfl, _, _, rfl, rfl, ⟨by decide, by decide, by omega⟩, _, rfl, _, _, rfl, rfl, L, m, _, _, _, rfl, hC, ⟨_, (Ql29.a m * 2) ||| (Ql29.psw m 7).toNat, rfl, ?_, rfl, rfl⟩, fun H1 hC1 e1 => ?_⟩
      · rw [l1, bOr]
        exact modC _
      · refine ⟨_, rfl, L.c, L.dx, _, rfl, hC1.obj, nf_put_flag.lk _ _, _, rfl, _, _, rfl, rfl, (by show (0 : Int) ≤ 7; decide), rfl, L, _, _, _, _, rfl, hC1, ⟨7, Ql29.a m / 128 == 1, ?_, by decide, rfl, rfl⟩, fun H2 hC2 e2 => q H2 hC2 (e1.trans e2)⟩
        rw [int_is (Ql29.a m / 128) 1 s7 (w := 1) rfl]
        rfl

abbrev s_column_0 : Stmt := top 31
theorem sc_column_0 : FnScope ["chip", "row", "high", "place"] ["chip", "row"] (defScope s_column_0) := ⟨rfl, rfl, rfl, by decide +kernel, rfl, by decide +kernel, by decide +kernel⟩
def spCol (C : Addr) (g : Ql29.St → Nat → Ql29.St) : Sp := spM C fun rest _ m v m' => ∃ row : Nat, rest = [.int (row : Int)] ∧ row < 16 ∧ v = .non ∧ m' = g m row
theorem mem3 {n a b c : Nat} (h : n ∈ [a, b, c]) : n = a ∨ n = b ∨ n = c := by simpa using h
theorem mem2 {n a b : Nat} (h : n ∈ [a, b]) : n = a ∨ n = b := by simpa using h
theorem bl_eq (b c : Bool) : decide (V.bl b = V.bl c) = (b == c) := by cases b <;> cases c <;> rfl
theorem ptr_lt (m : Ql29.St) : Ql29.dptr m < 65536 := by
  have h1 : Ql29.sfr m 131 < 256 := Cm.sfr_lt m 131
  have h2 : Ql29.sfr m 130 < 256 := Cm.sfr_lt m 130
  show 256 * Ql29.sfr m 131 + Ql29.sfr m 130 < 65536
  omega
theorem ok_column_0 (h : GAt K mg "column_0" s_column_0) (T : Txt K C) (g_bit_jump : GOk P w K mg base "bit_jump" 3 ["chip", "row"] (spBitJump C)) (m_jump_if : MOk P w K mg base C "jump_if" 2 ["self", "holds"] (spJumpIf C)) (m_get_flag : MOk P w K mg base C "get_flag" 1 ["self", "number"] (spGetFlag C)) (i_CARRY : IntG mg "CARRY" 7) (m_get_a : MOk P w K mg base C "get_a" 1 ["self"] (spGetA C)) (m_jump_by : MOk P w K mg base C "jump_by" 1 ["self", "distance"] (spJumpBy C)) (m_fetch : MOk P w K mg base C "fetch" 1 ["self"] (spFetch C)) (m_put : MOk P w K mg base C "put" 1 ["self", "number", "byte"] (spPut C)) (i_DPL : IntG mg "DPL" 130) (i_DPH : IntG mg "DPH" 131) (g_carry_with_bit : GOk P w K mg base "carry_with_bit" 3 ["chip", "is_or", "turned"] (spCwb C)) (m_push : MOk P w K mg base C "push" 2 ["self", "byte"] (spPush C)) (m_get_place : MOk P w K mg base C "get_place" 1 ["self", "place"] (spGetPl C)) (m_put_place : MOk P w K mg base C "put_place" 1 ["self", "place", "byte"] (spPutPl C)) (m_pop : MOk P w K mg base C "pop" 2 ["self"] (spPop C)) (m_put_a : MOk P w K mg base C "put_a" 1 ["self", "byte"] (spPutA C)) (m_pointer : MOk P w K mg base C "pointer" 2 ["self"] (spPtr C)) : GOk P w K mg base "column_0" 4 ["chip", "row"] (spCol C Cm.col0) := by
  refine h.ok sc_column_0 (fun vs H Q E h => ?_) (fun _ _ _ _ _ _ us hl => match us, hl with | [_, _], _ => rfl) fun cdv f A outer s H vs Q E hr h => ⟨_, (pss_one (ps_if (pt_inN (pv 1) rfl) (pss_one (ps_expr (pe_g g_bit_jump hr (pa_cons (pv 0) (pa_cons (pv 1) pa_nil))))) (pss_one (ps_if (pt_inN (pv 1) rfl) (pss_one (ps_expr (pe_m m_jump_if T.cl hr (pv 0) (pa_cons (pe_cmpR op_eq (pe_m m_get_flag T.cl hr (pv 0) (pa_cons (pe_n i_CARRY) pa_nil)) (pe_op op_sub pe_int (pv 1)) (nomark _)) pa_nil)))) (pss_one (ps_if (pt_inN (pv 1) rfl) (pss_one (ps_expr (pe_m m_jump_if T.cl hr (pv 0) (pa_cons (pe_cmpR op_eq (pe_cmpR op_eq (pe_m0 m_get_a T.cl hr (pv 0)) pe_int (nomark _)) (pe_cmpR op_eq (pv 1) pe_int (nomark _)) (nomark _)) pa_nil)))) (pss_one (ps_if (pt_cmpR op_eq (pv 1) pe_int (nomark _)) (pss_one (ps_expr (pe_m m_jump_by T.cl hr (pv 0) (pa_cons (pe_m0 m_fetch T.cl hr (pv 0)) pa_nil)))) (pss_one (ps_if (pt_cmpR op_eq (pv 1) pe_int (nomark _)) (pss_cons (ps_set (i := 2) sc_column_0.nd rfl (Or.inl rfl) (pe_m0 m_fetch T.cl hr (pv 0)))
      (pss_cons (ps_expr (pe_m m_put T.cl hr (pv 0) (pa_cons (pe_n i_DPL) (pa_cons (pe_m0 m_fetch T.cl hr (pv 0)) pa_nil))))
      (pss_one (ps_expr (pe_m m_put T.cl hr (pv 0) (pa_cons (pe_n i_DPH) (pa_cons (pv 2) pa_nil))))))) (pss_one (ps_if (pt_inN (pv 1) rfl) (pss_one (ps_expr (pe_g g_carry_with_bit hr (pa_cons (pv 0) (pa_cons (pe_cmpR op_eq (pv 1) pe_int (nomark _)) (pa_cons pe_int pa_nil)))))) (pss_one (ps_if (pt_cmpR op_eq (pv 1) pe_int (nomark _)) (pss_one (ps_expr (pe_m m_push T.cl hr (pv 0) (pa_cons (pe_m m_get_place T.cl hr (pv 0) (pa_cons (pe_tup (pa_cons pe_bl (pa_cons (pe_m0 m_fetch T.cl hr (pv 0)) pa_nil))) pa_nil)) pa_nil)))) (pss_one (ps_if (pt_cmpR op_eq (pv 1) pe_int (nomark _)) (pss_cons (ps_set (i := 3) sc_column_0.nd rfl (Or.inl rfl) (pe_tup (pa_cons pe_bl (pa_cons (pe_m0 m_fetch T.cl hr (pv 0)) pa_nil))))
      (pss_one (ps_expr (pe_m m_put_place T.cl hr (pv 0) (pa_cons (pv 3) (pa_cons (pe_m0 m_pop T.cl hr (pv 0)) pa_nil)))))) (pss_one (ps_if (pt_cmpR op_eq (pv 1) pe_int (nomark _)) (pss_one (ps_expr (pe_m m_put_a T.cl hr (pv 0) (pa_cons (pe_dget2 (hu_of hr) (pe_fld (pv 0) rfl) (pe_m0 m_pointer T.cl hr (pv 0)) pe_int ⟨rfl, rfl, rfl, rfl⟩) pa_nil)))) (pss_one (ps_if (pt_cmpR op_eq (pv 1) pe_int (nomark _)) (pss_one (ps_dput (hu_of hr) (pe_fld (pv 0) rfl) (pe_m0 m_pointer T.cl hr (pv 0)) (pe_m0 m_get_a T.cl hr (pv 0)) rfl)) pss_nil)))))))))))))))))))), ?_⟩
  · obtain ⟨L, m, rest, v, m', rfl, hC, ⟨row, rfl, _⟩, q⟩ := h
    rfl
  · obtain ⟨L, m, rest, v, m', rfl, hC, ⟨row, rfl, h16, rfl, rfl⟩, q⟩ := h
    have hq : ∀ X, Cm.col0 m row = X → ∀ H', ChipAt C L H' X → Ext L H H' → Q .non H' := fun X e H' hc x => q H' (by rw [e]; exact hc) x
    refine s_in (n := row) (ns := [1, 2, 3]) rfl hC (fun e H1 hC1 e1 => ?_) fun n1 H1 hC1 e1 => s_in (n := row) (ns := [4, 5]) rfl hC1 (fun e H2 hC2 e2 => ?_) fun n2 H2 hC2 e2 => s_in (n := row) (ns := [6, 7]) rfl hC2 (fun e H3 hC3 e3 => ?_) fun n3 H3 hC3 e3 =>
      s_eq (n := row) 8 rfl rfl (fun e => ?_) fun n8 => s_eq (n := row) 9 rfl rfl (fun e => ?_) fun n9 => s_in (n := row) (ns := [10, 11]) rfl hC3 (fun e H4 hC4 e4 => ?_) fun n10 H4 hC4 e4 =>
      s_eq (n := row) 12 rfl rfl (fun e => ?_) fun n12 => s_eq (n := row) 13 rfl rfl (fun e => ?_) fun n13 => s_eq (n := row) 14 rfl rfl (fun e => ?_) fun n14 => s_eq (n := row) 15 rfl rfl (fun e => ?_) fun n15 => ?_
    · exact ⟨_, rfl, _, rfl, L, _, _, _, _, rfl, hC1, ⟨row, rfl, rfl, rfl⟩, fun H5 hC5 e5 => hq _ (by rcases mem3 e with e | e | e <;> subst e <;> rfl) H5 hC5 (e1.trans e5)⟩
    · refine ⟨_, rfl, L.c, L.dx, _, rfl, hC2.obj, nf_jump_if.lk _ _, _, rfl, L.c, L.dx, _, rfl, hC2.obj, nf_get_flag.lk _ _, L, _, _, _, rfl, hC2, ⟨7, rfl, rfl⟩, _, rfl, _, _, rfl, rfl, rfl, L, _, _, _, _, rfl, hC2, ⟨Ql29.C m == (row == 4), ?_, rfl, rfl⟩, fun H5 hC5 e5 => hq _ (by rcases mem2 e with e | e <;> subst e <;> rfl) H5 hC5 ((e1.trans e2).trans e5)⟩
      have eC : Ql29.psw m 7 = Ql29.C m := rfl
      rw [eC]
      rcases mem2 e with e | e <;> subst e <;> cases Ql29.C m <;> rfl
    · refine ⟨_, rfl, L.c, L.dx, _, rfl, hC3.obj, nf_jump_if.lk _ _, _, rfl, L.c, L.dx, _, rfl, hC3.obj, nf_get_a.lk _ _, L, _, _, _, rfl, hC3, ⟨rfl, rfl⟩, rfl, _, rfl, rfl, rfl, L, _, _, _, _, rfl, hC3, ⟨(Ql29.a m == 0) == (row == 6), ?_, rfl, rfl⟩, fun H5 hC5 e5 => hq _ (by rcases mem2 e with e | e <;> subst e <;> rfl) H5 hC5 (((e1.trans e2).trans e3).trans e5)⟩
      rw [int_is (Ql29.a m) 0 rfl (w := 0) rfl, int_is row 6 rfl (w := 6) rfl, bl_eq]
      rfl
    · subst e
      exact ⟨_, rfl, L.c, L.dx, _, rfl, hC3.obj, nf_jump_by.lk _ _, _, rfl, L.c, L.dx, _, rfl, hC3.obj, nf_fetch.lk _ _, L, _, _, _, _, rfl, hC3, ⟨rfl, rfl, rfl⟩, fun H5 hC5 e5 => ⟨L, _, _, _, _, rfl, hC5, ⟨_, rfl, fv_lt m, rfl, rfl⟩, fun H6 hC6 e6 => hq _ rfl H6 hC6 ((((e1.trans e2).trans e3).trans e5).trans e6)⟩⟩
    · subst e
      refine ⟨_, rfl, L.c, L.dx, _, rfl, hC3.obj, nf_fetch.lk _ _, L, _, _, _, _, rfl, hC3, ⟨rfl, rfl, rfl⟩, fun H5 hC5 e5 => ⟨_, rfl, L.c, L.dx, _, rfl, hC5.obj, nf_put.lk _ _, _, rfl, L.c, L.dx, _, rfl, hC5.obj, nf_fetch.lk _ _, L, _, _, _, _, rfl, hC5, ⟨rfl, rfl, rfl⟩, fun H6 hC6 e6 => ⟨L, _, _, _, _, rfl, hC6, ⟨130, _, Cm.fv (Cm.nx m), rfl, by decide, by decide, modC _, rfl, rfl⟩, fun H7 hC7 e7 => ?_⟩⟩⟩
      exact ⟨_, rfl, L.c, L.dx, _, rfl, hC7.obj, nf_put.lk _ _, _, rfl, L, _, _, _, _, rfl, hC7, ⟨131, _, Cm.fv m, rfl, by decide, by decide, modC _, rfl, rfl⟩, fun H8 hC8 e8 => hq _ rfl H8 hC8 ((((((e1.trans e2).trans e3).trans e5).trans e6).trans e7).trans e8)⟩
    · refine ⟨_, rfl, _, rfl, rfl, L, _, _, _, _, rfl, hC4, ⟨row == 10, true, ?_, rfl, rfl⟩, fun H5 hC5 e5 => hq _ (by rcases mem2 e with e | e <;> subst e <;> rfl) H5 hC5 ((((e1.trans e2).trans e3).trans e4).trans e5)⟩
      rw [int_is row 10 rfl (w := 10) rfl]
      rfl
    · subst e
      refine ⟨_, rfl, L.c, L.dx, _, rfl, hC4.obj, nf_push.lk _ _, _, rfl, L.c, L.dx, _, rfl, hC4.obj, nf_get_place.lk _ _, _, rfl, L.c, L.dx, _, rfl, hC4.obj, nf_fetch.lk _ _, L, _, _, _, _, rfl, hC4, ⟨rfl, rfl, rfl⟩, fun H5 hC5 e5 => ⟨by show 2 ≤ sizeLine; decide, fun p hp => ?_⟩⟩
      exact ⟨L, _, _, (true, Cm.fv m), rfl, hC5.new hp, PlAt.new rfl, fv_lt _, L, _, _, _, _, rfl, hC5.new hp, ⟨_, rfl, Cm.dir_lt _ _, rfl, rfl⟩, fun H6 hC6 e6 => hq _ rfl H6 hC6 (((((e1.trans e2).trans e3).trans e4).trans e5).trans ((Ext.new hp).trans e6))⟩
    · subst e
      refine ⟨_, rfl, L.c, L.dx, _, rfl, hC4.obj, nf_fetch.lk _ _, L, _, _, _, _, rfl, hC4, ⟨rfl, rfl, rfl⟩, fun H5 hC5 e5 => ⟨by show 2 ≤ sizeLine; decide, fun p hp => ?_⟩⟩
      have hC6 := hC5.new (o := .tup [.bl true, .int (Cm.fv m : Int)]) hp
      have e6 := e5.trans (Ext.new (L := L) (o := .tup [.bl true, .int (Cm.fv m : Int)]) hp)
      have hpl : PlAt (upd H5 p (.tup [.bl true, .int (Cm.fv m : Int)])) (.ref p) (true, Cm.fv m) := PlAt.new rfl
      exact ⟨_, rfl, L.c, L.dx, _, rfl, hC6.obj, nf_put_place.lk _ _, _, rfl, _, rfl, L.c, L.dx, _, rfl, hC6.obj, nf_pop.lk _ _, L, _, _, _, _, rfl, hC6, ⟨rfl, rfl, rfl⟩, fun H7 hC7 e7 => ⟨L, _, _, _, _, rfl, hC7, ⟨_, _, _, _, rfl, hpl.ext e7 hC6, fv_lt _, modC _, rfl, rfl⟩, fun H8 hC8 e8 => hq _ rfl H8 hC8 ((((((e1.trans e2).trans e3).trans e4).trans e6).trans e7).trans e8)⟩⟩
    · subst e
      obtain ⟨kvs, hk, d⟩ := hC4.ext
      refine ⟨_, rfl, L.c, L.dx, _, rfl, hC4.obj, nf_put_a.lk _ _, _, rfl, L.c, C, L.dx, _, _, rfl, hC4.obj, T.cl, T.nE, lk_ext _ _, L.ex, rfl, .inl ⟨_, .inl hk⟩, _, rfl, L.c, L.dx, _, rfl, hC4.obj, nf_pointer.lk _ _, L, _, _, _, rfl, hC4, ⟨rfl, rfl⟩, _, DGet.k (k := Sum.inl (Ql29.dptr m : Int)) hk, ?_⟩
      rw [d.val _ (ptr_lt m)]
      exact ⟨L, _, _, _, _, rfl, hC4, ⟨_, at_ m.ext (Ql29.dptr m), rfl, modC _, rfl, rfl⟩, fun H5 hC5 e5 => hq _ rfl H5 hC5 ((((e1.trans e2).trans e3).trans e4).trans e5)⟩
    · subst e
      obtain ⟨kvs, hk, d⟩ := hC4.ext
      refine ⟨_, rfl, L.c, L.dx, _, rfl, hC4.obj, nf_get_a.lk _ _, L, _, _, _, rfl, hC4, ⟨rfl, rfl⟩, _, rfl, L.c, C, L.dx, _, _, rfl, hC4.obj, T.cl, T.nE, lk_ext _ _, _, rfl, L.c, L.dx, _, rfl, hC4.obj, nf_pointer.lk _ _, L, _, _, _, rfl, hC4, ⟨rfl, rfl⟩, L.ex, _, rfl, DPut.k (k := Sum.inl (Ql29.dptr m : Int)) hk d.len, ?_⟩
      refine hq _ rfl _ (hC4.putX hk (ptr_lt m) ?_) ((((e1.trans e2).trans e3).trans e4).trans Ext.upd_x)
      rw [Nat.mod_eq_of_lt (Cm.a_lt m)]
    · have h0 : row = 0 := by
        simp at n1 n2 n3 n10
        omega
      subst h0
      exact hq _ rfl H4 hC4 (((e1.trans e2).trans e3).trans e4)

abbrev s_column_2 : Stmt := top 34
theorem sc_column_2 : FnScope ["chip", "row", "high", "goal", "place", "bit"] ["chip", "row"] (defScope s_column_2) := ⟨rfl, rfl, rfl, by decide +kernel, rfl, by decide +kernel, by decide +kernel⟩
theorem ok_column_2 (h : GAt K mg "column_2" s_column_2) (T : Txt K C) (m_fetch : MOk P w K mg base C "fetch" 1 ["self"] (spFetch C)) (m_push_pc : MOk P w K mg base C "push_pc" 3 ["self"] (spPushPc C)) (m_pop_pc : MOk P w K mg base C "pop_pc" 3 ["self"] (spPopPc C)) (m_put_place : MOk P w K mg base C "put_place" 1 ["self", "place", "byte"] (spPutPl C)) (g_joined : GOk P w K mg base "joined" 1 ["row", "first", "second"] (spJoined)) (m_get_place : MOk P w K mg base C "get_place" 1 ["self", "place"] (spGetPl C)) (m_get_a : MOk P w K mg base C "get_a" 1 ["self"] (spGetA C)) (g_carry_with_bit : GOk P w K mg base "carry_with_bit" 3 ["chip", "is_or", "turned"] (spCwb C)) (m_put_bit : MOk P w K mg base C "put_bit" 2 ["self", "bit", "value"] (spPutBit C)) (m_get_flag : MOk P w K mg base C "get_flag" 1 ["self", "number"] (spGetFlag C)) (i_CARRY : IntG mg "CARRY" 7) (m_put_flag : MOk P w K mg base C "put_flag" 1 ["self", "number", "holds"] (spPutFlag C)) (m_get_bit : MOk P w K mg base C "get_bit" 2 ["self", "bit"] (spGetBit C)) (g_new_bit : GOk P w K mg base "new_bit" 1 ["row", "value"] (spNewBit)) (g_move_outside : GOk P w K mg base "move_outside" 3 ["chip", "row", "number"] (spMoveOut C)) : GOk P w K mg base "column_2" 4 ["chip", "row"] (spCol C Cm.col2) := by
  refine h.ok sc_column_2 (fun vs H Q E h => ?_) (fun _ _ _ _ _ _ us hl => match us, hl with | [_, _], _ => rfl) fun cdv f A outer s H vs Q E hr h => ⟨_, (pss_one (ps_if (pt_inN (pv 1) rfl) (pss_cons (ps_set (i := 2) sc_column_2.nd rfl (Or.inl rfl) (pe_m0 m_fetch T.cl hr (pv 0)))
      (pss_cons (ps_set (i := 3) sc_column_2.nd rfl (Or.inl rfl) (pe_op op_add (pe_op op_mul pe_int (pv 2)) (pe_m0 m_fetch T.cl hr (pv 0))))
      (pss_cons (ps_if (pt_cmpR op_eq (pv 1) pe_int (nomark _)) (pss_one (ps_expr (pe_m0 m_push_pc T.cl hr (pv 0)))) pss_nil)
      (pss_one (ps_fld (pv 0) (pv 3) rfl))))) (pss_one (ps_if (pt_inN (pv 1) rfl) (pss_one (ps_expr (pe_m0 m_pop_pc T.cl hr (pv 0)))) (pss_one (ps_if (pt_inN (pv 1) rfl) (pss_cons (ps_set (i := 4) sc_column_2.nd rfl (Or.inl rfl) (pe_tup (pa_cons pe_bl (pa_cons (pe_m0 m_fetch T.cl hr (pv 0)) pa_nil))))
      (pss_one (ps_expr (pe_m m_put_place T.cl hr (pv 0) (pa_cons (pv 4) (pa_cons (pe_g g_joined hr (pa_cons (pv 1) (pa_cons (pe_m m_get_place T.cl hr (pv 0) (pa_cons (pv 4) pa_nil)) (pa_cons (pe_m0 m_get_a T.cl hr (pv 0)) pa_nil)))) pa_nil)))))) (pss_one (ps_if (pt_inN (pv 1) rfl) (pss_one (ps_expr (pe_g g_carry_with_bit hr (pa_cons (pv 0) (pa_cons (pe_cmpR op_eq (pv 1) pe_int (nomark _)) (pa_cons pe_int pa_nil)))))) (pss_one (ps_if (pt_cmpR op_eq (pv 1) pe_int (nomark _)) (pss_one (ps_expr (pe_m m_put_bit T.cl hr (pv 0) (pa_cons (pe_m0 m_fetch T.cl hr (pv 0)) (pa_cons (pe_m m_get_flag T.cl hr (pv 0) (pa_cons (pe_n i_CARRY) pa_nil)) pa_nil))))) (pss_one (ps_if (pt_cmpR op_eq (pv 1) pe_int (nomark _)) (pss_one (ps_expr (pe_m m_put_flag T.cl hr (pv 0) (pa_cons (pe_n i_CARRY) (pa_cons (pe_cmpR op_eq (pe_m m_get_bit T.cl hr (pv 0) (pa_cons (pe_m0 m_fetch T.cl hr (pv 0)) pa_nil)) pe_int (nomark _)) pa_nil))))) (pss_one (ps_if (pt_inN (pv 1) rfl) (pss_cons (ps_set (i := 5) sc_column_2.nd rfl (Or.inl rfl) (pe_m0 m_fetch T.cl hr (pv 0)))
      (pss_one (ps_expr (pe_m m_put_bit T.cl hr (pv 0) (pa_cons (pv 5) (pa_cons (pe_g g_new_bit hr (pa_cons (pv 1) (pa_cons (pe_m m_get_bit T.cl hr (pv 0) (pa_cons (pv 5) pa_nil)) pa_nil))) pa_nil)))))) (pss_one (ps_expr (pe_g g_move_outside hr (pa_cons (pv 0) (pa_cons (pv 1) (pa_cons pe_int pa_nil)))))))))))))))))))), ?_⟩
  · obtain ⟨L, m, rest, v, m', rfl, hC, ⟨row, rfl, _⟩, q⟩ := h
    rfl
  · obtain ⟨L, m, rest, v, m', rfl, hC, ⟨row, rfl, h16, rfl, rfl⟩, q⟩ := h
    have hq : ∀ X, Cm.col2 m row = X → ∀ H', ChipAt C L H' X → Ext L H H' → Q .non H' := fun X e H' hc x => q H' (by rw [e]; exact hc) x
    refine s_in (n := row) (ns := [0, 1]) rfl hC (fun e H1 hC1 e1 => ?_) fun n1 H1 hC1 e1 => s_in (n := row) (ns := [2, 3]) rfl hC1 (fun e H2 hC2 e2 => ?_) fun n2 H2 hC2 e2 => s_in (n := row) (ns := [4, 5, 6]) rfl hC2 (fun e H3 hC3 e3 => ?_) fun n3 H3 hC3 e3 => s_in (n := row) (ns := [7, 8]) rfl hC3 (fun e H4 hC4 e4 => ?_) fun n4 H4 hC4 e4 =>
      s_eq (n := row) 9 rfl rfl (fun e => ?_) fun n9 => s_eq (n := row) 10 rfl rfl (fun e => ?_) fun n10 => s_in (n := row) (ns := [11, 12, 13]) rfl hC4 (fun e H5 hC5 e5 => ?_) fun n11 H5 hC5 e5 => ?_
    · have hf := fv_lt m
      have hf2 := fv_lt (Cm.nx m)
      refine ⟨_, rfl, L.c, L.dx, _, rfl, hC1.obj, nf_fetch.lk _ _, L, _, _, _, _, rfl, hC1, ⟨rfl, rfl, rfl⟩, fun H6 hC6 e6 => ⟨_, rfl, _, _, rfl, rfl, .inl ⟨by decide, by decide⟩, _, rfl, L.c, L.dx, _, rfl, hC6.obj, nf_fetch.lk _ _, L, _, _, _, _, rfl, hC6, ⟨rfl, rfl, rfl⟩, fun H7 hC7 e7 => ⟨_, _, rfl, rfl, s_eq (n := row) 1 rfl rfl (fun e1' => ?_) fun n1' => ?_⟩⟩⟩
      · refine ⟨_, rfl, L.c, L.dx, _, rfl, hC7.obj, nf_push_pc.lk _ _, L, _, _, _, _, rfl, hC7, ⟨rfl, rfl, rfl⟩, fun H8 hC8 e8 => ⟨_, rfl, _, rfl, L.c, C, L.dx, _, rfl, hC8.obj, T.cl, T.nP, (by show 5 < 1000; decide), ?_⟩⟩
        refine hq _ (by subst e1'; rfl) _ (hC8.putPc (q := 256 * Cm.fv m + Cm.fv (Cm.nx m)) ?_) ((((e1.trans e6).trans e7).trans e8).trans Ext.upd_c)
        omega
      · refine ⟨_, rfl, _, rfl, L.c, C, L.dx, _, rfl, hC7.obj, T.cl, T.nP, (by show 5 < 1000; decide), ?_⟩
        refine hq _ (by rcases mem2 e with e | e; (subst e; rfl); exact absurd e n1') _ (hC7.putPc (q := 256 * Cm.fv m + Cm.fv (Cm.nx m)) ?_) (((e1.trans e6).trans e7).trans Ext.upd_c)
        omega
    · exact ⟨_, rfl, L.c, L.dx, _, rfl, hC2.obj, nf_pop_pc.lk _ _, L, _, _, _, _, rfl, hC2, ⟨rfl, rfl, rfl⟩, fun H6 hC6 e6 => hq _ (by rcases mem2 e with e | e <;> subst e <;> rfl) H6 hC6 ((e1.trans e2).trans e6)⟩
    · refine ⟨_, rfl, L.c, L.dx, _, rfl, hC3.obj, nf_fetch.lk _ _, L, _, _, _, _, rfl, hC3, ⟨rfl, rfl, rfl⟩, fun H6 hC6 e6 => ⟨by show 2 ≤ sizeLine; decide, fun p hp => ?_⟩⟩
      have hC7 := hC6.new (o := .tup [.bl true, .int (Cm.fv m : Int)]) hp
      have e7 := e6.trans (Ext.new (L := L) (o := .tup [.bl true, .int (Cm.fv m : Int)]) hp)
      have hpl : PlAt (upd H6 p (.tup [.bl true, .int (Cm.fv m : Int)])) (.ref p) (true, Cm.fv m) := PlAt.new rfl
      exact ⟨_, rfl, L.c, L.dx, _, rfl, hC7.obj, nf_put_place.lk _ _, _, rfl, _, rfl, _, rfl, L.c, L.dx, _, rfl, hC7.obj, nf_get_place.lk _ _, _, rfl, L, _, _, _, rfl, hC7, hpl, fv_lt _, _, rfl, L.c, L.dx, _, rfl, hC7.obj, nf_get_a.lk _ _, L, _, _, _, rfl, hC7, ⟨rfl, rfl⟩, row, _, _, rfl, L, _, _, _, _, rfl, hC7, ⟨_, _, _, _, rfl, hpl, fv_lt _, modC _, rfl, rfl⟩, fun H8 hC8 e8 => hq _ (by rcases mem3 e with e | e | e <;> subst e <;> rfl) H8 hC8 ((((e1.trans e2).trans e3).trans e7).trans e8)⟩
    · refine ⟨_, rfl, _, rfl, rfl, L, _, _, _, _, rfl, hC4, ⟨row == 7, false, ?_, rfl, rfl⟩, fun H6 hC6 e6 => hq _ (by rcases mem2 e with e | e <;> subst e <;> rfl) H6 hC6 ((((e1.trans e2).trans e3).trans e4).trans e6)⟩
      rw [int_is row 7 rfl (w := 7) rfl]
      rfl
    · subst e
      exact ⟨_, rfl, L.c, L.dx, _, rfl, hC4.obj, nf_put_bit.lk _ _, _, rfl, L.c, L.dx, _, rfl, hC4.obj, nf_fetch.lk _ _, L, _, _, _, _, rfl, hC4, ⟨rfl, rfl, rfl⟩, fun H6 hC6 e6 => ⟨_, rfl, L.c, L.dx, _, rfl, hC6.obj, nf_get_flag.lk _ _, L, _, _, _, rfl, hC6, ⟨7, rfl, rfl⟩, L, _, _, _, _, rfl, hC6, ⟨_, _, rfl, fv_lt m, rfl, rfl⟩, fun H7 hC7 e7 => hq _ rfl H7 hC7 (((((e1.trans e2).trans e3).trans e4).trans e6).trans e7)⟩⟩
    · subst e
      refine ⟨_, rfl, L.c, L.dx, _, rfl, hC4.obj, nf_put_flag.lk _ _, _, rfl, L.c, L.dx, _, rfl, hC4.obj, nf_get_bit.lk _ _, _, rfl, L.c, L.dx, _, rfl, hC4.obj, nf_fetch.lk _ _, L, _, _, _, _, rfl, hC4, ⟨rfl, rfl, rfl⟩, fun H6 hC6 e6 => ⟨L, _, _, _, _, rfl, hC6, ⟨_, rfl, fv_lt m, rfl, rfl⟩, fun H7 hC7 e7 => ⟨rfl, L, _, _, _, _, rfl, hC7, ⟨7, Ql29.bit (Cm.nx m) (Cm.fv m), ?_, by decide, rfl, rfl⟩, fun H8 hC8 e8 => hq _ rfl H8 hC8 ((((((e1.trans e2).trans e3).trans e4).trans e6).trans e7).trans e8)⟩⟩⟩
      rw [flag_is]
      rfl
    · exact ⟨_, rfl, L.c, L.dx, _, rfl, hC5.obj, nf_fetch.lk _ _, L, _, _, _, _, rfl, hC5, ⟨rfl, rfl, rfl⟩, fun H6 hC6 e6 => ⟨_, rfl, L.c, L.dx, _, rfl, hC6.obj, nf_put_bit.lk _ _, _, rfl, _, rfl, _, rfl, L.c, L.dx, _, rfl, hC6.obj, nf_get_bit.lk _ _, _, rfl, L, _, _, _, _, rfl, hC6, ⟨_, rfl, fv_lt m, rfl, rfl⟩, fun H7 hC7 e7 => ⟨row, Ql29.bit (Cm.nx m) (Cm.fv m), rfl, mem3 e, L, _, _, _, _, rfl, hC7, ⟨_, _, rfl, fv_lt m, rfl, rfl⟩, fun H8 hC8 e8 => hq _ (by rcases mem3 e with e | e | e <;> subst e <;> rfl) H8 hC8 (((((((e1.trans e2).trans e3).trans e4).trans e5).trans e6).trans e7).trans e8)⟩⟩⟩
    · have h0 : row = 14 ∨ row = 15 := by
        simp at n1 n2 n3 n4 n11
        omega
      exact ⟨_, rfl, _, rfl, L, _, _, _, _, rfl, hC5, ⟨row, 0, rfl, by decide, rfl, rfl⟩, fun H6 hC6 e6 => hq _ (by rcases h0 with e | e <;> subst e <;> rfl) H6 hC6 (((((e1.trans e2).trans e3).trans e4).trans e5).trans e6)⟩

abbrev s_column_3 : Stmt := top 38
theorem sc_column_3 : FnScope ["chip", "row", "place", "byte", "pointer"] ["chip", "row"] (defScope s_column_3) := ⟨rfl, rfl, rfl, by decide +kernel, rfl, by decide +kernel, by decide +kernel⟩
theorem ok_column_3 (h : GAt K mg "column_3" s_column_3) (T : Txt K C) (g_turn : GOk P w K mg base "turn" 2 ["chip", "row"] (spTurn C)) (m_fetch : MOk P w K mg base C "fetch" 1 ["self"] (spFetch C)) (m_put_place : MOk P w K mg base C "put_place" 1 ["self", "place", "byte"] (spPutPl C)) (g_joined : GOk P w K mg base "joined" 1 ["row", "first", "second"] (spJoined)) (m_get_place : MOk P w K mg base C "get_place" 1 ["self", "place"] (spGetPl C)) (m_pointer : MOk P w K mg base C "pointer" 2 ["self"] (spPtr C)) (m_get_a : MOk P w K mg base C "get_a" 1 ["self"] (spGetA C)) (m_put_a : MOk P w K mg base C "put_a" 1 ["self", "byte"] (spPutA C)) (m_put : MOk P w K mg base C "put" 1 ["self", "number", "byte"] (spPut C)) (i_DPL : IntG mg "DPL" 130) (i_DPH : IntG mg "DPH" 131) (m_put_flag : MOk P w K mg base C "put_flag" 1 ["self", "number", "holds"] (spPutFlag C)) (i_CARRY : IntG mg "CARRY" 7) (g_new_bit : GOk P w K mg base "new_bit" 1 ["row", "value"] (spNewBit)) (m_get_flag : MOk P w K mg base C "get_flag" 1 ["self", "number"] (spGetFlag C)) (g_move_outside : GOk P w K mg base "move_outside" 3 ["chip", "row", "number"] (spMoveOut C)) : GOk P w K mg base "column_3" 4 ["chip", "row"] (spCol C Cm.col3) := by
  refine h.ok sc_column_3 (fun vs H Q E h => ?_) (fun _ _ _ _ _ _ us hl => match us, hl with | [_, _], _ => rfl) fun cdv f A outer s H vs Q E hr h => ⟨_, (pss_one (ps_if (pt_cmpR op_lt (pv 1) pe_int (nomark _)) (pss_one (ps_expr (pe_g g_turn hr (pa_cons (pv 0) (pa_cons (pv 1) pa_nil))))) (pss_one (ps_if (pt_cmpR op_lt (pv 1) pe_int (nomark _)) (pss_cons (ps_set (i := 2) sc_column_3.nd rfl (Or.inl rfl) (pe_tup (pa_cons pe_bl (pa_cons (pe_m0 m_fetch T.cl hr (pv 0)) pa_nil))))
      (pss_cons (ps_set (i := 3) sc_column_3.nd rfl (Or.inl rfl) (pe_m0 m_fetch T.cl hr (pv 0)))
      (pss_one (ps_expr (pe_m m_put_place T.cl hr (pv 0) (pa_cons (pv 2) (pa_cons (pe_g g_joined hr (pa_cons (pv 1) (pa_cons (pe_m m_get_place T.cl hr (pv 0) (pa_cons (pv 2) pa_nil)) (pa_cons (pv 3) pa_nil)))) pa_nil))))))) (pss_one (ps_if (pt_cmpR op_eq (pv 1) pe_int (nomark _)) (pss_one (ps_fld (pv 0) (pe_op op_and (pe_op op_add (pe_m0 m_pointer T.cl hr (pv 0)) (pe_m0 m_get_a T.cl hr (pv 0))) pe_int) rfl)) (pss_one (ps_if (pt_cmpR op_eq (pv 1) pe_int (nomark _)) (pss_one (ps_expr (pe_m m_put_a T.cl hr (pv 0) (pa_cons (pe_dget2 (hu_of hr) (pe_fld (pv 0) rfl) (pe_op op_and (pe_op op_add (pe_fld (pv 0) rfl) (pe_m0 m_get_a T.cl hr (pv 0))) pe_int) pe_int ⟨rfl, rfl, rfl, rfl⟩) pa_nil)))) (pss_one (ps_if (pt_cmpR op_eq (pv 1) pe_int (nomark _)) (pss_one (ps_expr (pe_m m_put_a T.cl hr (pv 0) (pa_cons (pe_dget2 (hu_of hr) (pe_fld (pv 0) rfl) (pe_op op_and (pe_op op_add (pe_m0 m_pointer T.cl hr (pv 0)) (pe_m0 m_get_a T.cl hr (pv 0))) pe_int) pe_int ⟨rfl, rfl, rfl, rfl⟩) pa_nil)))) (pss_one (ps_if (pt_cmpR op_eq (pv 1) pe_int (nomark _)) (pss_cons (ps_set (i := 4) sc_column_3.nd rfl (Or.inl rfl) (pe_op op_and (pe_op op_add (pe_m0 m_pointer T.cl hr (pv 0)) pe_int) pe_int))
      (pss_cons (ps_expr (pe_m m_put T.cl hr (pv 0) (pa_cons (pe_n i_DPL) (pa_cons (pv 4) pa_nil))))
      (pss_one (ps_expr (pe_m m_put T.cl hr (pv 0) (pa_cons (pe_n i_DPH) (pa_cons (pe_op op_shr (pv 4) pe_int) pa_nil))))))) (pss_one (ps_if (pt_inN (pv 1) rfl) (pss_one (ps_expr (pe_m m_put_flag T.cl hr (pv 0) (pa_cons (pe_n i_CARRY) (pa_cons (pe_cmpR op_eq (pe_g g_new_bit hr (pa_cons (pv 1) (pa_cons (pe_m m_get_flag T.cl hr (pv 0) (pa_cons (pe_n i_CARRY) pa_nil)) pa_nil))) pe_int (nomark _)) pa_nil))))) (pss_one (ps_expr (pe_g g_move_outside hr (pa_cons (pv 0) (pa_cons (pv 1) (pa_cons pe_int pa_nil)))))))))))))))))))), ?_⟩
  · obtain ⟨L, m, rest, v, m', rfl, hC, ⟨row, rfl, _⟩, q⟩ := h
    rfl
  · obtain ⟨L, m, rest, v, m', rfl, hC, ⟨row, rfl, h16, rfl, rfl⟩, q⟩ := h
    have hq : ∀ X, Cm.col3 m row = X → ∀ H', ChipAt C L H' X → Ext L H H' → Q .non H' := fun X e H' hc x => q H' (by rw [e]; exact hc) x
    have hx := Cm.a_lt m
    have hd := ptr_lt m
    refine s_lt (n := row) 4 rfl rfl (fun e => ?_) fun n4 => s_lt (n := row) 7 rfl rfl (fun e => ?_) fun n7 => s_eq (n := row) 7 rfl rfl (fun e => ?_) fun m7 => s_eq (n := row) 8 rfl rfl (fun e => ?_) fun n8 => s_eq (n := row) 9 rfl rfl (fun e => ?_) fun n9 => s_eq (n := row) 10 rfl rfl (fun e => ?_) fun n10 =>
      s_in (n := row) (ns := [11, 12, 13]) rfl hC (fun e H1 hC1 e1 => ?_) fun n11 H1 hC1 e1 => ?_
    · exact ⟨_, rfl, _, rfl, L, _, _, _, _, rfl, hC, ⟨row, rfl, rfl, rfl⟩, fun H1 hC1 e1 => hq _ (if_pos e) H1 hC1 e1⟩
    · refine ⟨_, rfl, L.c, L.dx, _, rfl, hC.obj, nf_fetch.lk _ _, L, _, _, _, _, rfl, hC, ⟨rfl, rfl, rfl⟩, fun H1 hC1 e1 => ⟨by show 2 ≤ sizeLine; decide, fun p hp => ?_⟩⟩
      have hC2 := hC1.new (o := .tup [.bl true, .int (Cm.fv m : Int)]) hp
      have e2 := e1.trans (Ext.new (L := L) (o := .tup [.bl true, .int (Cm.fv m : Int)]) hp)
      have hpl : PlAt (upd H1 p (.tup [.bl true, .int (Cm.fv m : Int)])) (.ref p) (true, Cm.fv m) := PlAt.new rfl
      refine ⟨_, rfl, L.c, L.dx, _, rfl, hC2.obj, nf_fetch.lk _ _, L, _, _, _, _, rfl, hC2, ⟨rfl, rfl, rfl⟩, fun H3 hC3 e3 => ?_⟩
      have hpl3 := hpl.ext e3 hC2
      exact ⟨_, rfl, L.c, L.dx, _, rfl, hC3.obj, nf_put_place.lk _ _, _, rfl, _, rfl, _, rfl, L.c, L.dx, _, rfl, hC3.obj, nf_get_place.lk _ _, _, rfl, L, _, _, _, rfl, hC3, hpl3, fv_lt _, _, rfl, row, _, _, rfl, L, _, _, _, _, rfl, hC3, ⟨_, _, _, _, rfl, hpl3, fv_lt _, modC _, rfl, rfl⟩, fun H4 hC4 e4 => hq _ ((if_neg n4).trans (if_pos e)) H4 hC4 ((e2.trans e3).trans e4)⟩
    · subst e
      refine ⟨_, rfl, L.c, L.dx, _, rfl, hC.obj, nf_pointer.lk _ _, L, _, _, _, rfl, hC, ⟨rfl, rfl⟩, _, rfl, L.c, L.dx, _, rfl, hC.obj, nf_get_a.lk _ _, L, _, _, _, rfl, hC, ⟨rfl, rfl⟩, _, _, rfl, rfl, _, _, rfl, rfl, _, rfl, L.c, C, L.dx, _, rfl, hC.obj, T.cl, T.nP, (by show 5 < 1000; decide), ?_⟩
      refine hq _ rfl _ (hC.putPc (q := Ql29.dptr m + Ql29.a m) ?_) Ext.upd_c
      rw [bAnd65535]
      omega
    · subst e
      obtain ⟨kvs, hk, d⟩ := hC.code
      refine ⟨_, rfl, L.c, L.dx, _, rfl, hC.obj, nf_put_a.lk _ _, _, rfl, L.c, C, L.dx, _, _, rfl, hC.obj, T.cl, T.nC, lk_code _ _, L.cd, rfl, .inl ⟨_, .inl hk⟩, _, rfl, L.c, C, L.dx, _, _, rfl, hC.obj, T.cl, T.nP, lk_pc _ _, _, rfl, L.c, L.dx, _, rfl, hC.obj, nf_get_a.lk _ _, L, _, _, _, rfl, hC, ⟨rfl, rfl⟩, _, _, rfl, rfl, _, _, rfl, rfl, _, DGet.k (k := Sum.inl (Builtin.bitAnd ((m.pc : Int) + (Ql29.a m : Int)) 65535)) hk, ?_⟩
      rw [show Builtin.bitAnd ((m.pc : Int) + (Ql29.a m : Int)) 65535 = (((m.pc + Ql29.a m) % 65536 : Nat) : Int) by rw [bAnd65535]; omega, d.val _ (Nat.mod_lt _ (by decide))]
      exact ⟨L, _, _, _, _, rfl, hC, ⟨_, Ql29.code m (m.pc + Ql29.a m), rfl, modC _, rfl, rfl⟩, fun H1 hC1 e1 => hq _ rfl H1 hC1 e1⟩
    · subst e
      obtain ⟨kvs, hk, d⟩ := hC.code
      refine ⟨_, rfl, L.c, L.dx, _, rfl, hC.obj, nf_put_a.lk _ _, _, rfl, L.c, C, L.dx, _, _, rfl, hC.obj, T.cl, T.nC, lk_code _ _, L.cd, rfl, .inl ⟨_, .inl hk⟩, _, rfl, L.c, L.dx, _, rfl, hC.obj, nf_pointer.lk _ _, L, _, _, _, rfl, hC, ⟨rfl, rfl⟩, _, rfl, L.c, L.dx, _, rfl, hC.obj, nf_get_a.lk _ _, L, _, _, _, rfl, hC, ⟨rfl, rfl⟩, _, _, rfl, rfl, _, _, rfl, rfl, _, DGet.k (k := Sum.inl (Builtin.bitAnd ((Ql29.dptr m : Int) + (Ql29.a m : Int)) 65535)) hk, ?_⟩
      rw [show Builtin.bitAnd ((Ql29.dptr m : Int) + (Ql29.a m : Int)) 65535 = (((Ql29.dptr m + Ql29.a m) % 65536 : Nat) : Int) by rw [bAnd65535]; omega, d.val _ (Nat.mod_lt _ (by decide))]
      exact ⟨L, _, _, _, _, rfl, hC, ⟨_, Ql29.code m (Ql29.dptr m + Ql29.a m), rfl, modC _, rfl, rfl⟩, fun H1 hC1 e1 => hq _ rfl H1 hC1 e1⟩
    · subst e
      refine ⟨_, rfl, L.c, L.dx, _, rfl, hC.obj, nf_pointer.lk _ _, L, _, _, _, rfl, hC, ⟨rfl, rfl⟩, _, _, rfl, rfl, _, _, rfl, rfl, ?_⟩
      dsimp only
      rw [show Builtin.bitAnd ((Ql29.dptr m : Int) + 1) 65535 = (((Ql29.dptr m + 1) % 65536 : Nat) : Int) by rw [bAnd65535]; omega]
      refine ⟨_, rfl, L.c, L.dx, _, rfl, hC.obj, nf_put.lk _ _, _, rfl, L, _, _, _, _, rfl, hC, ⟨130, _, (Ql29.dptr m + 1) % 65536, rfl, by decide, by decide, modC _, rfl, rfl⟩, fun H1 hC1 e1 => ?_⟩
      exact ⟨_, rfl, L.c, L.dx, _, rfl, hC1.obj, nf_put.lk _ _, _, rfl, _, _, rfl, rfl, (by show (0 : Int) ≤ 8; decide), L, _, _, _, _, rfl, hC1, ⟨131, _, (Ql29.dptr m + 1) % 65536 / 256, rfl, by decide, by decide, modC _, rfl, rfl⟩, fun H2 hC2 e2 => hq _ rfl H2 hC2 (e1.trans e2)⟩
    · refine ⟨_, rfl, L.c, L.dx, _, rfl, hC1.obj, nf_put_flag.lk _ _, _, rfl, _, rfl, L.c, L.dx, _, rfl, hC1.obj, nf_get_flag.lk _ _, L, _, _, _, rfl, hC1, ⟨7, rfl, rfl⟩, row, Ql29.psw m 7, rfl, mem3 e, rfl, L, _, _, _, _, rfl, hC1, ⟨7, Cm.newBit row (Ql29.C m), ?_, by decide, rfl, rfl⟩, fun H2 hC2 e2 => hq _ (by rcases mem3 e with e | e | e <;> subst e <;> rfl) H2 hC2 (e1.trans e2)⟩
      rw [flag_is]
      rfl
    · have h0 : row = 14 ∨ row = 15 := by
        simp at n11
        omega
      exact ⟨_, rfl, _, rfl, L, _, _, _, _, rfl, hC1, ⟨row, 1, rfl, by decide, rfl, rfl⟩, fun H2 hC2 e2 => hq _ (by rcases h0 with e | e <;> subst e <;> rfl) H2 hC2 (e1.trans e2)⟩

/-! ### a dict of the module whose keys are written ints -/
def IKeys : List DictEntry → List (Int × Value) → Prop
  | [], [] => True
  | e :: r, kv :: s => (∃ t, e.key = .int kv.1 t) ∧ e.hash = hashInt kv.1 ∧ e.val = kv.2 ∧ IKeys r s
  | _, _ => False
structure ITab (K : PySem.W.Frag) (d : Addr) (kvs : List (Int × Value)) : Prop where
  ex : ∃ es n, K.lookup d = some ⟨.type "dict", none, .dict es n, #[]⟩ ∧ IKeys es.toList kvs
  nd : (kvs.map (·.1)).Nodup
  low : (d == sysModules) = false
theorem isInt_self (i : Int) (t : Tok) : Value.isInt i (.int i t) = true := by simp [Value.isInt]
theorem ik_pairs {P : Program} {w : World} : ∀ {l : List DictEntry} {kvs : List (Int × Value)}, IKeys l kvs → Pairs (PySem.intKind P w) l kvs ∧ ∀ e ∈ l, ∃ k, (PySem.intKind P w).is k e.key = true ∧ e.hash = (PySem.intKind P w).hash k
  | [], [], _ => ⟨.nil, fun e he => by cases he⟩
  | e :: r, kv :: s, ⟨⟨t, h1⟩, h2, h3, h4⟩ => by
    obtain ⟨p1, p2⟩ := ik_pairs (P := P) (w := w) h4
    have hk : (PySem.intKind P w).is kv.1 e.key = true := by
      rw [h1]
      exact isInt_self _ t
    refine ⟨.cons hk h3 p1, fun e' he => ?_⟩
    rcases List.mem_cons.mp he with q | q
    · subst q
      exact ⟨kv.1, hk, h2⟩
    · exact p2 e' q
  | [], _ :: _, h => False.elim h
  | _ :: _, [], h => False.elim h
theorem ITab.dict {P : Program} {w : World} {K : PySem.W.Frag} {d : Addr} {kvs : List (Int × Value)} {h : Heap} (T : ITab K d kvs) (X : K.In h) : h.DictOf (PySem.intKind P w) d kvs := by
  obtain ⟨es, n, hl, hk⟩ := T.ex
  obtain ⟨p1, p2⟩ := ik_pairs (P := P) (w := w) hk
  exact ⟨_, es, n, X _ _ hl, ⟨rfl, rfl, rfl⟩, rfl, fun e he => p2 e (Array.mem_toList_iff.mpr he), p1, T.nd⟩
def rInT (d : Addr) (kvs : List (Int × Value)) : R2 := fun x y H Q => ∃ i, x = .int i ∧ y = .ref d ∧ Q (.bl (valueAt kvs i).isSome) H
theorem op_in_tab {X : Cx} {d : Addr} {kvs : List (Int × Value)} (T : ITab X.K d kvs) : OpR X (compareOp .In) (rInT d kvs) := by
  intro pins s σ H x y v u Q I rx ry h
  obtain ⟨i, rfl, rfl, q⟩ := h
  obtain ⟨t, rfl⟩ := rx
  cases ry
  refine wpAny_in_of (knd := PySem.intKind X.prog X.w) (k := i) (isInt_self i t) T.low (T.dict I.kIn).mapOf ?_
  exact ⟨.bl _, H, I.tok _, rfl, q⟩
/-- d[i](e, ..): a def that stands in such a dict -/
def tCallD (S : Int → Option Sp) (ta : TE) (t : TA) : TE := fun σ H Q => ta σ H fun v H1 => ∃ i sp, v = .int i ∧ S i = some sp ∧ t σ H1 fun vs H2 => sp vs H2 Q E0
theorem pe_callD {X : Cx} {d : Addr} {kvs : List (Int × Value)} {S : Int → Option Sp} {j k : Nat} {x : Str} {a e : Expr} {es : List Expr} {p1 p2 pos : Pos} {ta : TE} {t : TA} (T : ITab X.K d kvs)
    (hS : ∀ i sp, S i = some sp → ∃ f fd ps, valueAt kvs i = some (.ref f) ∧ FnOk X.prog X.w X.K X.mg X.base CX0 k f fd ps sp ∧ PySem.W.keepIn X.K (.ref f) = true ∧ Binds X.K fd ps [])
    (hr : Room j X.A) (hm : X.mg x = some (.ref d)) (ha : PE X a ta) (hargs : PA X (e :: es) t) (hjk : k ≤ j := by decide) (hg : Gl X x := by rfl) (hs : NoSl a := by exact fun _ _ => rfl) (hdb : (x == ("__debug__" : Str)) = false := by decide)
    (he : starEach (e :: es) X.env = (false, eval e X.env) :: starEach es X.env := by rfl) (hpl : (backTo pos (starEach es X.env)).any (·.1) = false := by rfl) :
    PE X (.Call (.Subscript (.Name x p1) a p2) (e :: es) [] pos) (tCallD S ta t) := by
  refine ⟨fun pins s σ H Q I h => ?_⟩
  refine PyProof.Rows.Call_ (subD_of PySem.F.slot_dict_getitem.lookup hs (ld_glob I hg hm (thn (ha.run pins s σ H _ I h) fun iv s2 ⟨y, H2, I2, ry, i, sp, ey, hsp, q⟩ => ?_) hdb))
  subst ey
  obtain ⟨t', rfl⟩ := ry
  obtain ⟨f, fd, ps, hv, F, hk, hb⟩ := hS i sp hsp
  refine ⟨(T.dict (P := X.prog) (w := X.w) I2.kIn).typeIs, wpAny_getItem_of (knd := PySem.intKind X.prog X.w) (k := i) (isInt_self i t') (T.dict I2.kIn).mapOf hv ?_⟩
  refine PySem.W.callWith_K (h₀ := X.base) I.ok.mod.kin hk (thn (hargs.run pos pins _ σ _ _ (I2.tok _) q) fun us s3 ⟨vs, H3, I4, r, q3⟩ => ⟨I4.kIn, ?_⟩) he hpl
  exact run_fn F (hr.mono hjk) hb .nil pass0 I4 r (by rw [List.append_nil]; exact q3)
/-- the def at this very address -/
def FnOkAt (P : Program) (w : World) (K : PySem.W.Frag) (mg : Str → Option Value) (base : Heap) (k : Nat) (f : Addr) (sp : Sp) : Prop := ∃ fd ps, FnOk P w K mg base CX0 k f fd ps sp ∧ PySem.W.keepIn K (.ref f) = true ∧ Binds K fd ps []
theorem pe_r {X : Cx} {x : Str} {a : Addr} {pos : Pos} (hm : X.mg x = some (.ref a)) (hg : Gl X x := by rfl) (hdb : (x == ("__debug__" : Str)) = false := by decide) : PE X (.Name x pos) (tC (.ref a)) := pe_glob hg hm rfl hdb

abbrev s_do_instruction : Stmt := top 41
theorem sc_do_instruction : FnScope ["chip", "first", "row", "low"] ["chip", "first"] (defScope s_do_instruction) := ⟨rfl, rfl, rfl, by decide +kernel, rfl, by decide +kernel, by decide +kernel⟩
def spDo (C : Addr) : Sp := spM C fun rest _ m v m' => ∃ op : Nat, rest = [.int (op : Int)] ∧ op < 256 ∧ v = .non ∧ m' = Ql29.settled (Cm.body m op)
def S1 (C : Addr) (i : Int) : Option Sp := if i = 7 then some (spRow C Cm.row7) else if i = 8 then some (spRow C Cm.row8) else if i = 10 then some (spRow C Cm.row10) else if i = 11 then some (spRow C Cm.compare) else if i = 12 then some (spRow C Cm.exchange) else none
def S2 (C : Addr) (i : Int) : Option Sp := if i = 13 then some (spRow C Cm.row13) else if i = 14 then some (spRow C Cm.row14) else if i = 15 then some (spRow C Cm.row15) else none
theorem tab1_some (a b c d e : Value) : ∀ g : Nat, g < 16 → (valueAt [((7 : Int), a), (8, b), (10, c), (11, d), (12, e)] (g : Int)).isSome = decide (g = 7 ∨ g = 8 ∨ g = 10 ∨ g = 11 ∨ g = 12)
  | 0, _ => rfl | 1, _ => rfl | 2, _ => rfl | 3, _ => rfl | 4, _ => rfl | 5, _ => rfl | 6, _ => rfl | 7, _ => rfl | 8, _ => rfl | 9, _ => rfl | 10, _ => rfl | 11, _ => rfl | 12, _ => rfl | 13, _ => rfl | 14, _ => rfl | 15, _ => rfl
  | n + 16, h => absurd h (by omega)
theorem tab2_some (a b c : Value) : ∀ g : Nat, g < 16 → (valueAt [((13 : Int), a), (14, b), (15, c)] (g : Int)).isSome = decide (g = 13 ∨ g = 14 ∨ g = 15)
  | 0, _ => rfl | 1, _ => rfl | 2, _ => rfl | 3, _ => rfl | 4, _ => rfl | 5, _ => rfl | 6, _ => rfl | 7, _ => rfl | 8, _ => rfl | 9, _ => rfl | 10, _ => rfl | 11, _ => rfl | 12, _ => rfl | 13, _ => rfl | 14, _ => rfl | 15, _ => rfl
  | n + 16, h => absurd h (by omega)
theorem held {nm : Str} {k : Nat} {ps : List Str} {sp : Sp} {f0 : Addr} (g : GOk P w K mg base nm k ps sp) (e : mg nm = some (.ref f0)) : FnOkAt P w K mg base k f0 sp := by
  obtain ⟨f, fd, e1, kp, F, b⟩ := g.ex
  rw [e] at e1
  cases e1
  exact ⟨fd, ps, F, kp, b⟩
theorem ok_do_instruction (h : GAt K mg "do_instruction" s_do_instruction) (T : Txt K C) (g_column_0 : GOk P w K mg base "column_0" 4 ["chip", "row"] (spCol C Cm.col0)) (g_page_jump : GOk P w K mg base "page_jump" 4 ["chip", "first"] (spPage C)) (g_column_2 : GOk P w K mg base "column_2" 4 ["chip", "row"] (spCol C Cm.col2)) (g_column_3 : GOk P w K mg base "column_3" 4 ["chip", "row"] (spCol C Cm.col3)) (g_count_by : GOk P w K mg base "count_by" 4 ["chip", "first", "step"] (spCountBy C)) (g_join_or_add : GOk P w K mg base "join_or_add" 5 ["chip", "first"] (spJoinAdd C)) (m_set_parity : MOk P w K mg base C "set_parity" 1 ["self"] (spSetPar C)) {dR dL f7 f8 f10 f11 f12 f13 f14 f15 : Addr} (mt_ROWS : mg "ROWS" = some (.ref dR)) (mt_LAST_ROWS : mg "LAST_ROWS" = some (.ref dL)) (tab_ROWS : ITab K dR [(7, .ref f7), (8, .ref f8), (10, .ref f10), (11, .ref f11), (12, .ref f12)]) (tab_LAST_ROWS : ITab K dL [(13, .ref f13), (14, .ref f14), (15, .ref f15)])
    (h7 : FnOkAt P w K mg base 4 f7 (spRow C Cm.row7)) (h8 : FnOkAt P w K mg base 4 f8 (spRow C Cm.row8)) (h10 : FnOkAt P w K mg base 4 f10 (spRow C Cm.row10)) (h11 : FnOkAt P w K mg base 4 f11 (spRow C Cm.compare)) (h12 : FnOkAt P w K mg base 4 f12 (spRow C Cm.exchange))
    (h13 : FnOkAt P w K mg base 4 f13 (spRow C Cm.row13)) (h14 : FnOkAt P w K mg base 4 f14 (spRow C Cm.row14)) (h15 : FnOkAt P w K mg base 4 f15 (spRow C Cm.row15)) : GOk P w K mg base "do_instruction" 6 ["chip", "first"] (spDo C) := by
  have hS_ROWS : ∀ i sp, S1 C i = some sp → ∃ f fd ps, valueAt [((7 : Int), Value.ref f7), (8, .ref f8), (10, .ref f10), (11, .ref f11), (12, .ref f12)] i = some (.ref f) ∧ FnOk P w K mg base CX0 4 f fd ps sp ∧ PySem.W.keepIn K (.ref f) = true ∧ Binds K fd ps [] := by
    intro i sp hi
    unfold S1 at hi
    split at hi
    · rename_i e; subst e; cases hi; obtain ⟨fd, ps, F, kp, b⟩ := h7; exact ⟨f7, fd, ps, rfl, F, kp, b⟩
    split at hi
    · rename_i e; subst e; cases hi; obtain ⟨fd, ps, F, kp, b⟩ := h8; exact ⟨f8, fd, ps, rfl, F, kp, b⟩
    split at hi
    · rename_i e; subst e; cases hi; obtain ⟨fd, ps, F, kp, b⟩ := h10; exact ⟨f10, fd, ps, rfl, F, kp, b⟩
    split at hi
    · rename_i e; subst e; cases hi; obtain ⟨fd, ps, F, kp, b⟩ := h11; exact ⟨f11, fd, ps, rfl, F, kp, b⟩
    split at hi
    · rename_i e; subst e; cases hi; obtain ⟨fd, ps, F, kp, b⟩ := h12; exact ⟨f12, fd, ps, rfl, F, kp, b⟩
    cases hi
  have hS_LAST_ROWS : ∀ i sp, S2 C i = some sp → ∃ f fd ps, valueAt [((13 : Int), Value.ref f13), (14, .ref f14), (15, .ref f15)] i = some (.ref f) ∧ FnOk P w K mg base CX0 4 f fd ps sp ∧ PySem.W.keepIn K (.ref f) = true ∧ Binds K fd ps [] := by
    intro i sp hi
    unfold S2 at hi
    split at hi
    · rename_i e; subst e; cases hi; obtain ⟨fd, ps, F, kp, b⟩ := h13; exact ⟨f13, fd, ps, rfl, F, kp, b⟩
    split at hi
    · rename_i e; subst e; cases hi; obtain ⟨fd, ps, F, kp, b⟩ := h14; exact ⟨f14, fd, ps, rfl, F, kp, b⟩
    split at hi
    · rename_i e; subst e; cases hi; obtain ⟨fd, ps, F, kp, b⟩ := h15; exact ⟨f15, fd, ps, rfl, F, kp, b⟩
    cases hi
  refine h.ok sc_do_instruction (fun vs H Q E h => ?_) (fun _ _ _ _ _ _ us hl => match us, hl with | [_, _], _ => rfl) fun cdv f A outer s H vs Q E hr h => ⟨_, (pss_cons (ps_set (i := 2) sc_do_instruction.nd rfl (Or.inl rfl) (pe_op op_shr (pv 1) pe_int))
      (pss_cons (ps_set (i := 3) sc_do_instruction.nd rfl (Or.inl rfl) (pe_op op_and (pv 1) pe_int))
      (pss_cons (ps_if (pt_cmpR op_eq (pv 3) pe_int (nomark _)) (pss_one (ps_expr (pe_g g_column_0 hr (pa_cons (pv 0) (pa_cons (pv 2) pa_nil))))) (pss_one (ps_if (pt_cmpR op_eq (pv 3) pe_int (nomark _)) (pss_one (ps_expr (pe_g g_page_jump hr (pa_cons (pv 0) (pa_cons (pv 1) pa_nil))))) (pss_one (ps_if (pt_cmpR op_eq (pv 3) pe_int (nomark _)) (pss_one (ps_expr (pe_g g_column_2 hr (pa_cons (pv 0) (pa_cons (pv 2) pa_nil))))) (pss_one (ps_if (pt_cmpR op_eq (pv 3) pe_int (nomark _)) (pss_one (ps_expr (pe_g g_column_3 hr (pa_cons (pv 0) (pa_cons (pv 2) pa_nil))))) (pss_one (ps_if (pt_cmpR op_eq (pv 2) pe_int (nomark _)) (pss_one (ps_expr (pe_g g_count_by hr (pa_cons (pv 0) (pa_cons (pv 1) (pa_cons pe_int pa_nil)))))) (pss_one (ps_if (pt_cmpR op_eq (pv 2) pe_int (nomark _)) (pss_one (ps_expr (pe_g g_count_by hr (pa_cons (pv 0) (pa_cons (pv 1) (pa_cons (pe_un un_neg pe_int) pa_nil)))))) (pss_one (ps_if (pt_cmpR (op_in_tab tab_ROWS) (pv 2) (pe_r mt_ROWS) rfl) (pss_one (ps_expr (pe_callD tab_ROWS hS_ROWS hr mt_ROWS (pv 2) (pa_cons (pv 0) (pa_cons (pv 1) pa_nil))))) (pss_one (ps_if (pt_cmpR (op_in_tab tab_LAST_ROWS) (pv 2) (pe_r mt_LAST_ROWS) rfl) (pss_one (ps_expr (pe_callD tab_LAST_ROWS hS_LAST_ROWS hr mt_LAST_ROWS (pv 2) (pa_cons (pv 0) (pa_cons (pv 1) pa_nil))))) (pss_one (ps_expr (pe_g g_join_or_add hr (pa_cons (pv 0) (pa_cons (pv 1) pa_nil))))))))))))))))))))
      (pss_one (ps_expr (pe_m0 m_set_parity T.cl hr (pv 0))))))), ?_⟩
  · obtain ⟨L, m, rest, v, m', rfl, hC, ⟨op, rfl, _⟩, q⟩ := h
    rfl
  · obtain ⟨L, m, rest, v, m', rfl, hC, ⟨op, rfl, h256, rfl, rfl⟩, q⟩ := h
    have h16 : op / 16 < 16 := by omega
    have fin : ∀ (H1 : Hp) (t : Ql29.St), ChipAt C L H1 t → Ext L H H1 → Cm.body m op = t →
        tDrop (tMeth C "set_parity" (spSetPar C) [] E0 (tVar 0) tNil) { nx := fun _ H' => Q .non H', rt := Q } [some (.ref L.c), some (.int (op : Int)), some (.int ((op / 16 : Nat) : Int)), some (.int ((op % 16 : Nat) : Int))] H1 := by
      intro H1 t hC1 e1 hd
      refine ⟨_, rfl, L.c, L.dx, _, rfl, hC1.obj, nf_set_parity.lk _ _, L, _, _, _, _, rfl, hC1, ⟨rfl, rfl, rfl⟩, fun H2 hC2 e2 => ?_⟩
      rw [hd] at q
      exact q H2 hC2 (e1.trans e2)
    unfold Cm.body at fin
    dsimp only at fin
    refine ⟨_, rfl, _, _, rfl, rfl, (by show (0 : Int) ≤ 4; decide), _, rfl, _, _, rfl, rfl, ?_⟩
    dsimp only
    rw [bAnd15, shr_of op 4 (z := 4) rfl]
    refine s_eq (n := op % 16) 0 rfl rfl (fun e => ?_) fun n0 => s_eq (n := op % 16) 1 rfl rfl (fun e => ?_) fun n1 => s_eq (n := op % 16) 2 rfl rfl (fun e => ?_) fun n2 => s_eq (n := op % 16) 3 rfl rfl (fun e => ?_) fun n3 => ?_
    · rw [if_pos e] at fin
      exact ⟨_, rfl, _, rfl, L, _, _, _, _, rfl, hC, ⟨op / 16, rfl, h16, rfl, rfl⟩, fun H1 hC1 e1 => fin H1 _ hC1 e1 rfl⟩
    · rw [if_neg n0, if_pos e] at fin
      exact ⟨_, rfl, _, rfl, L, _, _, _, _, rfl, hC, ⟨op, rfl, h256, rfl, rfl⟩, fun H1 hC1 e1 => fin H1 _ hC1 e1 rfl⟩
    · rw [if_neg n0, if_neg n1, if_pos e] at fin
      exact ⟨_, rfl, _, rfl, L, _, _, _, _, rfl, hC, ⟨op / 16, rfl, h16, rfl, rfl⟩, fun H1 hC1 e1 => fin H1 _ hC1 e1 rfl⟩
    · rw [if_neg n0, if_neg n1, if_neg n2, if_pos e] at fin
      exact ⟨_, rfl, _, rfl, L, _, _, _, _, rfl, hC, ⟨op / 16, rfl, h16, rfl, rfl⟩, fun H1 hC1 e1 => fin H1 _ hC1 e1 rfl⟩
    · rw [if_neg n0, if_neg n1, if_neg n2, if_neg n3] at fin
      have h4 : 4 ≤ op % 16 := by omega
      refine s_eq (n := op / 16) 0 rfl rfl (fun e => ?_) fun r0 => s_eq (n := op / 16) 1 rfl rfl (fun e => ?_) fun r1 => ⟨_, rfl, ((op / 16 : Nat) : Int), rfl, rfl, _, rfl, ?_⟩
      · rw [if_pos e] at fin
        exact ⟨_, rfl, _, rfl, L, _, _, _, _, rfl, hC, ⟨op, 1, rfl, h4, rfl, rfl⟩, fun H1 hC1 e1 => fin H1 _ hC1 e1 rfl⟩
      · rw [if_neg r0, if_pos e] at fin
        exact ⟨_, rfl, _, rfl, _, rfl, L, _, _, _, _, rfl, hC, ⟨op, -1, rfl, h4, rfl, rfl⟩, fun H1 hC1 e1 => fin H1 _ hC1 e1 rfl⟩
      rw [tab1_some _ _ _ _ _ _ h16]
      refine iteD (fun e => ?_) fun t1 => ⟨_, rfl, ((op / 16 : Nat) : Int), rfl, rfl, _, rfl, ?_⟩
      · rw [if_neg r0, if_neg r1] at fin
        rcases e with e | e | e | e | e
        · rw [if_pos e] at fin
          exact ⟨_, rfl, ((op / 16 : Nat) : Int), spRow C Cm.row7, rfl, by rw [e]; rfl, _, rfl, _, rfl, L, _, _, _, _, rfl, hC, ⟨op, rfl, h4, rfl, rfl⟩, fun H1 hC1 e1 => fin H1 _ hC1 e1 rfl⟩
        · rw [if_neg (by omega), if_pos e] at fin
          exact ⟨_, rfl, ((op / 16 : Nat) : Int), spRow C Cm.row8, rfl, by rw [e]; rfl, _, rfl, _, rfl, L, _, _, _, _, rfl, hC, ⟨op, rfl, h4, rfl, rfl⟩, fun H1 hC1 e1 => fin H1 _ hC1 e1 rfl⟩
        · rw [if_neg (by omega), if_neg (by omega), if_pos e] at fin
          exact ⟨_, rfl, ((op / 16 : Nat) : Int), spRow C Cm.row10, rfl, by rw [e]; rfl, _, rfl, _, rfl, L, _, _, _, _, rfl, hC, ⟨op, rfl, h4, rfl, rfl⟩, fun H1 hC1 e1 => fin H1 _ hC1 e1 rfl⟩
        · rw [if_neg (by omega), if_neg (by omega), if_neg (by omega), if_pos e] at fin
          exact ⟨_, rfl, ((op / 16 : Nat) : Int), spRow C Cm.compare, rfl, by rw [e]; rfl, _, rfl, _, rfl, L, _, _, _, _, rfl, hC, ⟨op, rfl, h4, rfl, rfl⟩, fun H1 hC1 e1 => fin H1 _ hC1 e1 rfl⟩
        · rw [if_neg (by omega), if_neg (by omega), if_neg (by omega), if_neg (by omega), if_pos e] at fin
          exact ⟨_, rfl, ((op / 16 : Nat) : Int), spRow C Cm.exchange, rfl, by rw [e]; rfl, _, rfl, _, rfl, L, _, _, _, _, rfl, hC, ⟨op, rfl, h4, rfl, rfl⟩, fun H1 hC1 e1 => fin H1 _ hC1 e1 rfl⟩
      rw [tab2_some _ _ _ _ h16]
      rw [if_neg r0, if_neg r1, if_neg (by omega), if_neg (by omega), if_neg (by omega), if_neg (by omega), if_neg (by omega)] at fin
      refine iteD (fun e => ?_) fun t2 => ?_
      · rcases e with e | e | e
        · rw [if_pos e] at fin
          exact ⟨_, rfl, ((op / 16 : Nat) : Int), spRow C Cm.row13, rfl, by rw [e]; rfl, _, rfl, _, rfl, L, _, _, _, _, rfl, hC, ⟨op, rfl, h4, rfl, rfl⟩, fun H1 hC1 e1 => fin H1 _ hC1 e1 rfl⟩
        · rw [if_neg (by omega), if_pos e] at fin
          exact ⟨_, rfl, ((op / 16 : Nat) : Int), spRow C Cm.row14, rfl, by rw [e]; rfl, _, rfl, _, rfl, L, _, _, _, _, rfl, hC, ⟨op, rfl, h4, rfl, rfl⟩, fun H1 hC1 e1 => fin H1 _ hC1 e1 rfl⟩
        · rw [if_neg (by omega), if_neg (by omega), if_pos e] at fin
          exact ⟨_, rfl, ((op / 16 : Nat) : Int), spRow C Cm.row15, rfl, by rw [e]; rfl, _, rfl, _, rfl, L, _, _, _, _, rfl, hC, ⟨op, rfl, h4, rfl, rfl⟩, fun H1 hC1 e1 => fin H1 _ hC1 e1 rfl⟩
      · rw [if_neg (by omega), if_neg (by omega), if_neg (by omega)] at fin
        exact ⟨_, rfl, _, rfl, L, _, _, _, _, rfl, hC, ⟨op, rfl, h4, rfl, rfl⟩, fun H1 hC1 e1 => fin H1 _ hC1 e1 rfl⟩

abbrev s_time_of : Stmt := top 42
theorem sc_time_of : FnScope ["first", "row", "low"] ["first"] (defScope s_time_of) := ⟨rfl, rfl, rfl, by decide +kernel, rfl, by decide +kernel, by decide +kernel⟩
def spTime : Sp := fun vs H Q _ => ∃ op : Nat, vs = [.int (op : Int)] ∧ op < 256 ∧ ∀ H', Same H H' → Q (.int (Cm.timeOf op : Int)) H'
section
variable {H : Hp} {σ : L2.St} {D : Ends} {t u : TS} {i j : Nat} {n k : Nat} {z z2 : Int}
theorem s_inS {ns : List Nat} (hσ : σ[i]? = some (some (.int (n : Int)))) (h1 : n ∈ ns → ∀ H1, Same H H1 → t D σ H1) (h2 : ¬ n ∈ ns → ∀ H1, Same H H1 → u D σ H1) : tIfS (tInN (tVar i) ns) t u D σ H :=
  ⟨_, hσ, n, rfl, fun p hp => iteD (fun e => h1 e _ (smNew hp)) fun e => h2 e _ (smNew hp)⟩
theorem s_eqOrIn {ns : List Nat} (y : Nat) (hσ : σ[i]? = some (some (.int (n : Int)))) (hj : σ[j]? = some (some (.int (k : Int)))) (ez : z = (y : Int)) (h1 : n = y ∨ k ∈ ns → ∀ H1, Same H H1 → t D σ H1) (h2 : ¬ (n = y ∨ k ∈ ns) → ∀ H1, Same H H1 → u D σ H1) :
    tIfS (tOr (tTest (tOp rEq (tVar i) (tC (.int z)))) (tInN (tVar j) ns)) t u D σ H :=
  ⟨_, hσ, rfl, _, rfl, ifEq n y rfl ez (fun e => iteT (h1 (Or.inl e) _ (Same.refl H))) fun ne => ⟨_, hj, k, rfl, fun p hp => iteD (fun e => h1 (Or.inr e) _ (smNew hp)) fun e => h2 (fun q => q.elim ne e) _ (smNew hp)⟩⟩
theorem s_inAndLt {ns : List Nat} (y : Nat) (hσ : σ[i]? = some (some (.int (n : Int)))) (hj : σ[j]? = some (some (.int (k : Int)))) (ez : z = (y : Int)) (h1 : n ∈ ns ∧ k < y → ∀ H1, Same H H1 → t D σ H1) (h2 : ¬ (n ∈ ns ∧ k < y) → ∀ H1, Same H H1 → u D σ H1) :
    tIfS (tAnd (tInN (tVar i) ns) (tTest (tOp (rI0 fun i j => .bl (decide (i < j))) (tVar j) (tC (.int z))))) t u D σ H :=
  ⟨_, hσ, n, rfl, fun p hp => iteD (fun e => ⟨_, hj, _, _, rfl, rfl, _, rfl, ifLt k y rfl ez (fun e2 => h1 ⟨e, e2⟩ _ (smNew hp)) fun e2 => h2 (fun q => e2 q.2) _ (smNew hp)⟩) fun e => iteF (h2 (fun q => e q.1) _ (smNew hp))⟩
theorem q_eqGe {Q : Bool → Hp → Prop} (y y2 : Nat) (hσ : σ[i]? = some (some (.int (n : Int)))) (hj : σ[j]? = some (some (.int (k : Int)))) (ez : z = (y : Int)) (ez2 : z2 = (y2 : Int)) (h : Q (decide (n = y ∧ y2 ≤ k)) H) :
    tAnd (tTest (tOp rEq (tVar i) (tC (.int z)))) (tTest (tOp (rI0 fun i j => .bl (decide (j ≤ i))) (tVar j) (tC (.int z2)))) σ H Q := by
  subst ez ez2
  refine ⟨_, hσ, rfl, _, rfl, ifEq n y rfl rfl (fun e => ⟨_, hj, _, _, rfl, rfl, _, rfl, ?_⟩) fun ne => ?_⟩
  · have e2 : decide ((y2 : Int) ≤ (k : Int)) = decide (n = y ∧ y2 ≤ k) := decide_eq_decide.mpr (by omega)
    rw [e2]
    exact h
  · rw [decide_eq_false (fun q => ne q.1)] at h
    exact h
end
theorem ok_time_of (h : GAt K mg "time_of" s_time_of) : GOk P w K mg base "time_of" 1 ["first"] (spTime) := by
  refine h.ok sc_time_of (fun vs H Q E h => ?_) (fun _ _ _ _ _ _ us hl => match us, hl with | [_], _ => rfl) fun cdv f A outer s H vs Q E hr h => ⟨_, (pss_cons (ps_set (i := 1) sc_time_of.nd rfl (Or.inl rfl) (pe_op op_shr (pv 0) pe_int))
      (pss_cons (ps_set (i := 2) sc_time_of.nd rfl (Or.inl rfl) (pe_op op_and (pv 0) pe_int))
      (pss_cons (ps_if (pt_inN (pv 0) rfl) (pss_one (ps_ret pe_int)) pss_nil)
      (pss_cons (ps_if (PW.pt (pw_or (pt_cmpR op_eq (pv 2) pe_int (nomark _)) (pw_or1 (pt_inN (pv 0) rfl)))) (pss_one (ps_ret pe_int)) pss_nil)
      (pss_cons (ps_if (pt_cmpR op_eq (pv 2) pe_int (nomark _)) (pss_cons (ps_if (pt_cmpR op_eq (pv 1) pe_int (nomark _)) (pss_one (ps_ret pe_int)) pss_nil)
      (pss_one (ps_ret pe_int))) pss_nil)
      (pss_cons (ps_if (PW.pt (pw_and (pt_inN (pv 1) rfl) (pw_and1 (pt_cmpR op_lt (pv 2) pe_int (nomark _))))) (pss_one (ps_ret pe_int)) pss_nil)
      (pss_cons (ps_if (PW.pt (pw_and (pt_cmpR op_eq (pv 1) pe_int (nomark _)) (pw_and1 (pt_cmpR op_ge (pv 2) pe_int (nomark _))))) (pss_one (ps_ret pe_int)) pss_nil)
      (pss_cons (ps_if (PW.pt (pw_or (PW.pt (pw_and (pt_cmpR op_eq (pv 1) pe_int (nomark _)) (pw_and1 (pt_cmpR op_ge (pv 2) pe_int (nomark _))))) (pw_or (PW.pt (pw_and (pt_cmpR op_eq (pv 1) pe_int (nomark _)) (pw_and1 (pt_cmpR op_ge (pv 2) pe_int (nomark _))))) (pw_or1 (PW.pt (pw_and (pt_cmpR op_eq (pv 1) pe_int (nomark _)) (pw_and1 (pt_cmpR op_ge (pv 2) pe_int (nomark _))))))))) (pss_one (ps_ret pe_int)) pss_nil)
      (pss_one (ps_ret pe_int)))))))))), ?_⟩
  · obtain ⟨op, rfl, _⟩ := h
    rfl
  · obtain ⟨op, rfl, h256, q⟩ := h
    have hq : ∀ (n : Nat) (z : Int), z = (n : Int) → Cm.timeOf op = n → ∀ H', Same H H' → Q (.int z) H' := fun n z ez e H' x => by
      subst ez
      have := q H' x
      rw [e] at this
      exact this
    unfold Cm.timeOf at hq
    dsimp only at hq
    refine ⟨_, rfl, _, _, rfl, rfl, (by show (0 : Int) ≤ 4; decide), _, rfl, _, _, rfl, rfl, ?_⟩
    dsimp only
    rw [bAnd15, shr_of op 4 (z := 4) rfl]
    refine s_inS (n := op) (ns := [132, 164]) rfl (fun e H1 x1 => ?_) fun n1 H1 x1 => s_eqOrIn (n := op % 16) (k := op) (ns := [2, 18, 34, 50, 115, 131, 147, 163, 117, 67, 83, 99, 114, 130, 146, 213]) 1 rfl rfl rfl (fun e H2 x2 => ?_) fun n2 H2 x2 => s_eq (n := op % 16) 0 rfl rfl (fun e => ?_) fun n3 =>
      s_inAndLt (n := op / 16) (k := op % 16) (ns := [14, 15]) 4 rfl rfl rfl (fun e H3 x3 => ?_) fun n4 H3 x3 => ?_
    · exact hq 4 4 rfl (if_pos (by simpa using e)) H1 x1
    · have m1 : ¬ (op = 132 ∨ op = 164) := by simpa using n1
      exact hq 2 2 rfl ((if_neg m1).trans (if_pos e)) H2 (x1.trans x2)
    · have m1 : ¬ (op = 132 ∨ op = 164) := by simpa using n1
      rw [if_neg m1, if_neg n2, if_pos e] at hq
      refine s_eq (n := op / 16) 0 rfl rfl (fun e0 => ?_) fun e0 => ?_
      · exact hq 1 1 rfl (if_pos e0) H2 (x1.trans x2)
      · exact hq 2 2 rfl (if_neg e0) H2 (x1.trans x2)
    · have m1 : ¬ (op = 132 ∨ op = 164) := by simpa using n1
      rw [if_neg m1, if_neg n2, if_neg n3] at hq
      exact hq 2 2 rfl (if_pos ⟨mem2 e.1, e.2⟩) H3 ((x1.trans x2).trans x3)
    · have m1 : ¬ (op = 132 ∨ op = 164) := by simpa using n1
      have m4 : ¬ ((op / 16 = 14 ∨ op / 16 = 15) ∧ op % 16 < 4) := fun z => n4 ⟨by simpa using z.1, z.2⟩
      rw [if_neg m1, if_neg n2, if_neg n3, if_neg m4] at hq
      have x := (x1.trans x2).trans x3
      refine q_eqGe (n := op / 16) (k := op % 16) 11 4 rfl rfl rfl rfl (iteD (fun e => ?_) fun n5 => ?_)
      · exact hq 2 2 rfl (if_pos e) H3 x
      · rw [if_neg n5] at hq
        refine q_eqGe (n := op / 16) (k := op % 16) 8 5 rfl rfl rfl rfl (iteD (fun e => ?_) fun n6 => ?_)
        · exact iteT (hq 2 2 rfl (if_pos (Or.inl e)) H3 x)
        · refine q_eqGe (n := op / 16) (k := op % 16) 10 6 rfl rfl rfl rfl (iteD (fun e => ?_) fun n7 => ?_)
          · exact iteT (hq 2 2 rfl (if_pos (Or.inr (Or.inl e))) H3 x)
          · refine q_eqGe (n := op / 16) (k := op % 16) 13 8 rfl rfl rfl rfl (iteD (fun e => ?_) fun n8 => ?_)
            · exact hq 2 2 rfl (if_pos (Or.inr (Or.inr e))) H3 x
            · exact hq 1 1 rfl (if_neg fun z => z.elim n6 fun z => z.elim n7 n8) H3 x

abbrev s_poked : Stmt := top 9
theorem sc_poked : FnScope ["size", "pokes", "out", "at"] ["size", "pokes"] (defScope s_poked) := ⟨rfl, rfl, rfl, by decide +kernel, rfl, by decide +kernel, by decide +kernel⟩
def spPoked (K : PySem.W.Frag) : Sp := fun vs H Q _ => ∃ (n : Nat) (a : Addr) (ns : List Int), vs = [.int (n : Int), .ref a] ∧ SqL K H a (ns.map V.int) ∧ Ql29Neutral.pokes (n : Int) ns = true ∧ ns.length ≤ 40000 ∧ n ≤ 100000 ∧
  ∀ H' p, Same H H' → H p = none → H' p = some (.lst (memV (Ql29Neutral.memory n ns))) → Q (.ref p) H'
theorem ok_poked (h : GAt K mg "poked" s_poked) (mr : mg "range" = none) (ml : mg "len" = none) : GOk P w K mg base "poked" 1 ["size", "pokes"] (spPoked K) := by
  refine h.ok sc_poked (fun vs H Q E h => ?_) (fun _ _ _ _ _ _ us hl => match us, hl with | [_, _], _ => rfl) fun cdv f A outer s H vs Q E hr h => ⟨_, pss_cons (ps_set (i := 2) sc_poked.nd rfl (Or.inl rfl) (pe_op op_rep (pe_lst (pa_cons pe_int pa_nil)) (pv 0)))
      (pss_cons (ps_for PassesOwn.never rfl (pi_range3 rfl mr (pa_cons pe_int (pa_cons (pe_callB call_len_seq rfl ml PySem.boot_len (pa_cons (pv 1) pa_nil)) (pa_cons pe_int pa_nil)))) (pg_name (i := 3) sc_poked.nd rfl (Or.inl rfl))
        (pss_one (ps_asg (pe_ix ix_list (pv 1) (pe_op op_add (pv 3) pe_int) (fun _ _ => rfl)) (pg_sub (pv 2) (pe_ix ix_list (pv 1) (pv 3) (fun _ _ => rfl)) set_list))))
      (pss_one (ps_ret (pv 2)))), ?_⟩
  · obtain ⟨n, a, ns, rfl, _⟩ := h
    rfl
  · obtain ⟨n, a, ns, rfl, hS, hp, hlen, hn, q⟩ := h
    obtain ⟨k, hk⟩ := Cm.pokes_len hp
    have sz : sizeLine = 16777216 := by decide
    have hnn : ((n : Int)).toNat = n := Int.toNat_natCast n
    refine ⟨by show 1 ≤ sizeLine; decide, fun l hl => ?_⟩
    refine ⟨_, rfl, l, _, _, rfl, rfl, upd_same, by omega, by omega, by show 1 * (n : Int).toNat ≤ _; omega, fun p hp2 => ?_⟩
    have hpl : p ≠ l := fun e => by rw [e, upd_same] at hp2; cases hp2
    have hp0 : H p = none := by rw [upd_ne hpl] at hp2; exact hp2
    have s1 : Same H (upd (upd H l (.lst [.int 0])) p (.lst (List.replicate (n : Int).toNat [V.int 0]).flatten)) := smMut (smNew hl) hp0
    refine ⟨_, rfl, a, _, rfl, .inl (s1.seq hS), 0, _, 2, k, rfl, by rw [List.length_map, hk]; exact rg2 (by omega), for_rangeC (lo := 0) (c := 2) (n := k) (fun i σ H' => ∃ (v : Option V) (cur : List UInt8), σ = [some (.int (n : Int)), some (.ref a), some (.ref p), v] ∧ Same H H' ∧
      H' p = some (.lst (memV cur)) ∧ cur.length = n ∧ Cm.pokeL cur (ns.drop (2 * i)) = Cm.pokeL (List.replicate n 0) ns ∧ Ql29Neutral.pokes (n : Int) (ns.drop (2 * i)) = true) ?_ ?_ ?_⟩
    · refine ⟨none, List.replicate n 0, rfl, s1, ?_, List.length_replicate, rfl, hp⟩
      rw [upd_same, rep_zero, hnn]
    · rintro i σ H' hi ⟨v, cur, rfl, s2, h2, hc, he, hpk⟩
      obtain ⟨i1, i2, ed⟩ := drop_parts hk hi
      rw [ed] at he hpk
      obtain ⟨b1, b2, b3, b4, hpk'⟩ := Cm.pokes_cons hpk
      have hj : ns[2 * i].toNat < cur.length := by omega
      refine ⟨_, rfl, _, rfl, _, _, rfl, rfl, a, _, _, _, rfl, rfl, s2.seq hS, at_ints i2 (by omega), _, rfl, _, rfl, _, rfl, a, _, _, _, rfl, rfl, s2.seq hS, at_ints i1 (by omega), p, _, _, ns[2 * i].toNat, rfl, rfl, h2, ixN_mem (by omega) hj, ?_⟩
      refine ⟨_, set_ cur ns[2 * i].toNat ns[2 * i + 1].toNat, rfl, smMut s2 hp0, ?_, (Cm.set_len _ _ _).trans hc, he, hpk'⟩
      rw [upd_same, memV_set (v := ns[2 * i + 1].toNat) (by omega)]
    · rintro σ H' ⟨v, cur, rfl, s2, h2, hc, he, hpk⟩
      refine ⟨_, rfl, q H' p s2 hp0 ?_⟩
      rw [h2, Cm.memory_eq, ← he, ← hk, List.drop_length]
      rfl

abbrev s_poked_dict : Stmt := top 10
theorem sc_poked_dict : FnScope ["pokes", "out", "at"] ["pokes"] (defScope s_poked_dict) := ⟨rfl, rfl, rfl, by decide +kernel, rfl, by decide +kernel, by decide +kernel⟩
def spPokedD (K : PySem.W.Frag) : Sp := fun vs H Q _ => ∃ (a : Addr) (ns : List Int), vs = [.ref a] ∧ SqL K H a (ns.map V.int) ∧ Ql29Neutral.pokes 65536 ns = true ∧ ns.length ≤ 40000 ∧
  ∀ H' p kvs, Same H H' → H p = none → H' p = some (.dK kvs) → DictMem kvs (Ql29Neutral.memory 65536 ns) → Q (.ref p) H'
theorem dm_nil : DictMem [] (List.replicate 65536 0) := by
  refine ⟨fun n hn => ?_, List.nodup_nil, fun k hk => by cases hk⟩
  have e : at_ (List.replicate 65536 0) n = 0 := by
    unfold at_
    rw [List.getD_eq_getElem?_getD, List.getElem?_replicate, if_pos hn]
    rfl
  rw [e]
  rfl
theorem ok_poked_dict (h : GAt K mg "poked_dict" s_poked_dict) (mr : mg "range" = none) (ml : mg "len" = none) : GOk P w K mg base "poked_dict" 1 ["pokes"] (spPokedD K) := by
  refine h.ok sc_poked_dict (fun vs H Q E h => ?_) (fun _ _ _ _ _ _ us hl => match us, hl with | [_], _ => rfl) fun cdv f A outer s H vs Q E hr h => ⟨_, pss_cons (ps_set (i := 1) sc_poked_dict.nd rfl (Or.inl rfl) pe_dnewK)
      (pss_cons (ps_for PassesOwn.never rfl (pi_range3 rfl mr (pa_cons pe_int (pa_cons (pe_callB call_len_seq rfl ml PySem.boot_len (pa_cons (pv 0) pa_nil)) (pa_cons pe_int pa_nil)))) (pg_name (i := 2) sc_poked_dict.nd rfl (Or.inl rfl))
        (pss_one (ps_dput (hu_of hr) (pv 1) (pe_ix ix_list (pv 0) (pv 2) (fun _ _ => rfl)) (pe_ix ix_list (pv 0) (pe_op op_add (pv 2) pe_int) (fun _ _ => rfl)) rfl)))
      (pss_one (ps_ret (pv 1)))), ?_⟩
  · obtain ⟨a, ns, rfl, _⟩ := h
    rfl
  · obtain ⟨a, ns, rfl, hS, hp, hlen, q⟩ := h
    obtain ⟨k, hk⟩ := Cm.pokes_len hp
    intro p hp0
    have s1 : Same H (upd H p (.dK [])) := smNew hp0
    refine ⟨_, rfl, a, _, rfl, .inl (s1.seq hS), 0, _, 2, k, rfl, by rw [List.length_map, hk]; exact rg2 (by omega), for_rangeC (lo := 0) (c := 2) (n := k) (fun i σ H' => ∃ (v : Option V) (cur : List UInt8) (kvs : List (Key × V)), σ = [some (.ref a), some (.ref p), v] ∧ Same H H' ∧
      H' p = some (.dK kvs) ∧ DictMem kvs cur ∧ cur.length = 65536 ∧ Cm.pokeL cur (ns.drop (2 * i)) = Cm.pokeL (List.replicate 65536 0) ns ∧ Ql29Neutral.pokes 65536 (ns.drop (2 * i)) = true) ?_ ?_ ?_⟩
    · exact ⟨none, List.replicate 65536 0, [], rfl, s1, upd_same, dm_nil, List.length_replicate, rfl, hp⟩
    · rintro i σ H' hi ⟨v, cur, kvs, rfl, s2, h2, hd, hc, he, hpk⟩
      obtain ⟨i1, i2, ed⟩ := drop_parts hk hi
      rw [ed] at he hpk
      obtain ⟨b1, b2, b3, b4, hpk'⟩ := Cm.pokes_cons hpk
      have hj : ns[2 * i].toNat < 65536 := by omega
      have ej : ns[2 * i] = ((ns[2 * i].toNat : Nat) : Int) := by omega
      have d2 := hd.put hc (n := ns[2 * i].toNat) (v := ns[2 * i + 1].toNat) hj (z := ns[2 * i + 1]) (by omega)
      refine ⟨_, rfl, _, rfl, _, _, rfl, rfl, a, _, _, _, rfl, rfl, s2.seq hS, at_ints i2 (by omega), _, rfl, _, rfl, _, rfl, a, _, _, _, rfl, rfl, s2.seq hS, at_ints i1 (by omega), p, _, rfl, DPut.k (k := Sum.inl ns[2 * i]) h2 hd.len, ?_⟩
      refine ⟨_, _, _, rfl, smMut s2 hp0, upd_same, ?_, (Cm.set_len _ _ _).trans hc, he, hpk'⟩
      rw [← ej] at d2
      exact d2
    · rintro σ H' ⟨v, cur, kvs, rfl, s2, h2, hd, hc, he, hpk⟩
      refine ⟨_, rfl, q H' p kvs s2 hp0 h2 ?_⟩
      have e : cur = Ql29Neutral.memory 65536 ns := by
        rw [Cm.memory_eq, ← he, ← hk, List.drop_length]
        rfl
      rw [← e]
      exact hd

abbrev s___init__ : Stmt := inClass (top 11) 0
theorem sc___init__ : FnScope ["self", "pc", "ram", "sfr", "code", "ext"] ["self", "pc", "ram", "sfr", "code", "ext"] (defScope s___init__) := ⟨rfl, rfl, rfl, by decide +kernel, rfl, by decide +kernel, by decide +kernel⟩
def spInit (K : PySem.W.Frag) (C : Addr) : Sp := fun vs H Q _ => ∃ (x dx : Addr) (pc : Nat) (a1 a2 a3 a4 : Addr) (n1 n2 n3 n4 : List Int), vs = [.ref x, .int (pc : Int), .ref a1, .ref a2, .ref a3, .ref a4] ∧ H x = some (.ins C dx []) ∧ pc < 65536 ∧
  SqL K H a1 (n1.map V.int) ∧ Ql29Neutral.pokes 256 n1 = true ∧ n1.length ≤ 40000 ∧ SqL K H a2 (n2.map V.int) ∧ Ql29Neutral.pokes 128 n2 = true ∧ n2.length ≤ 40000 ∧
  SqL K H a3 (n3.map V.int) ∧ Ql29Neutral.pokes 65536 n3 = true ∧ n3.length ≤ 40000 ∧ SqL K H a4 (n4.map V.int) ∧ Ql29Neutral.pokes 65536 n4 = true ∧ n4.length ≤ 40000 ∧
  ∀ H' L, L.c = x → ChipAt C L H' ⟨pc, Ql29Neutral.memory 256 n1, Ql29Neutral.memory 128 n2, Ql29Neutral.memory 65536 n3, Ql29Neutral.memory 65536 n4⟩ → (∀ b o, H b = some o → b ≠ x → H' b = some o) → Q .non H'
theorem pf_past {f g : Str} {v x : V} {r : List (Str × V)} (h : ¬ g = f) : putF f v ((g, x) :: r) = (g, x) :: putF f v r := if_neg h
theorem flds_all (p r s c e : V) : putF "ext" e (putF "code" c (putF "special" s (putF "ram" r (putF "pc" p [])))) = ([("pc", p), ("ram", r), ("special", s), ("code", c), ("ext", e)] : List (Str × V)) := by
  show putF "ext" e (putF "code" c (putF "special" s (putF "ram" r ([("pc", p)] : List (Str × V))))) = _
  rw [pf_past (f := "ram") (by decide +kernel)]
  rw [pf_past (f := "special") (by decide +kernel)]
  rw [show putF "ram" r [] = ([("ram", r)] : List (Str × V)) from rfl, pf_past (f := "special") (by decide +kernel)]
  rw [show putF "special" s [] = ([("special", s)] : List (Str × V)) from rfl]
  rw [pf_past (f := "code") (by decide +kernel), pf_past (f := "code") (by decide +kernel), pf_past (f := "code") (by decide +kernel)]
  rw [show putF "code" c [] = ([("code", c)] : List (Str × V)) from rfl]
  rw [pf_past (f := "ext") (by decide +kernel), pf_past (f := "ext") (by decide +kernel), pf_past (f := "ext") (by decide +kernel), pf_past (f := "ext") (by decide +kernel)]
  rfl
theorem seq_upd {K : PySem.W.Frag} {H H' : Hp} {a x : Addr} {C dx : Addr} {fs : List (Str × V)} {xs : List V} (e : ∀ b o, H b = some o → b ≠ x → H' b = some o) (hx : H x = some (.ins C dx fs)) (h : SqL K H a xs) : SqL K H' a xs := by
  rcases h with (h | ⟨o, h⟩) | h
  · exact .inl (.inl (e _ _ h (ne_of h hx (by simp))))
  · exact .inl (.inr ⟨o, e _ _ h (ne_of h hx (by simp))⟩)
  · exact .inr h
theorem ok_init (h : ∃ f fd, PySem.W.findIn K (.ref C) "__init__" = some (some (.ref f)) ∧ PySem.W.isFn K (.ref f) = true ∧ Fun K "__init__" "Chip.__init__" s___init__ f fd) (T : Txt K C) (g1 : GOk P w K mg base "poked" 1 ["size", "pokes"] (spPoked K)) (g2 : GOk P w K mg base "poked_dict" 1 ["pokes"] (spPokedD K)) :
    ∃ f fd, PySem.W.findIn K (.ref C) "__init__" = some (some (.ref f)) ∧ PySem.W.isFn K (.ref f) = true ∧ FnOk P w K mg base CX0 2 f fd ["self", "pc", "ram", "sfr", "code", "ext"] (spInit K C) ∧ Binds K fd ["self", "pc", "ram", "sfr", "code", "ext"] [] := by
  obtain ⟨f, fd, h1, h2, F⟩ := h
  refine ⟨f, fd, h1, h2, F.ok sc___init__ (fun vs H Q E h => ?_) (fun cdv A outer s H vs Q E hr h => ⟨_, pss_cons (ps_fld (pv 0) (pv 1) rfl) (pss_cons (ps_fld (pv 0) (pe_g g1 hr (pa_cons pe_int (pa_cons (pv 2) pa_nil))) rfl) (pss_cons (ps_fld (pv 0) (pe_g g1 hr (pa_cons pe_int (pa_cons (pv 3) pa_nil))) rfl)
      (pss_cons (ps_fld (pv 0) (pe_g g2 hr (pa_cons (pv 4) pa_nil)) rfl) (pss_one (ps_fld (pv 0) (pe_g g2 hr (pa_cons (pv 5) pa_nil)) rfl))))), ?_⟩), F.binds fun _ _ _ _ _ _ us hl => match us, hl with | [_, _, _, _, _, _], _ => rfl⟩
  · obtain ⟨x, dx, pc, a1, a2, a3, a4, n1, n2, n3, n4, rfl, _⟩ := h
    rfl
  · obtain ⟨x, dx, pc, a1, a2, a3, a4, n1, n2, n3, n4, rfl, hx, hpc, q1, p1, l1, q2, p2, l2, q3, p3, l3, q4, p4, l4, q⟩ := h
    refine ⟨_, rfl, _, rfl, x, C, dx, _, rfl, hx, T.cl, T.nP, (by show 0 < 1000; decide), ?_⟩
    have k0 : ∀ b o, H b = some o → b ≠ x → upd H x (.ins C dx (putF "pc" (.int (pc : Int)) [])) b = some o := fun b o e n => by rw [upd_ne n]; exact e
    have x0 : upd H x (.ins C dx (putF "pc" (.int (pc : Int)) [])) x = some (.ins C dx (putF "pc" (.int (pc : Int)) [])) := upd_same
    generalize upd H x (.ins C dx (putF "pc" (.int (pc : Int)) [])) = H0 at k0 x0
    -- ram
    refine ⟨_, rfl, 256, a1, n1, rfl, seq_upd k0 hx q1, p1, l1, by decide, fun H1 r s1 fr hr1 => ?_⟩
    have x1 := s1 _ _ x0
    have nr : r ≠ x := fun e => by rw [e, x0] at fr; cases fr
    refine ⟨_, rfl, x, C, dx, _, rfl, x1, T.cl, T.nR, (by show 1 < 1000; decide), ?_⟩
    have k1 : ∀ b o, H b = some o → b ≠ x → upd H1 x (.ins C dx (putF "ram" (.ref r) (putF "pc" (.int (pc : Int)) []))) b = some o := fun b o e n => by rw [upd_ne n]; exact s1 _ _ (k0 b o e n)
    have r1 : upd H1 x (.ins C dx (putF "ram" (.ref r) (putF "pc" (.int (pc : Int)) []))) r = some (.lst (memV (Ql29Neutral.memory 256 n1))) := by rw [upd_ne nr]; exact hr1
    have x1 : upd H1 x (.ins C dx (putF "ram" (.ref r) (putF "pc" (.int (pc : Int)) []))) x = some (.ins C dx (putF "ram" (.ref r) (putF "pc" (.int (pc : Int)) []))) := upd_same
    generalize upd H1 x (.ins C dx (putF "ram" (.ref r) (putF "pc" (.int (pc : Int)) []))) = H1' at k1 r1 x1
    -- special
    refine ⟨_, rfl, 128, a2, n2, rfl, seq_upd k1 hx q2, p2, l2, by decide, fun H2 sp s2 fs hs2 => ?_⟩
    have x2 := s2 _ _ x1
    have r2 := s2 _ _ r1
    have ns : sp ≠ x := fun e => by rw [e, x1] at fs; cases fs
    have rs : r ≠ sp := fun e => by rw [← e, r1] at fs; cases fs
    refine ⟨_, rfl, x, C, dx, _, rfl, x2, T.cl, T.nS, (by show 2 < 1000; decide), ?_⟩
    have k2 : ∀ b o, H b = some o → b ≠ x → upd H2 x (.ins C dx (putF "special" (.ref sp) (putF "ram" (.ref r) (putF "pc" (.int (pc : Int)) [])))) b = some o := fun b o e n => by rw [upd_ne n]; exact s2 _ _ (k1 b o e n)
    have r2 : upd H2 x (.ins C dx (putF "special" (.ref sp) (putF "ram" (.ref r) (putF "pc" (.int (pc : Int)) [])))) r = some (.lst (memV (Ql29Neutral.memory 256 n1))) := by rw [upd_ne nr]; exact r2
    have sp2 : upd H2 x (.ins C dx (putF "special" (.ref sp) (putF "ram" (.ref r) (putF "pc" (.int (pc : Int)) [])))) sp = some (.lst (memV (Ql29Neutral.memory 128 n2))) := by rw [upd_ne ns]; exact hs2
    have x2 : upd H2 x (.ins C dx (putF "special" (.ref sp) (putF "ram" (.ref r) (putF "pc" (.int (pc : Int)) [])))) x = some (.ins C dx (putF "special" (.ref sp) (putF "ram" (.ref r) (putF "pc" (.int (pc : Int)) [])))) := upd_same
    generalize upd H2 x (.ins C dx (putF "special" (.ref sp) (putF "ram" (.ref r) (putF "pc" (.int (pc : Int)) [])))) = H2' at k2 r2 sp2 x2
    -- code
    refine ⟨_, rfl, a3, n3, rfl, seq_upd k2 hx q3, p3, l3, fun H3 cd kc s3 fc hc3 dc => ?_⟩
    have x3 := s3 _ _ x2
    have r3 := s3 _ _ r2
    have sp3 := s3 _ _ sp2
    have nc : cd ≠ x := fun e => by rw [e, x2] at fc; cases fc
    refine ⟨_, rfl, x, C, dx, _, rfl, x3, T.cl, T.nC, (by show 3 < 1000; decide), ?_⟩
    have k3 : ∀ b o, H b = some o → b ≠ x → upd H3 x (.ins C dx (putF "code" (.ref cd) (putF "special" (.ref sp) (putF "ram" (.ref r) (putF "pc" (.int (pc : Int)) []))))) b = some o := fun b o e n => by rw [upd_ne n]; exact s3 _ _ (k2 b o e n)
    have r3 : upd H3 x (.ins C dx (putF "code" (.ref cd) (putF "special" (.ref sp) (putF "ram" (.ref r) (putF "pc" (.int (pc : Int)) []))))) r = some (.lst (memV (Ql29Neutral.memory 256 n1))) := by rw [upd_ne nr]; exact r3
    have sp3 : upd H3 x (.ins C dx (putF "code" (.ref cd) (putF "special" (.ref sp) (putF "ram" (.ref r) (putF "pc" (.int (pc : Int)) []))))) sp = some (.lst (memV (Ql29Neutral.memory 128 n2))) := by rw [upd_ne ns]; exact sp3
    have c3 : upd H3 x (.ins C dx (putF "code" (.ref cd) (putF "special" (.ref sp) (putF "ram" (.ref r) (putF "pc" (.int (pc : Int)) []))))) cd = some (.dK kc) := by rw [upd_ne nc]; exact hc3
    have x3 : upd H3 x (.ins C dx (putF "code" (.ref cd) (putF "special" (.ref sp) (putF "ram" (.ref r) (putF "pc" (.int (pc : Int)) []))))) x = some (.ins C dx (putF "code" (.ref cd) (putF "special" (.ref sp) (putF "ram" (.ref r) (putF "pc" (.int (pc : Int)) []))))) := upd_same
    generalize upd H3 x (.ins C dx (putF "code" (.ref cd) (putF "special" (.ref sp) (putF "ram" (.ref r) (putF "pc" (.int (pc : Int)) []))))) = H3' at k3 r3 sp3 c3 x3
    -- ext
    refine ⟨_, rfl, a4, n4, rfl, seq_upd k3 hx q4, p4, l4, fun H4 ex kx s4 fx hx4 dxm => ?_⟩
    have ne : ex ≠ x := fun e => by rw [e, x3] at fx; cases fx
    have ce : cd ≠ ex := fun e => by rw [← e, c3] at fx; cases fx
    refine ⟨_, rfl, x, C, dx, _, rfl, s4 _ _ x3, T.cl, T.nE, (by show 4 < 1000; decide), ?_⟩
    refine q _ ⟨x, dx, r, sp, cd, ex⟩ rfl ⟨⟨hpc, Cm.memory_len _ _, Cm.memory_len _ _, Cm.memory_len _ _, Cm.memory_len _ _⟩, ?_, ?_, ?_, ⟨kc, ?_, dc⟩, ⟨kx, ?_, dxm⟩, rs, ce⟩ fun b o e n => ?_
    · rw [upd_same, flds_all]
      rfl
    · rw [upd_ne nr]; exact s4 _ _ r3
    · rw [upd_ne ns]; exact s4 _ _ sp3
    · rw [upd_ne nc]; exact s4 _ _ c3
    · rw [upd_ne ne]; exact hx4
    · rw [upd_ne n]; exact s4 _ _ (k3 b o e n)

abbrev s_looked : Stmt := top 46
theorem sc_looked : FnScope ["chip", "looks", "number"] ["chip", "looks"] (defScope s_looked) := ⟨rfl, rfl, rfl, by decide +kernel, rfl, by decide +kernel, by decide +kernel⟩
def spLooked (K : PySem.W.Frag) (C : Addr) : Sp := fun vs H Q _ => ∃ (L : Ad) (m : Ql29.St) (a : Addr) (ns : List Int), vs = [.ref L.c, .ref a] ∧ ChipAt C L H m ∧ SqL K H a (ns.map V.int) ∧ (∀ x ∈ ns, 0 ≤ x ∧ x ≤ 65919) ∧ ns.length ≤ 40000 ∧
  ∀ H' p, Same H H' → H p = none → H' p = some (.lst (.int (m.pc : Int) :: ns.map fun x => V.int (Cm.lookV m x.toNat : Int))) → Q (.ref p) H'
theorem nf_look : NoF "look" := by decide +kernel
theorem ok_looked (h : GAt K mg "looked" s_looked) (T : Txt K C) (m1 : MOk P w K mg base C "look" 1 ["self", "number"] (spLook C)) : GOk P w K mg base "looked" 2 ["chip", "looks"] (spLooked K C) := by
  refine h.ok sc_looked (fun vs H Q E h => ?_) (fun _ _ _ _ _ _ us hl => match us, hl with | [_, _], _ => rfl) fun cdv f A outer s H vs Q E hr h => ⟨_, pss_one (ps_ret (pe_op op_cat (pe_lst (pa_cons (pe_fld (pv 0) rfl) pa_nil))
      (pe_lc (own := [("number", 2)]) (g := gName 2) (tt := tYes) rfl sc_looked.nd (pi_list (pv 1)) (blkOk_by (own := [("number", 2)]) (N := ["chip", "looks", "number"]) (sc := defScope s_looked) (by decide +kernel)) (fun _ _ _ _ _ => pg_name (i := 2) sc_looked.nd rfl (Or.inl rfl)) (fun _ _ _ _ _ => pts_nil)
        (fun _ _ _ _ _ => pe_m m1 T.cl hr (pv 0) (pa_cons (pv 2) pa_nil))))), ?_⟩
  · obtain ⟨L, m, a, ns, rfl, _⟩ := h
    rfl
  · obtain ⟨L, m, a, ns, rfl, hC, hS, hb, hlen, q⟩ := h
    have sz : sizeLine = 16777216 := by decide
    refine ⟨_, rfl, L.c, C, L.dx, _, _, rfl, hC.obj, T.cl, T.nP, lk_pc _ _, by show 1 ≤ sizeLine; decide, fun l hl => ?_⟩
    have sl : Same H (upd H l (.lst [.int (m.pc : Int)])) := smNew hl
    refine ⟨_, rfl, a, rfl, ⟨_, sl.seq hS⟩, fun D hD => ?_⟩
    have hDl : D ≠ l := fun e => by rw [e, upd_same] at hD; cases hD
    have hD0 : H D = none := by rw [upd_ne hDl] at hD; exact hD
    refine lc_list (K := K) (a := a) (xs := ns.map V.int) (fun i H' => Same H H' ∧ H' l = some (.lst [.int (m.pc : Int)]) ∧ H' D = some (.lst ((ns.take i).map fun x => V.int (Cm.lookV m x.toNat : Int)))) ?_ ?_ ?_ ?_
    · exact ⟨smMut sl hD0, by rw [upd_ne (Ne.symm hDl)]; exact upd_same, upd_same⟩
    · exact fun i H' hi ⟨s2, _⟩ => s2.seq hS
    · rintro i x H' hi ⟨s2, h2, h3⟩
      obtain ⟨z, hz, rfl⟩ : ∃ z, ns[i]? = some z ∧ x = V.int z := by
        rw [List.getElem?_map] at hi
        cases e : ns[i]? with
        | none =>
          rw [e] at hi
          cases hi
        | some z =>
          rw [e] at hi
          exact ⟨z, rfl, (Option.some.inj hi).symm⟩
      have hi' : i < ns.length := (List.getElem?_eq_some_iff.mp hz).1
      obtain ⟨b1, b2⟩ := hb z (List.mem_of_getElem? hz)
      have hC2 := hC.kept s2
      refine ⟨rfl, ?_⟩
      show tMeth C "look" (spLook C) [] E0 (tVar 0) (tCons (tVar 2) tNil) _ _ _
      refine ⟨_, rfl, L.c, L.dx, _, rfl, hC2.obj, nf_look.lk _ _, _, rfl, L, m, _, _, rfl, hC2, ⟨z.toNat, by rw [show ((z.toNat : Nat) : Int) = z by omega]; rfl, by omega, rfl⟩, _, h3, ?_, smMut s2 hD0, by rw [upd_ne (Ne.symm hDl)]; exact h2, ?_⟩
      · rw [List.length_map, List.length_take]
        omega
      · have et : ns.take (i + 1) = ns.take i ++ [z] := by
          rw [List.take_add_one, hz]
          rfl
        rw [upd_same, et, List.map_append]
        rfl
    · rintro H' ⟨s2, h2, h3⟩
      rw [List.length_map, List.take_length] at h3
      have lm : (ns.map fun x => V.int (Cm.lookV m x.toNat : Int)).length = ns.length := List.length_map _
      refine ⟨l, D, _, _, rfl, rfl, h2, h3, by show 1 + _ ≤ _; omega, fun p hp => q _ p (smMut s2 ?_) ?_ upd_same⟩
      · exact s2.free hp
      · exact s2.free hp

/-! ### a chip is made -/
structure InitOk (P : Program) (w : World) (K : PySem.W.Frag) (mg : Str → Option Value) (base : Heap) (C : Addr) : Prop where
  ex : ∃ f fd, PySem.W.findIn K (.ref C) "__init__" = some (some (.ref f)) ∧ PySem.W.isFn K (.ref f) = true ∧ FnOk P w K mg base CX0 2 f fd ["self", "pc", "ram", "sfr", "code", "ext"] (spInit K C) ∧ Binds K fd ["self", "pc", "ram", "sfr", "code", "ext"] []
/-- in a heap of frozen things alone all is kept -/
theorem frz_seq {K : PySem.W.Frag} {H H' : Hp} {a x : Addr} {xs : List V} (hO : ∀ b, H b = none ∨ ∃ o u, H b = some (.frz o u)) (e : ∀ b o u, H b = some (.frz o u) → H' b = some (.frz o u)) (h : SqL K H a xs) : SqL K H' a xs := by
  rcases h with (h | ⟨o, h⟩) | h
  · rcases hO a with z | ⟨o, u, z⟩
    · rw [z] at h; cases h
    · rw [z] at h; cases h
  · exact .inl (.inr ⟨o, e _ _ _ h⟩)
  · exact .inr h

abbrev s_c51_run : Stmt := top 47
theorem sc_c51_run : FnScope ["steps", "pc", "ram", "sfr", "code", "ext", "looks", "chip", "first", "times", "count", "time"] ["steps", "pc", "ram", "sfr", "code", "ext", "looks"] (defScope s_c51_run) := ⟨rfl, rfl, rfl, by decide +kernel, rfl, by decide +kernel, by decide +kernel⟩
def spRun (K : PySem.W.Frag) : Sp := fun vs H Q _ => ∃ (stp pc : Int) (a1 a2 a3 a4 a5 : Addr) (n1 n2 n3 n4 n5 : List Int), vs = [.int stp, .int pc, .ref a1, .ref a2, .ref a3, .ref a4, .ref a5] ∧ 0 ≤ stp ∧ 0 ≤ pc ∧ pc ≤ 65535 ∧
  SqL K H a1 (n1.map V.int) ∧ Ql29Neutral.pokes 256 n1 = true ∧ n1.length ≤ 40000 ∧ SqL K H a2 (n2.map V.int) ∧ Ql29Neutral.pokes 128 n2 = true ∧ n2.length ≤ 40000 ∧
  SqL K H a3 (n3.map V.int) ∧ Ql29Neutral.pokes 65536 n3 = true ∧ n3.length ≤ 40000 ∧ SqL K H a4 (n4.map V.int) ∧ Ql29Neutral.pokes 65536 n4 = true ∧ n4.length ≤ 40000 ∧
  SqL K H a5 (n5.map V.int) ∧ (∀ x ∈ n5, 0 ≤ x ∧ x ≤ 65919) ∧ n5.length ≤ 40000 ∧ (∀ b, H b = none ∨ ∃ o u, H b = some (.frz o u)) ∧
  ∀ H' p, H' p = some (.lst ((PyQl29.c51_run stp pc n1 n2 n3 n4 n5).map V.int)) → Q (.ref p) H'
def timesV (n : Nat) : List V := (List.range n).map fun k => V.int (Cm.timeOf k : Int)
theorem times_at {n k : Nat} (h : k < n) : (timesV n)[k]? = some (.int (Cm.timeOf k : Int)) := by
  unfold timesV
  rw [List.getElem?_map, List.getElem?_range h]
  rfl
theorem times_succ (n : Nat) : timesV (n + 1) = timesV n ++ [.int (Cm.timeOf n : Int)] := by
  unfold timesV
  rw [List.range_succ, List.map_append]
  rfl
theorem times_len (n : Nat) : (timesV n).length = n := by
  unfold timesV
  rw [List.length_map, List.length_range]
theorem ifNe {i z : Int} (x y : Nat) {A B : Prop} (ei : i = (x : Int)) (ez : z = (y : Int)) (h1 : x ≠ y → A) (h2 : x = y → B) : if (!decide (V.int i = V.int z)) = true then A else B := by
  subst ei
  rw [ne_of_int y ez]
  by_cases e : x = y
  · rw [if_neg (by simp [e])]
    exact h2 e
  · rw [if_pos (by simp [e])]
    exact h1 e
theorem ok_c51_run {ff : Addr} {fd : FuncData} (F : Fun K "c51_run" "c51_run" s_c51_run ff fd) (T : Txt K C) (mk : PySem.W.makesIn K C = true) (kC : PySem.W.keepIn K (.ref C) = true) (gC : mg "Chip" = some (.ref C)) (gi : InitOk P w K mg base C) (iN : IntG mg "NONE" 165) (iM : IntG mg "MOST_STEPS" 1000000) (mr : mg "range" = none)
    (m1 : MOk P w K mg base C "fetch" 1 ["self"] (spFetch C)) (g1 : GOk P w K mg base "do_instruction" 6 ["chip", "first"] (spDo C)) (g2 : GOk P w K mg base "time_of" 1 ["first"] spTime) (g3 : GOk P w K mg base "looked" 2 ["chip", "looks"] (spLooked K C)) :
    FnOk P w K mg base CX0 7 ff fd ["steps", "pc", "ram", "sfr", "code", "ext", "looks"] (spRun K) := by
  obtain ⟨fi, fdi, hi1, hi2, GI, bI⟩ := gi.ex
  refine F.ok sc_c51_run (fun vs H Q E h => ?_) fun cdv A outer s H vs Q E hr h => ⟨_,
    pss_cons (ps_if (pt_cmpR op_gt (pv 0) (pe_n iM) (nomark _)) (pss_one (ps_ret (pe_lst (pa_cons (pe_un un_neg pe_int) pa_nil)))) pss_nil)
    (pss_cons (ps_set (i := 7) sc_c51_run.nd rfl (Or.inl rfl) (pe_make ⟨mk, hi1, hi2, kC⟩ GI (hr.mono (by decide)) rfl gC bI .nil pass0 (pa_cons (pv 1) (pa_cons (pv 2) (pa_cons (pv 3) (pa_cons (pv 4) (pa_cons (pv 5) pa_nil)))))))
    (pss_cons (ps_setLc (i := 9) (own := [("first", 8)]) (g := gName 8) (tt := tYes) rfl sc_c51_run.nd rfl rfl (sw_true rfl rfl rfl (by decide +kernel)) (pi_range1 rfl mr (pa_cons pe_int pa_nil)) (blkOk_by (own := [("first", 8)]) (N := ["steps", "pc", "ram", "sfr", "code", "ext", "looks", "chip", "first", "times", "count", "time"]) (sc := defScope s_c51_run) (by decide +kernel)) (fun _ _ _ _ _ => pg_name (i := 8) sc_c51_run.nd rfl (Or.inl rfl)) (fun _ _ _ _ _ => pts_nil)
        (fun _ _ _ _ _ => pe_g g2 hr (pa_cons (pv 8) pa_nil)))
    (pss_cons (ps_set (i := 10) sc_c51_run.nd rfl (Or.inl rfl) pe_int)
    (pss_cons (ps_set (i := 11) sc_c51_run.nd rfl (Or.inl rfl) pe_int)
    (pss_cons (ps_while PassesOwn.never (PW.pt (pw_and (pt_cmpR op_lt (pv 10) (pv 0) (nomark _)) (pw_and1 (pt_cmpR op_ne (pe_dget2 (hu_of hr) (pe_fld (pv 7) rfl) (pe_fld (pv 7) rfl) pe_int ⟨rfl, rfl, rfl, rfl⟩) (pe_n iN) (nomark _)))))
        (pss_cons (ps_set (i := 8) sc_c51_run.nd rfl (Or.inl rfl) (pe_m0 m1 T.cl hr (pv 7)))
        (pss_cons (ps_expr (pe_g g1 hr (pa_cons (pv 7) (pa_cons (pv 8) pa_nil))))
        (pss_cons (ps_set (i := 10) sc_c51_run.nd rfl (Or.inl rfl) (pe_op op_add (pv 10) pe_int))
        (pss_one (ps_set (i := 11) sc_c51_run.nd rfl (Or.inl rfl) (pe_op op_add (pv 11) (pe_ix ix_list (pv 9) (pv 8) (fun _ _ => rfl)))))))))
    (pss_one (ps_ret (pe_op op_cat (pe_lst (pa_cons (pv 10) (pa_cons (pv 11) pa_nil))) (pe_g g3 hr (pa_cons (pv 7) (pa_cons (pv 6) pa_nil))))))))))), ?_⟩
  · obtain ⟨stp, pc, a1, a2, a3, a4, a5, n1, n2, n3, n4, n5, rfl, _⟩ := h
    rfl
  · obtain ⟨stp, pc, a1, a2, a3, a4, a5, n1, n2, n3, n4, n5, rfl, hs0, hpc0, hpc1, q1, p1, l1, q2, p2, l2, q3, p3, l3, q4, p4, l4, q5, p5, l5, hO, q⟩ := h
    have sz : sizeLine = 16777216 := by decide
    refine ⟨_, rfl, _, _, rfl, rfl, _, rfl, iteD (fun e => ?_) fun hbig => ?_⟩
    · refine ⟨_, rfl, by show 1 ≤ sizeLine; decide, fun p hp => q _ p ?_⟩
      rw [upd_same, Cm.py_run_big e]
      rfl
    refine ⟨_, rfl, _, rfl, _, rfl, _, rfl, _, rfl, fun x dx nx nd ne => ?_⟩
    have k0 : ∀ b o, H b = some o → upd (upd H dx (.own x)) x (.ins C dx []) b = some o := fun b o e => by
      rw [upd_ne (ne_of_none e nx), upd_ne (ne_of_none e nd)]
      exact e
    have s0 : Same H (upd (upd H dx (.own x)) x (.ins C dx [])) := k0
    refine ⟨x, dx, pc.toNat, a1, a2, a3, a4, n1, n2, n3, n4, by rw [show ((pc.toNat : Nat) : Int) = pc by omega]; rfl, upd_same, by omega, s0.seq q1, p1, l1, s0.seq q2, p2, l2, s0.seq q3, p3, l3, s0.seq q4, p4, l4, fun H1 L hL hC k1 => ⟨rfl, ?_⟩⟩
    subst hL
    have f1 : ∀ b o u, H b = some (.frz o u) → H1 b = some (.frz o u) := fun b o u e => k1 _ _ (k0 _ _ e) (ne_of_none e nx)
    have hC : ChipAt C L H1 (Cm.st0 pc n1 n2 n3 n4) := hC
    -- times
    refine ⟨256, rfl, by decide, by decide, fun tm htm => lc_range (lo := 0) (n := 256) (fun i H' => Same H1 H' ∧ H' tm = some (.lst (timesV i))) ⟨smNew htm, upd_same⟩ ?_ ?_⟩
    · rintro i H' hi ⟨s2, h2⟩
      refine ⟨rfl, ?_⟩
      refine ⟨_, rfl, i, by rw [Int.zero_add]; rfl, hi, fun H4 s4 => ⟨timesV i, s4 _ _ h2, by rw [times_len]; omega, smMut (s2.trans s4) htm, ?_⟩⟩
      rw [upd_same, times_succ]
    rintro H2 ⟨s2, h2⟩
    have hC2 := hC.kept s2
    have f2 : ∀ b o u, H b = some (.frz o u) → H2 b = some (.frz o u) := fun b o u e => s2 _ _ (f1 _ _ _ e)
    obtain ⟨kx, hx, _⟩ := hC.ext
    have t1 : tm ≠ L.c := fun e => by rw [e, hC.obj] at htm; cases htm
    have t2 : tm ≠ L.r := fun e => by rw [e, hC.ram] at htm; cases htm
    have t3 : tm ≠ L.s := fun e => by rw [e, hC.sp] at htm; cases htm
    have t4 : tm ≠ L.ex := fun e => by rw [e, hx] at htm; cases htm
    refine ⟨fun mm σ' H' => ∃ (c t : Nat) (u : Ql29.St) (v : Option V), σ' = [some (.int stp), some (.int pc), some (.ref a1), some (.ref a2), some (.ref a3), some (.ref a4), some (.ref a5), some (.ref L.c), v, some (.ref tm), some (.int (c : Int)), some (.int (t : Int))] ∧
      mm = stp.toNat - c ∧ Cm.Ran (Cm.st0 pc n1 n2 n3 n4) stp.toNat c t u ∧ ChipAt C L H' u ∧ Ext L H2 H', ⟨_, 0, 0, _, none, rfl, rfl, Cm.ran0 _ _, hC2, Ext.refl _⟩, ?_⟩
    rintro mm σ' H3 ⟨c, t, u, v, rfl, hm, hR, hC3, e3⟩
    have h3 : H3 tm = some (.lst (timesV 256)) := e3 _ _ h2 t1 t2 t3 t4
    -- behind the loop
    have fin : ¬ (c < stp.toNat ∧ Cm.fv u ≠ 165) → tRet (tOp rCat (tLst (tCons (tVar 10) (tCons (tVar 11) tNil))) (tCall (spLooked K C) [] E0 (tCons (tVar 7) (tCons (tVar 6) tNil)))) { nx := fun _ H' => Q .non H', rt := Q }
        [some (.int stp), some (.int pc), some (.ref a1), some (.ref a2), some (.ref a3), some (.ref a4), some (.ref a5), some (.ref L.c), v, some (.ref tm), some (.int (c : Int)), some (.int (t : Int))] H3 := by
      intro hstop
      have hD := hR.done hstop
      have f3 : ∀ b o u, H b = some (.frz o u) → H3 b = some (.frz o u) := fun b o u e => e3.frz hC2 (f2 _ _ _ e)
      refine ⟨_, rfl, _, rfl, by show 2 ≤ sizeLine; decide, fun l hl => ?_⟩
      have s4 : Same H3 (upd H3 l (.lst [.int (c : Int), .int (t : Int)])) := smNew hl
      refine ⟨_, rfl, _, rfl, L, u, a5, n5, rfl, hC3.new hl, s4.seq (frz_seq (x := l) hO f3 q5), p5, l5, fun H5 D s5 fD hDD => ?_⟩
      refine ⟨l, D, _, _, rfl, rfl, s5 _ _ upd_same, hDD, ?_, fun p hp => q _ p ?_⟩
      · simp only [List.length_cons, List.length_map, List.length_nil]
        omega
      · rw [upd_same, Cm.py_run hbig p5 hD hC3.wf]
        simp only [List.map_cons, List.map_map]
        rfl
    obtain ⟨kvs, hk, d⟩ := hC3.code
    refine ⟨_, rfl, _, rfl, _, _, rfl, rfl, _, rfl, iteD (fun e => ?_) fun e => ?_⟩
    · refine ⟨_, rfl, L.c, C, L.dx, _, _, rfl, hC3.obj, T.cl, T.nC, lk_code _ _, L.cd, rfl, .inl ⟨_, .inl hk⟩, _, rfl, L.c, C, L.dx, _, _, rfl, hC3.obj, T.cl, T.nP, lk_pc _ _, _, DGet.k (k := Sum.inl (u.pc : Int)) hk, ?_⟩
      rw [d.val _ hC3.wf.pc, fv_at hC3.wf]
      refine ⟨rfl, _, rfl, ifNe (Cm.fv u) 165 rfl rfl (fun hf => ?_) fun hf => ?_⟩
      · have hc : c < stp.toNat := by omega
        refine ⟨fun σ' H' => ∃ m', m' < mm ∧ ∃ (c t : Nat) (u : Ql29.St) (v : Option V), σ' = [some (.int stp), some (.int pc), some (.ref a1), some (.ref a2), some (.ref a3), some (.ref a4), some (.ref a5), some (.ref L.c), v, some (.ref tm), some (.int (c : Int)), some (.int (t : Int))] ∧
          m' = stp.toNat - c ∧ Cm.Ran (Cm.st0 pc n1 n2 n3 n4) stp.toNat c t u ∧ ChipAt C L H' u ∧ Ext L H2 H', fun σ' H' z => z, ?_⟩
        refine ⟨_, rfl, L.c, L.dx, _, rfl, hC3.obj, nf_fetch.lk _ _, L, _, _, _, _, rfl, hC3, ⟨rfl, rfl, rfl⟩, fun H4 hC4 e4 => ⟨_, rfl, _, rfl, L, _, _, _, _, rfl, hC4, ⟨_, rfl, fv_lt u, rfl, rfl⟩, fun H5 hC5 e5 => ?_⟩⟩
        have h5 : H5 tm = some (.lst (timesV 256)) := e5 _ _ (e4 _ _ h3 t1 t2 t3 t4) t1 t2 t3 t4
        refine ⟨_, rfl, _, _, rfl, rfl, _, rfl, _, rfl, _, rfl, tm, _, _, _, rfl, rfl, SqL.of h5, at_of rfl (times_at (fv_lt u)), _, _, rfl, rfl, ?_⟩
        exact ⟨stp.toNat - (c + 1), by omega, c + 1, t + Cm.timeOf (Cm.fv u), _, some (.int (Cm.fv u : Int)), rfl, rfl, hR.next hC3.wf hf hc, hC5, (e3.trans e4).trans e5⟩
      · exact fin fun z => z.2 hf
    · exact iteF (fin fun z => e (by omega))

/-! ### the end: what the top has written -/
theorem mat {nm qual : Str} {st : Stmt} {f : Addr} {oc : Value} {od an : Option Addr} {osl : Array (Option Value)} {kV doc pm cdv ct : Value} (a : PySem.W.findIn K (.ref C) nm = some (some (.ref f))) (i : PySem.W.isFn K (.ref f) = true)
    (l : K.lookup f = some ⟨oc, od, .func (PySem.W.fnOf nm qual (defArgs st) (defBody st) (defScope st) .none kV doc pm an cdv ct), osl⟩) (c : PySem.W.codeIn K cdv qual = true) (k : PySem.W.keepIn K (.ref f) = true) : MAt K C nm qual st := ⟨f, _, ⟨a, i, k⟩, fun_mk l c k⟩
theorem gat {h : Heap} {nm : Str} {st : Stmt} {f : Addr} {oc : Value} {od an : Option Addr} {osl : Array (Option Value)} {kV doc pm cdv ct : Value} (X : K.In h) (G : h.Ns mainGlobals mg) (a : PySem.W.nsIn K mainGlobals nm = some (some (.ref f)))
    (l : K.lookup f = some ⟨oc, od, .func (PySem.W.fnOf nm nm (defArgs st) (defBody st) (defScope st) .none kV doc pm an cdv ct), osl⟩) (c : PySem.W.codeIn K cdv nm = true) (k : PySem.W.keepIn K (.ref f) = true) : GAt K mg nm st := ⟨f, _, PySem.W.mg_of X G a, fun_mk l c k⟩
theorem iat {h : Heap} {nm : Str} {n : Int} {t : Tok} (X : K.In h) (G : h.Ns mainGlobals mg) (a : PySem.W.nsIn K mainGlobals nm = some (some (.int n t))) : IntG mg nm n := ⟨t, PySem.W.mg_of X G a⟩
theorem init_at {qual : Str} {st : Stmt} {f : Addr} {oc : Value} {od an : Option Addr} {osl : Array (Option Value)} {kV doc pm cdv ct : Value} (a : PySem.W.findIn K (.ref C) "__init__" = some (some (.ref f))) (i : PySem.W.isFn K (.ref f) = true)
    (l : K.lookup f = some ⟨oc, od, .func (PySem.W.fnOf "__init__" qual (defArgs st) (defBody st) (defScope st) .none kV doc pm an cdv ct), osl⟩) (c : PySem.W.codeIn K cdv qual = true) (k : PySem.W.keepIn K (.ref f) = true) :
    ∃ f fd, PySem.W.findIn K (.ref C) "__init__" = some (some (.ref f)) ∧ PySem.W.isFn K (.ref f) = true ∧ Fun K "__init__" qual st f fd := ⟨f, _, a, i, fun_mk l c k⟩

/-! ### the request -/
theorem req_int {K : PySem.W.Frag} {H : Hp} {v : V} {z : Int} (h : Dw K H v (.int z)) : v = .int z := by
  cases h
  rfl
theorem req_ints {K : PySem.W.Frag} {H : Hp} {v : V} {l : List Int} (h : Dw K H v (.list (l.map PySem.W.WData.int))) : ∃ a, v = .ref a ∧ SqL K H a (l.map V.int) := by
  cases h with
  | lst hs ha =>
    have e := ints_dw l _ ha
    subst e
    exact ⟨_, rfl, hs⟩
theorem req_len {n : Nat} {l : List Int} {p : Int → Bool} (h : (PySem.W.Codec.inLen 0 n l && l.all p) = true) : l.length ≤ n := by
  rw [Bool.and_eq_true] at h
  exact (PySem.W.Codec.inNat_iff.mp h.1).2
theorem req_at {lo hi x : Int} (h : PySem.W.Codec.inInt lo hi x = true) : lo ≤ x ∧ x ≤ hi := by
  unfold PySem.W.Codec.inInt at h
  simpa using h

theorem itab {d : Addr} {es : Array DictEntry} {n : Nat} {kvs : List (Int × Value)} (l : K.lookup d = some ⟨.type "dict", none, .dict es n, #[]⟩) (k : IKeys es.toList kvs) (nd : (kvs.map (·.1)).Nodup) (lo : (d == sysModules) = false) : ITab K d kvs := ⟨⟨es, n, l, k⟩, nd, lo⟩
theorem all_mk {h : Heap} {fa f9 dR dL f7 f8 f10 f11 f12 f13 f14 f15 : Addr} {oc : Value} {od an : Option Addr} {osl : Array (Option Value)} {kV doc pm cdv ct : Value} (X : K.In h) (G : h.Ns mainGlobals mg) (hfa : mg "c51_run" = some (.ref fa))
    (aC : PySem.W.nsIn K mainGlobals "Chip" = some (some (.ref C)))
    (pg : PySem.W.plainGet K C Str.empty = true)
    (hd : PySem.W.hasDictIn K C = true)
    (po : PySem.W.plainOver K C = true)
    (sa : PySem.W.findIn K (.ref C) "__setattr__" = some (some (.builtin "object.__setattr__")))
    (mk : PySem.W.makesIn K C = true)
    (kc : PySem.W.keepIn K (.ref C) = true)
    (nP : PySem.W.findIn K (.ref C) "pc" = some none)
    (nR : PySem.W.findIn K (.ref C) "ram" = some none)
    (nS : PySem.W.findIn K (.ref C) "special" = some none)
    (nC : PySem.W.findIn K (.ref C) "code" = some none)
    (nE : PySem.W.findIn K (.ref C) "ext" = some none)
    (mr : PySem.W.nsIn K mainGlobals "range" = some none)
    (ml : PySem.W.nsIn K mainGlobals "len" = some none)
    (i_SP : IntG mg "SP" 129)
    (i_DPL : IntG mg "DPL" 130)
    (i_DPH : IntG mg "DPH" 131)
    (i_P2 : IntG mg "P2" 160)
    (i_B : IntG mg "B" 240)
    (i_CARRY : IntG mg "CARRY" 7)
    (i_HALF_CARRY : IntG mg "HALF_CARRY" 6)
    (i_OVERFLOW : IntG mg "OVERFLOW" 2)
    (i_NONE : IntG mg "NONE" 165)
    (i_MOST_STEPS : IntG mg "MOST_STEPS" 1000000)
    (m0 : ∃ f fd, PySem.W.findIn K (.ref C) "__init__" = some (some (.ref f)) ∧ PySem.W.isFn K (.ref f) = true ∧ Fun K "__init__" "Chip.__init__" s___init__ f fd)
    (m_get : MAt K C "get" "Chip.get" s_get)
    (m_put : MAt K C "put" "Chip.put" s_put)
    (m_push : MAt K C "push" "Chip.push" s_push)
    (m_push_pc : MAt K C "push_pc" "Chip.push_pc" s_push_pc)
    (m_look : MAt K C "look" "Chip.look" s_look)
    (m_get_a : MAt K C "get_a" "Chip.get_a" s_get_a)
    (m_put_a : MAt K C "put_a" "Chip.put_a" s_put_a)
    (m_pointer : MAt K C "pointer" "Chip.pointer" s_pointer)
    (m_fetch : MAt K C "fetch" "Chip.fetch" s_fetch)
    (m_register_place : MAt K C "register_place" "Chip.register_place" s_register_place)
    (m_bank_byte : MAt K C "bank_byte" "Chip.bank_byte" s_bank_byte)
    (m_operand_place : MAt K C "operand_place" "Chip.operand_place" s_operand_place)
    (m_get_place : MAt K C "get_place" "Chip.get_place" s_get_place)
    (m_put_place : MAt K C "put_place" "Chip.put_place" s_put_place)
    (m_bit_place : MAt K C "bit_place" "Chip.bit_place" s_bit_place)
    (m_get_bit : MAt K C "get_bit" "Chip.get_bit" s_get_bit)
    (m_put_bit : MAt K C "put_bit" "Chip.put_bit" s_put_bit)
    (m_get_flag : MAt K C "get_flag" "Chip.get_flag" s_get_flag)
    (m_put_flag : MAt K C "put_flag" "Chip.put_flag" s_put_flag)
    (m_set_parity : MAt K C "set_parity" "Chip.set_parity" s_set_parity)
    (m_pop : MAt K C "pop" "Chip.pop" s_pop)
    (m_pop_pc : MAt K C "pop_pc" "Chip.pop_pc" s_pop_pc)
    (m_jump_by : MAt K C "jump_by" "Chip.jump_by" s_jump_by)
    (m_jump_if : MAt K C "jump_if" "Chip.jump_if" s_jump_if)
    (a_poked : GAt K mg "poked" s_poked)
    (a_poked_dict : GAt K mg "poked_dict" s_poked_dict)
    (a_looked : GAt K mg "looked" s_looked)
    (a_joined : GAt K mg "joined" s_joined)
    (a_new_bit : GAt K mg "new_bit" s_new_bit)
    (a_operand : GAt K mg "operand" s_operand)
    (a_count_by : GAt K mg "count_by" s_count_by)
    (a_add : GAt K mg "add" s_add)
    (a_subtract : GAt K mg "subtract" s_subtract)
    (a_multiply : GAt K mg "multiply" s_multiply)
    (a_divide : GAt K mg "divide" s_divide)
    (a_adjust : GAt K mg "adjust" s_adjust)
    (a_join_or_add : GAt K mg "join_or_add" s_join_or_add)
    (a_move_row_7 : GAt K mg "move_row_7" s_move_row_7)
    (a_move_row_8 : GAt K mg "move_row_8" s_move_row_8)
    (a_move_row_10 : GAt K mg "move_row_10" s_move_row_10)
    (a_compare : GAt K mg "compare" s_compare)
    (a_exchange : GAt K mg "exchange" s_exchange)
    (a_count_row_13 : GAt K mg "count_row_13" s_count_row_13)
    (a_move_row_14 : GAt K mg "move_row_14" s_move_row_14)
    (a_move_row_15 : GAt K mg "move_row_15" s_move_row_15)
    (a_page_jump : GAt K mg "page_jump" s_page_jump)
    (a_bit_jump : GAt K mg "bit_jump" s_bit_jump)
    (a_carry_with_bit : GAt K mg "carry_with_bit" s_carry_with_bit)
    (a_move_outside : GAt K mg "move_outside" s_move_outside)
    (a_turn : GAt K mg "turn" s_turn)
    (a_column_0 : GAt K mg "column_0" s_column_0)
    (a_column_2 : GAt K mg "column_2" s_column_2)
    (a_column_3 : GAt K mg "column_3" s_column_3)
    (a_do_instruction : GAt K mg "do_instruction" s_do_instruction)
    (a_time_of : GAt K mg "time_of" s_time_of)
    (n_move_row_7 : PySem.W.nsIn K mainGlobals "move_row_7" = some (some (.ref f7)))
    (n_move_row_8 : PySem.W.nsIn K mainGlobals "move_row_8" = some (some (.ref f8)))
    (n_move_row_10 : PySem.W.nsIn K mainGlobals "move_row_10" = some (some (.ref f10)))
    (n_compare : PySem.W.nsIn K mainGlobals "compare" = some (some (.ref f11)))
    (n_exchange : PySem.W.nsIn K mainGlobals "exchange" = some (some (.ref f12)))
    (n_count_row_13 : PySem.W.nsIn K mainGlobals "count_row_13" = some (some (.ref f13)))
    (n_move_row_14 : PySem.W.nsIn K mainGlobals "move_row_14" = some (some (.ref f14)))
    (n_move_row_15 : PySem.W.nsIn K mainGlobals "move_row_15" = some (some (.ref f15)))
    (nR1 : PySem.W.nsIn K mainGlobals "ROWS" = some (some (.ref dR)))
    (nR2 : PySem.W.nsIn K mainGlobals "LAST_ROWS" = some (some (.ref dL)))
    (tab_ROWS : ITab K dR [(7, .ref f7), (8, .ref f8), (10, .ref f10), (11, .ref f11), (12, .ref f12)])
    (tab_LAST_ROWS : ITab K dL [(13, .ref f13), (14, .ref f14), (15, .ref f15)])
    (a9 : PySem.W.nsIn K mainGlobals "c51_run" = some (some (.ref f9)))
    (l9 : K.lookup f9 = some ⟨oc, od, .func (PySem.W.fnOf "c51_run" "c51_run" (defArgs s_c51_run) (defBody s_c51_run) (defScope s_c51_run) .none kV doc pm an cdv ct), osl⟩)
    (c9 : PySem.W.codeIn K cdv "c51_run" = true)
    (k9 : PySem.W.keepIn K (.ref f9) = true) :
    ∃ fd : FuncData, (∀ (s : Shared) (us : List Value), us.length = (["steps", "pc", "ram", "sfr", "code", "ext", "looks"] : List Str).length → BindsTo s fd ⟨us, []⟩ ((["steps", "pc", "ram", "sfr", "code", "ext", "looks"] : List Str).zip us)) ∧ ∀ base : Heap, K.In base → base.Ns mainGlobals mg → FnOk P w K mg base CX0 7 fa fd ["steps", "pc", "ram", "sfr", "code", "ext", "looks"] (spRun K) := by
  have e := hfa.symm.trans (PySem.W.mg_of X G a9)
  cases e
  have T : Txt K C := ⟨⟨pg, hd, po, sa⟩, nP, nR, nS, nC, nE⟩
  refine ⟨PySem.W.fnOf "c51_run" "c51_run" (defArgs s_c51_run) (defBody s_c51_run) (defScope s_c51_run) .none kV doc pm an cdv ct, fun s us hu => match us, hu with | [_, _, _, _, _, _, _], _ => .of_eq rfl, fun base _ _ => ?_⟩
  have hmr := PySem.W.mg_none_of X G mr
  have hml := PySem.W.mg_none_of X G ml
  have mt_ROWS := PySem.W.mg_of X G nR1
  have mt_LAST_ROWS := PySem.W.mg_of X G nR2
  have e_move_row_7 := PySem.W.mg_of X G n_move_row_7
  have e_move_row_8 := PySem.W.mg_of X G n_move_row_8
  have e_move_row_10 := PySem.W.mg_of X G n_move_row_10
  have e_compare := PySem.W.mg_of X G n_compare
  have e_exchange := PySem.W.mg_of X G n_exchange
  have e_count_row_13 := PySem.W.mg_of X G n_count_row_13
  have e_move_row_14 := PySem.W.mg_of X G n_move_row_14
  have e_move_row_15 := PySem.W.mg_of X G n_move_row_15
  have o_get : MOk P w K mg base C "get" 1 _ _ := ok_get m_get T
  have o_put : MOk P w K mg base C "put" 1 _ _ := ok_put m_put T
  have o_push : MOk P w K mg base C "push" 2 _ _ := ok_push m_push T i_SP o_get o_put
  have o_push_pc : MOk P w K mg base C "push_pc" 3 _ _ := ok_push_pc m_push_pc T o_push
  have o_look : MOk P w K mg base C "look" 1 _ _ := ok_look m_look T
  have o_get_a : MOk P w K mg base C "get_a" 1 _ _ := ok_get_a m_get_a T
  have o_put_a : MOk P w K mg base C "put_a" 1 _ _ := ok_put_a m_put_a T
  have o_pointer : MOk P w K mg base C "pointer" 2 _ _ := ok_pointer m_pointer T i_DPH i_DPL o_get
  have o_fetch : MOk P w K mg base C "fetch" 1 _ _ := ok_fetch m_fetch T
  have o_register_place : MOk P w K mg base C "register_place" 1 _ _ := ok_register_place m_register_place T
  have o_bank_byte : MOk P w K mg base C "bank_byte" 2 _ _ := ok_bank_byte m_bank_byte T o_register_place
  have o_operand_place : MOk P w K mg base C "operand_place" 3 _ _ := ok_operand_place m_operand_place T o_register_place o_bank_byte o_fetch
  have o_get_place : MOk P w K mg base C "get_place" 1 _ _ := ok_get_place m_get_place T
  have o_put_place : MOk P w K mg base C "put_place" 1 _ _ := ok_put_place m_put_place T
  have o_bit_place : MOk P w K mg base C "bit_place" 1 _ _ := ok_bit_place m_bit_place T
  have o_get_bit : MOk P w K mg base C "get_bit" 2 _ _ := ok_get_bit m_get_bit T o_bit_place o_get_place
  have o_put_bit : MOk P w K mg base C "put_bit" 2 _ _ := ok_put_bit m_put_bit T o_bit_place o_get_place o_put_place
  have o_get_flag : MOk P w K mg base C "get_flag" 1 _ _ := ok_get_flag m_get_flag T
  have o_put_flag : MOk P w K mg base C "put_flag" 1 _ _ := ok_put_flag m_put_flag T
  have o_set_parity : MOk P w K mg base C "set_parity" 1 _ _ := ok_set_parity m_set_parity T
  have o_pop : MOk P w K mg base C "pop" 2 _ _ := ok_pop m_pop T i_SP o_get o_put
  have o_pop_pc : MOk P w K mg base C "pop_pc" 3 _ _ := ok_pop_pc m_pop_pc T o_pop
  have o_jump_by : MOk P w K mg base C "jump_by" 1 _ _ := ok_jump_by m_jump_by T
  have o_jump_if : MOk P w K mg base C "jump_if" 2 _ _ := ok_jump_if m_jump_if T o_fetch o_jump_by
  have p_poked : GOk P w K mg base "poked" 1 _ _ := ok_poked a_poked hmr hml
  have p_poked_dict : GOk P w K mg base "poked_dict" 1 _ _ := ok_poked_dict a_poked_dict hmr hml
  have p_looked : GOk P w K mg base "looked" 2 _ _ := ok_looked a_looked T o_look
  have p_joined : GOk P w K mg base "joined" 1 _ _ := ok_joined a_joined
  have p_new_bit : GOk P w K mg base "new_bit" 1 _ _ := ok_new_bit a_new_bit
  have p_operand : GOk P w K mg base "operand" 4 _ _ := ok_operand a_operand T o_fetch o_operand_place o_get_place
  have p_count_by : GOk P w K mg base "count_by" 4 _ _ := ok_count_by a_count_by T o_get_a o_put_a o_operand_place o_get_place o_put_place
  have p_add : GOk P w K mg base "add" 2 _ _ := ok_add a_add T i_CARRY i_HALF_CARRY i_OVERFLOW o_get_a o_put_a o_put_flag
  have p_subtract : GOk P w K mg base "subtract" 2 _ _ := ok_subtract a_subtract T i_CARRY i_HALF_CARRY i_OVERFLOW o_get_a o_put_a o_put_flag o_get_flag
  have p_multiply : GOk P w K mg base "multiply" 2 _ _ := ok_multiply a_multiply T i_B i_CARRY i_OVERFLOW o_get_a o_put_a o_put_flag o_get o_put
  have p_divide : GOk P w K mg base "divide" 2 _ _ := ok_divide a_divide T i_B i_CARRY i_OVERFLOW o_get_a o_put_a o_put_flag o_get o_put
  have p_adjust : GOk P w K mg base "adjust" 2 _ _ := ok_adjust a_adjust T i_CARRY i_HALF_CARRY o_get_a o_put_a o_put_flag o_get_flag
  have p_join_or_add : GOk P w K mg base "join_or_add" 5 _ _ := ok_join_or_add a_join_or_add T p_operand p_add o_get_flag i_CARRY p_subtract o_put_a p_joined o_get_a
  have p_move_row_7 : GOk P w K mg base "move_row_7" 4 _ _ := ok_move_row_7 a_move_row_7 T o_put_a o_fetch o_operand_place o_put_place
  have p_move_row_8 : GOk P w K mg base "move_row_8" 4 _ _ := ok_move_row_8 a_move_row_8 T p_divide o_get_place o_operand_place o_put_place o_fetch
  have p_move_row_10 : GOk P w K mg base "move_row_10" 4 _ _ := ok_move_row_10 a_move_row_10 T p_multiply o_operand_place o_put_place o_get_place o_fetch
  have p_compare : GOk P w K mg base "compare" 4 _ _ := ok_compare a_compare T o_get_a o_fetch o_get_place o_operand_place o_jump_if o_put_flag i_CARRY
  have p_exchange : GOk P w K mg base "exchange" 4 _ _ := ok_exchange a_exchange T o_get_a o_put_a o_operand_place o_get_place o_put_place
  have p_count_row_13 : GOk P w K mg base "count_row_13" 4 _ _ := ok_count_row_13 a_count_row_13 T p_adjust o_operand_place o_get_place o_get_a o_put_place o_put_a o_jump_if
  have p_move_row_14 : GOk P w K mg base "move_row_14" 4 _ _ := ok_move_row_14 a_move_row_14 T o_put_a o_get_place o_operand_place
  have p_move_row_15 : GOk P w K mg base "move_row_15" 4 _ _ := ok_move_row_15 a_move_row_15 T o_put_a o_get_a o_put_place o_operand_place
  have p_page_jump : GOk P w K mg base "page_jump" 4 _ _ := ok_page_jump a_page_jump T o_fetch o_push_pc
  have p_bit_jump : GOk P w K mg base "bit_jump" 3 _ _ := ok_bit_jump a_bit_jump T o_fetch o_get_bit o_put_bit o_jump_if
  have p_carry_with_bit : GOk P w K mg base "carry_with_bit" 3 _ _ := ok_carry_with_bit a_carry_with_bit T o_get_bit o_fetch o_get_flag i_CARRY o_put_flag
  have p_move_outside : GOk P w K mg base "move_outside" 3 _ _ := ok_move_outside a_move_outside T o_get i_P2 o_bank_byte o_put_a o_get_a
  have p_turn : GOk P w K mg base "turn" 2 _ _ := ok_turn a_turn T o_get_a o_get_flag i_CARRY o_put_a o_put_flag
  have p_column_0 : GOk P w K mg base "column_0" 4 _ _ := ok_column_0 a_column_0 T p_bit_jump o_jump_if o_get_flag i_CARRY o_get_a o_jump_by o_fetch o_put i_DPL i_DPH p_carry_with_bit o_push o_get_place o_put_place o_pop o_put_a o_pointer
  have p_column_2 : GOk P w K mg base "column_2" 4 _ _ := ok_column_2 a_column_2 T o_fetch o_push_pc o_pop_pc o_put_place p_joined o_get_place o_get_a p_carry_with_bit o_put_bit o_get_flag i_CARRY o_put_flag o_get_bit p_new_bit p_move_outside
  have p_column_3 : GOk P w K mg base "column_3" 4 _ _ := ok_column_3 a_column_3 T p_turn o_fetch o_put_place p_joined o_get_place o_pointer o_get_a o_put_a o_put i_DPL i_DPH o_put_flag i_CARRY p_new_bit o_get_flag p_move_outside
  have p_do_instruction : GOk P w K mg base "do_instruction" 6 _ _ := ok_do_instruction a_do_instruction T p_column_0 p_page_jump p_column_2 p_column_3 p_count_by p_join_or_add o_set_parity mt_ROWS mt_LAST_ROWS tab_ROWS tab_LAST_ROWS (held p_move_row_7 e_move_row_7) (held p_move_row_8 e_move_row_8) (held p_move_row_10 e_move_row_10) (held p_compare e_compare) (held p_exchange e_exchange) (held p_count_row_13 e_count_row_13) (held p_move_row_14 e_move_row_14) (held p_move_row_15 e_move_row_15)
  have p_time_of : GOk P w K mg base "time_of" 1 _ _ := ok_time_of a_time_of
  exact ok_c51_run (fun_mk l9 c9 k9) T mk kc (PySem.W.mg_of X G aC) ⟨ok_init m0 T p_poked p_poked_dict⟩ i_NONE i_MOST_STEPS hmr o_fetch p_do_instruction p_time_of p_looked

end
end Cw

open PySem PySem.W PyProof.Rows
set_option maxRecDepth 100000 in
set_option maxHeartbeats 16000000 in
theorem PySem.Challenge.cw_smallchip_s02_c51_run_holds : PySem.Challenge.rw_smallchip_s02_c51_run.Holds := by
  w_on; k_headS; (case hw => exact ⟨[.int 0, .int 0, .list [], .list [], .list [], .list [], .list []], by decide +kernel, by decide +kernel⟩)
  k_fillS
  refine L2.walk_specK (r := PySem.Challenge.rw_smallchip_s02_c51_run) (k := 7) (CX := L2.CX0) (ps := ["steps", "pc", "ram", "sfr", "code", "ext", "looks"]) (sp := Cw.spRun) (by decide +kernel) rfl rfl ⟨rfl, by decide, by decide⟩ (fun w h Y => PySem.W.kIn_of Y) ?F ?S (fun _ _ _ _ z => z)
  case F =>
    intro w mg fa h Y KX G hmg
    refine' Cw.all_mk KX G hmg ?aC ?pg ?hd ?po ?sa ?mk ?kc ?nP ?nR ?nS ?nC ?nE ?mr ?ml ?i_SP ?i_DPL ?i_DPH ?i_P2 ?i_B ?i_CARRY ?i_HALF_CARRY ?i_OVERFLOW ?i_NONE ?i_MOST_STEPS ?m0 ?m_get ?m_put ?m_push ?m_push_pc ?m_look ?m_get_a ?m_put_a ?m_pointer ?m_fetch ?m_register_place ?m_bank_byte ?m_operand_place ?m_get_place ?m_put_place ?m_bit_place ?m_get_bit ?m_put_bit ?m_get_flag ?m_put_flag ?m_set_parity ?m_pop ?m_pop_pc ?m_jump_by ?m_jump_if ?a_poked ?a_poked_dict ?a_looked ?a_joined ?a_new_bit ?a_operand ?a_count_by ?a_add ?a_subtract ?a_multiply ?a_divide ?a_adjust ?a_join_or_add ?a_move_row_7 ?a_move_row_8 ?a_move_row_10 ?a_compare ?a_exchange ?a_count_row_13 ?a_move_row_14 ?a_move_row_15 ?a_page_jump ?a_bit_jump ?a_carry_with_bit ?a_move_outside ?a_turn ?a_column_0 ?a_column_2 ?a_column_3 ?a_do_instruction ?a_time_of ?n_move_row_7 ?n_move_row_8 ?n_move_row_10 ?n_compare ?n_exchange ?n_count_row_13 ?n_move_row_14 ?n_move_row_15 ?nR1 ?nR2 ?tab_ROWS ?tab_LAST_ROWS ?a9 ?l9 ?c9 ?k9
    (case aC => k_is)
    (case pg => k_is)
    (case hd => k_is)
    (case po => k_is)
    (case sa => k_is)
    (case mk => k_is)
    (case kc => k_is)
    (case nP => k_is)
    (case nR => k_is)
    (case nS => k_is)
    (case nC => k_is)
    (case nE => k_is)
    (case mr => k_is)
    (case ml => k_is)
    (case i_SP => (refine' Cw.iat KX G ?a; (case a => k_is)))
    (case i_DPL => (refine' Cw.iat KX G ?a; (case a => k_is)))
    (case i_DPH => (refine' Cw.iat KX G ?a; (case a => k_is)))
    (case i_P2 => (refine' Cw.iat KX G ?a; (case a => k_is)))
    (case i_B => (refine' Cw.iat KX G ?a; (case a => k_is)))
    (case i_CARRY => (refine' Cw.iat KX G ?a; (case a => k_is)))
    (case i_HALF_CARRY => (refine' Cw.iat KX G ?a; (case a => k_is)))
    (case i_OVERFLOW => (refine' Cw.iat KX G ?a; (case a => k_is)))
    (case i_NONE => (refine' Cw.iat KX G ?a; (case a => k_is)))
    (case i_MOST_STEPS => (refine' Cw.iat KX G ?a; (case a => k_is)))
    (case m0 => (refine' Cw.init_at ?a ?i ?l ?c ?k; (case a => k_is); (case i => k_is); (case l => k_is); (case c => k_is); (case k => k_is)))
    (case m_get => (refine' Cw.mat ?a ?i ?l ?c ?k; (case a => k_is); (case i => k_is); (case l => k_is); (case c => k_is); (case k => k_is)))
    (case m_put => (refine' Cw.mat ?a ?i ?l ?c ?k; (case a => k_is); (case i => k_is); (case l => k_is); (case c => k_is); (case k => k_is)))
    (case m_push => (refine' Cw.mat ?a ?i ?l ?c ?k; (case a => k_is); (case i => k_is); (case l => k_is); (case c => k_is); (case k => k_is)))
    (case m_push_pc => (refine' Cw.mat ?a ?i ?l ?c ?k; (case a => k_is); (case i => k_is); (case l => k_is); (case c => k_is); (case k => k_is)))
    (case m_look => (refine' Cw.mat ?a ?i ?l ?c ?k; (case a => k_is); (case i => k_is); (case l => k_is); (case c => k_is); (case k => k_is)))
    (case m_get_a => (refine' Cw.mat ?a ?i ?l ?c ?k; (case a => k_is); (case i => k_is); (case l => k_is); (case c => k_is); (case k => k_is)))
    (case m_put_a => (refine' Cw.mat ?a ?i ?l ?c ?k; (case a => k_is); (case i => k_is); (case l => k_is); (case c => k_is); (case k => k_is)))
    (case m_pointer => (refine' Cw.mat ?a ?i ?l ?c ?k; (case a => k_is); (case i => k_is); (case l => k_is); (case c => k_is); (case k => k_is)))
    (case m_fetch => (refine' Cw.mat ?a ?i ?l ?c ?k; (case a => k_is); (case i => k_is); (case l => k_is); (case c => k_is); (case k => k_is)))
    (case m_register_place => (refine' Cw.mat ?a ?i ?l ?c ?k; (case a => k_is); (case i => k_is); (case l => k_is); (case c => k_is); (case k => k_is)))
    (case m_bank_byte => (refine' Cw.mat ?a ?i ?l ?c ?k; (case a => k_is); (case i => k_is); (case l => k_is); (case c => k_is); (case k => k_is)))
    (case m_operand_place => (refine' Cw.mat ?a ?i ?l ?c ?k; (case a => k_is); (case i => k_is); (case l => k_is); (case c => k_is); (case k => k_is)))
    (case m_get_place => (refine' Cw.mat ?a ?i ?l ?c ?k; (case a => k_is); (case i => k_is); (case l => k_is); (case c => k_is); (case k => k_is)))
    (case m_put_place => (refine' Cw.mat ?a ?i ?l ?c ?k; (case a => k_is); (case i => k_is); (case l => k_is); (case c => k_is); (case k => k_is)))
    (case m_bit_place => (refine' Cw.mat ?a ?i ?l ?c ?k; (case a => k_is); (case i => k_is); (case l => k_is); (case c => k_is); (case k => k_is)))
    (case m_get_bit => (refine' Cw.mat ?a ?i ?l ?c ?k; (case a => k_is); (case i => k_is); (case l => k_is); (case c => k_is); (case k => k_is)))
    (case m_put_bit => (refine' Cw.mat ?a ?i ?l ?c ?k; (case a => k_is); (case i => k_is); (case l => k_is); (case c => k_is); (case k => k_is)))
    (case m_get_flag => (refine' Cw.mat ?a ?i ?l ?c ?k; (case a => k_is); (case i => k_is); (case l => k_is); (case c => k_is); (case k => k_is)))
    (case m_put_flag => (refine' Cw.mat ?a ?i ?l ?c ?k; (case a => k_is); (case i => k_is); (case l => k_is); (case c => k_is); (case k => k_is)))
    (case m_set_parity => (refine' Cw.mat ?a ?i ?l ?c ?k; (case a => k_is); (case i => k_is); (case l => k_is); (case c => k_is); (case k => k_is)))
    (case m_pop => (refine' Cw.mat ?a ?i ?l ?c ?k; (case a => k_is); (case i => k_is); (case l => k_is); (case c => k_is); (case k => k_is)))
    (case m_pop_pc => (refine' Cw.mat ?a ?i ?l ?c ?k; (case a => k_is); (case i => k_is); (case l => k_is); (case c => k_is); (case k => k_is)))
    (case m_jump_by => (refine' Cw.mat ?a ?i ?l ?c ?k; (case a => k_is); (case i => k_is); (case l => k_is); (case c => k_is); (case k => k_is)))
    (case m_jump_if => (refine' Cw.mat ?a ?i ?l ?c ?k; (case a => k_is); (case i => k_is); (case l => k_is); (case c => k_is); (case k => k_is)))
    (case a_poked => (refine' Cw.gat KX G ?a ?l ?c ?k; (case a => k_is); (case l => k_is); (case c => k_is); (case k => k_is)))
    (case a_poked_dict => (refine' Cw.gat KX G ?a ?l ?c ?k; (case a => k_is); (case l => k_is); (case c => k_is); (case k => k_is)))
    (case a_looked => (refine' Cw.gat KX G ?a ?l ?c ?k; (case a => k_is); (case l => k_is); (case c => k_is); (case k => k_is)))
    (case a_joined => (refine' Cw.gat KX G ?a ?l ?c ?k; (case a => k_is); (case l => k_is); (case c => k_is); (case k => k_is)))
    (case a_new_bit => (refine' Cw.gat KX G ?a ?l ?c ?k; (case a => k_is); (case l => k_is); (case c => k_is); (case k => k_is)))
    (case a_operand => (refine' Cw.gat KX G ?a ?l ?c ?k; (case a => k_is); (case l => k_is); (case c => k_is); (case k => k_is)))
    (case a_count_by => (refine' Cw.gat KX G ?a ?l ?c ?k; (case a => k_is); (case l => k_is); (case c => k_is); (case k => k_is)))
    (case a_add => (refine' Cw.gat KX G ?a ?l ?c ?k; (case a => k_is); (case l => k_is); (case c => k_is); (case k => k_is)))
    (case a_subtract => (refine' Cw.gat KX G ?a ?l ?c ?k; (case a => k_is); (case l => k_is); (case c => k_is); (case k => k_is)))
    (case a_multiply => (refine' Cw.gat KX G ?a ?l ?c ?k; (case a => k_is); (case l => k_is); (case c => k_is); (case k => k_is)))
    (case a_divide => (refine' Cw.gat KX G ?a ?l ?c ?k; (case a => k_is); (case l => k_is); (case c => k_is); (case k => k_is)))
    (case a_adjust => (refine' Cw.gat KX G ?a ?l ?c ?k; (case a => k_is); (case l => k_is); (case c => k_is); (case k => k_is)))
    (case a_join_or_add => (refine' Cw.gat KX G ?a ?l ?c ?k; (case a => k_is); (case l => k_is); (case c => k_is); (case k => k_is)))
    (case a_move_row_7 => (refine' Cw.gat KX G ?a ?l ?c ?k; (case a => k_is); (case l => k_is); (case c => k_is); (case k => k_is)))
    (case a_move_row_8 => (refine' Cw.gat KX G ?a ?l ?c ?k; (case a => k_is); (case l => k_is); (case c => k_is); (case k => k_is)))
    (case a_move_row_10 => (refine' Cw.gat KX G ?a ?l ?c ?k; (case a => k_is); (case l => k_is); (case c => k_is); (case k => k_is)))
    (case a_compare => (refine' Cw.gat KX G ?a ?l ?c ?k; (case a => k_is); (case l => k_is); (case c => k_is); (case k => k_is)))
    (case a_exchange => (refine' Cw.gat KX G ?a ?l ?c ?k; (case a => k_is); (case l => k_is); (case c => k_is); (case k => k_is)))
    (case a_count_row_13 => (refine' Cw.gat KX G ?a ?l ?c ?k; (case a => k_is); (case l => k_is); (case c => k_is); (case k => k_is)))
    (case a_move_row_14 => (refine' Cw.gat KX G ?a ?l ?c ?k; (case a => k_is); (case l => k_is); (case c => k_is); (case k => k_is)))
    (case a_move_row_15 => (refine' Cw.gat KX G ?a ?l ?c ?k; (case a => k_is); (case l => k_is); (case c => k_is); (case k => k_is)))
    (case a_page_jump => (refine' Cw.gat KX G ?a ?l ?c ?k; (case a => k_is); (case l => k_is); (case c => k_is); (case k => k_is)))
    (case a_bit_jump => (refine' Cw.gat KX G ?a ?l ?c ?k; (case a => k_is); (case l => k_is); (case c => k_is); (case k => k_is)))
    (case a_carry_with_bit => (refine' Cw.gat KX G ?a ?l ?c ?k; (case a => k_is); (case l => k_is); (case c => k_is); (case k => k_is)))
    (case a_move_outside => (refine' Cw.gat KX G ?a ?l ?c ?k; (case a => k_is); (case l => k_is); (case c => k_is); (case k => k_is)))
    (case a_turn => (refine' Cw.gat KX G ?a ?l ?c ?k; (case a => k_is); (case l => k_is); (case c => k_is); (case k => k_is)))
    (case a_column_0 => (refine' Cw.gat KX G ?a ?l ?c ?k; (case a => k_is); (case l => k_is); (case c => k_is); (case k => k_is)))
    (case a_column_2 => (refine' Cw.gat KX G ?a ?l ?c ?k; (case a => k_is); (case l => k_is); (case c => k_is); (case k => k_is)))
    (case a_column_3 => (refine' Cw.gat KX G ?a ?l ?c ?k; (case a => k_is); (case l => k_is); (case c => k_is); (case k => k_is)))
    (case a_do_instruction => (refine' Cw.gat KX G ?a ?l ?c ?k; (case a => k_is); (case l => k_is); (case c => k_is); (case k => k_is)))
    (case a_time_of => (refine' Cw.gat KX G ?a ?l ?c ?k; (case a => k_is); (case l => k_is); (case c => k_is); (case k => k_is)))
    (case n_move_row_7 => k_is)
    (case n_move_row_8 => k_is)
    (case n_move_row_10 => k_is)
    (case n_compare => k_is)
    (case n_exchange => k_is)
    (case n_count_row_13 => k_is)
    (case n_move_row_14 => k_is)
    (case n_move_row_15 => k_is)
    (case nR1 => k_is)
    (case nR2 => k_is)
    (case tab_ROWS => (refine' Cw.itab ?l ?k ?nd ?lo; (case l => k_is); (case k => exact ⟨⟨_, rfl⟩, rfl, rfl, ⟨_, rfl⟩, rfl, rfl, ⟨_, rfl⟩, rfl, rfl, ⟨_, rfl⟩, rfl, rfl, ⟨_, rfl⟩, rfl, rfl, True.intro⟩); (case nd => decide); (case lo => rfl)))
    (case tab_LAST_ROWS => (refine' Cw.itab ?l ?k ?nd ?lo; (case l => k_is); (case k => exact ⟨⟨_, rfl⟩, rfl, rfl, ⟨_, rfl⟩, rfl, rfl, ⟨_, rfl⟩, rfl, rfl, True.intro⟩); (case nd => decide); (case lo => rfl)))
    (case a9 => k_is)
    (case l9 => k_is)
    (case c9 => k_is)
    (case k9 => k_is)
  case S =>
    intro K H xs a hO hwi hask hx
    obtain ⟨stp, pc, n1, n2, n3, n4, n5, u⟩ := a
    have hw : (Codec.inInt 0 4294967295 stp && (Codec.inInt 0 65535 pc && ((Codec.inLen 0 1000 n1 && n1.all (Codec.inInt 0 255)) && ((Codec.inLen 0 600 n2 && n2.all (Codec.inInt 0 255)) && ((Codec.inLen 0 40000 n3 && n3.all (Codec.inInt 0 65535)) && ((Codec.inLen 0 40000 n4 && n4.all (Codec.inInt 0 65535)) && ((Codec.inLen 0 40000 n5 && n5.all (Codec.inInt 0 65919)) && true))))))) = true := hwi
    have ha : (Ql29Neutral.natural stp 32 && Ql29Neutral.machine [pc] n1 n2 n3 n4 n5) = true := hask
    obtain ⟨c0, hw⟩ := Bool.and_eq_true_iff.mp hw
    obtain ⟨c1, hw⟩ := Bool.and_eq_true_iff.mp hw
    obtain ⟨l1, hw⟩ := Bool.and_eq_true_iff.mp hw
    obtain ⟨l2, hw⟩ := Bool.and_eq_true_iff.mp hw
    obtain ⟨l3, hw⟩ := Bool.and_eq_true_iff.mp hw
    obtain ⟨l4, hw⟩ := Bool.and_eq_true_iff.mp hw
    obtain ⟨l5, hw⟩ := Bool.and_eq_true_iff.mp hw
    obtain ⟨h1, h2, p1, p2, p3, p4, p5⟩ := Cm.machine_parts (Bool.and_eq_true_iff.mp ha).2
    cases hx with
    | cons d0 hx => cases hx with
    | cons d1 hx => cases hx with
    | cons d2 hx => cases hx with
    | cons d3 hx => cases hx with
    | cons d4 hx => cases hx with
    | cons d5 hx => cases hx with
    | cons d6 hx =>
      cases hx
      obtain rfl := Cw.req_int d0
      obtain rfl := Cw.req_int d1
      obtain ⟨a1, rfl, q1⟩ := Cw.req_ints d2
      obtain ⟨a2, rfl, q2⟩ := Cw.req_ints d3
      obtain ⟨a3, rfl, q3⟩ := Cw.req_ints d4
      obtain ⟨a4, rfl, q4⟩ := Cw.req_ints d5
      obtain ⟨a5, rfl, q5⟩ := Cw.req_ints d6
      have k1 := Cw.req_len l1
      have k2 := Cw.req_len l2
      exact ⟨stp, pc, a1, a2, a3, a4, a5, n1, n2, n3, n4, n5, rfl, (Cw.req_at c0).1, h1, h2, q1, p1, by omega, q2, p2, by omega, q3, p3, Cw.req_len l3, q4, p4, Cw.req_len l4, q5, p5, Cw.req_len l5,
        fun b => hO b |>.imp id fun ⟨o, u, z⟩ => ⟨o, u, z⟩, fun H' p hp => .lst (L2.SqL.of hp) (L2.dw_ints _)⟩
#print axioms PySem.Challenge.cw_smallchip_s02_c51_run_holds
