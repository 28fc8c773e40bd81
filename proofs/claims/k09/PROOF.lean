import PyProof.Rows.All
import Wide.All
import OpenK.AllK
import Wide.FinOn
import HandS.ForMost
import HandS.ForExc
import HandS.Wide
import HandS.WideBits
import HandS.Flow
import HandS.Style
import HandS.Defaults
import HandS.IsInst
import HandS.ExcInit
import HandS.ExcIs
import HandS.ExcField
import HandS.SetFor
import HandS.Small
import HandS.Replace
import HandS.FStr
import HandS.More
import KE.KExcIs
import HandS.Head0
import HandS.Head1
import HandS.Head2
import HandS.HeadEnd
import HandS.HeadHook1
import HandS.HeadHook2
import HandS.HeadHook3
import HandS.HeadHook4
import HandS.Evl
import HandS.Walk
import HandS.TupAny
import HandS.Deep
import HandS.SortInts
import HandS.TupLe
import HandS.RaiseMore
import PySem.Challenge.RW_leadshome_k09_first_unlike_letter_is_tol
set_option Elab.async false
set_option linter.all false
set_option maxRecDepth 100000
set_option maxHeartbeats 0
set_option synthInstance.maxSize 100000
set_option synthInstance.maxHeartbeats 0
/-! A1: readings whose end is told by the values alone, and the steps through them. -/
namespace G
open PySem PySem.Spec PyProof.Rows L2 TL

/-! ### texts by their codes -/
abbrev mk (l : List Nat) : Str := ⟨l.toArray⟩
abbrev S (l : List Nat) : V := .str (mk l)
theorem mk_tl' (x : Str) : mk (tl x) = x := mk_tl x
theorem mk_inj {a b : List Nat} (h : mk a = mk b) : a = b := by
  have := congrArg tl h
  exact this
theorem mk_app (a b : List Nat) : mk a ++ mk b = mk (a ++ b) := ext_tl (by rw [tl_append])
theorem mk_len (a : List Nat) : (mk a).length = a.length := len_tl _
theorem decS (a b : List Nat) : decide (S a = S b) = decide (a = b) := by
  by_cases h : a = b
  · subst h; simp
  · rw [decide_eq_false h, decide_eq_false]
    intro e
    exact h (mk_inj (V.str.inj e))

/-! ### what follows a value -/
/-- the value is a bool -/
def kB (Q : Bool → Hp → Prop) : VK := fun x H => ∃ c, x = .bl c ∧ Q c H
/-- two ways -/
def kIf (A B : Hp → Prop) : Bool → Hp → Prop := fun c H => if c = true then A H else B H
section
variable {X : Cx}
def uTest (t : TE) : TT := fun σ H Q => t σ H (kB Q)
def uAnd (t u : TT) : TT := fun σ H Q => t σ H (kIf (fun H1 => u σ H1 Q) (fun H1 => Q false H1))
def uOr (t u : TT) : TT := fun σ H Q => t σ H (kIf (fun H1 => Q true H1) (fun H1 => u σ H1 Q))
def uAndV (t u : TE) : TE := fun σ H Q => t σ H (kB (kIf (fun H1 => u σ H1 Q) (fun H1 => Q (.bl false) H1)))
def uOrV (t u : TE) : TE := fun σ H Q => t σ H (kB (kIf (fun H1 => Q (.bl true) H1) (fun H1 => u σ H1 Q)))
def uNotV (t : TE) : TE := fun σ H Q => t σ H (kB fun c H1 => Q (.bl (!c)) H1)
def uIfE (t : TT) (ta tb : TE) : TE := fun σ H Q => t σ H (kIf (fun H1 => ta σ H1 Q) (fun H1 => tb σ H1 Q))
def uIfS (c : TT) (t u : TS) : TS := fun D σ H => c σ H (kIf (fun H1 => t D σ H1) (fun H1 => u D σ H1))
theorem pt_t {e : Expr} {t : TE} (h : PE X e t) (he : ∀ whole, isTrue e X.env whole = (do let v ← whole; standAt e.pos; holding [v] (truthy v)) := by intro _; rfl) : PT X e (uTest t) := ⟨(pt_val h he).run⟩
variable {a b e : Expr} {rest : List Expr} {pos : Pos} {tA tB' : TT} {ta tb te : TE}
theorem pw_andU (ha : PT X a tA) (hb : PW X (.BoolOp .And (b :: rest) pos) tB') : PW X (.BoolOp .And (a :: b :: rest) pos) (uAnd tA tB') := ⟨(pw_and ha hb).run⟩
theorem pw_orU (ha : PT X a tA) (hb : PW X (.BoolOp .Or (b :: rest) pos) tB') : PW X (.BoolOp .Or (a :: b :: rest) pos) (uOr tA tB') := ⟨(pw_or ha hb).run⟩
theorem pe_andU (ha : PE X a ta) (hb : PE X (.BoolOp .And (b :: rest) pos) tb) : PE X (.BoolOp .And (a :: b :: rest) pos) (uAndV ta tb) := ⟨(pe_and ha hb).run⟩
theorem pe_orU (ha : PE X a ta) (hb : PE X (.BoolOp .Or (b :: rest) pos) tb) : PE X (.BoolOp .Or (a :: b :: rest) pos) (uOrV ta tb) := ⟨(pe_or ha hb).run⟩
theorem pe_notU (ha : PE X a ta) : PE X (.UnaryOp .Not a pos) (uNotV ta) := ⟨(pe_not ha).run⟩
theorem pe_ifU {c : Expr} (hc : PT X c tA) (ha : PE X a ta) (hb : PE X b tb) : PE X (.IfExp c a b pos) (uIfE tA ta tb) := ⟨(pe_ifExp hc ha hb).run⟩
theorem ps_ifU {c : Expr} {x y : List Stmt} {t u : TS} (hc : PT X c tA) (ha : PSs X x t) (hb : PSs X y u) : PS X (.If c x y pos) (uIfS tA t u) := ⟨(ps_if hc ha hb).run⟩
theorem pe_s {x : Str} {j : Nat} (l : List Nat) (h : x = mk l := by decide +kernel) : PE X (.Constant (.str x) j pos) (tC (S l)) := by
  subst h
  exact pe_str

/-! ### operators by the values -/
def rAddU : R2 := fun x y H Q => (∃ i j, x = .int i ∧ y = .int j ∧ Q (.int (i + j)) H) ∨ (∃ a b, x = S a ∧ y = S b ∧ a.length + b.length ≤ 1000000 ∧ Q (S (a ++ b)) H) ∨ rCat x y H Q
theorem op_addU : OpR X (binaryOp .Add) rAddU := by
  intro pins s σ H x y v u Q I rx ry h
  rcases h with h | ⟨a, b, rfl, rfl, hl, q⟩ | h
  · exact op_add pins s σ H x y v u Q I rx ry h
  · refine op_add_str pins s σ H _ _ v u Q I rx ry ⟨_, _, rfl, rfl, ?_, ?_⟩
    · rw [mk_len, mk_len]
      exact Nat.le_trans hl (by decide)
    · rw [mk_app]
      exact q
  · exact op_cat pins s σ H x y v u Q I rx ry h
def rSubU : R2 := rI0 fun i j => .int (i - j)
theorem op_subU : OpR X (binaryOp .Sub) rSubU := op_sub
/-- int * int, text * int -/
def rMulU : R2 := fun x y H Q => (∃ i j, x = .int i ∧ y = .int j ∧ (CMul i j ∨ CMulW i j) ∧ Q (.int (i * j)) H) ∨ (∃ l b xs zs, x = .ref l ∧ y = .ref b ∧ H l = some (.lst xs) ∧ H b = some (.lst zs) ∧ False ∧ Q x H)
theorem op_mulU : OpR X (binaryOp .Mult) rMulU := by
  intro pins s σ H x y v u Q I rx ry h
  rcases h with ⟨i, j, rfl, rfl, hc | hc, q⟩ | ⟨_, _, _, _, _, _, _, _, z, _⟩
  · exact op_mul pins s σ H _ _ v u Q I rx ry ⟨i, j, rfl, rfl, hc, q⟩
  · exact op_mulW pins s σ H _ _ v u Q I rx ry ⟨i, j, rfl, rfl, hc, q⟩
  · exact z.elim
def rDivU : R2 := rI CDivW fun i j => .int (i / j)
theorem op_divU : OpR X (binaryOp .FloorDiv) rDivU := op_fdivW
/-- a positive divisor -/
def rModU : R2 := rI (fun _ j => 0 < j) fun i j => .int (i % j)
theorem op_modU : OpR X (binaryOp .Mod) rModU := by
  intro pins s σ H x y v u Q I rx ry h
  obtain ⟨i, j, rfl, rfl, hc, q⟩ := h
  refine op_modN pins s σ H _ _ v u Q I rx ry ⟨i, j, rfl, rfl, by omega, ?_⟩
  show Q (.int (i.fmod j)) H
  rw [Int.fmod_eq_emod_of_nonneg i (by omega)]
  exact q
def rPowU : R2 := fun x y H Q => ∃ i j, x = .int i ∧ y = .int j ∧ (0 ≤ j ∧ (Builtin.Int.intBits i : Int) * j ≤ 2 ^ 27) ∧ Q (.int (i ^ j.toNat)) H
theorem op_powU : OpR X (binaryOp .Pow) rPowU := by
  intro pins s σ H x y v u Q I rx ry h
  obtain ⟨i, j, rfl, rfl, ⟨h0, h1⟩, q⟩ := h
  obtain ⟨t, rfl⟩ := rx
  obtain ⟨t', rfl⟩ := ry
  exact pow_int h0 h1 ⟨.int _, H, I.tok _, ⟨_, rfl⟩, q⟩
def rEqU (K : PySem.W.Frag) : R2 := fun x y H Q => (scal x y = true ∧ Q (.bl (decide (x = y))) H) ∨ rEqD K x y H Q
def rNeU (K : PySem.W.Frag) : R2 := fun x y H Q => (scal x y = true ∧ Q (.bl (!decide (x = y))) H) ∨ rNeD K x y H Q
theorem op_eqU (hu : X.A.units + 64 < cLine) : OpR X (compareOp .Eq) (rEqU X.K) := by
  intro pins s σ H x y v u Q I rx ry h
  rcases h with h | h
  · exact op_eq pins s σ H x y v u Q I rx ry h
  · exact op_eqD hu pins s σ H x y v u Q I rx ry h
theorem op_neU (hu : X.A.units + 64 < cLine) : OpR X (compareOp .NotEq) (rNeU X.K) := by
  intro pins s σ H x y v u Q I rx ry h
  rcases h with h | h
  · exact op_ne pins s σ H x y v u Q I rx ry h
  · exact op_neD hu pins s σ H x y v u Q I rx ry h
/-- is None, True, False -/
def isW : V → V → Prop
  | _, .non => True
  | .non, .bl _ => True
  | .bl _, .bl _ => True
  | .int _, .bl _ => True
  | .str _, .bl _ => True
  | .ref _, .bl _ => True
  | _, _ => False
def rIsU : R2 := fun x y H Q => isW x y ∧ Q (.bl (decide (x = y))) H
theorem op_isU : OpR X (compareOp .Is) rIsU := by
  intro pins s σ H x y v u Q I rx ry h
  obtain ⟨hw, q⟩ := h
  cases y with
  | non => exact op_isN pins s σ H _ _ v u Q I rx ry ⟨rfl, q⟩
  | bl k =>
    cases x with
    | bl j => exact op_isBl pins s σ H _ _ v u Q I rx ry ⟨j, k, rfl, rfl, by simpa using q⟩
    | non =>
      cases (show v = Value.none from rx)
      cases (show u = Value.bool k from ry)
      exact wpAny_is_other rfl (fun z => by cases z) ⟨.bl false, H, I, rfl, by simpa using q⟩
    | int i =>
      obtain ⟨t, rfl⟩ := (show ∃ t, v = Value.int i t from rx)
      cases (show u = Value.bool k from ry)
      exact wpAny_is_other rfl (fun z => by cases z) ⟨.bl false, H, I, rfl, by simpa using q⟩
    | str i =>
      obtain ⟨t, rfl⟩ := (show ∃ t, v = Value.str i t from rx)
      cases (show u = Value.bool k from ry)
      exact wpAny_is_other rfl (fun z => by cases z) ⟨.bl false, H, I, rfl, by simpa using q⟩
    | ref i =>
      cases (show v = Value.ref i from rx)
      cases (show u = Value.bool k from ry)
      exact wpAny_is_other rfl (fun z => by cases z) ⟨.bl false, H, I, rfl, by simpa using q⟩
    | _ => exact hw.elim
  | _ => cases x <;> exact hw.elim
def rCmp (p : Int → Int → Bool) : R2 := rI0 fun i j => .bl (p i j)
theorem op_ltU : OpR X (compareOp .Lt) (rCmp fun i j => decide (i < j)) := op_lt
theorem op_leU : OpR X (compareOp .LtE) (rCmp fun i j => decide (i ≤ j)) := op_le
theorem op_gtU : OpR X (compareOp .Gt) (rCmp fun i j => decide (j < i)) := op_gt
theorem op_geU : OpR X (compareOp .GtE) (rCmp fun i j => decide (j ≤ i)) := op_ge
end
end G

/-! A2: the steps through a reading. -/
namespace G
open PySem PySem.Spec PyProof.Rows L2 TL

/-! ### slots -/
class GetS (σ : L2.St) (i : Nat) (v : outParam V) : Prop where
  h : σ[i]? = some (some v)
instance getS0 {σ : L2.St} {v : V} : GetS (some v :: σ) 0 v := ⟨rfl⟩
instance getS1 {σ : L2.St} {x : Option V} {i : Nat} {v : V} [g : GetS σ i v] : GetS (x :: σ) (i + 1) v := ⟨by rw [List.getElem?_cons_succ]; exact g.h⟩
class SetS (σ : L2.St) (i : Nat) (v : V) (σ' : outParam L2.St) : Prop where
  h : σ.set i (some v) = σ'
instance setS0 {σ : L2.St} {x : Option V} {v : V} : SetS (x :: σ) 0 v (some v :: σ) := ⟨rfl⟩
instance setS1 {σ σ' : L2.St} {x : Option V} {i : Nat} {v : V} [g : SetS σ i v σ'] : SetS (x :: σ) (i + 1) v (x :: σ') := ⟨by rw [List.set_cons_succ, g.h]⟩
class WipeS (σ : L2.St) (vs : List Nat) (σ' : outParam L2.St) : Prop where
  h : wipe σ vs = σ'

/-! ### steps -/
class Go (P : Prop) (P' : outParam Prop) : Prop where
  go : P' → P
def kSet (i : Nat) (σ : L2.St) (N : L2.St → Hp → Prop) : VK := fun x H => N (σ.set i (some x)) H
def kDrop (σ : L2.St) (N : L2.St → Hp → Prop) : VK := fun _ H => N σ H
def kOp2 (r : R2) (x : V) (Q : VK) : VK := fun y H => r x y H Q
def kOp1 (r : R2) (tb : TE) (σ : L2.St) (Q : VK) : VK := fun x H => tb σ H (kOp2 r x Q)
def kUn (r : V → Hp → VK → Prop) (Q : VK) : VK := fun x H => r x H Q
def kCons2 (x : V) (Q : List V → Hp → Prop) : List V → Hp → Prop := fun xs H => Q (x :: xs) H
def kCons1 (tr : TA) (σ : L2.St) (Q : List V → Hp → Prop) : VK := fun x H => tr σ H (kCons2 x Q)
def kCB (r : List V → Hp → VK → Prop) (Q : VK) : List V → Hp → Prop := fun xs H => r xs H Q
def kLst (Q : VK) : List V → Hp → Prop := fun xs H => xs.length ≤ sizeLine ∧ ∀ p, H p = none → Q (.ref p) (upd H p (.lst xs))
def kTup (Q : VK) : List V → Hp → Prop := fun xs H => xs.length ≤ sizeLine ∧ ∀ p, H p = none → Q (.ref p) (upd H p (.tup xs))
def kBM2 (r : V → List V → Hp → VK → Prop) (x : V) (Q : VK) : List V → Hp → Prop := fun xs H => r x xs H Q
def kBM1 (K : PySem.W.Frag) (T : String) (r : V → List V → Hp → VK → Prop) (t : TA) (σ : L2.St) (Q : VK) : VK := fun x H => tyV K T x H ∧ t σ H (kBM2 r x Q)
def kBM0 (K : PySem.W.Frag) (T : String) (r : V → List V → Hp → VK → Prop) (Q : VK) : VK := fun x H => tyV K T x H ∧ r x [] H Q
def kSl3 (r : V → Option Int → Option Int → Hp → VK → Prop) (x : V) (l : Option Int) (Q : VK) : Option Int → Hp → Prop := fun u H => r x l u H Q
def kSl2 (r : V → Option Int → Option Int → Hp → VK → Prop) (th : TO) (σ : L2.St) (x : V) (Q : VK) : Option Int → Hp → Prop := fun l H => th σ H (kSl3 r x l Q)
def kSl1 (r : V → Option Int → Option Int → Hp → VK → Prop) (tl th : TO) (σ : L2.St) (Q : VK) : VK := fun x H => tl σ H (kSl2 r th σ x Q)
def kPart (Q : Option Int → Hp → Prop) : VK := fun x H => ∃ i, x = .int i ∧ Q (some i) H
section
variable {σ σ' : L2.St} {H : Hp} {Q : VK} {QB : Bool → Hp → Prop} {i : Nat} {v x : V} {te ta tb : TE} {t u : TT} {r : R2} {D : Ends} {ts tw : TS} {b : Bool} {K : PySem.W.Frag} {tA : TA} {QL : List V → Hp → Prop} {xs : List V} {A B : Hp → Prop} {N : L2.St → Hp → Prop}
instance [g : GetS σ i v] : Go (tVar i σ H Q) (Q v H) := ⟨fun q => ⟨v, g.h, q⟩⟩
instance : Go (tC v σ H Q) (Q v H) := ⟨id⟩
instance : Go (tOp r ta tb σ H Q) (ta σ H (kOp1 r tb σ Q)) := ⟨id⟩
instance : Go (kOp1 r tb σ Q v H) (tb σ H (kOp2 r v Q)) := ⟨id⟩
instance : Go (kOp2 r x Q v H) (r x v H Q) := ⟨id⟩
instance {r : V → Hp → VK → Prop} : Go (tUn r ta σ H Q) (ta σ H (kUn r Q)) := ⟨id⟩
instance {r : V → Hp → VK → Prop} : Go (kUn r Q v H) (r v H Q) := ⟨id⟩
instance : Go (uTest te σ H QB) (te σ H (kB QB)) := ⟨id⟩
instance : Go (kB QB (.bl b) H) (QB b H) := ⟨fun q => ⟨b, rfl, q⟩⟩
instance : Go (uAnd t u σ H QB) (t σ H (kIf (fun H1 => u σ H1 QB) (fun H1 => QB false H1))) := ⟨id⟩
instance : Go (uOr t u σ H QB) (t σ H (kIf (fun H1 => QB true H1) (fun H1 => u σ H1 QB))) := ⟨id⟩
instance : Go (uAndV ta tb σ H Q) (ta σ H (kB (kIf (fun H1 => tb σ H1 Q) (fun H1 => Q (.bl false) H1)))) := ⟨id⟩
instance : Go (uOrV ta tb σ H Q) (ta σ H (kB (kIf (fun H1 => Q (.bl true) H1) (fun H1 => tb σ H1 Q)))) := ⟨id⟩
instance : Go (tNot t σ H QB) (t σ H (fun c H1 => QB (!c) H1)) := ⟨id⟩
instance : Go (uNotV ta σ H Q) (ta σ H (kB fun c H1 => Q (.bl (!c)) H1)) := ⟨id⟩
instance : Go (uIfE t ta tb σ H Q) (t σ H (kIf (fun H1 => ta σ H1 Q) (fun H1 => tb σ H1 Q))) := ⟨id⟩
instance : Go (uIfS t ts tw D σ H) (t σ H (kIf (fun H1 => ts D σ H1) (fun H1 => tw D σ H1))) := ⟨id⟩
instance : Go (kIf A B true H) (A H) := ⟨fun q => iteT q⟩
instance : Go (kIf A B false H) (B H) := ⟨fun q => iteF q⟩
instance : Go (tSeq ts tw D σ H) (ts { D with nx := tw D } σ H) := ⟨id⟩
instance : Go (tNext D σ H) (D.nx σ H) := ⟨id⟩
instance : Go (tBreak D σ H) (D.bk σ H) := ⟨id⟩
instance : Go (tCont D σ H) (D.ct σ H) := ⟨id⟩
instance : Go (tAsg te (gName i) D σ H) (te σ H (kSet i σ D.nx)) := ⟨id⟩
instance [g : SetS σ i v σ'] : Go (kSet i σ N v H) (N σ' H) := ⟨fun q => by show N (σ.set i (some v)) H; rw [g.h]; exact q⟩
instance : Go (tDrop te D σ H) (te σ H (kDrop σ D.nx)) := ⟨id⟩
instance : Go (kDrop σ N v H) (N σ H) := ⟨id⟩
instance : Go (tRet te D σ H) (te σ H D.rt) := ⟨id⟩
instance : Go (tRetN D σ H) (D.rt .non H) := ⟨id⟩
instance : Go (tNil σ H QL) (QL [] H) := ⟨id⟩
instance {tr : TA} : Go (tCons ta tr σ H QL) (ta σ H (kCons1 tr σ QL)) := ⟨id⟩
instance {tr : TA} : Go (kCons1 tr σ QL v H) (tr σ H (kCons2 v QL)) := ⟨id⟩
instance : Go (kCons2 v QL xs H) (QL (v :: xs) H) := ⟨id⟩
instance {r : List V → Hp → VK → Prop} : Go (tCB r tA σ H Q) (tA σ H (kCB r Q)) := ⟨id⟩
instance {r : List V → Hp → VK → Prop} : Go (kCB r Q xs H) (r xs H Q) := ⟨id⟩
instance : Go (tLst tA σ H Q) (tA σ H (kLst Q)) := ⟨id⟩
instance : Go (tTup tA σ H Q) (tA σ H (kTup Q)) := ⟨id⟩
instance {T : String} {r : V → List V → Hp → VK → Prop} : Go (tBM K T r ta tA σ H Q) (ta σ H (kBM1 K T r tA σ Q)) := ⟨id⟩
instance {T : String} {r : V → List V → Hp → VK → Prop} : Go (tBM0 K T r ta σ H Q) (ta σ H (kBM0 K T r Q)) := ⟨id⟩
instance {r : V → List V → Hp → VK → Prop} : Go (kBM2 r v Q xs H) (r v xs H Q) := ⟨id⟩
instance {r : V → List V → Hp → VK → Prop} {s : Str} : Go (kBM1 K "str" r tA σ Q (.str s) H) (tA σ H (kBM2 r (.str s) Q)) := ⟨fun q => ⟨rfl, q⟩⟩
instance {r : V → List V → Hp → VK → Prop} {s : Str} : Go (kBM0 K "str" r Q (.str s) H) (r (.str s) [] H Q) := ⟨fun q => ⟨rfl, q⟩⟩
instance {r : V → Option Int → Option Int → Hp → VK → Prop} {tl th : TO} : Go (tSl r ta tl th σ H Q) (ta σ H (kSl1 r tl th σ Q)) := ⟨id⟩
instance {r : V → Option Int → Option Int → Hp → VK → Prop} {tl th : TO} : Go (kSl1 r tl th σ Q v H) (tl σ H (kSl2 r th σ v Q)) := ⟨id⟩
instance {r : V → Option Int → Option Int → Hp → VK → Prop} {th : TO} {l : Option Int} : Go (kSl2 r th σ v Q l H) (th σ H (kSl3 r v l Q)) := ⟨id⟩
instance {r : V → Option Int → Option Int → Hp → VK → Prop} {l u : Option Int} : Go (kSl3 r v l Q u H) (r v l u H Q) := ⟨id⟩
instance {QO : Option Int → Hp → Prop} : Go (tNoPart σ H QO) (QO none H) := ⟨id⟩
instance {QO : Option Int → Hp → Prop} : Go (tPart te σ H QO) (te σ H (kPart QO)) := ⟨id⟩
instance {QO : Option Int → Hp → Prop} {n : Int} : Go (kPart QO (.int n) H) (QO (some n) H) := ⟨fun q => ⟨n, rfl, q⟩⟩
/-! values -/
instance {a b : Int} : Go (rAddU (.int a) (.int b) H Q) (Q (.int (a + b)) H) := ⟨fun q => .inl ⟨a, b, rfl, rfl, q⟩⟩
instance {a b : Int} : Go (rSubU (.int a) (.int b) H Q) (Q (.int (a - b)) H) := ⟨fun q => ⟨a, b, rfl, rfl, q⟩⟩
instance {a b : Int} {p : Int → Int → Bool} : Go (rCmp p (.int a) (.int b) H Q) (Q (.bl (p a b)) H) := ⟨fun q => ⟨a, b, rfl, rfl, q⟩⟩
instance {a b : Int} : Go (rEqU K (.int a) (.int b) H Q) (Q (.bl (decide (a = b))) H) := ⟨fun q => .inl ⟨rfl, by rw [dec_int]; exact q⟩⟩
instance {a b : Int} : Go (rNeU K (.int a) (.int b) H Q) (Q (.bl (!decide (a = b))) H) := ⟨fun q => .inl ⟨rfl, by rw [dec_int]; exact q⟩⟩
instance {a b : List Nat} : Go (rEqU K (S a) (S b) H Q) (Q (.bl (decide (a = b))) H) := ⟨fun q => .inl ⟨rfl, by rw [decS]; exact q⟩⟩
instance {a b : List Nat} : Go (rNeU K (S a) (S b) H Q) (Q (.bl (!decide (a = b))) H) := ⟨fun q => .inl ⟨rfl, by rw [decS]; exact q⟩⟩
instance {a : Int} : Go (rU (fun i => V.int (-i)) (.int a) H Q) (Q (.int (-a)) H) := ⟨fun q => ⟨a, rfl, q⟩⟩
end
theorem go_ite {A B : Hp → Prop} {b : Bool} {H : Hp} (h1 : b = true → A H) (h2 : b = false → B H) : kIf A B b H := by
  cases b with
  | true => exact h1 rfl
  | false => exact h2 rfl
theorem go_iteD {A B : Hp → Prop} {p : Prop} [d : Decidable p] {H : Hp} (h1 : p → A H) (h2 : ¬ p → B H) : kIf A B (decide p) H := by
  by_cases h : p
  · rw [decide_eq_true h]
    exact h1 h
  · rw [decide_eq_false h]
    exact h2 h
theorem go_iteN {A B : Hp → Prop} {p : Prop} [d : Decidable p] {H : Hp} (h1 : ¬ p → A H) (h2 : p → B H) : kIf A B (!decide p) H := by
  by_cases h : p
  · rw [decide_eq_true h]
    exact h2 h
  · rw [decide_eq_false h]
    exact h1 h
theorem go_yes {A B : Hp → Prop} {b : Bool} {H : Hp} (e : b = true) (h1 : A H) : kIf A B b H := by
  subst e
  exact h1
theorem go_no {A B : Hp → Prop} {b : Bool} {H : Hp} (e : b = false) (h1 : B H) : kIf A B b H := by
  subst e
  exact h1
theorem go_lst {Q : VK} {xs : List V} {H : Hp} (k : ∀ p H', H p = none → Same H H' → H' p = some (.lst xs) → Q (.ref p) H') (hl : xs.length ≤ sizeLine := by show _ ≤ sizeLine; decide) : kLst Q xs H :=
  ⟨hl, fun p hp => k p _ hp (fun b o e => by rw [upd_ne (ne_of_none e hp)]; exact e) upd_same⟩
theorem go_tup {Q : VK} {xs : List V} {H : Hp} (k : ∀ p H', H p = none → Same H H' → H' p = some (.tup xs) → Q (.ref p) H') (hl : xs.length ≤ sizeLine := by show _ ≤ sizeLine; decide) : kTup Q xs H :=
  ⟨hl, fun p hp => k p _ hp (fun b o e => by rw [upd_ne (ne_of_none e hp)]; exact e) upd_same⟩
theorem go_mul {a b : Int} {H : Hp} {Q : VK} (hc : CMul a b ∨ CMulW a b) (q : Q (.int (a * b)) H) : rMulU (.int a) (.int b) H Q := .inl ⟨a, b, rfl, rfl, hc, q⟩
theorem go_div {a b : Int} {H : Hp} {Q : VK} (hc : CDivW a b) (q : Q (.int (a / b)) H) : rDivU (.int a) (.int b) H Q := ⟨a, b, rfl, rfl, hc, q⟩
theorem go_mod {a b : Int} {H : Hp} {Q : VK} (hc : 0 < b) (q : Q (.int (a % b)) H) : rModU (.int a) (.int b) H Q := ⟨a, b, rfl, rfl, hc, q⟩
theorem go_pow {a b : Int} {H : Hp} {Q : VK} (h0 : 0 ≤ b) (hc : (Builtin.Int.intBits a : Int) * b ≤ 2 ^ 27) (q : Q (.int (a ^ b.toNat)) H) : rPowU (.int a) (.int b) H Q := ⟨a, b, rfl, rfl, ⟨h0, hc⟩, q⟩
theorem go_adds {a b : List Nat} {H : Hp} {Q : VK} (hc : a.length + b.length ≤ 1000000) (q : Q (S (a ++ b)) H) : rAddU (S a) (S b) H Q := .inr (.inl ⟨a, b, rfl, rfl, hc, q⟩)
theorem go_is {x y : V} {H : Hp} {Q : VK} {b : Bool} (hw : isW x y) (e : decide (x = y) = b) (q : Q (.bl b) H) : rIsU x y H Q := ⟨hw, by rw [e]; exact q⟩
end G

/-! A3: calls, items, slices, texts. -/
namespace G
open PySem PySem.Spec PyProof.Rows L2 TL

/-! ### own defs -/
def kCall (sp : Sp) (E : XK) (Q : VK) : List V → Hp → Prop := fun vs H => sp vs H Q E
def uCall (sp : Sp) (E : L2.St → XK) (t : TA) : TE := fun σ H Q => t σ H (kCall sp (E σ) Q)
def kCallD (sp : Sp) (dvs : List V) (E : XK) (Q : VK) : List V → Hp → Prop := fun vs H => sp (vs ++ dvs) H Q E
def uCallD (sp : Sp) (dvs : List V) (E : L2.St → XK) (t : TA) : TE := fun σ H Q => t σ H (kCallD sp dvs (E σ) Q)
section
variable {X : Cx} {CX : CXT} {k : Nat} {f C : Addr} {fd : FuncData} {ps : List Str} {sp : Sp} {E : L2.St → XK} {x m : Str} {p pos apos : Pos} {e o : Expr} {es : List Expr} {ta : TE} {t : TA}
theorem pe_callU (F : FnOk X.prog X.w X.K X.mg X.base CX k f fd ps sp) (hr : Room k X.A) (hg : Gl X x) (hm : X.mg x = some (.ref f)) (hk : PySem.W.keepIn X.K (.ref f) = true) (hb : Binds X.K fd ps []) (hx : ∀ σ, PassesAt CX X σ (E σ))
    (ha : PA X (e :: es) t) (hdb : (x == ("__debug__" : Str)) = false := by decide) (he : starEach (e :: es) X.env = (false, eval e X.env) :: starEach es X.env := by rfl) (hpl : (backTo pos (starEach es X.env)).any (·.1) = false := by rfl) :
    PE X (.Call (.Name x p) (e :: es) [] pos) (uCall sp E t) := ⟨(pe_callS F hr hg hm hk hb hx ha hdb he hpl).run⟩
theorem run_fnD {ds : List Value} {dvs : List V} {pins : List (Addr × Obj)} {σ : L2.St} {H : Hp} {s : Shared} {Q : VK} {us : List Value} {vs : List V} (F : FnOk X.prog X.w X.K X.mg X.base CX k f fd ps sp) (hr : Room k X.A) (hb : Binds X.K fd ps ds) (hd : Vals dvs ds) (hx : PassesAt CX X σ (E σ))
    (I : Inv X pins σ H s) (r : Vals vs us) (h : sp (vs ++ dvs) H Q (E σ)) : wpAny (model X.prog X.w) X.A (call (.ref f) us) (EP X pins σ Q) X.xe s := by
  have r2 : Vals (vs ++ dvs) (us ++ ds) := r.append hd
  have hl : (us ++ ds).length = ps.length := by rw [← r2.length]; exact F.len _ _ _ _ h
  refine wpAny_call (codeAny_mono (F.run X.A X.stack s H ⟨us, []⟩ (us ++ ds) (vs ++ dvs) Q (E σ) hr I.env0 (hb s us I.kIn hl) r2 h) fun r s' hq => ?_)
  cases r with
  | error e => exact hx pins H s e s' I hq
  | ok fl =>
    cases fl with
    | ret u => exact I.after hq
    | next => exact False.elim hq
    | brk => exact False.elim hq
    | cont => exact False.elim hq
theorem pe_callUD {ds : List Value} {dvs : List V} (F : FnOk X.prog X.w X.K X.mg X.base CX k f fd ps sp) (hr : Room k X.A) (hg : Gl X x) (hm : X.mg x = some (.ref f)) (hk : PySem.W.keepIn X.K (.ref f) = true) (hb : Binds X.K fd ps ds) (hd : Vals dvs ds) (hx : ∀ σ, PassesAt CX X σ (E σ))
    (ha : PA X (e :: es) t) (hdb : (x == ("__debug__" : Str)) = false := by decide) (he : starEach (e :: es) X.env = (false, eval e X.env) :: starEach es X.env := by rfl) (hpl : (backTo pos (starEach es X.env)).any (·.1) = false := by rfl) :
    PE X (.Call (.Name x p) (e :: es) [] pos) (uCallD sp dvs E t) := by
  refine ⟨fun pins s σ H Q I h => ?_⟩
  refine wpAny_Call_Name_kw (ld_glob I hg hm ?_ hdb)
  refine PySem.W.callWith_K (h₀ := X.base) I.ok.mod.kin hk (thn (ha.run pos pins s σ H _ I h) fun us s1 ⟨vs, H1, I1, r, q⟩ => ⟨I1.kIn, ?_⟩) he hpl
  exact run_fnD F hr hb hd (hx σ) I1 r q
/-- nothing is let out -/
theorem pass_n : ∀ σ, PassesAt (L2.CX X.prog X.w) X σ ((fun _ => E0) σ) := fun σ pins H s e s' I c => passL pins σ H s e s' I c
/-- the def's own wish -/
theorem pass_x {W : XK} (tk : Takes X (fun cls d _ H => W cls d H)) : ∀ σ, PassesAt (L2.CX X.prog X.w) X σ ((fun _ => W) σ) := fun σ pins H s e s' I c => passes_call tk (fun _ _ _ _ h => h) pins σ H s e s' I c
end
section
variable {σ : L2.St} {H : Hp} {Q : VK} {tA : TA} {sp : Sp} {E : L2.St → XK} {E1 : XK} {vs dvs : List V}
instance : Go (uCall sp E tA σ H Q) (tA σ H (kCall sp (E σ) Q)) := ⟨id⟩
instance : Go (kCall sp E1 Q vs H) (sp vs H Q E1) := ⟨id⟩
instance : Go (uCallD sp dvs E tA σ H Q) (tA σ H (kCallD sp dvs (E σ) Q)) := ⟨id⟩
instance : Go (kCallD sp dvs E1 Q vs H) (sp (vs ++ dvs) H Q E1) := ⟨id⟩
end

/-! ### built-ins -/
def rLenU (K : PySem.W.Frag) : List V → Hp → VK → Prop := fun xs H Q => ∃ x n, xs = [x] ∧ LenV K x H n ∧ Q (.int n) H
theorem call_lenU {X : Cx} : CallR X (.builtin "len") (rLenU X.K) := call_len
def rIntU : List V → Hp → VK → Prop := fun xs H Q => (∃ i, xs = [.int i] ∧ Q (.int i) H) ∨ ∃ k, xs = [.bl k] ∧ Q (.int (if k then 1 else 0)) H
theorem call_intU {X : Cx} : CallR X (.type "int") rIntU := call_int1
def rMaxU : List V → Hp → VK → Prop := fun xs H Q => ∃ i j, xs = [.int i, .int j] ∧ Q (.int (if j > i then j else i)) H
def rMinU : List V → Hp → VK → Prop := fun xs H Q => ∃ i j, xs = [.int i, .int j] ∧ Q (.int (if j < i then j else i)) H
theorem call_maxU {X : Cx} (hc : X.calm = true) : CallR X (.builtin "max") rMaxU := call_max2 hc
theorem call_minU {X : Cx} (hc : X.calm = true) : CallR X (.builtin "min") rMinU := call_min2 hc
def rListU (K : PySem.W.Frag) : List V → Hp → VK → Prop := fun xs H Q => ∃ p items, xs = [.ref p] ∧ (SqL K H p items ∨ SqT K H p items) ∧ ∀ l, H l = none → Q (.ref l) (upd H l (.lst items))
theorem call_listU {X : Cx} : CallR X (.type "list") (rListU X.K) := call_list_of
def rDmU : List V → Hp → VK → Prop := fun xs H Q => ∃ i j, xs = [.int i, .int j] ∧ CDivP i j ∧ ∀ p, H p = none → Q (.ref p) (upd H p (.tup [.int (i / j), .int (i % j)]))
theorem call_dmU {X : Cx} : CallR X (.builtin "divmod") rDmU := call_divmodW
section
variable {σ : L2.St} {H : Hp} {Q : VK} {K : PySem.W.Frag} {i j : Int} {b : Bool}
instance : Go (rIntU [.int i] H Q) (Q (.int i) H) := ⟨fun q => .inl ⟨i, rfl, q⟩⟩
instance : Go (rIntU [.bl b] H Q) (Q (.int (if b then 1 else 0)) H) := ⟨fun q => .inr ⟨b, rfl, q⟩⟩
instance : Go (rMaxU [.int i, .int j] H Q) (Q (.int (if j > i then j else i)) H) := ⟨fun q => ⟨i, j, rfl, q⟩⟩
instance : Go (rMinU [.int i, .int j] H Q) (Q (.int (if j < i then j else i)) H) := ⟨fun q => ⟨i, j, rfl, q⟩⟩
end
theorem sz6 {n : Nat} (h : n ≤ 1000000) : n ≤ sizeLine := Nat.le_trans h (by decide)
theorem go_lens {K : PySem.W.Frag} {l : List Nat} {H : Hp} {Q : VK} (hl : l.length ≤ 1000000) (q : Q (.int (l.length : Int)) H) : rLenU K [S l] H Q := ⟨_, l.length, rfl, ⟨by rw [mk_len]; exact sz6 hl, (mk_len l).symm⟩, q⟩
theorem go_lenl {K : PySem.W.Frag} {p : Addr} {xs : List V} {H : Hp} {Q : VK} (h : SqL K H p xs) (q : Q (.int (xs.length : Int)) H) : rLenU K [.ref p] H Q := ⟨_, xs.length, rfl, .inl ⟨xs, h, rfl⟩, q⟩
theorem go_lent {K : PySem.W.Frag} {p : Addr} {xs : List V} {H : Hp} {Q : VK} (h : SqT K H p xs) (q : Q (.int (xs.length : Int)) H) : rLenU K [.ref p] H Q := ⟨_, xs.length, rfl, .inr ⟨xs, h, rfl⟩, q⟩
theorem go_list {K : PySem.W.Frag} {p : Addr} {xs : List V} {H : Hp} {Q : VK} (h : SqL K H p xs ∨ SqT K H p xs) (k : ∀ l H', H l = none → Same H H' → H' l = some (.lst xs) → Q (.ref l) H') : rListU K [.ref p] H Q :=
  ⟨p, xs, rfl, h, fun l hl => k l _ hl (fun b o e => by rw [upd_ne (ne_of_none e hl)]; exact e) upd_same⟩
theorem go_dm {i j : Int} {H : Hp} {Q : VK} (h : CDivP i j) (k : ∀ p H', H p = none → Same H H' → H' p = some (.tup [.int (i / j), .int (i % j)]) → Q (.ref p) H') : rDmU [.int i, .int j] H Q :=
  ⟨i, j, rfl, h, fun l hl => k l _ hl (fun b o e => by rw [upd_ne (ne_of_none e hl)]; exact e) upd_same⟩

/-! ### isinstance -/
def rIsiU (K : PySem.W.Frag) : List V → Hp → VK → Prop := rIsi K
/-- is such a value of that built-in class? -/
def isiB (K : PySem.W.Frag) (H : Hp) : V → String → Bool → Prop
  | .non, c, b => kitB "NoneType" c = some b
  | .bl _, c, b => kitB "bool" c = some b
  | .int _, c, b => kitB "int" c = some b
  | .str _, c, b => kitB "str" c = some b
  | .ref a, c, b => (∃ xs, SqL K H a xs ∧ kitB "list" c = some b) ∨ ∃ xs, SqT K H a xs ∧ kitB "tuple" c = some b
  | _, _, _ => False
theorem go_isi {K : PySem.W.Frag} {x : V} {c : String} {b : Bool} {H : Hp} {Q : VK} (h : isiB K H x c b) (q : Q (.bl b) H) : rIsiU K [x, .ty c] H Q := by
  cases x with
  | non => exact ⟨_, _, _, _, b, rfl, .ty c, .base .non, kit_ty h, q⟩
  | bl k => exact ⟨_, _, _, _, b, rfl, .ty c, .base (.bl k), kit_ty h, q⟩
  | int k => exact ⟨_, _, _, _, b, rfl, .ty c, .base (.int k), kit_ty h, q⟩
  | str k => exact ⟨_, _, _, _, b, rfl, .ty c, .base (.str k), kit_ty h, q⟩
  | ref a =>
    rcases h with ⟨xs, hs, e⟩ | ⟨xs, hs, e⟩
    · rcases hs with (hs | ⟨o, hs⟩) | hs
      · exact ⟨_, _, _, _, b, rfl, .ty c, .base (.lst hs), kit_ty e, q⟩
      · exact ⟨_, _, _, _, b, rfl, .ty c, .base (.frz hs), kit_ty e, q⟩
      · obtain ⟨o, its, n, lk, hc, _⟩ := hs
        exact ⟨_, _, _, _, b, rfl, .ty c, .kList lk hc, kit_ty e, q⟩
    · rcases hs with (hs | ⟨o, hs⟩) | hs
      · exact ⟨_, _, _, _, b, rfl, .ty c, .base (.tup hs), kit_ty e, q⟩
      · exact ⟨_, _, _, _, b, rfl, .ty c, .fTuple hs, kit_ty e, q⟩
      · obtain ⟨o, its, n, lk, hc, _⟩ := hs
        exact ⟨_, _, _, _, b, rfl, .ty c, .kTuple lk hc, kit_ty e, q⟩
  | _ => exact h.elim

/-! ### items and slices -/
def rIxU (K : PySem.W.Frag) : R2 := rIx K
theorem ix_U {X : Cx} : IxR X (rIxU X.K) := ix_seq
theorem go_ixl {K : PySem.W.Frag} {p : Addr} {xs : List V} {i : Int} {v : V} {H : Hp} {Q : VK} (h : SqL K H p xs) (e : atI xs i = some v) (q : Q v H) : rIxU K (.ref p) (.int i) H Q := .inl ⟨p, xs, i, v, rfl, rfl, h, e, q⟩
theorem go_ixt {K : PySem.W.Frag} {p : Addr} {xs : List V} {i : Int} {v : V} {H : Hp} {Q : VK} (h : SqT K H p xs) (e : atI xs i = some v) (q : Q v H) : rIxU K (.ref p) (.int i) H Q := .inr (.inl ⟨p, xs, i, v, rfl, rfl, h, e, q⟩)
theorem go_ixs {K : PySem.W.Frag} {l : List Nat} {i : Int} {c : Nat} {H : Hp} {Q : VK} (hl : l.length ≤ 1000000) (e : atI l i = some c) (q : Q (S [c]) H) : rIxU K (S l) (.int i) H Q :=
  .inr (.inr ⟨_, i, c, rfl, rfl, by rw [mk_len]; exact sz6 hl, e, q⟩)
def cutL (l : List Nat) (lo hi : Option Int) : List Nat := (l.drop (HT.sIx l.length 0 lo)).take (HT.sIx l.length l.length hi - HT.sIx l.length 0 lo)
def rSlU (K : PySem.W.Frag) : V → Option Int → Option Int → Hp → VK → Prop := fun x lo hi H Q => (∃ l, x = S l ∧ l.length ≤ 1000000 ∧ Q (S (cutL l lo hi)) H) ∨ rSlL K x lo hi H Q
theorem sl_U {X : Cx} : SlR X (rSlU X.K) := by
  intro pins s σ H x v vl vu lo hi sl Q I rx hs pl pu h
  rcases h with ⟨l, rfl, hl, q⟩ | h
  · refine sl_str pins s σ H _ v vl vu lo hi sl Q I rx hs pl pu ⟨_, rfl, by rw [mk_len]; exact sz6 hl, ?_⟩
    have e : cutS (mk l) lo hi = mk (cutL l lo hi) := by
      unfold cutS cutL
      rw [mk_len]
    rw [e]
    exact q
  · exact sl_list pins s σ H x v vl vu lo hi sl Q I rx hs pl pu h
theorem go_sls {K : PySem.W.Frag} {l : List Nat} {lo hi : Option Int} {H : Hp} {Q : VK} (hl : l.length ≤ 1000000) (q : Q (S (cutL l lo hi)) H) : rSlU K (S l) lo hi H Q := .inl ⟨l, rfl, hl, q⟩
theorem go_sll {K : PySem.W.Frag} {p : Addr} {xs : List V} {lo hi : Option Int} {H : Hp} {Q : VK} (h : SqL K H p xs) (k : ∀ q H', H q = none → Same H H' → H' q = some (.lst (cutV xs lo hi)) → Q (.ref q) H') : rSlU K (.ref p) lo hi H Q :=
  .inr ⟨p, xs, rfl, h, fun l hl => k l _ hl (fun b o e => by rw [upd_ne (ne_of_none e hl)]; exact e) upd_same⟩
/-! cuts -/
theorem cutL_le (l : List Nat) (lo hi : Option Int) : (cutL l lo hi).length ≤ l.length := by
  unfold cutL
  rw [List.length_take, List.length_drop]
  omega
theorem cutL_to (l : List Nat) (k : Int) (h : 0 ≤ k) : cutL l none (some k) = l.take k.toNat := by
  obtain ⟨n, rfl⟩ := Int.eq_ofNat_of_zero_le h
  unfold cutL
  rw [HT.sIx_none, HT.sIx_nat, List.drop_zero, Nat.sub_zero, Int.toNat_natCast]
  by_cases hn : n ≤ l.length
  · rw [Nat.min_eq_left hn]
  · rw [Nat.min_eq_right (by omega), List.take_of_length_le (by omega), List.take_of_length_le (by omega)]
theorem cutL_from (l : List Nat) (k : Int) (h : 0 ≤ k) : cutL l (some k) none = l.drop k.toNat := by
  obtain ⟨n, rfl⟩ := Int.eq_ofNat_of_zero_le h
  unfold cutL
  rw [HT.sIx_none, HT.sIx_nat, Int.toNat_natCast]
  by_cases hn : n ≤ l.length
  · rw [Nat.min_eq_left hn, List.take_of_length_le (by rw [List.length_drop]; omega)]
  · rw [Nat.min_eq_right (by omega), List.drop_of_length_le (by omega), List.drop_of_length_le (by omega)]
    simp
theorem cutL_butlast (l : List Nat) : cutL l none (some (-1)) = l.dropLast := by
  unfold cutL
  rw [HT.sIx_none, List.drop_zero, Nat.sub_zero]
  have e : HT.sIx l.length l.length (some (-1)) = l.length - 1 := by
    show (if (-1 : Int) < 0 then ((-1 : Int) + (l.length : Int)).toNat else min (-1 : Int).toNat l.length) = l.length - 1
    rw [if_pos (by omega)]
    omega
  rw [e, List.dropLast_eq_take]
theorem cutL_mid (l : List Nat) (a b : Int) (ha : 0 ≤ a) (hb : 0 ≤ b) : cutL l (some a) (some b) = (l.take b.toNat).drop a.toNat := by
  obtain ⟨n, rfl⟩ := Int.eq_ofNat_of_zero_le ha
  obtain ⟨m, rfl⟩ := Int.eq_ofNat_of_zero_le hb
  unfold cutL
  rw [HT.sIx_nat, HT.sIx_nat, Int.toNat_natCast, Int.toNat_natCast, List.drop_take]
  by_cases hn : n ≤ l.length
  · rw [Nat.min_eq_left hn]
    by_cases hm : m ≤ l.length
    · rw [Nat.min_eq_left hm]
    · rw [Nat.min_eq_right (by omega), List.take_of_length_le (by rw [List.length_drop]; omega), List.take_of_length_le (by rw [List.length_drop]; omega)]
  · rw [show min n l.length = l.length from Nat.min_eq_right (by omega), List.drop_length, List.drop_of_length_le (show l.length ≤ n by omega)]
    simp
theorem atI_at {α : Type} {xs : List α} {i : Int} {v : α} (h : 0 ≤ i) (e : xs[i.toNat]? = some v) : atI xs i = some v := by
  obtain ⟨n, rfl⟩ := Int.eq_ofNat_of_zero_le h
  exact atI_nat e
end G

/-! A4: texts' methods, list.count, errors. -/
namespace G
open PySem PySem.Spec PyProof.Rows L2 TL

/-! ### list.count over flat items -/
def rCntF (K : PySem.W.Frag) : V → List V → Hp → VK → Prop := fun x xs H Q => ∃ (p : Addr) (ys : List V) (y : V), x = .ref p ∧ xs = [y] ∧ SqL K H p ys ∧ flatV y = true ∧ ys.all flatV = true ∧ Q (.int ((ys.countP fun z => eqV z y : Nat) : Int)) H
theorem countP_eqU {x : V} : ∀ {xs : List V} {us : List Value}, Vals xs us → xs.all flatV = true → us.countP (eqU x) = xs.countP fun y => eqV y x
  | _, _, .nil, _ => rfl
  | y :: xs, u :: us, .cons r t, f => by
    rw [List.all_cons, Bool.and_eq_true] at f
    rw [List.countP_cons, List.countP_cons, countP_eqU t f.2, eqU_of r f.1]
theorem mt_cntF {X : Cx} : MtR X "list.count" (rCntF X.K) := by
  intro pins s σ H x xs v us Q I rx rxs h
  obtain ⟨p, ys, y, ex, exs, hs, fy, fys, q⟩ := h
  subst ex exs
  cases rx
  cases rxs with
  | cons ry rt =>
    rename_i uy ut
    cases rt
    obtain ⟨its, rv, hpl, hlen⟩ := I.list hs
    obtain ⟨ob, n, ho, hc, hdn, hd⟩ := hpl
    obtain ⟨cls, dd, data, sl⟩ := ob
    simp only at hc hd
    subst hc hd
    have ec := countP_eqU rv fys (x := y)
    refine call_meets PySem.F.slot_list_count ⟨_, ho, rfl⟩ PySem.F.entry_list_count (PySem.F.args_list_count_2 _ _) (SeqAt.list_countAt p its.toArray n dd sl uy (eqU y)) ⟨ho, ?_, ?_⟩
    · intro z hz
      exact mem_eqAt ry fy rv fys z (by simpa using hz)
    · have e2 : its.toArray.toList.countP (eqU y) = ys.countP fun z => eqV z y := ec
      refine ⟨.int _, H, I.tok _, ⟨s.toks, ?_⟩, q⟩
      show Value.int ((its.toArray.toList.countP (eqU y) : Nat) : Int) s.toks = _
      rw [e2]

/-! ### texts -/
/-- s.count(c), one sign -/
def rCntS : V → List V → Hp → VK → Prop := fun x xs H Q => ∃ (l : List Nat) (c : Nat), x = S l ∧ xs = [S [c]] ∧ Q (.int ((l.count c : Nat) : Int)) H
theorem count1 (l : List Nat) (c : Nat) : Txt.count (mk l) (mk [c]) = ((l.count c : Nat) : Int) := by
  have key : ∀ m : List Nat, cnt c m = ((m.count c : Nat) : Int) := by
    intro m
    induction m with
    | nil => rfl
    | cons a m ih =>
      rw [cnt_cons, List.count_cons, ih]
      by_cases e : a = c
      · subst e
        simp
        omega
      · simp [e]
  exact (count_cnt (mk l) c).trans (key l)
theorem mt_cntS {X : Cx} : MtR X "str.count" rCntS := by
  intro pins s σ H x xs v us Q I rx rxs h
  obtain ⟨l, c, rfl, rfl, q⟩ := h
  exact mt_count pins s σ H _ _ v us Q I rx rxs ⟨_, _, rfl, rfl, by rw [count1]; exact q⟩
/-- s.endswith(c), one sign -/
def rEndS : V → List V → Hp → VK → Prop := fun x xs H Q => ∃ (l : List Nat) (c : Nat), x = S l ∧ xs = [S [c]] ∧ Q (.bl (decide (l.getLast? = some c))) H
theorem ends1 (l : List Nat) (c : Nat) : Txt.endswith (mk l) (mk [c]) = decide (l.getLast? = some c) := by
  rcases List.eq_nil_or_concat l with rfl | ⟨m, a, rfl⟩
  · rfl
  · have e1 : (mk (m.concat a)).length = m.length + 1 := by rw [mk_len, List.length_concat]
    have e2 : (mk [c]).length = 1 := rfl
    unfold Txt.endswith
    rw [e1, e2, StrLaws.subAt_eq]
    show (decide (0 + 1 ≤ m.length + 1) && (((m.concat a).drop (m.length + 1 - 1)).take 1 == [c])) = _
    rw [Nat.add_sub_cancel, List.concat_eq_append, List.drop_left, List.getLast?_append, decide_eq_true (by omega : 0 + 1 ≤ m.length + 1), Bool.true_and]
    by_cases e : a = c
    · subst e
      simp
    · simp [e]
/-- s.partition(c): the sign there, or not -/
theorem part_yes {p r : List Nat} {c : Nat} (h : c ∉ p) : Txt.partition (mk (p ++ c :: r)) (mk [c]) = (mk p, mk [c], mk r) := by
  have e := partition_app (y := mk [c]) (s := c) (S := []) rfl (a := mk p) (b := mk r) h
  rw [mk_app, mk_app] at e
  rw [← e]
  simp
theorem part_no {p : List Nat} {c : Nat} (h : c ∉ p) : Txt.partition (mk p) (mk [c]) = (mk p, mk [], mk []) := partition_none (y := mk [c]) (s := c) (S := []) rfl (a := mk p) h
def rPart : V → List V → Hp → VK → Prop := fun x xs H Q => ∃ (l : List Nat) (c : Nat), x = S l ∧ xs = [S [c]] ∧ l.length ≤ 1000000 ∧
  (∀ p r, l = p ++ c :: r → c ∉ p → ∀ a, H a = none → Q (.ref a) (upd H a (.tup [S p, S [c], S r]))) ∧ (c ∉ l → ∀ a, H a = none → Q (.ref a) (upd H a (.tup [S l, S [], S []])))
theorem first_split {c : Nat} : ∀ {l : List Nat}, c ∈ l → ∃ p r, l = p ++ c :: r ∧ c ∉ p
  | [], h => by cases h
  | a :: l, h => by
    by_cases e : a = c
    · exact ⟨[], l, by rw [e]; rfl, by simp⟩
    · obtain ⟨p, r, e1, e2⟩ := first_split (l := l) (by
        rcases List.mem_cons.mp h with z | z
        · exact absurd z.symm e
        · exact z)
      refine ⟨a :: p, r, by rw [e1]; rfl, ?_⟩
      intro z
      rcases List.mem_cons.mp z with z | z
      · exact e z.symm
      · exact e2 z
theorem mt_part {X : Cx} : MtR X "str.partition" rPart := by
  intro pins s σ H x xs v us Q I rx rxs h
  obtain ⟨l, c, rfl, rfl, hl, h1, h2⟩ := h
  refine mt_partition pins s σ H _ _ v us Q I rx rxs ⟨_, _, rfl, rfl, rfl, by rw [mk_len]; exact sz6 hl, fun a ha => ?_⟩
  by_cases hc : c ∈ l
  · obtain ⟨p, r, e, hp⟩ := first_split hc
    have q := h1 p r e hp a ha
    subst e
    rw [part_yes hp]
    exact q
  · have q := h2 hc a ha
    rw [part_no hc]
    exact q
/-- s.index(c), it is there -/
theorem index1 {p r : List Nat} {c : Nat} (h : c ∉ p) : ∃ rest, Builtin.Str.occurrences (mk (p ++ c :: r)) (mk [c]) 0 (mk (p ++ c :: r)).length 1 = p.length :: rest := by
  have e := part_yes (r := r) h
  have sp := StrLaws.occ_spec (mk (p ++ c :: r)) (mk [c]) 0 (mk (p ++ c :: r)).length 1
  unfold Txt.partition at e
  cases q : Builtin.Str.occurrences (mk (p ++ c :: r)) (mk [c]) 0 (mk (p ++ c :: r)).length 1 with
  | nil =>
    rw [q] at e
    have e2 : Str.empty = mk [c] := congrArg (fun z : Str × Str × Str => z.2.1) e
    have e3 := congrArg tl e2
    cases e3
  | cons i rest =>
    rw [q] at e sp
    have e2 : PySem.Builtin.Str.strSub (mk (p ++ c :: r)) 0 i = mk p := congrArg (fun z : Str × Str × Str => z.1) e
    have e3 := congrArg tl e2
    rw [tl_strSub] at e3
    have e4 := congrArg List.length e3
    have hi := (sp i List.mem_cons_self).1
    rw [mk_len, mk_len] at hi
    have e5 : ((List.drop 0 (p ++ c :: r)).take (i - 0)).length = p.length := e4
    rw [List.drop_zero, List.length_take, Nat.sub_zero, Nat.min_eq_left (by simp at hi ⊢; omega)] at e5
    exact ⟨rest, by rw [e5]⟩
def rIdxS : V → List V → Hp → VK → Prop := fun x xs H Q => ∃ (p r : List Nat) (c : Nat), x = S (p ++ c :: r) ∧ xs = [S [c]] ∧ c ∉ p ∧ Q (.int (p.length : Int)) H
theorem mt_idxS {X : Cx} : MtR X "str.index" rIdxS := by
  intro pins s σ H x xs v us Q I rx rxs h
  obtain ⟨p, r, c, rfl, rfl, hc, q⟩ := h
  obtain ⟨rest, e⟩ := index1 (r := r) hc
  exact mt_sindex pins s σ H _ _ v us Q I rx rxs ⟨_, _, p.length, rest, rfl, rfl, e, q⟩
/-- a sign in a text -/
def rInT (neg : Bool) : R2 := fun x y H Q => ∃ (c : Nat) (l : List Nat), x = S [c] ∧ y = S l ∧ Q (.bl (if neg then !decide (c ∈ l) else decide (c ∈ l))) H
theorem op_inT {X : Cx} : OpR X (compareOp .In) (rInT false) := by
  intro pins s σ H x y v u Q I rx ry h
  obtain ⟨c, l, rfl, rfl, q⟩ := h
  exact op_in_sign pins s σ H _ _ v u Q I rx ry ⟨c, _, rfl, rfl, q⟩
theorem op_ninT {X : Cx} : OpR X (compareOp .NotIn) (rInT true) := by
  intro pins s σ H x y v u Q I rx ry h
  obtain ⟨c, l, rfl, rfl, q⟩ := h
  exact op_notIn_sign pins s σ H _ _ v u Q I rx ry ⟨c, _, rfl, rfl, q⟩
section
variable {H : Hp} {Q : VK} {c : Nat} {l : List Nat}
instance : Go (rCntS (S l) [S [c]] H Q) (Q (.int ((l.count c : Nat) : Int)) H) := ⟨fun q => ⟨l, c, rfl, rfl, q⟩⟩
instance : Go (rEndS (S l) [S [c]] H Q) (Q (.bl (decide (l.getLast? = some c))) H) := ⟨fun q => ⟨l, c, rfl, rfl, q⟩⟩
instance : Go (rInT false (S [c]) (S l) H Q) (Q (.bl (decide (c ∈ l))) H) := ⟨fun q => ⟨c, l, rfl, rfl, q⟩⟩
instance : Go (rInT true (S [c]) (S l) H Q) (Q (.bl (!decide (c ∈ l))) H) := ⟨fun q => ⟨c, l, rfl, rfl, q⟩⟩
end

/-! ### errors -/
/-- X(), X an own exception class without own __init__ -/
theorem pmk_own0 {X : Cx} {C : Addr} {bmB : List Value} {B newId initId : String} {x : Str} {p pos : Pos} (F : ExcBaseFacts B newId initId bmB) (q : PySem.W.excIn X.K C bmB newId = true) (gC : X.mg x = some (.ref C))
    (kC : PySem.W.keepIn X.K (.ref C) = true) (r : Raises X (.ref C)) (hg : Gl X x) (hdb : (x == ("__debug__" : Str)) = false := by decide) :
    PMk X (.Call (.Name x p) [] [] pos) (fun _ H Q => Q (.ref C) none H) := by
  intro pins s σ H Q I h
  refine wpAny_Call_Name_kw (ld_glob I hg gC ?_ hdb)
  refine PySem.W.callWith_K0 I.kIn kC ?_
  show wpAny _ _ (call (.ref C) []) _ _ _
  obtain ⟨bm, N, nm, qn, bs, hdct, sn, sub, ab, col, dd, k0, k1, k2, k3, k5, mN, hC, hN, hni, T⟩ := exc_obj I.kIn q
  exact wpAny_call_exc_subT F T hC hN hni (fun h' e hm => mk_of I hm r h (I.hok.gone hm.new)) (Nat.zero_le _)
/-- what a class must say, so that isinstance asks its instances rightly -/
structure ExcD (K : PySem.W.Frag) (D : Addr) : Prop where
  cl : (PySem.W.clsIn K D).isSome = true
  ga : PySem.W.findIn K (.ref D) "__getattribute__" = some (some (.builtin "BaseException.__getattribute__"))
  gt : PySem.W.findIn K (.ref D) "__getattr__" = some none
  sb : PySem.W.subIn K (.ref D) (.type "BaseException") = some true
  at_ : PySem.W.findIn K (.ref D) "__class__" = some (some (.builtin "object.__class__"))
  gs : PySem.W.specialIn K (.builtin "object.__class__") "__get__" = some (some (.builtin "getset_descriptor.__get__"))
  tk : PySem.W.takesIn K (.builtin "object.__class__") = some true
  mr : PySem.W.mroIn K D (.type "object") = some true
/-- the dict of an exception as the state has it -/
def DicAt (d : Option Addr) (H : Hp) : Prop := d = none ∨ ∃ dd fs, d = some dd ∧ H dd = some (.xd fs)
def rIsX (K : PySem.W.Frag) (a : Addr) (cls : Value) (d : Option Addr) : List V → Hp → VK → Prop := fun xs H Q => ∃ (D : Addr) (c : V) (cv : Value) (b : Bool), cls = .ref D ∧ ExcD K D ∧ DicAt d H ∧ xs = [.ref a, c] ∧ ClsV c cv ∧
  PySem.W.kitOne K (.ref D) cv = some b ∧ Q (.bl b) H
theorem call_isX {X : Cx} {a : Addr} {cls : Value} {d : Option Addr} {oe : Obj} {pn : List (Addr × Obj)} (hz : Zc cls d oe) (hf : ∃ vs, oe.data = .fields vs) : CallR (X.suite a ((a, oe) :: pn)) (.builtin "isinstance") (rIsX X.K a cls d) := by
  intro pins s σ H xs us Q I r h
  obtain ⟨D, c, cv, b, ecls, T, hd, exs, kc, e, q⟩ := h
  subst ecls exs
  cases r with
  | cons rx rr =>
    cases rr with
    | cons rt rr =>
      cases rr
      cases rx
      have ec := kc.eq rt
      subst ec
      obtain ⟨hget, _⟩ := I.pin (a, oe) (List.mem_append.mpr (.inl List.mem_cons_self))
      obtain ⟨vs, hv⟩ := hf
      have J : ∃ od, PySem.W.InstAt s.heap a oe D od := by
        rcases hd with hd | ⟨dd, fs, hd, hH⟩
        · exact ⟨none, hget, hz.1, by unfold PySem.W.notCls; rw [hv] <;> rfl, by rw [hz.2, hd]; trivial⟩
        · have hx : ObjOk X.prog X.w H s.heap dd (.xd fs) := I.hok dd _ hH
          obtain ⟨mA, hns, hr⟩ := hx
          obtain ⟨od, ho, hl⟩ := lookIn_ns hns
          exact ⟨some od, hget, hz.1, by unfold PySem.W.notCls; rw [hv] <;> rfl, by rw [hz.2, hd]; exact ho⟩
      obtain ⟨od, J⟩ := J
      exact PySem.W.kia_one (PySem.W.kitx_exc (x := a) (ox := oe) (od := od) T.cl T.ga T.gt T.sb T.at_ T.gs T.tk T.mr) I.kIn J e (fun z => nomatch z) fun tk => ⟨.bl b, H, I.kept (t' := tk) fun _ _ z => z, rfl, q⟩
end G

/-! A5: what the head tells. -/
namespace G
open PySem PySem.Spec PyProof.Rows L2 TL

abbrev FnAt : Type := Str × Option Str
def noFd : FuncData := PySem.W.fnOf "" "" { posonlyargs := [], args := [], vararg := none, kwonlyargs := [], kw_defaults := [], kwarg := none, defaults := [] } [] { kind := .function, names := [], isGenerator := false, isCoroutine := false } .none .none .none .none none .none .none
def fdOf (K : PySem.W.Frag) (p : FnAt) : FuncData := match K.lookup (He.fAd K p) with
  | some ⟨_, _, .func fd, _⟩ => fd
  | _ => noFd
theorem fd_eq {K : PySem.W.Frag} {x q : Str} {a : Arguments} {b : List Stmt} {sc : Scope} {dvs : List V} {kws : List (Str × V)} {p : FnAt} {fd : FuncData} (F : FunD K x q a b sc dvs kws (He.fAd K p) fd) : FunD K x q a b sc dvs kws (He.fAd K p) (fdOf K p) := by
  obtain ⟨oc, od, dV, kV, doc, pm, an, cdv, ct, osl, e, lk, r⟩ := id F.ex
  have e2 : fdOf K p = fd := by
    unfold fdOf
    rw [lk]
  rw [e2]
  exact F
/-- a def's promise in the program as the head left it -/
abbrev Ok (P : Program) (w : World) (K : PySem.W.Frag) (mg : Str → Option Value) (base : Heap) (k : Nat) (p : FnAt) (ps : List Str) (sp : Sp) : Prop := FnOk P w K mg base (L2.CX P w) k (He.fAd K p) (fdOf K p) ps sp
def tokOf (o : Option Value) : Tok := match o with
  | some (.int _ t) => t
  | some (.str _ t) => t
  | _ => 0
theorem int_tok {mg : Str → Option Value} {x : Str} {i : Int} (h : ∃ t, mg x = some (.int i t)) : mg x = some (.int i (tokOf (mg x))) := by
  obtain ⟨t, e⟩ := h
  rw [e] <;> rfl
theorem str_tok {mg : Str → Option Value} {x z : Str} {l : List Nat} (h : ∃ t, mg x = some (.str z t)) (ez : z = mk l) : mg x = some (.str (mk l) (tokOf (mg x))) := by
  obtain ⟨t, e⟩ := h
  rw [e, ez] <;> rfl

/-! ### scopes -/
def kindB : ScopeKind → Bool
  | .function => true
  | _ => false
def parB : Option NameKind → Bool
  | some .local => true
  | some .cell => true
  | _ => false
def freeB : NameKind → Bool
  | .free => false
  | _ => true
def scopeB (N P : List Str) (sc : Scope) : Bool := kindB sc.kind && (!sc.isCoroutine && (!sc.isGenerator && (decide N.Nodup && (decide (N.take P.length = P) && ((P.all fun x => parB (sc.names.lookup x)) && sc.names.all fun y => freeB y.2)))))
theorem scopeB_ok {N P : List Str} {sc : Scope} (h : scopeB N P sc = true) : FnScope N P sc := by
  unfold scopeB at h
  simp only [Bool.and_eq_true, Bool.not_eq_true', List.all_eq_true, decide_eq_true_eq] at h
  obtain ⟨h1, h2, h3, h4, h5, h6, h7⟩ := h
  refine ⟨?_, h2, h3, h4, h5, fun x hx => ?_, fun y hy e => ?_⟩
  · cases e : sc.kind with
    | function => rfl
    | _ =>
      rw [e] at h1
      cases h1
  · have z := h6 x hx
    cases e : sc.names.lookup x with
    | none =>
      rw [e] at z
      cases z
    | some k =>
      rw [e] at z
      cases k with
      | «local» => exact .inl rfl
      | cell => exact .inr rfl
      | _ => cases z
  · have z := h7 y hy
    rw [e] at z
    cases z

/-! ### error classes -/
def oexB (K : PySem.W.Frag) (C : Addr) : Bool := match K.lookup C with
  | some ⟨.type t, _, .cls cd, sl⟩ => decide (t = "type") && (match cd.mro, sl.toList with
    | .ref C' :: bm, [_, _, _, _, some (.builtin n), _] => decide (C' = C) && (decide (n = "ValueError.__new__") && (cd.hasDict && (!cd.hasDel && HandSPX.refsVE bm)))
    | _, _ => false)
  | _ => false
def eqOV (a b : Option (Option Value)) : Bool := decide (a = b)
def oexC (K : PySem.W.Frag) (C : Addr) : Bool := oexB K C && (eqOV (PySem.W.findIn K (.ref C) "__setattr__") (some (some (.builtin "object.__setattr__"))) && (decide (PySem.W.subIn K (.ref C) (.type "BaseException") = some true) &&
  (decide (PySem.W.typeIn K (.ref C) = some (.type "type")) && PySem.W.keepIn K (.ref C))))
theorem ba2 {a b : Bool} (h : (a && b) = true) : a = true ∧ b = true := Bool.and_eq_true_iff.mp h
theorem oexC_ok {K : PySem.W.Frag} {C : Addr} (h : oexC K C = true) : OexC K C := by
  obtain ⟨h1, h⟩ := ba2 h
  obtain ⟨h2, h⟩ := ba2 h
  obtain ⟨h3, h⟩ := ba2 h
  obtain ⟨h4, h5⟩ := ba2 h
  refine ⟨?_, of_decide_eq_true h2, of_decide_eq_true h3, of_decide_eq_true h4, h5⟩
  unfold oexB at h1
  split at h1
  · rename_i t dd cd sl ho
    obtain ⟨g1, g2⟩ := ba2 h1
    split at g2
    · rename_i C' bm k0 k1 k2 k3 n k5 hm hs
      obtain ⟨g3, g2⟩ := ba2 g2
      obtain ⟨g4, g2⟩ := ba2 g2
      obtain ⟨g5, g2⟩ := ba2 g2
      obtain ⟨g6, g7⟩ := ba2 g2
      have e1 : t = "type" := of_decide_eq_true g1
      have e3 : C' = C := of_decide_eq_true g3
      have e4 : n = "ValueError.__new__" := of_decide_eq_true g4
      subst e1 e3 e4
      obtain ⟨nm, bs, mro, ns, qn, hdd, sn, sub, ab, col, del⟩ := cd
      dsimp only at hm g5 g6
      subst hm
      have e6 : del = false := by
        cases del with
        | false => rfl
        | true => cases g6
      subst g5 e6
      have hsl : sl = #[k0, k1, k2, k3, some (.builtin "ValueError.__new__"), k5] := by
        obtain ⟨l⟩ := sl
        simp only at hs
        rw [hs]
      subst hsl
      exact ⟨nm, qn, ns, bs, bm, sn, sub, ab, col, dd, k0, k1, k2, k3, k5, ho, g7⟩
    · cases g2
  · cases h1
def excD (K : PySem.W.Frag) (D : Addr) : Bool := (PySem.W.clsIn K D).isSome && (eqOV (PySem.W.findIn K (.ref D) "__getattribute__") (some (some (.builtin "BaseException.__getattribute__"))) && (eqOV (PySem.W.findIn K (.ref D) "__getattr__") (some none) &&
  (decide (PySem.W.subIn K (.ref D) (.type "BaseException") = some true) && (eqOV (PySem.W.findIn K (.ref D) "__class__") (some (some (.builtin "object.__class__"))) &&
  (eqOV (PySem.W.specialIn K (.builtin "object.__class__") "__get__") (some (some (.builtin "getset_descriptor.__get__"))) && (decide (PySem.W.takesIn K (.builtin "object.__class__") = some true) && decide (PySem.W.mroIn K D (.type "object") = some true)))))))
theorem excD_ok {K : PySem.W.Frag} {D : Addr} (h : excD K D = true) : ExcD K D := by
  obtain ⟨h1, h⟩ := ba2 h
  obtain ⟨h2, h⟩ := ba2 h
  obtain ⟨h3, h⟩ := ba2 h
  obtain ⟨h4, h⟩ := ba2 h
  obtain ⟨h5, h⟩ := ba2 h
  obtain ⟨h6, h⟩ := ba2 h
  obtain ⟨h7, h8⟩ := ba2 h
  exact ⟨h1, of_decide_eq_true h2, of_decide_eq_true h3, of_decide_eq_true h4, of_decide_eq_true h5, of_decide_eq_true h6, of_decide_eq_true h7, of_decide_eq_true h8⟩
/-- which of the classes an error is of: D is of itself and of no other -/
def kitsB (K : PySem.W.Frag) (D : Addr) (cs : List Str) (d : Str) : Bool := cs.all fun c => decide (PySem.W.kitOne K (.ref D) (.ref (He.ga K c)) = some (decide (c = d)))
theorem kitsB_ok {K : PySem.W.Frag} {D : Addr} {cs : List Str} {d : Str} (h : kitsB K D cs d = true) {c : Str} (hc : c ∈ cs) : PySem.W.kitOne K (.ref D) (.ref (He.ga K c)) = some (decide (c = d)) :=
  of_decide_eq_true (List.all_eq_true.mp h c hc)
/-- facts of the written part, each a Bool -/
abbrev BF : Type := PySem.W.Frag → Bool
def allB (bs : List BF) (K : PySem.W.Frag) : Bool := bs.all fun b => b K
theorem allB_at {bs : List BF} {K : PySem.W.Frag} (h : allB bs K = true) (i : Nat) {b : BF} (e : bs[i]? = some b := by rfl) : b K = true := List.all_eq_true.mp h b (List.mem_of_getElem? e)
end G

/-! A6: stores, cuts, the store of draws. -/
namespace G
open PySem PySem.Spec PyProof.Rows L2 TL

theorem pt_c {X : Cx} {op : CmpOp} {r : R2} {a b : Expr} {ta tb : TE} {pos : Pos} (ho : OpR X (compareOp op) r) (ha : PE X a ta) (hb : PE X b tb) (hm : behindInMarks op b = false) : PT X (.Compare a [op] [b] pos) (uTest (tOp r ta tb)) := ⟨(pt_cmpR ho ha hb hm).run⟩
theorem cx_K {CX : CXT} {P : Program} {w : World} {K : PySem.W.Frag} {mg : Str → Option Value} {base : Heap} {N : List Str} {q : Str} {sc : Scope} {f : Addr} {cd : Value} {A : Around} {outer : List Env} {s : Shared} {H : Hp} {E : XK} : (cxOf CX P w K mg base N q sc f cd A outer s H E).K = K := rfl
theorem sq_of {K : PySem.W.Frag} {H : Hp} {a : Addr} {xs : List V} (h : H a = some (.lst xs)) : SqL K H a xs := SqL.of h
theorem st_of {K : PySem.W.Frag} {H : Hp} {a : Addr} {xs : List V} (h : H a = some (.tup xs)) : SqT K H a xs := SqT.of h
theorem pe_powC {X : Cx} {a b : Expr} {pos : Pos} {i j : Int} (v : Int) (ha : PE X a (tC (.int i))) (hb : PE X b (tC (.int j))) (h0 : 0 ≤ j ∧ (Builtin.Int.intBits i : Int) * j ≤ 2 ^ 27 := by decide +kernel) (hv : i ^ j.toNat = v := by decide +kernel) : PE X (.BinOp a .Pow b pos) (tC (.int v)) :=
  ⟨fun pins s σ H Q I h => (pe_op op_powU ha hb).run pins s σ H Q I ⟨i, j, rfl, rfl, h0, by rw [hv]; exact h⟩⟩
/-! ### targets -/
def kTg (g : TG) (σ : L2.St) (N : L2.St → Hp → Prop) : VK := fun x H => g x σ H N
def kSubC (t : TSet) (σ : L2.St) (N : L2.St → Hp → Prop) (v o : V) : VK := fun i H => t o i v H fun H3 => N σ H3
def kSubB (ti : TE) (t : TSet) (σ : L2.St) (N : L2.St → Hp → Prop) (v : V) : VK := fun o H => ti σ H (kSubC t σ N v o)
def kSubA (to ti : TE) (t : TSet) (σ : L2.St) (N : L2.St → Hp → Prop) : VK := fun v H => to σ H (kSubB ti t σ N v)
section
variable {σ σ1 σ2 σ3 : L2.St} {H : Hp} {v o i : V} {te to ti : TE} {t : TSet} {D : Ends} {N : L2.St → Hp → Prop} {K : PySem.W.Frag} {n : Nat} {tg : TGs}
instance : Go (tAsg te (gSub to ti t) D σ H) (te σ H (kSubA to ti t σ D.nx)) := ⟨id⟩
instance : Go (kSubA to ti t σ N v H) (to σ H (kSubB ti t σ N v)) := ⟨id⟩
instance : Go (kSubB ti t σ N v o H) (ti σ H (kSubC t σ N v o)) := ⟨id⟩
instance : Go (kSubC t σ N v o i H) (t o i v H fun H3 => N σ H3) := ⟨id⟩
instance : Go (tAsg te (gTup K n tg) D σ H) (te σ H (kTg (gTup K n tg) σ D.nx)) := ⟨id⟩
theorem go_set {p : Addr} {k : Int} {j : Nat} {xs : List V} {Q : Hp → Prop} (h : H p = some (.lst xs)) (e : ixN xs.length k = some j) (q : Q (upd H p (.lst (xs.set j v)))) : rSetL (.ref p) (.int k) v H Q := ⟨p, xs, k, j, rfl, rfl, h, e, q⟩
theorem go_un2 {a : Addr} {x y : V} {i j : Nat} (h : SqT K H a [x, y]) [g1 : SetS σ i x σ1] [g2 : SetS σ1 j y σ2] (q : N σ2 H) : kTg (gTup K 2 (gCons (gName i) (gCons (gName j) gNil))) σ N (.ref a) H :=
  ⟨a, [x, y], rfl, h, rfl, x, [y], rfl, y, [], rfl, rfl, by rw [g1.h, g2.h]; exact q⟩
theorem go_un3 {a : Addr} {x y z : V} {i j k : Nat} (h : SqT K H a [x, y, z]) [g1 : SetS σ i x σ1] [g2 : SetS σ1 j y σ2] [g3 : SetS σ2 k z σ3] (q : N σ3 H) : kTg (gTup K 3 (gCons (gName i) (gCons (gName j) (gCons (gName k) gNil)))) σ N (.ref a) H :=
  ⟨a, [x, y, z], rfl, h, rfl, x, [y, z], rfl, y, [z], rfl, z, [], rfl, rfl, by rw [g1.h, g2.h, g3.h]; exact q⟩
end
/-! ### a cut between statements -/
abbrev uCut := Evl.tCut
theorem go_cut {t u : TS} {D : Ends} {σ : L2.St} {H : Hp} (Mid : L2.St → Hp → Prop) (h1 : t { D with nx := Mid } σ H) (h2 : ∀ σ' H', Mid σ' H' → u D σ' H') : Evl.tCut t u D σ H := ⟨Mid, h1, h2⟩

/-! ### the store of draws -/
def Big : Nat := 2800
/-- the store: where it is, where its cells are, the cells -/
structure DA where
  a : Addr
  c : Addr
  cells : List Int
structure DealV (d : DA) (i r l m : Int) : Prop where
  len : d.cells.length ≤ 63
  i0 : 0 ≤ i
  cs : ∀ x ∈ d.cells, 0 ≤ x ∧ x.natAbs < 2 ^ Big
  r0 : 0 ≤ r
  r1 : r.natAbs < 2 ^ Big
  l0 : 0 ≤ l
  m0 : 0 ≤ m
  m1 : m < 2 ^ 64
def Deal (K : PySem.W.Frag) (H : Hp) (d : DA) : Prop := ∃ (i r l m : Int), H d.a = some (.lst [.ref d.c, .int i, .int r, .int l, .int m]) ∧ SqL K (L2.del H d.a) d.c (d.cells.map V.int) ∧ DealV d i r l m
/-- all but the store stands; the store is one -/
structure Dr (K : PySem.W.Frag) (d : DA) (H H' : Hp) : Prop where
  deal : Deal K H' d
  same : Same (L2.del H d.a) (L2.del H' d.a)
theorem Dr.trans {K : PySem.W.Frag} {d : DA} {H H1 H2 : Hp} (a : Dr K d H H1) (b : Dr K d H1 H2) : Dr K d H H2 := ⟨b.deal, a.same.trans b.same⟩
theorem Deal.refl {K : PySem.W.Frag} {d : DA} {H : Hp} (h : Deal K H d) : Dr K d H H := ⟨h, Same.refl _⟩
theorem Same.del {H H' : Hp} (s : Same H H') (d : Addr) : Same (L2.del H d) (L2.del H' d) := fun b o e => by
  by_cases hb : b = d
  · rw [hb, del_same] at e
    cases e
  · rw [del_ne hb] at e ⊢
    exact s b o e
theorem Deal.same {K : PySem.W.Frag} {d : DA} {H H' : Hp} (h : Deal K H d) (s : Same H H') : Dr K d H H' := by
  obtain ⟨i, r, l, m, e, hc, v⟩ := h
  exact ⟨⟨i, r, l, m, s _ _ e, (Same.del s d.a).seq hc, v⟩, Same.del s d.a⟩
/-- what stands beside the store -/
theorem del_of {H : Hp} {d p : Addr} {o : HO} (h : L2.del H d p = some o) : H p = some o ∧ p ≠ d := by
  by_cases hp : p = d
  · rw [hp, del_same] at h
    cases h
  · rw [del_ne hp] at h
    exact ⟨h, hp⟩
theorem del_same' {H : Hp} {d : Addr} : Same (L2.del H d) H := fun _ _ e => (del_of e).1
theorem Deal.ne {K : PySem.W.Frag} {d : DA} {p : Addr} {H : Hp} (h : Deal K H d) (n : H p = none) : p ≠ d.a := by
  obtain ⟨i, r, l, m, e, _⟩ := h
  exact (ne_of_none e n).symm
theorem Deal.at {K : PySem.W.Frag} {d : DA} {p : Addr} {H H' : Hp} {o : HO} (h : Deal K H d) (n : H p = none) (e : H' p = some o) : L2.del H' d.a p = some o := by
  rw [del_ne (h.ne n)]
  exact e
/-- a fresh object beside the store changes -/
theorem Dr.put {K : PySem.W.Frag} {d : DA} {H H' : Hp} {p : Addr} {o : HO} (hd : Deal K H d) (r : Dr K d H H') (hp : H p = none) : Dr K d H (upd H' p o) := by
  have hpd := hd.ne hp
  have hs : Same (L2.del H d.a) (L2.del (upd H' p o) d.a) := fun b u eb => by
    have z := r.same b u eb
    obtain ⟨z1, z2⟩ := del_of z
    obtain ⟨w1, w2⟩ := del_of eb
    rw [del_ne w2, upd_ne (ne_of_none w1 hp)]
    exact z1
  obtain ⟨i, x, l, m, e, hc, v⟩ := r.deal
  obtain ⟨_, _, _, _, _, hc0, _⟩ := hd
  exact ⟨⟨i, x, l, m, by rw [upd_ne hpd.symm]; exact e, hs.seq hc0, v⟩, hs⟩
end G

/-! A7: loops and comprehensions. -/
namespace G
open PySem PySem.Spec PyProof.Rows L2 TL

/-! ### what is walked -/
def kR1 (R : It → Hp → Prop) : List V → Hp → Prop := fun vs H1 => ∃ j : Int, vs = [.int j] ∧ -(2 ^ 62) ≤ j ∧ j < 2 ^ 62 ∧ R (Itr 0 j.toNat) H1
def kR2 (R : It → Hp → Prop) : List V → Hp → Prop := fun vs H1 => ∃ i j : Int, vs = [.int i, .int j] ∧ (-(2 ^ 62) ≤ i ∧ i < 2 ^ 62 ∧ -(2 ^ 62) ≤ j ∧ j < 2 ^ 62) ∧ R (Itr i (j - i).toNat) H1
def kIL (K : PySem.W.Frag) (R : It → Hp → Prop) : VK := fun x H1 => ∃ a, x = .ref a ∧ (∃ xs, SqL K H1 a xs) ∧ R (Itl K a) H1
def kIT (K : PySem.W.Frag) (R : It → Hp → Prop) : VK := fun x H1 => ∃ a, x = .ref a ∧ (∃ xs, SqT K H1 a xs) ∧ R (Itt K a) H1
def kIS (R : It → Hp → Prop) : VK := fun v H1 => ∃ x, v = .str x ∧ R (Its x) H1
def kFor (g : TG) (tb : TS) (D : Ends) (σ : L2.St) : It → Hp → Prop := fun J H1 => ∃ W : Nat → Nat → L2.St → Hp → Prop, (∃ m, W 0 m σ H1) ∧ ∀ i m σ H, W i m σ H →
  (J.stop i H ∧ D.nx σ H) ∨ (J.go i H ∧ ∃ N : L2.St → Hp → Prop, (∀ σ' H', N σ' H' → ∃ m', m' < m ∧ W (i + 1) m' σ' H') ∧ ∀ x H', J.yld i H x H' → g x σ H' fun σ2 H2 => tb { D with nx := N, ct := N, bk := D.nx } σ2 H2)
def kLc (g : TG) (tt : TT) (te : TE) (vs : List Nat) (σ : L2.St) (Q : VK) : It → Hp → Prop := fun J H1 => ∀ D, H1 D = none → ∃ W : Nat → Nat → Hp → Prop, (∃ m, W 0 m (upd H1 D (.lst []))) ∧ ∀ i m H, W i m H →
  (J.stop i H ∧ Q (.ref D) H) ∨ (J.go i H ∧ ∃ Nx : Hp → Prop, (∀ H', Nx H' → ∃ m', m' < m ∧ W (i + 1) m' H') ∧ ∀ x H', J.yld i H x H' → g x (wipe σ vs) H' fun σ2 H2 => wipe σ2 vs = wipe σ vs ∧ tt σ2 H2 fun b H3 =>
    if b = true then te σ2 H3 fun y H4 => ∃ acc, H4 D = some (.lst acc) ∧ acc.length < sizeLine ∧ Nx (upd H4 D (.lst (acc ++ [y]))) else Nx H3)
section
variable {σ : L2.St} {H : Hp} {Q : VK} {R : It → Hp → Prop} {K : PySem.W.Frag} {ta : TA} {te : TE} {g : TG} {tt : TT} {tb : TS} {D : Ends} {wi : TI} {vs : List Nat} {l : List Nat}
instance : Go (iRng1 ta σ H R) (ta σ H (kR1 R)) := ⟨id⟩
instance : Go (iRng2 ta σ H R) (ta σ H (kR2 R)) := ⟨id⟩
instance : Go (iList K te σ H R) (te σ H (kIL K R)) := ⟨id⟩
instance : Go (iTup K te σ H R) (te σ H (kIT K R)) := ⟨id⟩
instance : Go (iStr te σ H R) (te σ H (kIS R)) := ⟨id⟩
instance : Go (kIS R (S l) H) (R (Its (mk l)) H) := ⟨fun q => ⟨_, rfl, q⟩⟩
instance : Go (tFor wi g tb D σ H) (wi σ H (kFor g tb D σ)) := ⟨id⟩
instance : Go (tLc wi g tt te vs σ H Q) (wi σ H (kLc g tt te vs σ Q)) := ⟨id⟩
theorem go_r1 {j : Int} (h : R (Itr 0 j.toNat) H) (hj : -(2 ^ 62) ≤ j ∧ j < 2 ^ 62) : kR1 R [.int j] H := ⟨j, rfl, hj.1, hj.2, h⟩
theorem go_r2 {i j : Int} (h : R (Itr i (j - i).toNat) H) (hj : -(2 ^ 62) ≤ i ∧ i < 2 ^ 62 ∧ -(2 ^ 62) ≤ j ∧ j < 2 ^ 62) : kR2 R [.int i, .int j] H := ⟨i, j, rfl, hj, h⟩
theorem go_il {a : Addr} {xs : List V} (hx : SqL K H a xs) (h : R (Itl K a) H) : kIL K R (.ref a) H := ⟨a, rfl, ⟨xs, hx⟩, h⟩
theorem go_it {a : Addr} {xs : List V} (hx : SqT K H a xs) (h : R (Itt K a) H) : kIT K R (.ref a) H := ⟨a, rfl, ⟨xs, hx⟩, h⟩
end
theorem walk_s {l : List Nat} : Walk (Its (mk l)) l.length (fun _ => True) (fun i H v H' => H' = H ∧ ∃ c, l[i]? = some c ∧ v = S [c]) := by
  have w := walk_str (z := mk l)
  have e : (mk l).cps.size = l.length := by simp
  rw [e] at w
  exact w.mono (fun _ h => h) fun i H x H' _ _ ⟨h1, c, h2, h3⟩ => ⟨h1, c, by simpa using h2, h3⟩

/-! ### comprehensions -/
/-- what a test, an expression comes to, new objects aside -/
def PT1 (tt : TT) (σ : L2.St) (H : Hp) (b : Bool) : Prop := ∀ Q : Bool → Hp → Prop, (∀ H', Same H H' → Q b H') → tt σ H Q
def PE1 (te : TE) (σ : L2.St) (H : Hp) (v : V) : Prop := ∀ Q : VK, (∀ H', Same H H' → Q v H') → te σ H Q
theorem upd_of {H : Hp} {p : Addr} {o : HO} (h : H p = none) : Same H (upd H p o) := fun b u e => by
  rw [upd_ne (ne_of_none e h)]
  exact e
theorem upd_keep {H H' : Hp} {p : Addr} {o : HO} (h : H p = none) (s : Same H H') : Same H (upd H' p o) := fun b u e => by
  rw [upd_ne (ne_of_none e h)]
  exact s b u e
theorem Same.none {H H' : Hp} {p : Addr} (s : Same H H') (h : H' p = none) : H p = none := s.free h
def kept (n : Nat) (b : Nat → Bool) (v : Nat → V) : List V := ((List.range n).filter b).map v
theorem kept_yes {n : Nat} {b : Nat → Bool} {v : Nat → V} (h : b n = true) : kept (n + 1) b v = kept n b v ++ [v n] := by
  unfold kept
  rw [List.range_succ, List.filter_append, List.map_append]
  simp [h]
theorem kept_no {n : Nat} {b : Nat → Bool} {v : Nat → V} (h : b n = false) : kept (n + 1) b v = kept n b v := by
  unfold kept
  rw [List.range_succ, List.filter_append, List.map_append]
  simp [h]
theorem kept_len (n : Nat) (b : Nat → Bool) (v : Nat → V) : (kept n b v).length ≤ n := by
  unfold kept
  rw [List.length_map]
  have h := List.length_filter_le b (List.range n)
  rw [List.length_range] at h
  exact h
theorem kept_all (n : Nat) (v : Nat → V) : kept n (fun _ => true) v = (List.range n).map v := by
  unfold kept
  rw [List.filter_eq_self.mpr (fun _ _ => rfl)]
/-- the elements have no objects of their own; the walked thing gives f i -/
theorem go_lcP {J : It} {n : Nat} {Gd : Hp → Prop} {f : Nat → V} (w : Walk J n Gd (fun i H x H' => H' = H ∧ x = f i)) {j : Nat} {tt : TT} {te : TE} {vs : List Nat} {σ : L2.St} {H : Hp} {Q : VK} (b : Nat → Bool) (v : Nat → V)
    (hG : ∀ H', Same H H' → Gd H') (hw : ∀ x, wipe ((wipe σ vs).set j (some x)) vs = wipe σ vs) (hn : n ≤ 1000000)
    (ht : ∀ i H', i < n → Same H H' → PT1 tt ((wipe σ vs).set j (some (f i))) H' (b i)) (he : ∀ i H', i < n → Same H H' → b i = true → PE1 te ((wipe σ vs).set j (some (f i))) H' (v i))
    (q : ∀ D H', H D = none → Same H H' → H' D = some (.lst (kept n b v)) → Q (.ref D) H') : kLc (gName j) tt te vs σ Q J H := fun D hD => by
  refine lc_it w (Pv := fun i H' => Same H H' ∧ H' D = some (.lst (kept i b v))) ⟨upd_of hD, upd_same⟩ (fun i H' _ p => hG H' p.1) ?_ (fun H' p => q D H' hD p.1 p.2)
  rintro i x H1 H' hi ⟨s1, e1⟩ ⟨rfl, rfl⟩
  refine ⟨hw _, ht i H' hi s1 _ fun H2 s2 => ?_⟩
  by_cases hb : b i = true
  · rw [hb]
    rw [if_pos rfl]
    refine he i H2 hi (s1.trans s2) hb _ fun H3 s3 => ⟨_, s3 _ _ (s2 _ _ e1), ?_, ?_, ?_⟩
    · have := kept_len i b v
      have := sizeLine_eq
      omega
    · exact upd_keep hD ((s1.trans s2).trans s3)
    · rw [upd_same, kept_yes hb]
  · have hb' : b i = false := by simpa using hb
    rw [hb', if_neg (by decide)]
    refine ⟨s1.trans s2, ?_⟩
    rw [kept_no hb']
    exact s2 _ _ e1
/-- elements drawn one by one -/
theorem go_lcD {K : PySem.W.Frag} {d : DA} {J : It} {n : Nat} {Gd : Hp → Prop} {f : Nat → V} (w : Walk J n Gd (fun i H x H' => H' = H ∧ x = f i)) {j : Nat} {te : TE} {vs : List Nat} {σ : L2.St} {H : Hp} {Q : VK} (Pr : Nat → V → Prop)
    (hd : Deal K H d) (hG : ∀ H', Dr K d H H' → Gd H') (hw : ∀ x, wipe ((wipe σ vs).set j (some x)) vs = wipe σ vs) (hn : n ≤ 1000000)
    (he : ∀ i H', i < n → Dr K d H H' → ∀ Q' : VK, (∀ y H'', Dr K d H' H'' → Pr i y → Q' y H'') → te ((wipe σ vs).set j (some (f i))) H' Q')
    (q : ∀ D H' ys, H D = none → Dr K d H H' → L2.del H' d.a D = some (.lst ys) → ys.length = n → (∀ i y, ys[i]? = some y → Pr i y) → Q (.ref D) H') : kLc (gName j) tYes te vs σ Q J H := fun D hD => by
  have hDd : D ≠ d.a := hd.ne hD
  refine lc_it w (Pv := fun i H' => ∃ ys, Dr K d H H' ∧ H' D = some (.lst ys) ∧ ys.length = i ∧ ∀ i y, ys[i]? = some y → Pr i y) ⟨[], hd.same (upd_of hD), upd_same, rfl, fun i y e => by cases e⟩ (fun i H' _ ⟨ys, p, _⟩ => hG H' p) ?_ (fun H' ⟨ys, p1, p2, p3, p4⟩ => q D H' ys hD p1 (by rw [del_ne hDd]; exact p2) p3 p4)
  rintro i x H1 H' hi ⟨ys, p1, p2, p3, p4⟩ ⟨rfl, rfl⟩
  refine ⟨hw _, ?_⟩
  unfold tYes
  dsimp only
  rw [if_pos rfl]
  refine he i H' hi p1 _ fun y H2 r hy => ?_
  have e2 : H2 D = some (.lst ys) := by
    have z := r.same D _ (by rw [del_ne hDd]; exact p2)
    rw [del_ne hDd] at z
    exact z
  refine ⟨ys, e2, by have := sizeLine_eq; omega, ys ++ [y], ?_, upd_same, by rw [List.length_append, p3]; rfl, fun k z e => ?_⟩
  · exact Dr.put hd (p1.trans r) hD
  · by_cases hk : k < ys.length
    · rw [List.getElem?_append_left hk] at e
      exact p4 k z e
    · rw [List.getElem?_append_right (by omega)] at e
      have hk2 : k - ys.length = 0 := by
        cases h : k - ys.length with
        | zero => rfl
        | succ m => rw [h] at e; cases e
      rw [hk2] at e
      cases e
      have : k = i := by omega
      subst this
      exact hy
end G

/-! A8: join and words. -/
namespace G
open PySem PySem.Spec PyProof.Rows L2 TL
theorem joinL_nil : ∀ ls : List (List Nat), joinL [] ls = ls.flatten
  | [] => rfl
  | [x] => by simp [joinL]
  | x :: y :: r => by
    have ih := joinL_nil (y :: r)
    show x ++ ([] ++ joinL [] (y :: r)) = _
    rw [ih]
    simp
def rJoin (K : PySem.W.Frag) : V → List V → Hp → VK → Prop := fun x xs H Q => ∃ (p : Addr) (ls : List (List Nat)), x = S [] ∧ xs = [.ref p] ∧ SqL K H p (ls.map S) ∧ ls.flatten.length + ls.length ≤ 1000000 ∧ Q (S ls.flatten) H
theorem mt_joinU {X : Cx} : MtR X "str.join" (rJoin X.K) := by
  intro pins s σ H x xs v us Q I rx rxs h
  obtain ⟨p, ls, rfl, rfl, hs, hl, q⟩ := h
  have e1 : ls.map S = (ls.map mk).map V.str := by rw [List.map_map]; rfl
  rw [e1] at hs
  have e2 : Txt.join (mk []) (ls.map mk) = mk ls.flatten := by
    rw [join_eq]
    apply ext_tl
    rw [tl_join, List.map_map, show (tl ∘ mk) = id from rfl, List.map_id]
    exact joinL_nil ls
  refine mt_join pins s σ H _ _ v us Q I rx rxs ⟨_, p, ls.map mk, rfl, rfl, .inl hs, ?_, by rw [e2]; exact q⟩
  have e3 : (ls.map mk).map (fun x => x.length) = ls.map List.length := by
    rw [List.map_map]
    exact List.map_congr_left fun x _ => mk_len x
  have e4 : (mk []).length = 0 := rfl
  rw [e3, e4, Nat.mul_zero, ← List.length_flatten]
  omega

/-! ### word texts -/
/-- the text p(c) -/
def wt (p c : List Nat) : List Nat := p ++ 40 :: (c ++ [41])
/-- a prefix and a cycle over the letters -/
structure Lw (ls p c : List Nat) : Prop where
  p12 : p.length ≤ 12
  c1 : 1 ≤ c.length
  c4 : c.length ≤ 4
  pl : ∀ x ∈ p, x ∈ ls
  cl : ∀ x ∈ c, x ∈ ls
/-- the three letters -/
abbrev BIO : List Nat := [66, 73, 79]
theorem wt_len {p c : List Nat} : (wt p c).length = p.length + c.length + 2 := by
  unfold wt
  simp
  omega
theorem Lw.no40 {ls p c : List Nat} (h : Lw ls p c) (hl : 40 ∉ ls) : 40 ∉ p := fun z => hl (h.pl 40 z)
theorem split_inj {a : Nat} : ∀ {p q r s : List Nat}, a ∉ p → a ∉ q → p ++ a :: r = q ++ a :: s → p = q ∧ r = s
  | [], [], _, _, _, _, e => ⟨rfl, (List.cons.inj e).2⟩
  | [], y :: q, _, _, _, hq, e => absurd (List.mem_cons.mpr (.inl (List.cons.inj e).1)) hq
  | x :: p, [], _, _, hp, _, e => absurd (List.mem_cons.mpr (.inl (List.cons.inj e).1.symm)) hp
  | x :: p, y :: q, r, s, hp, hq, e => by
    obtain ⟨e1, e2⟩ := List.cons.inj e
    obtain ⟨h1, h2⟩ := split_inj (fun z => hp (List.mem_cons_of_mem _ z)) (fun z => hq (List.mem_cons_of_mem _ z)) e2
    exact ⟨by rw [e1, h1], h2⟩
theorem wt_inj {ls p c q e : List Nat} (hl : 40 ∉ ls) (h : Lw ls p c) (hq : 40 ∉ q) (w : wt p c = wt q e) : p = q ∧ c = e := by
  obtain ⟨h1, h2⟩ := split_inj (h.no40 hl) hq w
  exact ⟨h1, List.append_cancel_right h2⟩
/-- no word text: no text, or a text of another form -/
def BadW (K : PySem.W.Frag) (ls : List Nat) (H : Hp) (v : V) : Prop := isiB K H v "str" false ∨ ∃ l, v = S l ∧ l.length ≤ 1000000 ∧ ∀ p c, l = wt p c → ¬ Lw ls p c
end G

/-! A9: endswith, upper, dicts of the top, enumerate of a text, copies, errors with one value. -/
namespace G
open PySem PySem.Spec PyProof.Rows L2 TL
theorem mt_ends {X : Cx} : MtR X "str.endswith" rEndS := by
  intro pins s σ H x xs v us Q I rx rxs h
  obtain ⟨l, c, rfl, rfl, q⟩ := h
  exact mt_endswith pins s σ H _ _ v us Q I rx rxs ⟨_, _, rfl, rfl, by rw [ends1]; exact q⟩
theorem call_isiU {X : Cx} : CallR X (.builtin "isinstance") (rIsiU X.K) := call_isi
def rUp : V → List V → Hp → VK → Prop := fun x xs H Q => ∃ l : List Nat, x = S l ∧ xs = [] ∧ l.length ≤ 1000000 ∧ (∀ c ∈ l, c < 128) ∧ Q (S (l.map up1)) H
theorem mt_upU {X : Cx} : MtR X "str.upper" rUp := by
  intro pins s σ H x xs v us Q I rx rxs h
  obtain ⟨l, rfl, rfl, hl, ha, q⟩ := h
  refine mt_upper pins s σ H _ _ v us Q I rx rxs ⟨_, rfl, rfl, by rw [mk_len]; omega, ?_⟩
  have e : Txt.upper (mk l) = mk (l.map up1) := by
    rw [upper_ascii (x := mk l) ha]
    show (⟨(l.toArray).map up1⟩ : Str) = ⟨(l.map up1).toArray⟩
    rw [List.map_toArray]
  rw [e]
  exact q

/-! ### a dict of the top, texts as keys -/
structure TabD (K : PySem.W.Frag) (w : World) (a : Addr) (kvs : List (List Nat × V)) : Prop where
  kd : ∃ es n, KDict K w a es n
  has : ∀ kv ∈ kvs, ∃ u, PySem.W.nsIn K a (mk kv.1) = some (some u) ∧ RelV kv.2 u
  not : ∀ l : List Nat, (∀ kv ∈ kvs, l ≠ kv.1) → PySem.W.nsIn K a (mk l) = some none
theorem find_keys {P : Params} {x : Str} : ∀ {l : List DictEntry} {ks : List Str}, l.map He.keyOf = He.keysIn P ks → x ∉ ks → l.find? (·.key.isStr x) = none ∧ l.any (·.refKey) = false
  | [], _, _, _ => ⟨rfl, rfl⟩
  | e :: r, [], h, _ => by cases h
  | e :: r, k :: ks, h, hx => by
    have h1 : He.keyOf e :: r.map He.keyOf = some (k, PyData.keyHash P k) :: He.keysIn P ks := h
    injection h1 with h2 h3
    obtain ⟨i1, i2⟩ := find_keys h3 (fun z => hx (List.mem_cons_of_mem _ z))
    unfold He.keyOf at h2
    split at h2
    · rename_i y t q
      obtain ⟨h5, h6⟩ := Prod.mk.inj (Option.some.inj h2)
      have hne : y ≠ x := fun z => hx (by rw [← z, h5]; exact List.mem_cons_self)
      have e1 : e.key.isStr x = false := by
        rw [q]
        show (y == x) = false
        simpa using hne
      have e2 : e.refKey = false := by
        unfold DictEntry.refKey
        rw [q]
      constructor
      · rw [List.find?_cons, e1]
        exact i1
      · rw [List.any_cons, e2, i2]
        rfl
    · cases h2
theorem nsIn_none {K : PySem.W.Frag} {w : World} {a : Addr} {ks : List Str} {x : Str} (h : He.dicW K a = some (He.keysIn w.params ks)) (hx : x ∉ ks) : PySem.W.nsIn K a x = some none := by
  unfold He.dicW at h
  unfold PySem.W.nsIn
  cases q : K.lookup a with
  | none =>
    rw [q] at h
    cases h
  | some o =>
    obtain ⟨oc, od, dt, osl⟩ := o
    rw [q] at h
    cases oc with
    | type c =>
      cases od with
      | none =>
        cases dt with
        | dict es n =>
          have h1 : (match decide (c = "dict") && (osl.isEmpty && !(a == sysModules)) with
            | true => some (es.toList.map He.keyOf)
            | false => none) = some (He.keysIn w.params ks) := h
          cases z : decide (c = "dict") && (osl.isEmpty && !(a == sysModules)) with
          | false =>
            rw [z] at h1
            cases h1
          | true =>
            rw [z] at h1
            obtain ⟨f1, f2⟩ := find_keys (Option.some.inj h1) hx
            dsimp only
            rw [f1, f2]
            rfl
        | _ => cases h
      | some b => cases dt <;> cases h
    | _ => cases od <;> cases dt <;> cases h
theorem tabD_of {fa : List He.Fa} {fn : List He.DefD} {ts : List He.Tab} {w : World} {K : PySem.W.Frag} (c : He.SaysT fa fn ts w K) (i : Nat) {t : He.Tab} (kvs : List (List Nat × V)) (h : ts[i]? = some t) (hk : t.2 = kvs.map fun kv => mk kv.1)
    (hv : ∀ kv ∈ kvs, ∃ u, PySem.W.nsIn K (t.1 K) (mk kv.1) = some (some u) ∧ RelV kv.2 u) : TabD K w (t.1 K) kvs := by
  refine ⟨c.tab i h, hv, fun l hl => ?_⟩
  have e : ts.map (fun t => He.dicW K (t.1 K)) = ts.map fun t => some (He.keysIn w.params t.2) := congrArg (fun z : He.AlT => z.2) c
  have e2 : (ts.map fun t => He.dicW K (t.1 K))[i]? = (ts.map fun t => some (He.keysIn w.params t.2))[i]? := by rw [e]
  rw [List.getElem?_map, List.getElem?_map, h] at e2
  refine nsIn_none (ks := t.2) (Option.some.inj e2) ?_
  rw [hk]
  intro z
  obtain ⟨kv, hkv, ekv⟩ := List.mem_map.mp z
  exact hl kv hkv (mk_inj ekv).symm
def tabB (K : PySem.W.Frag) (a : Addr) (kvs : List (List Nat × V)) : Bool := kvs.all fun q => match PySem.W.nsIn K a (mk q.1) with
  | some (some u) => He.relB q.2 u
  | _ => false
theorem tabB_ok {K : PySem.W.Frag} {a : Addr} {kvs : List (List Nat × V)} (h : tabB K a kvs = true) : ∀ kv ∈ kvs, ∃ u, PySem.W.nsIn K a (mk kv.1) = some (some u) ∧ RelV kv.2 u := fun q hq => by
  have h2 := List.all_eq_true.mp h q hq
  cases e : PySem.W.nsIn K a (mk q.1) with
  | none =>
    rw [e] at h2
    cases h2
  | some r =>
    rw [e] at h2
    cases r with
    | none => cases h2
    | some u => exact ⟨u, rfl, He.relB_ok h2⟩
def rNinD (a : Addr) (kvs : List (List Nat × V)) : R2 := fun x y H Q => ∃ l : List Nat, x = S l ∧ y = .ref a ∧ ((∀ kv ∈ kvs, l ≠ kv.1) → Q (.bl true) H) ∧ ((∃ kv ∈ kvs, l = kv.1) → Q (.bl false) H)
theorem op_ninD {X : Cx} {a : Addr} {kvs : List (List Nat × V)} (T : TabD X.K X.w a kvs) : OpR X (compareOp .NotIn) (rNinD a kvs) := by
  intro pins s σ H x y v u Q I rx ry h
  obtain ⟨l, rfl, rfl, h1, h2⟩ := h
  obtain ⟨es, n, kd⟩ := T.kd
  by_cases hl : ∃ kv ∈ kvs, l = kv.1
  · have q := h2 hl
    obtain ⟨kv, hkv, rfl⟩ := hl
    obtain ⟨u', e, _⟩ := T.has kv hkv
    exact op_notIn_kd kd pins s σ H _ _ v u Q I rx ry ⟨_, _, rfl, rfl, e, q⟩
  · have hn : ∀ kv ∈ kvs, l ≠ kv.1 := fun kv hkv e => hl ⟨kv, hkv, e⟩
    exact op_notIn_kd kd pins s σ H _ _ v u Q I rx ry ⟨_, _, rfl, rfl, T.not l hn, h1 hn⟩
/-- d[key], the key is there -/
def rIxDU (a : Addr) (kvs : List (List Nat × V)) : R2 := fun x y H Q => ∃ kv ∈ kvs, x = .ref a ∧ y = S kv.1 ∧ Q kv.2 H
theorem ix_D {X : Cx} {a : Addr} {kvs : List (List Nat × V)} (T : TabD X.K X.w a kvs) : IxR X (rIxDU a kvs) := by
  intro value slice pins s σ H x y v u Q I rx ry h hs
  obtain ⟨kv, hkv, rfl, rfl, q⟩ := h
  obtain ⟨es, n, kd⟩ := T.kd
  obtain ⟨u', e, r⟩ := T.has kv hkv
  exact ix_kdict value slice pins s σ H _ _ v u Q I rx ry ⟨_, _, _, rfl, rfl, ⟨es, n, u', kd.at_, kd.lit, e, r⟩, q⟩ hs

/-! ### enumerate(text) -/
def IteS (x : Str) : It :=
  ⟨fun i _ => i < x.cps.size, fun i H v H' => ∃ T c, v = .ref T ∧ H T = none ∧ H' = upd H T (.tup [.int (i : Nat), .str ⟨#[c]⟩]) ∧ x.cps[i]? = some c, fun i _ => x.cps.size ≤ i⟩
theorem draws_str {prog : Program} {w : World} {A : Around} (hh : A.handled = none) (it : Addr) (x : Str) (t : Tok) :
    Draws prog w A it [it] x.cps.size (fun i v => ∃ c u, x.cps[i]? = some c ∧ v = .str ⟨#[c]⟩ u) (fun i h => h.IsStrIter it (strIterType x) x t i) := by
  unfold strIterType
  split
  · exact Draws.strAscii hh it x t
  · exact Draws.strWide hh it x t
theorem turn_enumS {P : Program} {w : World} {K : PySem.W.Frag} {elts : List Expr} {kk : Nat} {tpos : Pos} (x : Str) (t : Tok) (e it : Addr) :
    Turn P w K (.Tuple elts kk tpos) (IteS x) [e, it] e (fun i h => (∃ old, IsEnum h e it ((i : Nat) : Int) old) ∧ h.IsStrIter it (strIterType x) x t i ∧ e ≠ it ∧ i ≤ x.cps.size) where
  mem := by simp
  obj := fun i h st b hb => by
    obtain ⟨⟨old, he⟩, ⟨o, ho, hc, hd⟩, _⟩ := st
    have e' : b = e ∨ b = it := by simpa using hb
    rcases e' with z | z
    · rw [z]; exact ⟨_, he, fun v q => nomatch q⟩
    · rw [z]; exact ⟨o, ho, fun v q => by rw [hd] at q; cases q⟩
  keep := fun i h h' st k => let ⟨⟨old, he⟩, hi, hne⟩ := st; ⟨⟨old, k e (by simp) _ he⟩, (let ⟨o, ho, r⟩ := hi; ⟨o, k it (by simp) o ho, r⟩), hne⟩
  item := by
    intro X hP hw hK hc i pins s σ H E I hf st hg
    subst hP hw hK
    obtain ⟨⟨old, he⟩, hit, hne, _⟩ := st
    have D := draws_str (prog := X.prog) (w := X.w) (A := X.A.in1) (I.ok.hd hc) it x t
    have hel : e < s.heap.objs.size := Heap.lt_size he
    have hil : it < s.heap.objs.size := by obtain ⟨_, q, _⟩ := hit; exact Heap.lt_size q
    refine wpAny_pyNext_enum_itemD D he hit hg hne (by simpa using hne) fun y h' tk hP ho hit' hT hsz hk => ?_
    obtain ⟨c, u, hcx, rfl⟩ := hP
    refine ⟨_, rfl, wpAny_letOwnedTupleGo_enum (s := { s with heap := h', toks := tk + 1 }) ho fun h'' he' sb => ?_⟩
    have hT2 : h''.get? s.heap.objs.size = some { cls := .type "tuple", data := .seq #[.int i tk, .str ⟨#[c]⟩ u] } := (sb.2 _ (Nat.ne_of_gt hel)).trans hT
    have new : ObjOk X.prog X.w (upd H s.heap.objs.size (.tup [.int (i : Nat), .str ⟨#[c]⟩])) h'' s.heap.objs.size (.tup [.int (i : Nat), .str ⟨#[c]⟩]) :=
      ⟨by show 2 ≤ sizeLine; decide, [.int i tk, .str ⟨#[c]⟩ u], .cons ⟨_, rfl⟩ (.cons ⟨_, rfl⟩ .nil), ⟨_, hT2, rfl, _, rfl⟩⟩
    have I1 : Inv X pins σ (upd H s.heap.objs.size (.tup [.int (i : Nat), .str ⟨#[c]⟩])) { s with heap := h'', toks := tk + 1 } :=
      I.turnedNew (ch := [e, it]) (fun b ob hb q => (sb.2 b (fun z => hb (by simp [z]))).trans (hk b ob (fun z => hb (by simp [z])) (fun z => hb (by simp [z])) q)) hf (Nat.le_refl _) new
    refine ⟨.ref s.heap.objs.size, _, I1, rfl, ⟨_, c, rfl, I.hok.fresh (Nat.le_refl _), rfl, hcx⟩, ⟨⟨.str ⟨#[c]⟩ u, ?_⟩, (let ⟨o, ho', r⟩ := hit'; ⟨o, (sb.2 it (Ne.symm hne)).trans ho', r⟩), hne, hg⟩, fun b hb => ?_⟩
    · have e1 : ((i + 1 : Nat) : Int) = (i : Int) + 1 := by omega
      rw [e1]; exact he'
    · have hb' : b < s.heap.objs.size := by
        have e' : b = e ∨ b = it := by simpa using hb
        rcases e' with z | z
        · rw [z]; exact hel
        · rw [z]; exact hil
      rw [upd_ne (Nat.ne_of_lt hb')]
      exact (hf b hb).1
  done := by
    intro X hP hw hK hc i pins s σ H E I hf st hg
    subst hP hw hK
    obtain ⟨⟨old, he⟩, hit, hne, hi⟩ := st
    have D := draws_str (prog := X.prog) (w := X.w) (A := X.A.in1) (I.ok.hd hc) it x t
    obtain ⟨f0, f1, f2, f3, f4, f5⟩ := hf it (by simp)
    have ei : i = x.cps.size := Nat.le_antisymm hi hg
    subst ei
    exact wpAny_pyNext_enum_endD D he hit fun h' eb => ⟨rfl, I.turned (t' := s.toks) (fun b o hb q => eb b o hb q) f0 f1 f3 f4 f5⟩
  self := fun A i s Q E st h => let ⟨⟨_, he⟩, _⟩ := st; wpAny_pyIter_enum he h
def iEnumS (ta : TA) : TI := fun σ H R => ta σ H fun vs H1 => ∃ x, vs = [.str x] ∧ R (IteS x) H1
theorem pi_enumS {X : Cx} {e : Expr} {ta : TA} {p pos tpos : Pos} {elts : List Expr} {kk : Nat} (hg : Gl X "enumerate") (hm : X.mg "enumerate" = none) (ha : PA X [e] ta) (hs : starEach [e] X.env = [(false, eval e X.env)] := by rfl) :
    PI X (.Tuple elts kk tpos) (.Call (.Name "enumerate" p) [e] [] pos) (iEnumS ta) := by
  refine ⟨fun pins s σ H R I h => ?_⟩
  refine Call_ (ld_blt I hg hm boot_enumerate (PyProof.Rows.callWith_type1 (thn (ha.run pos pins s σ H _ I h) fun us s1 ⟨vs, H1, I1, r1, q1⟩ => ?_) hs rfl))
  obtain ⟨x, ex, q⟩ := q1
  subst ex
  cases r1 with
  | cons r rr =>
    cases rr
    obtain ⟨t, rfl⟩ := r
    refine call_enumerate_str fun h' he hit hsz hk => wpAny_pyIter_enum he ?_
    have I2 : Inv X pins σ H1 { s1 with heap := h' } := I1.kept (t' := s1.toks) hk
    refine ⟨s1.heap.objs.size + 1, [s1.heap.objs.size + 1, s1.heap.objs.size], _, _, H1, rfl, I2, turn_enumS x t (s1.heap.objs.size + 1) s1.heap.objs.size, ⟨⟨.none, he⟩, hit, Nat.succ_ne_self _, Nat.zero_le _⟩, fun b hb => ?_, q⟩
    have e' : b = s1.heap.objs.size + 1 ∨ b = s1.heap.objs.size := by simpa using hb
    have hle : s1.heap.objs.size ≤ b := by
      rcases e' with z | z
      · rw [z]; exact Nat.le_add_right _ _
      · rw [z]; exact Nat.le_refl _
    exact I1.fpOk hle (I1.hok.fresh hle)
def kES (R : It → Hp → Prop) : List V → Hp → Prop := fun vs H1 => ∃ x, vs = [.str x] ∧ R (IteS x) H1
section
variable {σ : L2.St} {H : Hp} {R : It → Hp → Prop} {ta : TA} {l : List Nat}
instance : Go (iEnumS ta σ H R) (ta σ H (kES R)) := ⟨id⟩
instance : Go (kES R [S l] H) (R (IteS (mk l)) H) := ⟨fun q => ⟨_, rfl, q⟩⟩
end
theorem walk_enumS {l : List Nat} : Walk (IteS (mk l)) l.length (fun _ => True) (fun i H v H' => ∃ T, v = .ref T ∧ H T = none ∧ H' = upd H T (.tup [.int (i : Nat), S [l.getD i 0]])) := by
  have e : (mk l).cps.size = l.length := by simp
  refine ⟨fun i H hi _ => by rw [← e] at hi; exact hi, fun H _ => by show (mk l).cps.size ≤ _; rw [e]; exact Nat.le_refl _, fun i H v H' hi _ y => ?_⟩
  obtain ⟨T, c, h1, h2, h3, h4⟩ := y
  refine ⟨T, h1, h2, ?_⟩
  have h5 : l[i]? = some c := by simpa using h4
  have h6 : l.getD i 0 = c := by rw [List.getD_eq_getElem?_getD, h5]; rfl
  rw [h3, h6]
/-- a comprehension over new pairs -/
theorem go_lcE {K : PySem.W.Frag} {J : It} {n : Nat} {Gd : Hp → Prop} {f1 f2 : Nat → V} (w : Walk J n Gd (fun i H x H' => ∃ T, x = .ref T ∧ H T = none ∧ H' = upd H T (.tup [f1 i, f2 i]))) {j1 j2 : Nat} {tt : TT} {te : TE} {vs : List Nat} {σ : L2.St} {H : Hp} {Q : VK} (b : Nat → Bool) (v : Nat → V)
    (hG : ∀ H', Same H H' → Gd H') (hw : ∀ x y, wipe (((wipe σ vs).set j1 (some x)).set j2 (some y)) vs = wipe σ vs) (hn : n ≤ 1000000)
    (ht : ∀ i H', i < n → Same H H' → PT1 tt (((wipe σ vs).set j1 (some (f1 i))).set j2 (some (f2 i))) H' (b i)) (he : ∀ i H', i < n → Same H H' → b i = true → PE1 te (((wipe σ vs).set j1 (some (f1 i))).set j2 (some (f2 i))) H' (v i))
    (q : ∀ D H', H D = none → Same H H' → H' D = some (.lst (kept n b v)) → Q (.ref D) H') : kLc (gTup K 2 (gCons (gName j1) (gCons (gName j2) gNil))) tt te vs σ Q J H := fun D hD => by
  refine lc_it w (Pv := fun i H' => Same H H' ∧ H' D = some (.lst (kept i b v))) ⟨upd_of hD, upd_same⟩ (fun i H' _ p => hG H' p.1) ?_ (fun H' p => q D H' hD p.1 p.2)
  rintro i x H1 H' hi ⟨s1, e1⟩ ⟨T, rfl, hT, rfl⟩
  have s1' : Same H1 (upd H1 T (.tup [f1 i, f2 i])) := upd_of hT
  refine ⟨T, [f1 i, f2 i], rfl, SqT.of upd_same, rfl, f1 i, [f2 i], rfl, f2 i, [], rfl, rfl, ?_⟩
  refine ⟨hw _ _, ht i _ hi (s1.trans s1') _ fun H2 s2 => ?_⟩
  have s12 := (s1.trans s1').trans s2
  have e2 := s2 _ _ (s1' _ _ e1)
  by_cases hb : b i = true
  · rw [hb]
    rw [if_pos rfl]
    refine he i H2 hi s12 hb _ fun H3 s3 => ⟨_, s3 _ _ e2, ?_, ?_, ?_⟩
    · have := kept_len i b v
      have := sizeLine_eq
      omega
    · exact upd_keep hD (s12.trans s3)
    · rw [upd_same, kept_yes hb]
  · have hb' : b i = false := by simpa using hb
    rw [hb', if_neg (by decide)]
    refine ⟨s12, ?_⟩
    rw [kept_no hb']
    exact e2

/-! ### values that are copied: scalars, flat lists and tuples -/
def scalB : V → Bool
  | .non => true
  | .bl _ => true
  | .int _ => true
  | .str _ => true
  | _ => false
def FlatAt (K : PySem.W.Frag) (H : Hp) (v : V) : Prop := scalB v = true ∨ ∃ a xs, v = .ref a ∧ xs.all scalB = true ∧ xs.length ≤ 1000 ∧ (SqL K H a xs ∨ SqT K H a xs)
def Copy (K : PySem.W.Frag) (H : Hp) (v v' : V) : Prop := (scalB v = true ∧ v' = v) ∨ ∃ a b xs, v = .ref a ∧ v' = .ref b ∧ xs.all scalB = true ∧ xs.length ≤ 1000 ∧ ((SqL K H a xs ∧ SqL K H b xs) ∨ (SqT K H a xs ∧ SqT K H b xs))
theorem sq_same {K : PySem.W.Frag} {H H' : Hp} {a : Addr} {xs : List V} (s : Same H H') (h : SqL K H a xs) : SqL K H' a xs := s.seq h
theorem st_same {K : PySem.W.Frag} {H H' : Hp} {a : Addr} {xs : List V} (s : Same H H') (h : SqT K H a xs) : SqT K H' a xs := Evl.ex_t s h
theorem FlatAt.same {K : PySem.W.Frag} {H H' : Hp} {v : V} (h : FlatAt K H v) (s : Same H H') : FlatAt K H' v := by
  rcases h with h | ⟨a, xs, e, h1, h2, h3 | h3⟩
  · exact .inl h
  · exact .inr ⟨a, xs, e, h1, h2, .inl (sq_same s h3)⟩
  · exact .inr ⟨a, xs, e, h1, h2, .inr (st_same s h3)⟩
theorem Copy.same {K : PySem.W.Frag} {H H' : Hp} {v v' : V} (h : Copy K H v v') (s : Same H H') : Copy K H' v v' := by
  rcases h with h | ⟨a, b, xs, e1, e2, h1, h2, ⟨h3, h4⟩ | ⟨h3, h4⟩⟩
  · exact .inl h
  · exact .inr ⟨a, b, xs, e1, e2, h1, h2, .inl ⟨sq_same s h3, sq_same s h4⟩⟩
  · exact .inr ⟨a, b, xs, e1, e2, h1, h2, .inr ⟨st_same s h3, st_same s h4⟩⟩
/-- an object that is no list and no tuple may go -/
theorem del_seq {K : PySem.W.Frag} {H : Hp} {a b : Addr} {xs : List V} {g : Heap → Prop} (h : SqL K H b xs) (e : H a = some (.ext g)) : SqL K (L2.del H a) b xs := by
  rcases h with (h | ⟨o, h⟩) | h
  · refine .inl (.inl ?_)
    rw [del_ne (fun z => by rw [z, e] at h; cases h)]
    exact h
  · refine .inl (.inr ⟨o, ?_⟩)
    rw [del_ne (fun z => by rw [z, e] at h; cases h)]
    exact h
  · exact .inr h
theorem del_tup {K : PySem.W.Frag} {H : Hp} {a b : Addr} {xs : List V} {g : Heap → Prop} (h : SqT K H b xs) (e : H a = some (.ext g)) : SqT K (L2.del H a) b xs := by
  rcases h with (h | ⟨o, h⟩) | h
  · refine .inl (.inl ?_)
    rw [del_ne (fun z => by rw [z, e] at h; cases h)]
    exact h
  · refine .inl (.inr ⟨o, ?_⟩)
    rw [del_ne (fun z => by rw [z, e] at h; cases h)]
    exact h
  · exact .inr h
theorem Copy.del {K : PySem.W.Frag} {H : Hp} {a : Addr} {v v' : V} {g : Heap → Prop} (h : Copy K H v v') (e : H a = some (.ext g)) : Copy K (L2.del H a) v v' := by
  rcases h with h | ⟨a, b, xs, e1, e2, h1, h2, ⟨h3, h4⟩ | ⟨h3, h4⟩⟩
  · exact .inl h
  · exact .inr ⟨a, b, xs, e1, e2, h1, h2, .inl ⟨del_seq h3 e, del_seq h4 e⟩⟩
  · exact .inr ⟨a, b, xs, e1, e2, h1, h2, .inr ⟨del_tup h3 e, del_tup h4 e⟩⟩

/-! ### an error class whose __init__ keeps a copy of its one value -/
/-- the __init__ -/
def spInit (K : PySem.W.Frag) (f : Str) : Sp := fun vs H Q _ => ∃ (a C : Addr) (v : V), vs = [.ref a, v] ∧ OexC K C ∧ PySem.W.findIn K (.ref C) f = some none ∧ H a = some (exo a C none) ∧ FlatAt K H v ∧
  ∀ v' H1 dx, Same H H1 → Copy K H1 v v' → H1 dx = none → dx ≠ a → Q .non (upd (upd H1 dx (exd dx [(f, v')])) a (exo a C (some dx)))
/-- what is promised of an error of the class C with such a value -/
def Err1 (K : PySem.W.Frag) (C : Str) (f : Str) (v : V) (H : Hp) (E : XK) : Prop := ∀ (d : Addr) (v' : V) (H' : Hp), Same H H' → H' d = some (.xd [(f, v')]) → Copy K H' v v' → E (.ref (He.ga K C)) (some d) H'
theorem Err1.same {K : PySem.W.Frag} {C f : Str} {v : V} {H H1 : Hp} {E : XK} (h : Err1 K C f v H E) (s : Same H H1) : Err1 K C f v H1 E := fun d v' H' s' e c => h d v' H' (s.trans s') e c
/-- an error without values -/
def Err0 (K : PySem.W.Frag) (C : Str) (H : Hp) (E : XK) : Prop := ∀ H' : Hp, Same H H' → E (.ref (He.ga K C)) none H'
theorem Err0.same {K : PySem.W.Frag} {C : Str} {H H1 : Hp} {E : XK} (h : Err0 K C H E) (s : Same H H1) : Err0 K C H1 E := fun H' s' => h H' (s.trans s')
/-- raise C(v) -/
theorem go_raise1 {K : PySem.W.Frag} {C f : Str} {v : V} {H : Hp} {σ : L2.St} {E : XK} {ta : TA} (o : OexC K (He.ga K C)) (n : PySem.W.findIn K (.ref (He.ga K C)) f = some none) (hv : FlatAt K H v) (hE : Err1 K C f v H E)
    (hta : ∀ Q, Q [v] H → ta σ H Q) : tMkO (He.ga K C) (spInit K f) [] ta σ H E := by
  refine hta _ ⟨by show 1 ≤ 1000; decide, fun a ha => ?_⟩
  refine ⟨a, _, v, rfl, o, n, upd_same, hv.same (upd_of ha), fun v' H1 dx s1 c1 nd hda => ?_⟩
  refine ⟨rfl, dx, [(f, v')], upd_same, by rw [upd_ne hda, upd_same], ?_, ?_⟩
  · cases e : H dx with
    | none => rfl
    | some o' =>
      have := s1 dx o' (by rw [upd_ne hda]; exact e)
      rw [nd] at this
      cases this
  · have ea : H1 a = some (exo a (He.ga K C) none) := s1 a _ upd_same
    have sH : Same (L2.del H1 a) (upd (L2.del (upd (upd H1 dx (exd dx [(f, v')])) a (exo a (He.ga K C) (some dx))) a) dx (.xd [(f, v')])) := fun b o' eb => by
      obtain ⟨e1, e2⟩ := del_of eb
      have hbd : b ≠ dx := ne_of_none e1 nd
      rw [upd_ne hbd, del_ne e2, upd_ne e2, upd_ne hbd]
      exact e1
    refine hE dx v' _ (fun b o' eb => sH b o' ?_) upd_same ((c1.del (g := _) ea).same sH)
    have hba : b ≠ a := ne_of_none eb ha
    rw [del_ne hba]
    exact s1 b o' (by rw [upd_ne hba]; exact eb)
/-- self.f = e -/
theorem go_ost {K : PySem.W.Frag} {f : Str} {to te : TE} {D : Ends} {σ : L2.St} {H : Hp} {a C : Addr} {v v' : V} {H1 : Hp} (hte : ∀ Q : VK, Q v' H1 → te σ H Q) (hto : ∀ Q : VK, Q (.ref a) H1 → to σ H1 Q) (o : OexC K C) (n : PySem.W.findIn K (.ref C) f = some none)
    (e : H1 a = some (exo a C none)) (q : ∀ dx, H1 dx = none → dx ≠ a → D.nx σ (upd (upd H1 dx (exd dx [(f, v')])) a (exo a C (some dx)))) : tOst K f to te D σ H :=
  hte _ (hto _ ⟨a, C, rfl, o, n, .inl ⟨e, q⟩⟩)
end G

/-! A10: walks by the item, scalars by isinstance, tuple(list). -/
namespace G
open PySem PySem.Spec PyProof.Rows L2 TL
theorem walk_l {K : PySem.W.Frag} {a : Addr} {xs : List V} : Walk (Itl K a) xs.length (fun H => SqL K H a xs) (fun i H x H' => H' = H ∧ x = xs.getD i .non) :=
  walk_list.mono (fun _ h => h) fun i H x H' _ _ ⟨h1, h2⟩ => ⟨h1, by rw [List.getD_eq_getElem?_getD, h2]; rfl⟩
theorem walk_t {K : PySem.W.Frag} {a : Addr} {xs : List V} : Walk (Itt K a) xs.length (fun H => SqT K H a xs) (fun i H x H' => H' = H ∧ x = xs.getD i .non) :=
  walk_tup.mono (fun _ h => h) fun i H x H' _ _ ⟨h1, h2⟩ => ⟨h1, by rw [List.getD_eq_getElem?_getD, h2]; rfl⟩
theorem walk_st {l : List Nat} : Walk (Its (mk l)) l.length (fun _ => True) (fun i H v H' => H' = H ∧ v = S [l.getD i 0]) :=
  walk_s.mono (fun _ h => h) fun i H x H' _ _ ⟨h1, c, h2, h3⟩ => ⟨h1, by rw [h3, List.getD_eq_getElem?_getD, h2]; rfl⟩
theorem range_getD {α : Type} (d : α) : ∀ xs : List α, (List.range xs.length).map (fun i => xs.getD i d) = xs
  | xs => by
    apply List.ext_getElem
    · simp
    · intro i h1 h2
      simp [h2]
theorem kept_xs (xs : List V) : kept xs.length (fun _ => true) (fun i => xs.getD i .non) = xs := by
  rw [kept_all, range_getD]
theorem scal_list {K : PySem.W.Frag} {H : Hp} {v : V} (h : scalB v = true) : isiB K H v "list" false := by
  cases v with
  | non => exact (by decide +kernel : kitB "NoneType" "list" = some false)
  | bl b => exact (by decide +kernel : kitB "bool" "list" = some false)
  | int i => exact (by decide +kernel : kitB "int" "list" = some false)
  | str x => exact (by decide +kernel : kitB "str" "list" = some false)
  | _ => cases h
theorem scal_tup {K : PySem.W.Frag} {H : Hp} {v : V} (h : scalB v = true) : isiB K H v "tuple" false := by
  cases v with
  | non => exact (by decide +kernel : kitB "NoneType" "tuple" = some false)
  | bl b => exact (by decide +kernel : kitB "bool" "tuple" = some false)
  | int i => exact (by decide +kernel : kitB "int" "tuple" = some false)
  | str x => exact (by decide +kernel : kitB "str" "tuple" = some false)
  | _ => cases h
theorem lst_list {K : PySem.W.Frag} {H : Hp} {a : Addr} {xs : List V} (h : SqL K H a xs) : isiB K H (.ref a) "list" true := .inl ⟨xs, h, by decide +kernel⟩
theorem lst_tup {K : PySem.W.Frag} {H : Hp} {a : Addr} {xs : List V} (h : SqL K H a xs) : isiB K H (.ref a) "tuple" false := .inl ⟨xs, h, by decide +kernel⟩
theorem tup_list {K : PySem.W.Frag} {H : Hp} {a : Addr} {xs : List V} (h : SqT K H a xs) : isiB K H (.ref a) "list" false := .inr ⟨xs, h, by decide +kernel⟩
theorem tup_tup {K : PySem.W.Frag} {H : Hp} {a : Addr} {xs : List V} (h : SqT K H a xs) : isiB K H (.ref a) "tuple" true := .inr ⟨xs, h, by decide +kernel⟩
/-- other classes: str, int, bool -/
def isStrB : V → Bool
  | .str _ => true
  | _ => false
def isIntB : V → Bool
  | .int _ => true
  | .bl _ => true
  | _ => false
def isBlB : V → Bool
  | .bl _ => true
  | _ => false
theorem flat_str {K : PySem.W.Frag} {H : Hp} {v : V} (h : FlatAt K H v) : isiB K H v "str" (isStrB v) := by
  rcases h with h | ⟨a, xs, rfl, _, _, h | h⟩
  · cases v with
    | non => exact (by decide +kernel : kitB "NoneType" "str" = some false)
    | bl b => exact (by decide +kernel : kitB "bool" "str" = some false)
    | int i => exact (by decide +kernel : kitB "int" "str" = some false)
    | str x => exact (by decide +kernel : kitB "str" "str" = some true)
    | _ => cases h
  · exact .inl ⟨xs, h, by show kitB "list" "str" = some false; decide +kernel⟩
  · exact .inr ⟨xs, h, by show kitB "tuple" "str" = some false; decide +kernel⟩
theorem flat_int {K : PySem.W.Frag} {H : Hp} {v : V} (h : FlatAt K H v) : isiB K H v "int" (isIntB v) := by
  rcases h with h | ⟨a, xs, rfl, _, _, h | h⟩
  · cases v with
    | non => exact (by decide +kernel : kitB "NoneType" "int" = some false)
    | bl b => exact (by decide +kernel : kitB "bool" "int" = some true)
    | int i => exact (by decide +kernel : kitB "int" "int" = some true)
    | str x => exact (by decide +kernel : kitB "str" "int" = some false)
    | _ => cases h
  · exact .inl ⟨xs, h, by show kitB "list" "int" = some false; decide +kernel⟩
  · exact .inr ⟨xs, h, by show kitB "tuple" "int" = some false; decide +kernel⟩
theorem flat_bl {K : PySem.W.Frag} {H : Hp} {v : V} (h : FlatAt K H v) : isiB K H v "bool" (isBlB v) := by
  rcases h with h | ⟨a, xs, rfl, _, _, h | h⟩
  · cases v with
    | non => exact (by decide +kernel : kitB "NoneType" "bool" = some false)
    | bl b => exact (by decide +kernel : kitB "bool" "bool" = some true)
    | int i => exact (by decide +kernel : kitB "int" "bool" = some false)
    | str x => exact (by decide +kernel : kitB "str" "bool" = some false)
    | _ => cases h
  · exact .inl ⟨xs, h, by show kitB "list" "bool" = some false; decide +kernel⟩
  · exact .inr ⟨xs, h, by show kitB "tuple" "bool" = some false; decide +kernel⟩
/-- tuple(list) -/
theorem go_tupc {K : PySem.W.Frag} {p : Addr} {xs : List V} {H : Hp} {Q : VK} (h : SqL K H p xs) (k : ∀ l H', H l = none → Same H H' → H' l = some (.tup xs) → Q (.ref l) H') :
    (∃ (q : Addr) (ys : List V), [V.ref p] = [V.ref q] ∧ ((SqL K H q ys ∧ ∀ l, H l = none → Q (.ref l) (upd H l (.tup ys))) ∨ (SqT K H q ys ∧ Q (.ref q) H))) :=
  ⟨p, xs, rfl, .inl ⟨h, fun l hl => k l _ hl (upd_of hl) upd_same⟩⟩
/-- a level up -/
theorem Room.up {j k : Nat} {A : Around} (h : Room k A) (e : j ≤ k) : Room j A := h.mono e
end G

/-! A11: steps of __init__, is not None, lists of ints against [], words and counts. -/
namespace G
open PySem PySem.Spec PyProof.Rows L2 TL
def kOstB (K : PySem.W.Frag) (f : Str) (D : Ends) (σ : L2.St) (y : V) : VK := fun x H2 => ∃ a C : Addr, x = .ref a ∧ OexC K C ∧ PySem.W.findIn K (.ref C) f = some none ∧
  ((H2 a = some (exo a C none) ∧ ∀ dx, H2 dx = none → dx ≠ a → D.nx σ (upd (upd H2 dx (exd dx [(f, y)])) a (exo a C (some dx)))) ∨
    ∃ (dx : Addr) (fs : List (Str × V)), H2 a = some (exo a C (some dx)) ∧ H2 dx = some (exd dx fs) ∧ fs.length ≤ 900 ∧ D.nx σ (upd H2 dx (exd dx ((f, y) :: fs))))
def kOstA (K : PySem.W.Frag) (f : Str) (to : TE) (D : Ends) (σ : L2.St) : VK := fun y H1 => to σ H1 (kOstB K f D σ y)
section
variable {K : PySem.W.Frag} {f : Str} {to te : TE} {D : Ends} {σ : L2.St} {H : Hp} {v y : V}
instance : Go (tOst K f to te D σ H) (te σ H (kOstA K f to D σ)) := ⟨id⟩
instance : Go (kOstA K f to D σ v H) (to σ H (kOstB K f D σ v)) := ⟨id⟩
end
/-! is not None -/
def rIsNU : R2 := fun x y H Q => y = .non ∧ Q (.bl (!decide (x = .non))) H
theorem op_isnU {X : Cx} : OpR X (compareOp .IsNot) rIsNU := op_notN
section
variable {H : Hp} {Q : VK} {n : Int} {l : List Nat} {b : Bool}
instance : Go (rIsNU .non .non H Q) (Q (.bl false) H) := ⟨fun q => ⟨rfl, q⟩⟩
instance : Go (rIsNU (.int n) .non H Q) (Q (.bl true) H) := ⟨fun q => ⟨rfl, q⟩⟩
end
theorem cdp {i j : Int} (h0 : 0 < j) (h : j < 1000000) : CDivP i j := ⟨h0, PyProof.noPylong_small (by omega)⟩
theorem cdw {i j : Int} (h0 : 0 < j) (h : j < 1000000) : CDivW i j := wide_div h0 (b := 64) (by omega) (by decide) (by decide)
theorem cml {i j : Int} (h0 : 0 ≤ j) (h : j < 1000000) : CMul i j ∨ CMulW i j := .inl (.inr (by omega))
/-! a list of ints against [] -/
theorem dp_ints {K : PySem.W.Frag} {H : Hp} : ∀ xs : List Int, DpAll K H (xs.map V.int) (xs.map PyData.int)
  | [] => .nil
  | x :: xs => .cons (.int x) (dp_ints xs)
theorem lay_ints : ∀ xs : List Int, PyData.canLayAll0 (xs.map PyData.int) = true
  | [] => rfl
  | x :: xs => by
    have ih := lay_ints xs
    show (PyData.canLay0 (PyData.int x) && PyData.canLayAll0 (xs.map PyData.int)) = true
    rw [ih]
    rfl
theorem depth_ints : ∀ xs : List Int, PyData.depthAll (xs.map PyData.int) ≤ 1
  | [] => by decide
  | x :: xs => by
    have ih := depth_ints xs
    show max (PyData.depth (PyData.int x)) (PyData.depthAll (xs.map PyData.int)) ≤ 1
    have : PyData.depth (PyData.int x) ≤ 1 := by first | exact Nat.le_refl 1 | exact Nat.zero_le 1
    omega
theorem shaped_ints (xs : List Int) : SeqAt.shaped (.list (xs.map PyData.int)) = true := by
  unfold SeqAt.shaped
  have h1 : (PyData.list (xs.map PyData.int)).canLay0 = true := lay_ints xs
  have h2 : (PyData.list (xs.map PyData.int)).depth ≤ 64 := by
    have := depth_ints xs
    show PyData.depthAll (xs.map PyData.int) + 1 ≤ 64
    omega
  rw [h1, decide_eq_true h2]
  rfl
theorem go_eqnil {K : PySem.W.Frag} {H : Hp} {Q : VK} {a b : Addr} {xs : List Int} (h : SqL K H a (xs.map V.int)) (h2 : SqL K H b []) (q : Q (.bl (decide (xs = []))) H) : rEqU K (.ref a) (.ref b) H Q := by
  refine .inr ⟨_, .list [], .lst h (dp_ints xs), .lst h2 .nil, shaped_ints xs, shaped_ints [], ?_⟩
  cases xs with
  | nil => exact q
  | cons x xs => exact q

/-! ### words: counts, positions, letters -/
/-- in, out; the letter that counts beside B -/
abbrev cIn : List Nat := [105, 110]
abbrev cOut : List Nat := [111, 117, 116]
def Side (l : List Nat) (x : Nat) : Prop := (l = cIn ∧ x = 73) ∨ (l = cOut ∧ x = 79)
theorem Side.mem {l : List Nat} {x : Nat} (h : Side l x) : ∃ kv ∈ [(cIn, S [73]), (cOut, S [79])], l = kv.1 ∧ S [x] = kv.2 := by
  rcases h with ⟨rfl, rfl⟩ | ⟨rfl, rfl⟩
  · exact ⟨(cIn, S [73]), by simp, rfl, rfl⟩
  · exact ⟨(cOut, S [79]), by simp, rfl, rfl⟩
/-- how many letters of l are of ms -/
def cnt (ms l : List Nat) : Int := ((l.filter fun c => decide (c ∈ ms)).length : Nat)
theorem cnt_nil (ms : List Nat) : cnt ms [] = 0 := rfl
theorem cnt_cons (ms : List Nat) (a : Nat) (l : List Nat) : cnt ms (a :: l) = (if a ∈ ms then 1 else 0) + cnt ms l := by
  unfold cnt
  rw [List.filter_cons]
  by_cases h : a ∈ ms
  · rw [if_pos h, if_pos (decide_eq_true h), List.length_cons]
    omega
  · rw [if_neg h, if_neg (by rw [decide_eq_false h]; decide)]
    omega
theorem cnt_app (ms a b : List Nat) : cnt ms (a ++ b) = cnt ms a + cnt ms b := by
  unfold cnt
  rw [List.filter_append, List.length_append]
  omega
theorem cnt_one (x : Nat) : ∀ l : List Nat, cnt [x] l = ((l.count x : Nat) : Int)
  | [] => rfl
  | a :: l => by
    rw [cnt_cons, cnt_one x l, List.count_cons]
    by_cases e : a = x
    · subst e
      simp
      omega
    · simp [e]
theorem cnt_two {x y : Nat} (h : x ≠ y) : ∀ l : List Nat, cnt [x, y] l = cnt [x] l + cnt [y] l
  | [] => rfl
  | a :: l => by
    rw [cnt_cons, cnt_cons, cnt_cons, cnt_two h l]
    by_cases e : a = x
    · subst e
      have : ¬ a = y := h
      simp [this]
      omega
    · by_cases e2 : a = y
      · subst e2
        simp [e]
        omega
      · simp [e, e2]
theorem cnt_nn (ms l : List Nat) : 0 ≤ cnt ms l := by unfold cnt; omega
theorem cnt_le (ms l : List Nat) : cnt ms l ≤ l.length := by
  unfold cnt
  have := List.length_filter_le (fun c => decide (c ∈ ms)) l
  omega
/-- a count by whole cycles -/
def cyc (f : List Nat → Int) (p c : List Nat) (k : Int) : Int :=
  if k ≤ p.length then f (p.take k.toNat) else f p + (k - p.length) / c.length * f c + f (c.take ((k - p.length) % c.length).toNat)
/-- the letter at k -/
def lat (p c : List Nat) (k : Int) : Nat := if k < p.length then p.getD k.toNat 0 else c.getD ((k - p.length) % c.length).toNat 0
/-- where the letters of ms stand, from one -/
def posL (ms l : List Nat) : List Int := ((List.range l.length).filter fun i => decide (l.getD i 0 ∈ ms)).map fun (i : Nat) => (i : Int) + 1
theorem posL_kept (ms l : List Nat) : kept l.length (fun i => decide (l.getD i 0 ∈ ms)) (fun i => .int ((i : Int) + 1)) = (posL ms l).map V.int := by
  unfold kept posL
  rw [List.map_map]
  rfl
theorem posL_len (ms : List Nat) : ∀ l : List Nat, ((posL ms l).length : Int) = cnt ms l := by
  intro l
  unfold posL cnt
  rw [List.length_map]
  congr 1
  have e : l.filter (fun c => decide (c ∈ ms)) = ((List.range l.length).filter fun i => decide (l.getD i 0 ∈ ms)).map fun i => l.getD i 0 := by
    conv => lhs; rw [← range_getD 0 l]
    rw [List.filter_map]
    rfl
  rw [e, List.length_map]
theorem posL_le (ms l : List Nat) : (posL ms l).length ≤ l.length := by
  unfold posL
  rw [List.length_map]
  have h := List.length_filter_le (fun i => decide (l.getD i 0 ∈ ms)) (List.range l.length)
  rw [List.length_range] at h
  exact h
/-- the m-th such position -/
def posOf (ms p c : List Nat) (m : Int) : V :=
  if m ≤ (posL ms p).length then .int ((posL ms p).getD (m - 1).toNat 0) else
    if posL ms c = [] then .non else .int (p.length + (m - (posL ms p).length - 1) / (posL ms c).length * c.length + (posL ms c).getD ((m - (posL ms p).length - 1) % (posL ms c).length).toNat 0)
/-- no good number from least on -/
def badN : V → Int → Bool
  | .int n, least => decide (n < least)
  | _, _ => true
/-- no good side -/
def BadS (v : V) : Prop := ∀ l, v = S l → l ≠ cIn ∧ l ≠ cOut
theorem isiB_same {K : PySem.W.Frag} {H H' : Hp} {v : V} {c : String} {b : Bool} (s : Same H H') (h : isiB K H v c b) : isiB K H' v c b := by
  cases v with
  | ref a =>
    rcases h with ⟨xs, h1, h2⟩ | ⟨xs, h1, h2⟩
    · exact .inl ⟨xs, s.seq h1, h2⟩
    · exact .inr ⟨xs, st_same s h1, h2⟩
  | _ => exact h
theorem BadW.same {K : PySem.W.Frag} {ls : List Nat} {H H' : Hp} {v : V} (h : BadW K ls H v) (s : Same H H') : BadW K ls H' v := by
  rcases h with h | h
  · exact .inl (isiB_same s h)
  · exact .inr h
end G
namespace G
open PySem PySem.Spec PyProof.Rows L2 TL
/-- a tuple as a target, the written part by its name -/
theorem pg_tupU {X : Cx} (K : PySem.W.Frag) {es : List Expr} {k : Nat} {t : TGs} (n : Nat) {pos : Pos} (hc : X.calm = true) (hK : X.K = K) (h : PGs X es t)
    (hn : (assignEach es X.env).length = n := by rfl) (hst : (assignEach es X.env).findIdx? (·.1) = none := by rfl) : PG X (.Tuple es k pos) (gTup K n t) := by
  subst hK
  exact pg_tup hc h hn hst
end G
namespace G
open PySem PySem.Spec PyProof.Rows L2 TL
/-! ### the rules with the written part by its name (a block's context has it under a binder) -/
section
variable {X : Cx} (K : PySem.W.Frag) (hK : X.K = K)
include hK
theorem op_eqK (hu : X.A.units + 64 < cLine) : OpR X (compareOp .Eq) (rEqU K) := by subst hK; exact op_eqU hu
theorem op_neK (hu : X.A.units + 64 < cLine) : OpR X (compareOp .NotEq) (rNeU K) := by subst hK; exact op_neU hu
theorem ix_K : IxR X (rIxU K) := by subst hK; exact ix_U
theorem sl_K : SlR X (rSlU K) := by subst hK; exact sl_U
theorem call_lenK : CallR X (.builtin "len") (rLenU K) := by subst hK; exact call_lenU
theorem call_isiK : CallR X (.builtin "isinstance") (rIsiU K) := by subst hK; exact call_isiU
theorem call_listK : CallR X (.type "list") (rListU K) := by subst hK; exact call_listU
theorem cr_allK (hc : X.calm = true) : CallR X (.builtin "all") (rAll K) := by subst hK; exact cr_all hc
theorem cr_anyK (hc : X.calm = true) : CallR X (.builtin "any") (rAny K) := by subst hK; exact cr_any hc
theorem cr_sumK (hc : X.calm = true) : CallR X (.builtin "sum") (rSum K) := by subst hK; exact cr_sum hc
theorem mt_cntK : MtR X "list.count" (rCntF K) := by subst hK; exact mt_cntF
theorem mt_joinK : MtR X "str.join" (rJoin K) := by subst hK; exact mt_joinU
theorem ix_DK {w : World} (hw : X.w = w) {a : Addr} {kvs : List (List Nat × V)} (T : TabD K w a kvs) : IxR X (rIxDU a kvs) := by subst hK hw; exact ix_D T
theorem op_ninDK {w : World} (hw : X.w = w) {a : Addr} {kvs : List (List Nat × V)} (T : TabD K w a kvs) : OpR X (compareOp .NotIn) (rNinD a kvs) := by subst hK hw; exact op_ninD T
theorem pi_listK {tg l : Expr} {tl : TE} (hl : PE X l tl) : PI X tg l (iList K tl) := by subst hK; exact pi_list hl
theorem pi_tupK {tg l : Expr} {tl : TE} (hl : PE X l tl) : PI X tg l (iTup K tl) := by subst hK; exact pi_tup hl
theorem call_tupleK : CallR X (.type "tuple") (fun xs H Q => ∃ p ys, xs = [.ref p] ∧ ((SqL K H p ys ∧ ∀ l, H l = none → Q (.ref l) (upd H l (.tup ys))) ∨ (SqT K H p ys ∧ Q (.ref p) H))) := by subst hK; exact call_tuple_of
theorem pe_bmK {T id : String} {name : Str} {r : V → List V → Hp → VK → Prop} {o e : Expr} {es : List Expr} {to : TE} {t : TA} {apos cpos : Pos} (pa : PlainAttrs T) (slot : Slot T name id) (hty : typeOf (.builtin id) = pure (.type "method_descriptor")) (hm : MtR X id r) (ho : PE X o to) (ha : PA X (e :: es) t)
    (hbase : attributeBase o name X.env (eval o X.env) = eval o X.env := by rfl)
    (hfew : ((backTo cpos (starEach (e :: es) X.env)).all (fun x => !x.1) && (backToKw cpos (keywordEach [] X.env)).all (fun x => x.1.isSome)
      && decide ((e :: es).length + ([] : List Keyword).length + (if ([] : List Keyword).isEmpty then 0 else 1) < 30)) = true := by rfl)
    (hline : (apos.endLine == cpos.line) = true := by rfl) (hs : starEach (e :: es) X.env = (false, eval e X.env) :: starEach es X.env := by rfl) (hplain : (backTo cpos (starEach es X.env)).any (·.1) = false := by rfl) :
    PE X (.Call (.Attribute o name apos) (e :: es) [] cpos) (tBM K T r to t) := by subst hK; exact pe_bm pa slot hty hm ho ha hbase hfew hline hs hplain
theorem pe_bm0K {T id : String} {name : Str} {r : V → List V → Hp → VK → Prop} {o : Expr} {to : TE} {apos cpos : Pos} (pa : PlainAttrs T) (slot : Slot T name id) (hty : typeOf (.builtin id) = pure (.type "method_descriptor")) (hm : MtR X id r) (ho : PE X o to)
    (hbase : attributeBase o name X.env (eval o X.env) = eval o X.env := by rfl) (hline : (apos.endLine == cpos.line) = true := by rfl) : PE X (.Call (.Attribute o name apos) [] [] cpos) (tBM0 K T r to) := by subst hK; exact pe_bm0 pa slot hty hm ho hbase hline
end
end G
namespace G
open PySem PySem.Spec PyProof.Rows L2 TL
theorem go_lst' {Q : VK} {xs : List V} {H : Hp} (k : ∀ p H', H p = none → Same H H' → H' p = some (.lst xs) → Q (.ref p) H') (hl : xs.length ≤ 1000000 := by simp) : kLst Q xs H := go_lst k (sz6 hl)
theorem go_tup' {Q : VK} {xs : List V} {H : Hp} (k : ∀ p H', H p = none → Same H H' → H' p = some (.tup xs) → Q (.ref p) H') (hl : xs.length ≤ 1000000 := by simp) : kTup Q xs H := go_tup k (sz6 hl)
end G

/-! A12: append, cat, cuts of lists, word texts told by a Bool, lengths of kept. -/
namespace G
open PySem PySem.Spec PyProof.Rows L2 TL
theorem go_bml {K : PySem.W.Frag} {r : V → List V → Hp → VK → Prop} {tA : TA} {σ : L2.St} {Q : VK} {H : Hp} {a : Addr} {xs : List V} (h : SqL K H a xs) (q : tA σ H (kBM2 r (.ref a) Q)) : kBM1 K "list" r tA σ Q (.ref a) H := ⟨.inl ⟨rfl, xs, h⟩, q⟩
theorem go_append {H : Hp} {Q : VK} {l : Addr} {xs : List V} {y : V} (h : H l = some (.lst xs)) (hl : xs.length < 1000000) (q : Q .non (upd H l (.lst (xs ++ [y])))) : rAppend (.ref l) [y] H Q :=
  ⟨l, xs, y, rfl, rfl, h, Nat.lt_of_lt_of_le hl (by decide), q⟩
theorem go_cat {H : Hp} {Q : VK} {a b : Addr} {xs ys : List V} (h1 : H a = some (.lst xs)) (h2 : H b = some (.lst ys)) (hl : xs.length + ys.length ≤ 1000000) (k : ∀ p H', H p = none → Same H H' → H' p = some (.lst (xs ++ ys)) → Q (.ref p) H') : rAddU (.ref a) (.ref b) H Q :=
  .inr (.inr ⟨a, b, xs, ys, rfl, rfl, h1, h2, sz6 hl, fun l hp => k l _ hp (upd_of hp) upd_same⟩)
theorem cutV_to (xs : List V) (k : Int) (h : 0 ≤ k) : cutV xs none (some k) = xs.take k.toNat := by
  obtain ⟨n, rfl⟩ := Int.eq_ofNat_of_zero_le h
  unfold cutV
  rw [HT.sIx_none, HT.sIx_nat, List.drop_zero, Nat.sub_zero, Int.toNat_natCast]
  by_cases hn : n ≤ xs.length
  · rw [Nat.min_eq_left hn]
  · rw [Nat.min_eq_right (by omega), List.take_of_length_le (by omega), List.take_of_length_le (by omega)]
theorem getD_map {α : Type} (f : α → V) (d : α) (z : V) {xs : List α} {i : Nat} (h : i < xs.length) : (xs.map f).getD i z = f (xs.getD i d) := by
  rw [List.getD_eq_getElem?_getD, List.getElem?_map, List.getElem?_eq_getElem h, List.getD_eq_getElem?_getD, List.getElem?_eq_getElem h]
  rfl
theorem kept_cnt (ms l : List Nat) (v : Nat → V) : ((kept l.length (fun i => decide (l.getD i 0 ∈ ms)) v).length : Int) = cnt ms l := by
  rw [← posL_len]
  unfold kept posL
  rw [List.length_map, List.length_map]

/-! ### is it a word text? -/
def isWt (ls l : List Nat) : Bool :=
  let p := l.takeWhile fun c => decide (c ≠ 40)
  let r := l.dropWhile fun c => decide (c ≠ 40)
  let c := (r.drop 1).dropLast
  decide (p.length ≤ 12) && (p.all (fun x => decide (x ∈ ls)) && (decide (r = 40 :: (c ++ [41])) && (decide (1 ≤ c.length) && (decide (c.length ≤ 4) && c.all fun x => decide (x ∈ ls)))))
theorem take40 {p r : List Nat} (h : 40 ∉ p) : (p ++ 40 :: r).takeWhile (fun c => decide (c ≠ 40)) = p ∧ (p ++ 40 :: r).dropWhile (fun c => decide (c ≠ 40)) = 40 :: r := by
  induction p with
  | nil => exact ⟨by simp, by simp⟩
  | cons a p ih =>
    have ha : a ≠ 40 := fun z => h (by rw [z]; exact List.mem_cons_self)
    obtain ⟨h1, h2⟩ := ih fun z => h (List.mem_cons_of_mem _ z)
    constructor
    · rw [List.cons_append, List.takeWhile_cons, if_pos (decide_eq_true ha), h1]
    · rw [List.cons_append, List.dropWhile_cons, if_pos (decide_eq_true ha), h2]
theorem isW_of {ls p c : List Nat} (hl : 40 ∉ ls) (h : Lw ls p c) : isWt ls (wt p c) = true := by
  obtain ⟨e1, e2⟩ := take40 (r := c ++ [41]) (h.no40 hl)
  unfold isWt wt
  rw [e1, e2]
  show (decide (p.length ≤ 12) && (p.all (fun x => decide (x ∈ ls)) && (decide (40 :: (c ++ [41]) = 40 :: ((c ++ [41]).dropLast ++ [41])) && (decide (1 ≤ (c ++ [41]).dropLast.length) && (decide ((c ++ [41]).dropLast.length ≤ 4) && (c ++ [41]).dropLast.all fun x => decide (x ∈ ls)))))) = true
  rw [List.dropLast_concat, decide_eq_true h.p12, decide_eq_true rfl, decide_eq_true h.c1, decide_eq_true h.c4, List.all_eq_true.mpr (fun x hx => decide_eq_true (h.pl x hx)), List.all_eq_true.mpr (fun x hx => decide_eq_true (h.cl x hx))]
  rfl
theorem badW_of {K : PySem.W.Frag} {ls l : List Nat} {H : Hp} (hl : 40 ∉ ls) (h : isWt ls l = false) (hz : l.length ≤ 1000000) : BadW K ls H (S l) :=
  .inr ⟨l, rfl, hz, fun p c e hw => by
    rw [e, isW_of hl hw] at h
    cases h⟩
theorem badS_of {l : List Nat} (h1 : l ≠ cIn) (h2 : l ≠ cOut) : BadS (S l) := fun m e => by
  have := mk_inj (V.str.inj e)
  subst this
  exact ⟨h1, h2⟩
/-- the parts of a word text -/
theorem wt_take (p c : List Nat) : (wt p c).take p.length = p := by
  unfold wt
  rw [List.take_left]
theorem wt_mid (p c : List Nat) : ((wt p c).take ((wt p c).length - 1)).drop (p.length + 1) = c := by
  have e : wt p c = (p ++ 40 :: c) ++ [41] := by unfold wt; simp
  rw [e, List.length_append, show (p ++ 40 :: c).length + [41].length - 1 = (p ++ 40 :: c).length from rfl, List.take_left, show p ++ 40 :: c = (p ++ [40]) ++ c by simp, show p.length + 1 = (p ++ [40]).length by simp, List.drop_left]
end G

/-! A13: isinstance of the caught error; the plain law of counts and positions. -/
namespace G
open PySem PySem.Spec PyProof.Rows L2 TL
theorem go_isx {K : PySem.W.Frag} {a D : Addr} {d : Option Addr} {H : Hp} {c : V} {cv : Value} {b : Bool} {Q : VK} (hD : ExcD K D) (hd : DicAt d H) (kc : ClsV c cv) (e : PySem.W.kitOne K (.ref D) cv = some b) (q : Q (.bl b) H) : rIsX K a (.ref D) d [.ref a, c] H Q :=
  ⟨D, c, cv, b, rfl, hD, hd, rfl, kc, e, q⟩
theorem go_cntf {K : PySem.W.Frag} {H : Hp} {Q : VK} {p : Addr} {ys : List V} {y : V} (h : SqL K H p ys) (n : Nat) (f1 : flatV y = true) (f2 : ys.all flatV = true) (e : (ys.countP fun z => eqV z y) = n) (q : Q (.int (n : Int)) H) : rCntF K (.ref p) [y] H Q :=
  ⟨p, ys, y, rfl, rfl, h, f1, f2, by rw [e]; exact q⟩
/-! ### counts by whole cycles -/
theorem cyc_sub (f g : List Nat → Int) (p c : List Nat) (k : Int) : cyc (fun l => f l - g l) p c k = cyc f p c k - cyc g p c k := by
  unfold cyc
  dsimp only
  split
  · rfl
  · rw [Int.mul_sub]
    omega
theorem cyc_add (f g : List Nat → Int) (p c : List Nat) (k : Int) : cyc (fun l => f l + g l) p c k = cyc f p c k + cyc g p c k := by
  unfold cyc
  dsimp only
  split
  · rfl
  · rw [Int.mul_add]
    omega
theorem cyc_two {x y : Nat} (h : x ≠ y) (p c : List Nat) (k : Int) : cyc (cnt [x, y]) p c k = cyc (cnt [x]) p c k + cyc (cnt [y]) p c k := by
  rw [← cyc_add]
  congr 1
  funext l
  exact cnt_two h l
/-! ### the places of the marks -/
theorem posL_cons (ms : List Nat) (a : Nat) (l : List Nat) : posL ms (a :: l) = (if a ∈ ms then [1] else []) ++ (posL ms l).map (· + 1) := by
  unfold posL
  rw [List.length_cons, List.range_succ_eq_map, List.filter_cons, List.filter_map, List.map_map]
  have e : ((fun i => decide ((a :: l).getD i 0 ∈ ms)) ∘ Nat.succ) = fun i => decide (l.getD i 0 ∈ ms) := by
    funext i
    rfl
  rw [e]
  have e2 : ((fun (i : Nat) => (i : Int) + 1) ∘ Nat.succ) = (fun x : Int => x + 1) ∘ fun (i : Nat) => (i : Int) + 1 := by
    funext i
    show ((i + 1 : Nat) : Int) + 1 = (i : Int) + 1 + 1
    omega
  show List.map _ (if decide ((a :: l).getD 0 0 ∈ ms) = true then _ else _) = _
  by_cases h : a ∈ ms
  · rw [if_pos (by exact decide_eq_true h), if_pos h, List.map_cons, List.map_map, e2]
    rfl
  · rw [if_neg (by show ¬ decide (a ∈ ms) = true; rw [decide_eq_false h]; decide), if_neg h, List.map_map, e2]
    rfl
theorem pos_at (ms : List Nat) : ∀ (l : List Nat) (j : Nat), j < (posL ms l).length → ∃ i : Nat, i < l.length ∧ (posL ms l).getD j 0 = (i : Int) + 1 ∧ l.getD i 0 ∈ ms ∧ cnt ms (l.take i) = (j : Int) ∧ cnt ms (l.take (i + 1)) = (j : Int) + 1
  | [], j, h => by cases h
  | a :: l, j, h => by
    rw [posL_cons] at h ⊢
    by_cases ha : a ∈ ms
    · rw [if_pos ha] at h ⊢
      cases j with
      | zero =>
        refine ⟨0, by simp, rfl, ha, rfl, ?_⟩
        show cnt ms (a :: l.take 0) = 1
        rw [cnt_cons, if_pos ha]
        rfl
      | succ j =>
        have hj : j < (posL ms l).length := by simpa using h
        obtain ⟨i, h1, h2, h3, h4, h5⟩ := pos_at ms l j hj
        refine ⟨i + 1, by rw [List.length_cons]; omega, ?_, h3, ?_, ?_⟩
        · show ((posL ms l).map (· + 1)).getD j 0 = _
          rw [List.getD_eq_getElem?_getD, List.getElem?_map, List.getElem?_eq_getElem hj]
          rw [List.getD_eq_getElem?_getD, List.getElem?_eq_getElem hj] at h2
          show (posL ms l)[j] + 1 = _
          have h2' : (posL ms l)[j] = (i : Int) + 1 := h2
          rw [h2']
          omega
        · rw [List.take_succ_cons, cnt_cons, if_pos ha, h4]
          omega
        · rw [List.take_succ_cons, cnt_cons, if_pos ha, h5]
          omega
    · rw [if_neg ha] at h ⊢
      have hj : j < (posL ms l).length := by simpa using h
      obtain ⟨i, h1, h2, h3, h4, h5⟩ := pos_at ms l j hj
      refine ⟨i + 1, by rw [List.length_cons]; omega, ?_, h3, ?_, ?_⟩
      · show ((posL ms l).map (· + 1)).getD j 0 = _
        rw [List.getD_eq_getElem?_getD, List.getElem?_map, List.getElem?_eq_getElem hj]
        rw [List.getD_eq_getElem?_getD, List.getElem?_eq_getElem hj] at h2
        show (posL ms l)[j] + 1 = _
        have h2' : (posL ms l)[j] = (i : Int) + 1 := h2
        rw [h2']
        omega
      · rw [List.take_succ_cons, cnt_cons, if_neg ha, h4]
        omega
      · rw [List.take_succ_cons, cnt_cons, if_neg ha, h5]
        omega
theorem div_of {L C r : Int} (h0 : 0 ≤ r) (h1 : r < C) : (L * C + r) / C = L ∧ (L * C + r) % C = r := by
  rw [Int.add_comm]
  constructor
  · rw [Int.add_mul_ediv_right _ _ (by omega), Int.ediv_eq_zero_of_lt h0 h1, Int.zero_add]
  · rw [Int.add_mul_emod_self_right, Int.emod_eq_of_lt h0 h1]
theorem take_all {l : List Nat} {n : Nat} (h : l.length ≤ n) : l.take n = l := List.take_of_length_le h
theorem pos_ok {ms p c : List Nat} {m v : Int} (h1 : 1 ≤ m) (hc : 1 ≤ c.length) (e : posOf ms p c m = .int v) : 1 ≤ v ∧ cyc (cnt ms) p c v = m ∧ cyc (cnt ms) p c (v - 1) = m - 1 ∧ lat p c (v - 1) ∈ ms := by
  unfold posOf at e
  have lA := posL_len ms p
  have lB := posL_len ms c
  by_cases h2 : m ≤ (posL ms p).length
  · rw [if_pos h2] at e
    obtain ⟨i, a1, a2, a3, a4, a5⟩ := pos_at ms p (m - 1).toNat (by omega)
    have ev : v = (i : Int) + 1 := by
      rw [a2] at e
      exact (V.int.inj e).symm
    subst ev
    refine ⟨by omega, ?_, ?_, ?_⟩
    · unfold cyc
      rw [if_pos (by omega), show ((i : Int) + 1).toNat = i + 1 by omega, a5]
      omega
    · unfold cyc
      rw [if_pos (by omega), show ((i : Int) + 1 - 1).toNat = i by omega, a4]
      omega
    · unfold lat
      rw [if_pos (by omega), show ((i : Int) + 1 - 1).toNat = i by omega]
      exact a3
  · rw [if_neg h2] at e
    by_cases h3 : posL ms c = []
    · rw [if_pos h3] at e
      cases e
    · rw [if_neg h3] at e
      have hB : 0 < (posL ms c).length := List.length_pos_iff.mpr h3
      have hq : 0 ≤ m - (posL ms p).length - 1 := by omega
      generalize eB : ((posL ms c).length : Int) = B at *
      generalize eA : ((posL ms p).length : Int) = A at *
      have m0 : 0 ≤ (m - A - 1) % B := Int.emod_nonneg _ (by omega)
      have m1 : (m - A - 1) % B < B := Int.emod_lt_of_pos _ (by omega)
      have md : B * ((m - A - 1) / B) + (m - A - 1) % B = m - A - 1 := Int.mul_ediv_add_emod _ _
      have d0 : 0 ≤ (m - A - 1) / B := Int.ediv_nonneg hq (by omega)
      generalize (m - A - 1) / B = L at *
      generalize (m - A - 1) % B = x at *
      obtain ⟨i, a1, a2, a3, a4, a5⟩ := pos_at ms c x.toNat (by omega)
      have ev : v = p.length + L * c.length + ((i : Int) + 1) := by
        rw [a2] at e
        exact (V.int.inj e).symm
      have hLC : 0 ≤ L * (c.length : Int) := Int.mul_nonneg d0 (by omega)
      have eC : cnt ms c = B := lB.symm
      have mdc : L * B + x = m - A - 1 := by rw [Int.mul_comm]; exact md
      subst ev
      refine ⟨by omega, ?_, ?_, ?_⟩
      · unfold cyc
        rw [if_neg (by omega), show ((p.length : Int) + L * c.length + ((i : Int) + 1) - p.length) = L * c.length + ((i : Int) + 1) by omega]
        by_cases h4 : (i : Int) + 1 < c.length
        · obtain ⟨q1, q2⟩ := div_of (L := L) (show (0 : Int) ≤ (i : Int) + 1 by omega) h4
          rw [q1, q2, show ((i : Int) + 1).toNat = i + 1 by omega, a5, eC]
          omega
        · have e5 : L * (c.length : Int) + ((i : Int) + 1) = (L + 1) * c.length + 0 := by
            rw [Int.add_mul]
            omega
          obtain ⟨q1, q2⟩ := div_of (L := L + 1) (C := (c.length : Int)) (show (0 : Int) ≤ 0 by omega) (by omega)
          rw [e5, q1, q2, eC]
          have e6 : cnt ms (c.take (i + 1)) = B := by rw [take_all (by omega), eC]
          rw [a5] at e6
          rw [Int.add_mul]
          show cnt ms p + (L * B + 1 * B) + cnt ms [] = m
          rw [cnt_nil]
          omega
      · by_cases h4 : (p.length : Int) + L * c.length + ((i : Int) + 1) - 1 ≤ p.length
        · have hLC0 : L * (c.length : Int) = 0 := by omega
          have hi : i = 0 := by omega
          have hL : L = 0 := by
            rcases Int.mul_eq_zero.mp hLC0 with z | z
            · exact z
            · omega
          subst hi hL
          unfold cyc
          rw [if_pos h4, take_all (by omega)]
          have e7 : cnt ms (c.take 0) = 0 := rfl
          omega
        · unfold cyc
          rw [if_neg h4, show ((p.length : Int) + L * c.length + ((i : Int) + 1) - 1 - p.length) = L * c.length + (i : Int) by omega]
          obtain ⟨q1, q2⟩ := div_of (L := L) (show (0 : Int) ≤ (i : Int) by omega) (show (i : Int) < c.length by omega)
          rw [q1, q2, Int.toNat_natCast, a4, eC]
          omega
      · unfold lat
        rw [if_neg (by omega), show ((p.length : Int) + L * c.length + ((i : Int) + 1) - 1 - p.length) = L * c.length + (i : Int) by omega]
        obtain ⟨q1, q2⟩ := div_of (L := L) (show (0 : Int) ≤ (i : Int) by omega) (show (i : Int) < c.length by omega)
        rw [q2, Int.toNat_natCast]
        exact a3
theorem pos_none {ms p c : List Nat} {m k j : Int} (hp : (p.length : Int) < j) (hjk : j ≤ k) (e : posOf ms p c m = .non) : cyc (cnt ms) p c k = cyc (cnt ms) p c j ∧ cyc (cnt ms) p c k < m := by
  unfold posOf at e
  have lA := posL_len ms p
  have lB := posL_len ms c
  by_cases h2 : m ≤ (posL ms p).length
  · rw [if_pos h2] at e
    cases e
  · rw [if_neg h2] at e
    by_cases h3 : posL ms c = []
    · rw [h3] at lB
      have z : cnt ms c = 0 := lB.symm
      have zt : ∀ n, cnt ms (c.take n) = 0 := fun n => by
        have h := cnt_app ms (c.take n) (c.drop n)
        rw [List.take_append_drop, z] at h
        have := cnt_nn ms (c.take n)
        have := cnt_nn ms (c.drop n)
        omega
      unfold cyc
      rw [if_neg (by omega), if_neg (by omega), z, zt, zt]
      omega
    · rw [if_neg h3] at e
      cases e
theorem posOf_kind (ms p c : List Nat) (m : Int) : posOf ms p c m = .non ∨ ∃ v, posOf ms p c m = .int v := by
  unfold posOf
  split
  · exact .inr ⟨_, rfl⟩
  · split
    · exact .inl rfl
    · exact .inr ⟨_, rfl⟩
end G

/-! A14: try, except as e: the errors told as lists. -/
namespace G
open PySem PySem.Spec PyProof.Rows L2 TL
def kXf (a : Addr) (cls : Value) (d : Option Addr) (C : Addr) (f : Str) (Q : VK) : VK := fun x H1 => x = .ref a ∧ cls = .ref C ∧ ∃ (dd : Addr) (fs : List (Str × V)) (v : V), d = some dd ∧ H1 dd = some (.xd fs) ∧ fs.lookup f = some v ∧ Q v H1
instance {a : Addr} {cls : Value} {d : Option Addr} {C : Addr} {f : Str} {te : TE} {σ : L2.St} {H : Hp} {Q : VK} : Go (tXf a cls d C f te σ H Q) (te σ H (kXf a cls d C f Q)) := ⟨id⟩
theorem go_xf {a C dd : Addr} {f : Str} {v : V} {Q : VK} {H : Hp} (e : H dd = some (.xd [(f, v)])) (q : Q v H) : kXf a (.ref C) (some dd) C f Q (.ref a) H := ⟨rfl, rfl, dd, _, v, rfl, e, by simp [List.lookup], q⟩
abbrev cRefused : List Nat := [114, 101, 102, 117, 115, 101, 100]
/-- an error with a value, told as a list -/
def Told1 (K : PySem.W.Frag) (nm : List Nat) (v : V) (H : Hp) (Q : VK) : Prop := ∀ (D : Addr) (v' : V) (H' : Hp), Same H H' → Copy K H' v v' → H' D = some (.lst [S cRefused, S nm, v']) → Q (.ref D) H'
def Told0 (nm : List Nat) (H : Hp) (Q : VK) : Prop := ∀ (D : Addr) (H' : Hp), Same H H' → H' D = some (.lst [S cRefused, S nm, .int 0]) → Q (.ref D) H'
/-- the ends of a suite whose name goes -/
abbrev endsOf (i : Nat) (D : Ends) : Ends := { nx := fun σ' H' => D.nx (σ'.set i none) H', rt := D.rt, bk := fun σ' H' => D.bk (σ'.set i none) H', ct := fun σ' H' => D.ct (σ'.set i none) H' }
theorem told_go {K : PySem.W.Frag} {LE : Addr} {i : Nat} {tb : WX → TS} {ts : Addr → Value → Option Addr → TS} {Wout : WX} {D : Ends} {σ : L2.St} {H : Hp} (errs1 : List (Str × Str × List Nat)) (errs0 : List (Str × List Nat))
    (hl1 : ∀ e ∈ errs1, PySem.W.exmOne K (.ref (He.ga K e.1)) (.ref LE) = some true) (hl0 : ∀ e ∈ errs0, PySem.W.exmOne K (.ref (He.ga K e.1)) (.ref LE) = some true)
    (hs1 : ∀ e ∈ errs1, ∀ (d : Addr) (v' : V) (H' : Hp) (a : Addr), H' d = some (.xd [(e.2.1, v')]) → H' a = none → (∀ (D' : Addr) (H'' : Hp), Same H' H'' → H'' D' = some (.lst [S cRefused, S e.2.2, v']) → D.rt (.ref D') H'') → ts a (.ref (He.ga K e.1)) (some d) (endsOf i D) (σ.set i (some (.ref a))) H')
    (hs0 : ∀ e ∈ errs0, ∀ (H' : Hp) (a : Addr), H' a = none → (∀ (D' : Addr) (H'' : Hp), Same H' H'' → H'' D' = some (.lst [S cRefused, S e.2, .int 0]) → D.rt (.ref D') H'') → ts a (.ref (He.ga K e.1)) none (endsOf i D) (σ.set i (some (.ref a))) H')
    (hb : ∀ W : WX, (∀ e ∈ errs1, ∀ v H1, Told1 K e.2.2 v H1 D.rt → Err1 K e.1 e.2.1 v H1 (WE W σ)) → (∀ e ∈ errs0, ∀ H1, Told0 e.2 H1 D.rt → Err0 K e.1 H1 (WE W σ)) → tb W D σ H) :
    (fun D σ H => tb (wAs K (.ref LE) i ts Wout D) D σ H) D σ H := by
  refine hb _ (fun e he v H1 t d v' H' s1 e1 c1 => ?_) (fun e he H1 t H' s1 => ?_)
  · exact ⟨true, hl1 e he, fun _ a ha => hs1 e he d v' H' a e1 ha fun D' H'' s2 e2 => t D' v' H'' (s1.trans s2) (c1.same s2) e2, fun z => by cases z⟩
  · exact ⟨true, hl0 e he, fun _ a ha => hs0 e he H' a ha fun D' H'' s2 e2 => t D' H'' (s1.trans s2) e2, fun z => by cases z⟩
end G
namespace G
open PySem PySem.Spec PyProof.Rows L2 TL
theorem told_ex {X : Cx} {K : PySem.W.Frag} {LE : Addr} {i : Nat} {tb : WX → TS} {ts : Addr → Value → Option Addr → TS} {Wout : WX} {b : List Stmt} {D : Ends} (σ : L2.St) {σ0 : L2.St} {H : Hp} (errs1 : List (Str × Str × List Nat)) (errs0 : List (Str × List Nat)) (hK : X.K = K)
    (h : PSs X.nox b (fun D σ H => tb (wAs X.K (.ref LE) i ts Wout D) D σ H)) (hσ : σ0 = σ)
    (hl1 : ∀ e ∈ errs1, PySem.W.exmOne K (.ref (He.ga K e.1)) (.ref LE) = some true) (hl0 : ∀ e ∈ errs0, PySem.W.exmOne K (.ref (He.ga K e.1)) (.ref LE) = some true)
    (hs1 : ∀ e ∈ errs1, ∀ (d : Addr) (v' : V) (H' : Hp) (a : Addr), H' d = some (.xd [(e.2.1, v')]) → H' a = none → (∀ (D' : Addr) (H'' : Hp), Same H' H'' → H'' D' = some (.lst [S cRefused, S e.2.2, v']) → D.rt (.ref D') H'') → ts a (.ref (He.ga K e.1)) (some d) (endsOf i D) (σ.set i (some (.ref a))) H')
    (hs0 : ∀ e ∈ errs0, ∀ (H' : Hp) (a : Addr), H' a = none → (∀ (D' : Addr) (H'' : Hp), Same H' H'' → H'' D' = some (.lst [S cRefused, S e.2, .int 0]) → D.rt (.ref D') H'') → ts a (.ref (He.ga K e.1)) none (endsOf i D) (σ.set i (some (.ref a))) H')
    (hb : ∀ W : WX, (∀ e ∈ errs1, ∀ v H1, Told1 K e.2.2 v H1 D.rt → Err1 K e.1 e.2.1 v H1 (WE W σ)) → (∀ e ∈ errs0, ∀ H1, Told0 e.2 H1 D.rt → Err0 K e.1 H1 (WE W σ)) → tb W D σ H) :
    ∃ t, PSs X b t ∧ t D σ0 H := by
  subst hK hσ
  exact ⟨_, PSs.nox h, told_go errs1 errs0 hl1 hl0 hs1 hs0 hb⟩
end G

/-! A15: a promise that lets nothing out holds under any wish of the caller. -/
namespace G
open PySem PySem.Spec PyProof.Rows L2 TL
theorem any_cx {P : Program} {w : World} {K : PySem.W.Frag} {mg : Str → Option Value} {base : Heap} {k : Nat} {f : Addr} {fd : FuncData} {ps : List Str} {sp : Sp} {CX' : CXT} (F : FnOk P w K mg base (L2.CX P w) k f fd ps sp)
    (h : ∀ vs H Q E, sp vs H Q E → sp vs H Q (fun _ _ _ => False)) : FnOk P w K mg base CX' k f fd ps sp :=
  ⟨F.len, fun A outer s H args us vs Q E hr e0 hb hv hs => codeAny_mono (F.run A outer s H args us vs Q _ hr e0 hb hv (h _ _ _ _ hs)) fun r s' hq => by
    cases r with
    | error e =>
      obtain ⟨_, _, _, _, _, _, _, _, _, _, _, _, z⟩ := hq
      exact z.elim
    | ok fl => cases fl <;> exact hq⟩
end G

/-! A16: text * int, f-strings of texts, calls by keywords alone, while. -/
namespace G
open PySem PySem.Spec PyProof.Rows L2 TL

/-! ### text * int -/
def rep (l : List Nat) (n : Nat) : List Nat := (List.replicate n l).flatten
theorem rep_zero (l : List Nat) : rep l 0 = [] := rfl
theorem rep_succ (l : List Nat) (n : Nat) : rep l (n + 1) = l ++ rep l n := by
  unfold rep
  rw [List.replicate_succ, List.flatten_cons]
theorem rep_len (l : List Nat) : ∀ n, (rep l n).length = n * l.length
  | 0 => by simp [rep_zero]
  | n + 1 => by
    rw [rep_succ, List.length_append, rep_len l n, Nat.add_mul, Nat.one_mul, Nat.add_comm]
theorem rep_nil : ∀ n, rep [] n = []
  | 0 => rfl
  | n + 1 => by rw [rep_succ, rep_nil n]; rfl
theorem fold_rep (x : Array Nat) : ∀ (n : Nat) (acc : Array Nat), ((List.replicate n x).foldl (· ++ ·) acc).toList = acc.toList ++ rep x.toList n
  | 0, acc => by simp [rep_zero]
  | n + 1, acc => by
    rw [List.replicate_succ, List.foldl_cons, fold_rep x n, rep_succ, Array.toList_append, List.append_assoc]
theorem mul_mk (l : List Nat) (n : Int) : Txt.mul (mk l) n = mk (rep l n.toNat) := by
  unfold Txt.mul
  by_cases h : n < 1
  · rw [if_pos h, show n.toNat = 0 by omega]
    rfl
  · rw [if_neg h]
    by_cases h2 : (n == 1 || (mk l).length == 0) = true
    · rw [if_pos h2]
      rcases Bool.or_eq_true_iff.mp h2 with z | z
      · have e : n = 1 := by simpa using z
        subst e
        rw [show (1 : Int).toNat = 0 + 1 from rfl, rep_succ, rep_zero, List.append_nil]
      · have e : l = [] := by
          have z2 : (mk l).length = 0 := by simpa using z
          rw [mk_len] at z2
          exact List.length_eq_zero_iff.mp z2
        subst e
        rw [rep_nil]
    · rw [if_neg h2]
      apply ext_tl
      exact (fold_rep _ _ _).trans (by simp)
def rMulS : R2 := fun x y H Q => ∃ (l : List Nat) (n : Int), x = S l ∧ y = .int n ∧ 0 ≤ n ∧ n ≤ 1000000 ∧ n * l.length ≤ 1000000 ∧ Q (S (rep l n.toNat)) H
theorem op_mulS {X : Cx} : OpR X (binaryOp .Mult) rMulS := by
  intro pins s σ H x y v u Q I rx ry h
  obtain ⟨l, n, rfl, rfl, h0, h1, h2, q⟩ := h
  obtain ⟨t, rfl⟩ := rx
  obtain ⟨t', rfl⟩ := ry
  have hz : ((mk l).length : Int) = l.length := by rw [mk_len]
  refine PySem.SB.mul ⟨?_, fun a b => ?_, fun a b => ?_⟩ fun t' k => ⟨.str (Txt.mul (mk l) n), H, I.tok _, ⟨_, rfl⟩, by rw [mul_mk]; exact q⟩
  · rw [decide_eq_false (by omega), decide_eq_false (by omega)]
    rfl
  · rw [hz]
    have h3 : (1000000 : Int) ≤ (2 ^ 63 - 1) / n := by
      refine (Int.le_ediv_iff_mul_le (by omega)).mpr ?_
      omega
    have h4 : (l.length : Int) ≤ n * l.length := by
      have : 1 * (l.length : Int) ≤ n * l.length := Int.mul_le_mul_of_nonneg_right (by omega) (by omega)
      omega
    omega
  · have e : (mk l).length * n.toNat ≤ 1000000 := by
      rw [mk_len]
      have e1 : ((l.length * n.toNat : Nat) : Int) = n * l.length := by
        rw [Int.natCast_mul, Int.toNat_of_nonneg h0, Int.mul_comm]
      omega
    generalize (mk l).length * n.toNat = m at e
    unfold PySem.Builtin.Str.tooLong
    simp
    first | omega | exact Nat.le_trans e (by decide)
theorem go_muls {l : List Nat} {n : Int} {H : Hp} {Q : VK} (h0 : 0 ≤ n) (h1 : n ≤ 1000000) (h2 : n * l.length ≤ 1000000) (q : Q (S (rep l n.toNat)) H) : rMulS (S l) (.int n) H Q := ⟨l, n, rfl, rfl, h0, h1, h2, q⟩

/-! ### f-strings -/
def kFmt (Q : VK) : VK := fun x H1 => (∃ y : Str, x = .str y ∧ y.length ≤ sizeLine ∧ Q (.str y) H1) ∨ ∃ i : Int, x = .int i ∧ i.natAbs.log2 < 1920 ∧ Q (.str (toString i)) H1
def kJs (ts : List TE) (acc : Str) (σ : L2.St) (Q : Str → Hp → Prop) : VK := fun x H1 => ∃ y : Str, x = .str y ∧ (acc ++ y).length ≤ sizeLine ∧ tJs ts (acc ++ y) σ H1 Q
def uJ (ts : List TE) : TE := fun σ H Q => tJs ts Str.empty σ H fun out H1 => Q (.str out) H1
theorem pe_js {X : Cx} {v1 v2 : Expr} {rest : List Expr} {ts : List TE} {pos : Pos} (h : PJ X (v1 :: v2 :: rest) ts) : PE X (.JoinedStr (v1 :: v2 :: rest) pos) (uJ ts) := ⟨(pe_joined h).run⟩
section
variable {t te : TE} {ts : List TE} {acc : Str} {σ : L2.St} {H : Hp} {Q : Str → Hp → Prop} {QV : VK}
instance : Go (uJ ts σ H QV) (tJs ts (mk []) σ H fun out H1 => QV (.str out) H1) := ⟨id⟩
instance : Go (tJs (t :: ts) acc σ H Q) (t σ H (kJs ts acc σ Q)) := ⟨id⟩
instance : Go (tJs [] acc σ H Q) (Q acc H) := ⟨id⟩
instance : Go (tFmt te σ H QV) (te σ H (kFmt QV)) := ⟨id⟩
theorem go_js {a b : List Nat} (hl : a.length + b.length ≤ 1000000) (q : tJs ts (mk (a ++ b)) σ H Q) : kJs ts (mk a) σ Q (S b) H := ⟨_, rfl, by rw [mk_app, mk_len, List.length_append]; exact sz6 hl, by rw [mk_app]; exact q⟩
theorem go_fmt {l : List Nat} (hl : l.length ≤ 1000000) (q : QV (S l) H) : kFmt QV (S l) H := .inl ⟨_, rfl, by rw [mk_len]; exact sz6 hl, q⟩
end

/-! ### f(b = .., a = ..): two keywords, in the order behind the parameters' own -/
def kCallR (sp : Sp) (E : XK) (Q : VK) : List V → Hp → Prop := fun vs H => sp vs.reverse H Q E
def uCallR (sp : Sp) (E : L2.St → XK) (t : TA) : TE := fun σ H Q => t σ H (kCallR sp (E σ) Q)
instance {sp : Sp} {E : L2.St → XK} {tA : TA} {σ : L2.St} {H : Hp} {Q : VK} : Go (uCallR sp E tA σ H Q) (tA σ H (kCallR sp (E σ) Q)) := ⟨id⟩
instance {sp : Sp} {E : XK} {x y : V} {H : Hp} {Q : VK} : Go (kCallR sp E Q [x, y] H) (sp [y, x] H Q E) := ⟨id⟩
theorem Vals.rev : ∀ {vs : List V} {us : List Value}, Vals vs us → Vals vs.reverse us.reverse
  | _, _, .nil => .nil
  | _, _, .cons r t => by
    rw [List.reverse_cons, List.reverse_cons]
    exact (Vals.rev t).append (.cons r .nil)
theorem kw_rev {K : PySem.W.Frag} {x q : Str} {a : Arguments} {b : List Stmt} {sc : Scope} {f : Addr} {fd : FuncData} {ps : List Str} (ks : List Str) (F : FunD K x q a b sc [] [] f fd)
    (h : ∀ (kV doc pm : Value) (an : Option Addr) (cdv ct : Value) (us : List Value), us.length = ks.length → bindArgs (PySem.W.fnOf x q a b sc .none kV doc pm an cdv ct) ⟨[], ks.zip us⟩ = pure (ps.zip us.reverse)) (s : Shared) (us : List Value) (hl : us.length = ks.length) : BindsTo s fd ⟨[], ks.zip us⟩ (ps.zip us.reverse) := by
  obtain ⟨oc, od, dV, kV, doc, pm, an, cdv, ct, osl, rfl, lk, hcd, hD, hK⟩ := F.ex
  rcases hD with ⟨_, rfl⟩ | ⟨e, _⟩
  · exact .of_eq (h kV doc pm an cdv ct us hl)
  · exact absurd rfl e
theorem pe_callR {X : Cx} {CX : CXT} {k : Nat} {f : Addr} {fd : FuncData} {ps ks : List Str} {sp : Sp} {E : L2.St → XK} {x : Str} {p pos : Pos} {kws : List Keyword} {tk : TA} (F : FnOk X.prog X.w X.K X.mg X.base CX k f fd ps sp) (hr : Room k X.A) (hg : Gl X x) (hm : X.mg x = some (.ref f)) (hk : PySem.W.keepIn X.K (.ref f) = true)
    (hb : ∀ (s : Shared) (us : List Value), us.length = ks.length → BindsTo s fd ⟨[], ks.zip us⟩ (ps.zip us.reverse)) (hn : ps.length = ks.length) (hx : ∀ σ, PassesAt CX X σ (E σ))
    (hkw : PK X kws tk) (hall : (backToKw pos (keywordEach kws X.env)).all (·.1.isSome) = true := by rfl) (hks : (backToKw pos (keywordEach kws X.env)).filterMap (·.1) = ks := by rfl)
    (hdb : (x == ("__debug__" : Str)) = false := by decide) (hpl : ((backTo pos (starEach [] X.env)).any (·.1) || (backToKw pos (keywordEach kws X.env)).any (·.1.isNone)) = false := by rfl) :
    PE X (.Call (.Name x p) [] kws pos) (uCallR sp E tk) := by
  refine ⟨fun pins s σ H Q I h => ?_⟩
  refine wpAny_Call_Name_kw (ld_glob I hg hm ?_ hdb)
  refine PySem.W.callWith_KW0 (h₀ := X.base) I.ok.mod.kin hk hall (thn (hkw.run pos pins s σ H _ I h) fun ws s2 ⟨zs, H2, I2, rz, q2⟩ => ⟨I2.kIn, ?_⟩) hpl
  rw [hks]
  have r2 := Vals.rev rz
  have hl : ws.reverse.length = ps.length := by rw [← r2.length]; exact F.len _ _ _ _ q2
  refine wpAny_call (codeAny_mono (F.run X.A X.stack s2 H2 ⟨[], ks.zip ws⟩ ws.reverse zs.reverse Q (E σ) hr I2.env0 (hb s2 ws (by rw [List.length_reverse] at hl; omega)) r2 q2) fun r s' hq => ?_)
  cases r with
  | error e => exact hx σ pins H2 s2 e s' I2 hq
  | ok fl =>
    cases fl with
    | ret u => exact I2.after hq
    | next => exact False.elim hq
    | brk => exact False.elim hq
    | cont => exact False.elim hq

/-! ### while -/
def kWh (Pv : Nat → L2.St → Hp → Prop) (m : Nat) (tb : TS) (D : Ends) (σ : L2.St) : Bool → Hp → Prop := fun b H1 => if b = true then ∃ N : L2.St → Hp → Prop, (∀ σ' H', N σ' H' → ∃ m', m' < m ∧ Pv m' σ' H') ∧ tb { D with nx := N, ct := N, bk := D.nx } σ H1 else D.nx σ H1
theorem go_while {c : TT} {tb : TS} {D : Ends} {σ : L2.St} {H : Hp} (Pv : Nat → L2.St → Hp → Prop) (m : Nat) (h0 : Pv m σ H) (hs : ∀ m σ H, Pv m σ H → c σ H (kWh Pv m tb D σ)) : tWhile c tb D σ H := ⟨Pv, ⟨m, h0⟩, hs⟩
theorem go_whT {Pv : Nat → L2.St → Hp → Prop} {m : Nat} {tb : TS} {D : Ends} {σ : L2.St} {b : Bool} {H : Hp} (e : b = true) (q : tb { D with nx := fun σ' H' => ∃ m', m' < m ∧ Pv m' σ' H', ct := fun σ' H' => ∃ m', m' < m ∧ Pv m' σ' H', bk := D.nx } σ H) : kWh Pv m tb D σ b H := by
  subst e
  exact ⟨_, fun σ' H' z => z, q⟩
theorem go_whF {Pv : Nat → L2.St → Hp → Prop} {m : Nat} {tb : TS} {D : Ends} {σ : L2.St} {b : Bool} {H : Hp} (e : b = false) (q : D.nx σ H) : kWh Pv m tb D σ b H := by
  subst e
  exact q
end G

/-! A17: plain words: letters by places, roots, the one plain form. -/
namespace G
open PySem PySem.Spec PyProof.Rows L2 TL
/-- the letter at k -/
def latN (p c : List Nat) (k : Nat) : Nat := if k < p.length then p.getD k 0 else c.getD ((k - p.length) % c.length) 0
theorem lat_N (p c : List Nat) (k : Nat) : lat p c (k : Int) = latN p c k := by
  unfold lat latN
  by_cases h : k < p.length
  · rw [if_pos (by omega), if_pos h, Int.toNat_natCast]
  · rw [if_neg (by omega), if_neg h]
    have e : ((k : Int) - p.length) % (c.length : Int) = (((k - p.length) % c.length : Nat) : Int) := by
      rw [show ((k : Int) - p.length) = ((k - p.length : Nat) : Int) by omega]
      exact (Int.natCast_emod _ _).symm
    rw [e, Int.toNat_natCast]
theorem lat_I (p c : List Nat) {k : Int} (h : 0 ≤ k) : lat p c k = latN p c k.toNat := by
  rw [← lat_N, Int.toNat_of_nonneg h]
theorem latN_pre {p c : List Nat} {k : Nat} (h : k < p.length) : latN p c k = p.getD k 0 := if_pos h
theorem latN_cyc {p c : List Nat} {k : Nat} (h : p.length ≤ k) : latN p c k = c.getD ((k - p.length) % c.length) 0 := if_neg (by omega)
theorem latN_at (p c : List Nat) (j : Nat) : latN p c (p.length + j) = c.getD (j % c.length) 0 := by
  rw [latN_cyc (by omega), show p.length + j - p.length = j by omega]
theorem latN_per {p c : List Nat} {k : Nat} (h : p.length ≤ k) (m : Nat) : latN p c (k + m * c.length) = latN p c k := by
  rw [latN_cyc h, latN_cyc (by omega), show k + m * c.length - p.length = (k - p.length) + m * c.length by omega, Nat.add_mul_mod_self_right]
theorem latN_per1 {p c : List Nat} {k : Nat} (h : p.length ≤ k) : latN p c (k + c.length) = latN p c k := by
  have := latN_per (c := c) h 1
  rw [Nat.one_mul] at this
  exact this
theorem latN_mem {ls p c : List Nat} (h : Lw ls p c) (k : Nat) : latN p c k ∈ ls := by
  by_cases hk : k < p.length
  · rw [latN_pre hk, List.getD_eq_getElem?_getD, List.getElem?_eq_getElem hk]
    exact h.pl _ (List.getElem_mem hk)
  · have c1 := h.c1
    have hm : (k - p.length) % c.length < c.length := Nat.mod_lt _ (by omega)
    rw [latN_cyc (by omega), List.getD_eq_getElem?_getD, List.getElem?_eq_getElem hm]
    exact h.cl _ (List.getElem_mem hm)

/-! ### a period of twelve behind the prefix -/
theorem mod12 {a j : Nat} (h1 : 1 ≤ a) (h4 : a ≤ 4) : (j + 12) % a = j % a := by
  have : a = 1 ∨ a = 2 ∨ a = 3 ∨ a = 4 := by omega
  rcases this with rfl | rfl | rfl | rfl <;> omega
theorem lat12 {p c : List Nat} {k : Nat} (h : p.length ≤ k) (h1 : 1 ≤ c.length) (h4 : c.length ≤ 4) : latN p c (k + 12) = latN p c k := by
  rw [latN_cyc h, latN_cyc (by omega), show k + 12 - p.length = (k - p.length) + 12 by omega, mod12 h1 h4]
theorem eq24 {p c q e : List Nat} (hp : p.length ≤ 12) (hq : q.length ≤ 12) (c1 : 1 ≤ c.length) (c4 : c.length ≤ 4) (e1 : 1 ≤ e.length) (e4 : e.length ≤ 4) (h : ∀ k, k < 24 → latN p c k = latN q e k) : ∀ k, latN p c k = latN q e k := by
  intro k
  induction k using Nat.strongRecOn with
  | ind k ih =>
    by_cases hk : k < 24
    · exact h k hk
    · have h1 := ih (k - 12) (by omega)
      have h2 := lat12 (c := c) (show p.length ≤ k - 12 by omega) c1 c4
      have h3 := lat12 (c := e) (show q.length ≤ k - 12 by omega) e1 e4
      rw [show k - 12 + 12 = k by omega] at h2 h3
      rw [h2, h3, h1]

/-! ### primitive cycles -/
/-- no shorter shift keeps the cycle -/
def Prim (c : List Nat) : Prop := ∀ d, 1 ≤ d → d < c.length → ¬ ∀ k, c.getD (k % c.length) 0 = c.getD ((k + d) % c.length) 0
/-- the cycle shifted by one sign -/
theorem rot_at (a : Nat) (c : List Nat) (k : Nat) : (a :: c).getD ((k + 1) % (c.length + 1)) 0 = (c ++ [a]).getD (k % (c.length + 1)) 0 := by
  have hm : k % (c.length + 1) < c.length + 1 := Nat.mod_lt _ (by omega)
  have e : (k + 1) % (c.length + 1) = (k % (c.length + 1) + 1) % (c.length + 1) := (Nat.mod_add_mod _ _ _).symm
  rw [e]
  generalize k % (c.length + 1) = m at hm
  by_cases h : m = c.length
  · subst h
    rw [Nat.mod_self, List.getD_eq_getElem?_getD, List.getD_eq_getElem?_getD, List.getElem?_append_right (Nat.le_refl _), Nat.sub_self]
    rfl
  · rw [Nat.mod_eq_of_lt (by omega), List.getD_eq_getElem?_getD, List.getD_eq_getElem?_getD, List.getElem?_append_left (by omega)]
    rfl
theorem prim_rot {a : Nat} {c : List Nat} (h : Prim (c ++ [a])) : Prim (a :: c) := by
  intro d h1 h2 hk
  have el : (c ++ [a]).length = c.length + 1 := by simp
  refine h d h1 (by rw [el]; exact h2) fun k => ?_
  rw [el, ← rot_at, ← rot_at]
  have := hk (k + 1)
  rw [List.length_cons] at this
  rw [this, show k + 1 + d = k + d + 1 by omega]
theorem latN_rot (p c : List Nat) (a k : Nat) : latN p (a :: c) k = latN (p ++ [a]) (c ++ [a]) k := by
  by_cases h : k < p.length
  · rw [latN_pre h, latN_pre (by simp; omega), List.getD_eq_getElem?_getD, List.getD_eq_getElem?_getD, List.getElem?_append_left h]
  · by_cases h2 : k = p.length
    · subst h2
      rw [latN_cyc (Nat.le_refl _), latN_pre (by simp), Nat.sub_self, Nat.zero_mod, List.getD_eq_getElem?_getD, List.getD_eq_getElem?_getD, List.getElem?_append_right (Nat.le_refl _), Nat.sub_self]
      rfl
    · rw [latN_cyc (by omega), latN_cyc (by simp; omega)]
      have el : (c ++ [a]).length = c.length + 1 := by simp
      rw [el, List.length_cons, List.length_append, show k - p.length = (k - (p.length + 1)) + 1 by omega]
      exact rot_at a c _

/-! ### the root -/
def IsRoot (c r : List Nat) : Prop := ∃ L, 1 ≤ L ∧ L ≤ c.length ∧ r = c.take L ∧ c.length % L = 0 ∧ rep r (c.length / L) = c ∧ ∀ j, 1 ≤ j → j < L → ¬ (c.length % j = 0 ∧ rep (c.take j) (c.length / j) = c)
theorem len4 {c : List Nat} (h1 : 1 ≤ c.length) (h4 : c.length ≤ 4) : (∃ a, c = [a]) ∨ (∃ a b, c = [a, b]) ∨ (∃ a b x, c = [a, b, x]) ∨ ∃ a b x y, c = [a, b, x, y] := by
  match c, h1, h4 with
  | [a], _, _ => exact .inl ⟨a, rfl⟩
  | [a, b], _, _ => exact .inr (.inl ⟨a, b, rfl⟩)
  | [a, b, x], _, _ => exact .inr (.inr (.inl ⟨a, b, x, rfl⟩))
  | [a, b, x, y], _, _ => exact .inr (.inr (.inr ⟨a, b, x, y, rfl⟩))
  | _ :: _ :: _ :: _ :: _ :: _, _, h => simp at h
theorem rep_getD (r : List Nat) : ∀ (n k : Nat), k < n * r.length → (rep r n).getD k 0 = r.getD (k % r.length) 0
  | 0, k, h => by simp at h
  | n + 1, k, h => by
    rw [rep_succ]
    by_cases hk : k < r.length
    · rw [Nat.mod_eq_of_lt hk, List.getD_eq_getElem?_getD, List.getD_eq_getElem?_getD, List.getElem?_append_left hk]
    · have e := rep_getD r n (k - r.length) (by rw [Nat.add_mul, Nat.one_mul] at h; omega)
      rw [List.getD_eq_getElem?_getD, List.getElem?_append_right (by omega), ← List.getD_eq_getElem?_getD, e, ← Nat.mod_eq_sub_mod (by omega)]
theorem root_lat {c r : List Nat} (h : IsRoot c r) (p : List Nat) (k : Nat) : latN p r k = latN p c k := by
  obtain ⟨L, l1, l2, er, em, ec, _⟩ := h
  by_cases hk : k < p.length
  · rw [latN_pre hk, latN_pre hk]
  · have hr : r.length = L := by rw [er, List.length_take]; omega
    rw [latN_cyc (by omega), latN_cyc (by omega)]
    have hn : c.length / L * L = c.length := Nat.div_mul_cancel (Nat.dvd_of_mod_eq_zero em)
    have hm : (k - p.length) % c.length < c.length := Nat.mod_lt _ (by omega)
    have e2 : c.getD ((k - p.length) % c.length) 0 = r.getD ((k - p.length) % c.length % L) 0 := by
      have := rep_getD r (c.length / L) ((k - p.length) % c.length) (by rw [hr, hn]; exact hm)
      rw [ec, hr] at this
      exact this
    rw [e2, hr, Nat.mod_mod_of_dvd _ (Nat.dvd_of_mod_eq_zero em)]
theorem root_prim {c r : List Nat} (h1 : 1 ≤ c.length) (h4 : c.length ≤ 4) (h : IsRoot c r) : Prim r := by
  obtain ⟨L, l1, l2, er, em, ec, no⟩ := h
  intro d d1 d2 hk
  have hr : r.length = L := by rw [er, List.length_take]; omega
  rw [hr] at d2 hk
  have k0 := hk 0
  have k1 := hk 1
  have k2 := hk 2
  have n1 := no 1 (Nat.le_refl _)
  have n2 := no 2 (by omega)
  rcases len4 h1 h4 with ⟨a, rfl⟩ | ⟨a, b, rfl⟩ | ⟨a, b, x, rfl⟩ | ⟨a, b, x, y, rfl⟩
  · have : L ≤ 1 := l2
    omega
  · have hL : L = 1 ∨ L = 2 := by have : L ≤ 2 := l2; omega
    rcases hL with rfl | rfl
    · omega
    · have hd : d = 1 := by omega
      subst hd
      subst er
      have e : a = b := k0
      subst e
      exact n1 (by omega) ⟨by simp, by simp [rep, List.replicate]⟩
  · have hL : L = 1 ∨ L = 2 ∨ L = 3 := by have : L ≤ 3 := l2; omega
    rcases hL with rfl | rfl | rfl
    · omega
    · simp at em
    · subst er
      have hd : d = 1 ∨ d = 2 := by omega
      rcases hd with rfl | rfl
      · have e : a = b := k0
        have e2 : b = x := k1
        subst e e2
        exact n1 (by omega) ⟨by simp, by simp [rep, List.replicate]⟩
      · have e : a = x := k0
        have e2 : b = a := k1
        subst e e2
        exact n1 (by omega) ⟨by simp, by simp [rep, List.replicate]⟩
  · have hL : L = 1 ∨ L = 2 ∨ L = 3 ∨ L = 4 := by have : L ≤ 4 := l2; omega
    rcases hL with rfl | rfl | rfl | rfl
    · omega
    · have hd : d = 1 := by omega
      subst hd er
      have e : a = b := k0
      subst e
      have e3 : [a, a, a, a] = [a, a, x, y] := by
        have z := ec
        simp [rep, List.replicate] at z
        rw [← z.1, ← z.2]
      injection e3 with _ e3
      injection e3 with _ e3
      injection e3 with e4 e3
      injection e3 with e5 _
      subst e4 e5
      exact n1 (by omega) ⟨by simp, by simp [rep, List.replicate]⟩
    · simp at em
    · subst er
      have hd : d = 1 ∨ d = 2 ∨ d = 3 := by omega
      rcases hd with rfl | rfl | rfl
      · have e : a = b := k0
        have e2 : b = x := k1
        have e3 : x = y := k2
        subst e e2 e3
        exact n1 (by omega) ⟨by simp, by simp [rep, List.replicate]⟩
      · have e : a = x := k0
        have e2 : b = y := k1
        subst e e2
        exact n2 (by omega) ⟨by simp, by simp [rep, List.replicate]⟩
      · have e : a = y := k0
        have e2 : b = a := k1
        have e3 : x = b := k2
        subst e e2 e3
        exact n1 (by omega) ⟨by simp, by simp [rep, List.replicate]⟩

/-! ### the plain form is one -/
structure PlainF (p c : List Nat) : Prop where
  prim : Prim c
  last : p = [] ∨ p.getLast? ≠ c.getLast?
/-- a shift that keeps the letters behind some place is a whole number of cycles -/
theorem shift_no {p c : List Nat} {d N : Nat} (hc : Prim c) (h1 : 1 ≤ c.length) (d1 : 1 ≤ d) (d2 : d < c.length) (h : ∀ k, N ≤ k → latN p c (k + d) = latN p c k) : False := by
  refine hc d d1 d2 fun k => ?_
  have e1 := h (p.length + k + N * c.length) (by
    have : N * 1 ≤ N * c.length := Nat.mul_le_mul_left _ h1
    omega)
  rw [show p.length + k + N * c.length + d = p.length + (k + d) + N * c.length by omega, latN_per (by omega), latN_per (by omega), latN_at, latN_at] at e1
  exact e1.symm
theorem cyc_len {p c q e : List Nat} (pc : Prim c) (pe : Prim e) (c1 : 1 ≤ c.length) (c4 : c.length ≤ 4) (e1 : 1 ≤ e.length) (e4 : e.length ≤ 4) (h : ∀ k, latN p c k = latN q e k) : c.length = e.length := by
  have pa : ∀ k, p.length + q.length ≤ k → latN p c (k + c.length) = latN p c k := fun k hk => latN_per1 (by omega)
  have pb : ∀ k, p.length + q.length ≤ k → latN p c (k + e.length) = latN p c k := fun k hk => by rw [h, h]; exact latN_per1 (by omega)
  have na : ∀ d, 1 ≤ d → d < c.length → ¬ ∀ k, p.length + q.length ≤ k → latN p c (k + d) = latN p c k := fun d d1 d2 z => shift_no pc c1 d1 d2 z
  have nb : ∀ d, 1 ≤ d → d < e.length → ¬ ∀ k, p.length + q.length ≤ k → latN p c (k + d) = latN p c k := fun d d1 d2 z => shift_no (p := q) pe e1 d1 d2 fun k hk => by rw [← h, ← h]; exact z k hk
  generalize c.length = a at *
  generalize e.length = b at *
  generalize latN p c = f at *
  generalize p.length + q.length = N at *
  by_cases hab : a = b
  · exact hab
  exfalso
  have ha : a = 1 ∨ a = 2 ∨ a = 3 ∨ a = 4 := by omega
  have hb : b = 1 ∨ b = 2 ∨ b = 3 ∨ b = 4 := by omega
  rcases ha with rfl | rfl | rfl | rfl <;> rcases hb with rfl | rfl | rfl | rfl
  · exact hab rfl
  · exact nb 1 (by omega) (by omega) pa
  · exact nb 1 (by omega) (by omega) pa
  · exact nb 1 (by omega) (by omega) pa
  · exact na 1 (by omega) (by omega) pb
  · exact hab rfl
  · exact na 1 (by omega) (by omega) fun k hk => by rw [← pa (k + 1) (by omega), show k + 1 + 2 = k + 3 by omega, pb k hk]
  · exact nb 2 (by omega) (by omega) pa
  · exact na 1 (by omega) (by omega) pb
  · exact na 1 (by omega) (by omega) fun k hk => by rw [← pb (k + 1) (by omega), show k + 1 + 2 = k + 3 by omega, pa k hk]
  · exact hab rfl
  · exact na 1 (by omega) (by omega) fun k hk => by rw [← pa (k + 1) (by omega), show k + 1 + 3 = k + 4 by omega, pb k hk]
  · exact na 1 (by omega) (by omega) pb
  · exact na 2 (by omega) (by omega) pb
  · exact na 1 (by omega) (by omega) fun k hk => by rw [← pb (k + 1) (by omega), show k + 1 + 3 = k + 4 by omega, pa k hk]
  · exact hab rfl
theorem last_at {l : List Nat} {n : Nat} (h : l.length = n + 1) : l.getLast? = some (l.getD n 0) := by
  rw [List.getLast?_eq_getElem?, h, Nat.add_sub_cancel, List.getD_eq_getElem?_getD, List.getElem?_eq_getElem (by omega)]
  rfl
theorem pre_len {p c q e : List Nat} (fq : PlainF q e) (c1 : 1 ≤ c.length) (el : c.length = e.length) (h : ∀ k, latN p c k = latN q e k) : q.length ≤ p.length := by
  by_cases hl : q.length ≤ p.length
  · exact hl
  exfalso
  obtain ⟨n, hn⟩ : ∃ n, q.length = n + 1 := ⟨q.length - 1, by omega⟩
  obtain ⟨m, hm⟩ : ∃ m, e.length = m + 1 := ⟨e.length - 1, by omega⟩
  have h1 : latN q e n = latN q e (n + e.length) := by
    rw [← h, ← h, ← el]
    exact (latN_per1 (by omega)).symm
  rw [latN_pre (by omega), show n + e.length = q.length + m by omega, latN_at, Nat.mod_eq_of_lt (by omega)] at h1
  rcases fq.last with z | z
  · rw [z] at hn
    cases hn
  · rw [last_at hn, last_at hm, h1] at z
    exact z rfl
theorem plain_one {p c q e : List Nat} (fp : PlainF p c) (fq : PlainF q e) (c1 : 1 ≤ c.length) (c4 : c.length ≤ 4) (e1 : 1 ≤ e.length) (e4 : e.length ≤ 4) (h : ∀ k, latN p c k = latN q e k) : p = q ∧ c = e := by
  have el := cyc_len fp.prim fq.prim c1 c4 e1 e4 h
  have pl : p.length = q.length := Nat.le_antisymm (pre_len fp e1 el.symm fun k => (h k).symm) (pre_len fq c1 el h)
  constructor
  · apply List.ext_getElem pl
    intro i h1 h2
    have z := h i
    rw [latN_pre h1, latN_pre h2, List.getD_eq_getElem?_getD, List.getD_eq_getElem?_getD, List.getElem?_eq_getElem h1, List.getElem?_eq_getElem h2] at z
    exact z
  · apply List.ext_getElem el
    intro i h1 h2
    have z := h (p.length + i)
    rw [latN_at, pl, latN_at, Nat.mod_eq_of_lt h1, Nat.mod_eq_of_lt h2, List.getD_eq_getElem?_getD, List.getD_eq_getElem?_getD, List.getElem?_eq_getElem h1, List.getElem?_eq_getElem h2] at z
    exact z
/-- a plain form of a word -/
structure PlainOf (p c q e : List Nat) : Prop where
  ql : q.length ≤ p.length
  e1 : 1 ≤ e.length
  el : e.length ≤ c.length
  qm : ∀ x ∈ q, x ∈ p
  em : ∀ x ∈ e, x ∈ c
  same : ∀ k, latN q e k = latN p c k
  plain : PlainF q e
theorem PlainOf.lw {ls p c q e : List Nat} (h : PlainOf p c q e) (hw : Lw ls p c) : Lw ls q e :=
  ⟨Nat.le_trans h.ql hw.p12, h.e1, Nat.le_trans h.el hw.c4, fun x hx => hw.pl x (h.qm x hx), fun x hx => hw.cl x (h.em x hx)⟩
/-- where two words part -/
def Diff (p c q e : List Nat) (v : V) : Prop := (v = .non ∧ ∀ k, latN p c k = latN q e k) ∨ ∃ n : Nat, v = .int (n : Int) ∧ (∀ k, k < n → latN p c k = latN q e k) ∧ latN p c n ≠ latN q e n
theorem Diff.one {p c q e : List Nat} {v w : V} (a : Diff p c q e v) (b : Diff p c q e w) : v = w := by
  rcases a with ⟨rfl, a⟩ | ⟨n, rfl, a1, a2⟩
  · rcases b with ⟨rfl, b⟩ | ⟨m, rfl, b1, b2⟩
    · rfl
    · exact absurd (a m) b2
  · rcases b with ⟨rfl, b⟩ | ⟨m, rfl, b1, b2⟩
    · exact absurd (b n) a2
    · have : n = m := by
        rcases Nat.lt_trichotomy n m with h | h | h
        · exact absurd (b1 n h) a2
        · exact h
        · exact absurd (a1 m h) b2
      rw [this]
theorem Diff.scal {p c q e : List Nat} {v : V} (a : Diff p c q e v) : scalB v = true := by
  rcases a with ⟨rfl, _⟩ | ⟨n, rfl, _⟩ <;> rfl
end G

/-! A18: deep equality as the laws ask it, words that are turned and repeated. -/
namespace G
open PySem PySem.Spec PyProof.Rows L2 TL
def DeepEq (K : PySem.W.Frag) (H : Hp) : Nat → V → V → Prop
  | 0, x, y => scalB x = true ∧ x = y
  | n + 1, x, y => (scalB x = true ∧ x = y) ∨ ∃ (a b : Addr) (xs ys : List V), x = .ref a ∧ y = .ref b ∧ xs.length = ys.length ∧ xs.length ≤ 1000 ∧ ((SqL K H a xs ∧ SqL K H b ys) ∨ (SqT K H a xs ∧ SqT K H b ys)) ∧ ∀ i, i < xs.length → DeepEq K H n (xs.getD i .non) (ys.getD i .non)
theorem deep_scal {K : PySem.W.Frag} {H : Hp} {x : V} (h : scalB x = true) : ∀ n, DeepEq K H n x x
  | 0 => ⟨h, rfl⟩
  | n + 1 => .inl ⟨h, rfl⟩
theorem lenE {K : PySem.W.Frag} {a : Addr} {xs : List V} {H : Hp} {Q : VK} (h : SqL K H a xs ∨ SqT K H a xs) (q : Q (.int (xs.length : Int)) H) : rLenU K [.ref a] H Q := by
  rcases h with h | h
  · exact go_lenl h q
  · exact go_lent h q
theorem ixE {K : PySem.W.Frag} {a : Addr} {xs : List V} {H : Hp} {Q : VK} {i : Nat} (h : SqL K H a xs ∨ SqT K H a xs) (hi : i < xs.length) (q : Q (xs.getD i .non) H) : rIxU K (.ref a) (.int (i : Int)) H Q := by
  have e : atI xs (i : Int) = some (xs.getD i .non) := atI_at (by omega) (by rw [Int.toNat_natCast, List.getD_eq_getElem?_getD, List.getElem?_eq_getElem hi]; rfl)
  rcases h with h | h
  · exact go_ixl h e q
  · exact go_ixt h e q
theorem sq_isi {K : PySem.W.Frag} {a : Addr} {xs : List V} {H : Hp} {c : String} {b : Bool} (h : SqL K H a xs ∨ SqT K H a xs) (e1 : kitB "list" c = some b) (e2 : kitB "tuple" c = some b) : isiB K H (.ref a) c b := by
  rcases h with h | h
  · exact .inl ⟨xs, h, e1⟩
  · exact .inr ⟨xs, h, e2⟩
theorem rep_lat (p c : List Nat) {n : Nat} (hn : 1 ≤ n) (c1 : 1 ≤ c.length) (k : Nat) : latN p (rep c n) k = latN p c k := by
  by_cases hk : k < p.length
  · rw [latN_pre hk, latN_pre hk]
  · rw [latN_cyc (by omega), latN_cyc (by omega), rep_len]
    have hnc : 1 * 1 ≤ n * c.length := Nat.mul_le_mul hn c1
    have hm : (k - p.length) % (n * c.length) < n * c.length := Nat.mod_lt _ (by omega)
    rw [rep_getD c n _ hm, Nat.mod_mod_of_dvd _ (Nat.dvd_mul_left _ _)]
theorem rep_mem {ls c : List Nat} (h : ∀ x ∈ c, x ∈ ls) : ∀ n, ∀ x ∈ rep c n, x ∈ ls
  | 0, x, hx => by cases hx
  | n + 1, x, hx => by
    rw [rep_succ] at hx
    rcases List.mem_append.mp hx with z | z
    · exact h x z
    · exact rep_mem h n x z
theorem getD_mem' {xs : List V} {i : Nat} (h : i < xs.length) : xs.getD i .non ∈ xs := by
  rw [List.getD_eq_getElem?_getD, List.getElem?_eq_getElem h]
  exact List.getElem_mem h
end G

/-! M1: data without a heap, how the heap bears it, the plain monad, the state of a body. -/
namespace M
open PySem PySem.Spec PyProof.Rows L2 TL G

/-- plain data -/
inductive D where
  | non | bl (b : Bool) | int (i : Int) | str (l : List Nat) | lst (ds : List D) | tup (ds : List D)
  | deal | ty (n : String) | obj (c : String) (ns : List String) (ds : List D)
  | cls (c : String) | exc0 (c : String) | exc1 (c f : String) (d : D)
/-- an error: its class, its field -/
inductive Er where
  | e0 (c : String) | e1 (c f : String) (d : D)
abbrev Env := List (Option D)

/-- what stands beside the data: the store of draws, the error that is held -/
structure Wd where
  dl : Option DA := none
  xc : Option (Addr × Value × Option Addr) := none
/-! ### the store of draws -/
def InW (W : Wd) (a : Addr) : Prop := match W.dl with | none => False | some d => a = d.a ∨ a = d.c
def DealJ (d : DA) (H : Hp) : Prop := ∃ (i r l m : Int), H d.a = some (.lst [.ref d.c, .int i, .int r, .int l, .int m]) ∧ H d.c = some (.lst (d.cells.map V.int)) ∧ d.c ≠ d.a ∧ DealV d i r l m
def JW (W : Wd) (H : Hp) : Prop := match W.dl with | none => True | some d => DealJ d H
theorem JW.dom {W : Wd} {H : Hp} {a : Addr} (j : JW W H) (h : InW W a) : H a ≠ none := by
  obtain ⟨dl, xc⟩ := W
  cases dl with
  | none => exact h.elim
  | some d =>
    obtain ⟨i, r, l, m, e1, e2, _⟩ := j
    rcases h with rfl | rfl
    · rw [e1]; exact fun z => nomatch z
    · rw [e2]; exact fun z => nomatch z
theorem JW.of {W : Wd} {H H' : Hp} (j : JW W H) (h : ∀ a, InW W a → H' a = H a) : JW W H' := by
  obtain ⟨dl, xc⟩ := W
  cases dl with
  | none => trivial
  | some d =>
    obtain ⟨i, r, l, m, e1, e2, n, v⟩ := j
    exact ⟨i, r, l, m, (h _ (.inl rfl)).trans e1, (h _ (.inr rfl)).trans e2, n, v⟩

/-! ### the heap bears data -/
mutual
def Rep (K : PySem.W.Frag) (W : Wd) (F : Hp) : D → V → Prop
  | .non, v => v = .non
  | .bl b, v => v = .bl b
  | .int i, v => v = .int i
  | .str l, v => v = S l
  | .lst ds, v => ∃ a vs, v = .ref a ∧ F a = some (.lst vs) ∧ Reps K W F ds vs
  | .tup ds, v => ∃ a vs, v = .ref a ∧ SqT K F a vs ∧ Reps K W F ds vs
  | .deal, v => ∃ d, W.dl = some d ∧ v = .ref d.a
  | .ty n, v => v = .ty n
  | .obj c ns ds, v => ∃ a dx vs, v = .ref a ∧ F a = some (.ins (He.ga K (Str.ofString c)) dx ((ns.map Str.ofString).zip vs)) ∧ F dx = some (.own a) ∧ ns.length = vs.length ∧ Reps K W F ds vs
  | .cls c, v => v = .ref (He.ga K (Str.ofString c))
  | .exc0 c, v => ∃ a, W.xc = some (a, .ref (He.ga K (Str.ofString c)), none) ∧ v = .ref a
  | .exc1 c f d, v => ∃ a x u, W.xc = some (a, .ref (He.ga K (Str.ofString c)), some x) ∧ v = .ref a ∧ F x = some (.xd [(Str.ofString f, u)]) ∧ Rep K W F d u
def Reps (K : PySem.W.Frag) (W : Wd) (F : Hp) : List D → List V → Prop
  | [], vs => vs = []
  | d :: ds, vs => ∃ v r, vs = v :: r ∧ Rep K W F d v ∧ Reps K W F ds r
end
section
variable {K : PySem.W.Frag} {W : Wd} {F F' H : Hp}
mutual
theorem Rep.mono (s : Same F F') : ∀ (d : D) {v : V}, Rep K W F d v → Rep K W F' d v
  | .non, v, h => h
  | .bl b, v, h => h
  | .int i, v, h => h
  | .str l, v, h => h
  | .lst ds, v, h => by
    unfold Rep at h ⊢
    obtain ⟨a, vs, e, q, r⟩ := h
    exact ⟨a, vs, e, s _ _ q, Reps.mono s ds r⟩
  | .tup ds, v, h => by
    unfold Rep at h ⊢
    obtain ⟨a, vs, e, q, r⟩ := h
    exact ⟨a, vs, e, st_same s q, Reps.mono s ds r⟩
  | .deal, v, h => h
  | .ty n, v, h => h
  | .obj c ns ds, v, h => by
    unfold Rep at h ⊢
    obtain ⟨a, dx, vs, e, q1, q2, q3, r⟩ := h
    exact ⟨a, dx, vs, e, s _ _ q1, s _ _ q2, q3, Reps.mono s ds r⟩
  | .cls c, v, h => h
  | .exc0 c, v, h => h
  | .exc1 c f d, v, h => by
    unfold Rep at h ⊢
    obtain ⟨a, x, u, q0, e, q1, r⟩ := h
    exact ⟨a, x, u, q0, e, s _ _ q1, Rep.mono s d r⟩
theorem Reps.mono (s : Same F F') : ∀ (ds : List D) {vs : List V}, Reps K W F ds vs → Reps K W F' ds vs
  | [], vs, h => h
  | d :: ds, vs, h => by
    unfold Reps at h ⊢
    obtain ⟨v, r, e, q1, q2⟩ := h
    exact ⟨v, r, e, Rep.mono s d q1, Reps.mono s ds q2⟩
end
theorem Reps.length : ∀ {ds : List D} {vs : List V}, Reps K W F ds vs → vs.length = ds.length
  | [], vs, h => by unfold Reps at h; rw [h]; rfl
  | d :: ds, vs, h => by
    unfold Reps at h
    obtain ⟨v, r, rfl, _, q⟩ := h
    rw [List.length_cons, List.length_cons, Reps.length q]
theorem Reps.nil : Reps K W F [] [] := by unfold Reps; rfl
theorem Reps.cons {d : D} {v : V} {ds : List D} {vs : List V} (h : Rep K W F d v) (r : Reps K W F ds vs) : Reps K W F (d :: ds) (v :: vs) := by
  rw [Reps]
  exact ⟨v, vs, rfl, h, r⟩
theorem Reps.inv {d : D} {ds : List D} {vs : List V} (h : Reps K W F (d :: ds) vs) : ∃ v r, vs = v :: r ∧ Rep K W F d v ∧ Reps K W F ds r := by
  rw [Reps] at h
  exact h
theorem Reps.app : ∀ {ds : List D} {vs : List V} {ds' : List D} {vs' : List V}, Reps K W F ds vs → Reps K W F ds' vs' → Reps K W F (ds ++ ds') (vs ++ vs')
  | [], vs, ds', vs', h, h' => by
    rw [Reps] at h
    subst h
    exact h'
  | d :: ds, vs, ds', vs', h, h' => by
    obtain ⟨v, r, rfl, q1, q2⟩ := h.inv
    exact Reps.cons q1 (Reps.app q2 h')
theorem Reps.at : ∀ {ds : List D} {vs : List V} {i : Nat} {d : D}, Reps K W F ds vs → ds[i]? = some d → ∃ v, vs[i]? = some v ∧ Rep K W F d v
  | [], vs, i, d, h, e => by simp at e
  | d :: ds, vs, 0, d', h, e => by
    obtain ⟨v, r, rfl, q1, q2⟩ := h.inv
    simp at e
    subst e
    exact ⟨v, rfl, q1⟩
  | d :: ds, vs, i + 1, d', h, e => by
    obtain ⟨v, r, rfl, q1, q2⟩ := h.inv
    obtain ⟨u, e1, e2⟩ := Reps.at (i := i) q2 (by simpa using e)
    exact ⟨u, by simpa using e1, e2⟩
theorem Reps.set : ∀ {ds : List D} {vs : List V} (i : Nat) {d : D} {v : V}, Reps K W F ds vs → Rep K W F d v → Reps K W F (ds.set i d) (vs.set i v)
  | [], vs, i, d, v, h, e => by
    rw [Reps] at h
    subst h
    exact Reps.nil
  | d :: ds, vs, 0, d', v', h, e => by
    obtain ⟨v, r, rfl, q1, q2⟩ := h.inv
    exact Reps.cons e q2
  | d :: ds, vs, i + 1, d', v', h, e => by
    obtain ⟨v, r, rfl, q1, q2⟩ := h.inv
    exact Reps.cons q1 (Reps.set i q2 e)
theorem Reps.take : ∀ {ds : List D} {vs : List V} (n : Nat), Reps K W F ds vs → Reps K W F (ds.take n) (vs.take n)
  | _, _, 0, _ => Reps.nil
  | [], vs, n + 1, h => by
    rw [Reps] at h
    subst h
    exact Reps.nil
  | d :: ds, vs, n + 1, h => by
    obtain ⟨v, r, rfl, q1, q2⟩ := h.inv
    exact Reps.cons q1 (Reps.take n q2)
theorem Reps.drop : ∀ {ds : List D} {vs : List V} (n : Nat), Reps K W F ds vs → Reps K W F (ds.drop n) (vs.drop n)
  | ds, vs, 0, h => h
  | [], vs, n + 1, h => by
    rw [Reps] at h
    subst h
    exact Reps.nil
  | d :: ds, vs, n + 1, h => by
    obtain ⟨v, r, rfl, q1, q2⟩ := h.inv
    exact Reps.drop n q2
theorem Rep.non {v : V} : Rep K W F .non v ↔ v = .non := by rw [Rep]
theorem Rep.bl {b : Bool} {v : V} : Rep K W F (.bl b) v ↔ v = .bl b := by rw [Rep]
theorem Rep.int {b : Int} {v : V} : Rep K W F (.int b) v ↔ v = .int b := by rw [Rep]
theorem Rep.str {b : List Nat} {v : V} : Rep K W F (.str b) v ↔ v = S b := by rw [Rep]
theorem Rep.ty {b : String} {v : V} : Rep K W F (.ty b) v ↔ v = .ty b := by rw [Rep]
theorem Rep.lst {ds : List D} {v : V} : Rep K W F (.lst ds) v ↔ ∃ a vs, v = .ref a ∧ F a = some (.lst vs) ∧ Reps K W F ds vs := by rw [Rep]
theorem Rep.tup {ds : List D} {v : V} : Rep K W F (.tup ds) v ↔ ∃ a vs, v = .ref a ∧ SqT K F a vs ∧ Reps K W F ds vs := by rw [Rep]
theorem Rep.deal {v : V} : Rep K W F .deal v ↔ ∃ d, W.dl = some d ∧ v = .ref d.a := by rw [Rep]
/-- scalar data -/
def scal : D → Bool
  | .non => true
  | .bl _ => true
  | .int _ => true
  | .str _ => true
  | _ => false
theorem Rep.scal {d : D} {v : V} (h : Rep K W F d v) (s : scal d = true) : Rep K W F' d v := by
  cases d with
  | non => rw [Rep] at h ⊢; exact h
  | bl b => rw [Rep] at h ⊢; exact h
  | int b => rw [Rep] at h ⊢; exact h
  | str b => rw [Rep] at h ⊢; exact h
  | _ => cases s
end

/-! ### what a step keeps -/
structure Ext (K : PySem.W.Frag) (W : Wd) (F0 H0 F H : Hp) : Prop where
  ff : Same F0 F
  fh : Same F H
  hh : ∀ a o, ¬ InW W a → H0 a = some o → H a = some o
  nf : ∀ a, H0 a ≠ none → F0 a = none → F a = none
  j : JW W H
  fw : ∀ a, InW W a → F a = none
section
variable {K : PySem.W.Frag} {W : Wd} {F0 H0 F H F1 H1 F2 H2 : Hp}
theorem Ext.refl (e : Ext K W F0 H0 F H) : Ext K W F H F H := ⟨Same.refl _, e.fh, fun _ _ _ z => z, fun _ _ z => z, e.j, e.fw⟩
theorem Ext.trans (a : Ext K W F0 H0 F1 H1) (b : Ext K W F1 H1 F2 H2) : Ext K W F0 H0 F2 H2 where
  ff := a.ff.trans b.ff
  fh := b.fh
  hh := fun x o n e => b.hh x o n (a.hh x o n e)
  nf := fun x n e => by
    by_cases h : InW W x
    · exact b.fw x h
    · refine b.nf x (fun z => ?_) (a.nf x n e)
      cases q : H0 x with
      | none => exact n q
      | some o => rw [a.hh x o h q] at z; cases z
  j := b.j
  fw := b.fw
/-- new things beside -/
theorem Ext.grow (e : Ext K W F0 H0 F H) (s : Same H H1) : Ext K W F H F H1 := ⟨Same.refl _, e.fh.trans s, fun a o _ z => s a o z, fun _ _ z => z, e.j.of fun a h => by
  cases q : H a with
  | none => exact absurd q (e.j.dom h)
  | some o => exact s a o q, e.fw⟩
/-- a new object, frozen -/
theorem Ext.new (e : Ext K W F0 H0 F H) {p : Addr} {o : HO} (hp : H p = none) : Ext K W F H (upd F p o) (upd H p o) := by
  have hF : F p = none := e.fh.free hp
  refine ⟨upd_of hF, fun b u q => ?_, fun b u _ q => ?_, fun a n q => ?_, e.j.of fun a h => ?_, fun a h => ?_⟩
  · by_cases hb : b = p
    · rw [hb, upd_same] at q ⊢
      exact q
    · rw [upd_ne hb] at q ⊢
      exact e.fh _ _ q
  · rw [upd_ne (ne_of_none q hp)]
    exact q
  · rw [upd_ne (fun z => n (by rw [z]; exact hp))]
    exact q
  · rw [upd_ne (fun z => e.j.dom h (by rw [z]; exact hp))]
  · rw [upd_ne (fun z => e.j.dom h (by rw [z]; exact hp))]
    exact e.fw a h
/-- a new object beside -/
theorem Ext.newO (e : Ext K W F0 H0 F H) {p : Addr} {o : HO} (hp : H p = none) : Ext K W F H F (upd H p o) := e.grow (upd_of hp)
/-- an object of ours, frozen -/
theorem Ext.freeze (e : Ext K W F0 H0 F H) {p : Addr} {o : HO} (hp : H p = some o) (hF : F p = none) (h0 : H0 p = none) (hw : ¬ InW W p) : Ext K W F0 H0 (upd F p o) H := by
  refine ⟨e.ff.trans (upd_of hF), fun b u q => ?_, e.hh, fun a n q => ?_, e.j, fun a h => ?_⟩
  · by_cases hb : b = p
    · rw [hb, upd_same] at q
      rw [hb, ← q]
      exact hp
    · rw [upd_ne hb] at q
      exact e.fh _ _ q
  · rw [upd_ne (fun z => n (by rw [z]; exact h0))]
    exact e.nf a n q
  · rw [upd_ne (fun z => hw (by rw [← z]; exact h))]
    exact e.fw a h
/-- an object of ours is changed -/
theorem Ext.write (e : Ext K W F0 H0 F H) {p : Addr} {o : HO} (hF : F p = none) (h0 : H0 p = none) (hw : ¬ InW W p) : Ext K W F0 H0 F (upd H p o) := by
  refine ⟨e.ff, fun b u q => ?_, fun b u n q => ?_, e.nf, e.j.of fun a h => ?_, e.fw⟩
  · rw [upd_ne (fun z => by rw [z, hF] at q; cases q)]
    exact e.fh _ _ q
  · rw [upd_ne (fun z => by rw [z, h0] at q; cases q)]
    exact e.hh b u n q
  · rw [upd_ne (fun z => hw (by rw [← z]; exact h))]
/-- less is frozen: what was frozen before -/
theorem Ext.back (e : Ext K W F0 H0 F H) (b : Ext K W F0 H0 F1 H1) (s : Same F F1) : Ext K W F0 H0 F H1 := ⟨e.ff, s.trans b.fh, b.hh, e.nf, b.j, e.fw⟩
end

/-! ### slots: frozen data, or a list of our own -/
def SlotR (K : PySem.W.Frag) (W : Wd) (H0 F H : Hp) : Option Addr → Option V → Option D → Prop
  | none, _, none => True
  | none, some v, some d => Rep K W F d v
  | some a, some v, some (.lst ds) => v = .ref a ∧ F a = none ∧ H0 a = none ∧ ¬ InW W a ∧ ∃ vs, H a = some (.lst vs) ∧ Reps K W F ds vs
  | _, _, _ => False
def SlR (K : PySem.W.Frag) (W : Wd) (H0 F H : Hp) : List (Option Addr) → L2.St → Env → Prop
  | [], [], [] => True
  | w :: ws, v :: σ, d :: ρ => SlotR K W H0 F H w v d ∧ SlR K W H0 F H ws σ ρ
  | _, _, _ => False
abbrev Ow := List Bool
structure Sr (K : PySem.W.Frag) (W : Wd) (F0 H0 : Hp) (o : Ow) (ρ : Env) (σ : L2.St) (F H : Hp) : Prop where
  ext : Ext K W F0 H0 F H
  sl : ∃ ws : List (Option Addr), ws.map Option.isSome = o ∧ (ws.filterMap id).Nodup ∧ SlR K W H0 F H ws σ ρ
section
variable {K : PySem.W.Frag} {W : Wd} {F0 H0 F H F1 H1 : Hp} {o : Ow} {ρ : Env} {σ : L2.St}
theorem SlotR.step (e : Ext K W F H F1 H1) : ∀ {w : Option Addr} {v : Option V} {d : Option D}, SlotR K W H0 F H w v d → SlotR K W H0 F1 H1 w v d
  | none, v, none, h => trivial
  | none, some v, some d, h => Rep.mono e.ff d h
  | some a, some v, some (.lst ds), h => by
    obtain ⟨e1, e2, e3, e4, vs, e5, r⟩ := h
    exact ⟨e1, e.nf a (by rw [e5]; exact fun z => nomatch z) e2, e3, e4, vs, e.hh a _ e4 e5, Reps.mono e.ff ds r⟩
  | none, none, some d, h => h.elim
  | some a, none, d, h => by cases d <;> exact h.elim
  | some a, some v, none, h => h.elim
  | some a, some v, some .non, h => h.elim
  | some a, some v, some (.bl _), h => h.elim
  | some a, some v, some (.int _), h => h.elim
  | some a, some v, some (.str _), h => h.elim
  | some a, some v, some (.tup _), h => h.elim
  | some a, some v, some .deal, h => h.elim
  | some a, some v, some (.ty _), h => h.elim
  | some a, some v, some (.obj _ _ _), h => h.elim
  | some a, some v, some (.cls _), h => h.elim
  | some a, some v, some (.exc0 _), h => h.elim
  | some a, some v, some (.exc1 _ _ _), h => h.elim
theorem SlR.step (e : Ext K W F H F1 H1) : ∀ {ws : List (Option Addr)} {σ : L2.St} {ρ : Env}, SlR K W H0 F H ws σ ρ → SlR K W H0 F1 H1 ws σ ρ
  | [], [], [], _ => trivial
  | _ :: _, _ :: _, _ :: _, h => ⟨h.1.step e, SlR.step e h.2⟩
  | [], [], _ :: _, h => h.elim
  | [], _ :: _, _, h => h.elim
  | _ :: _, [], _, h => h.elim
  | _ :: _, _ :: _, [], h => h.elim
theorem Sr.step (h : Sr K W F0 H0 o ρ σ F H) (e : Ext K W F H F1 H1) : Sr K W F0 H0 o ρ σ F1 H1 := by
  obtain ⟨ws, h1, h2, h3⟩ := h.sl
  exact ⟨h.ext.trans e, ws, h1, h2, h3.step e⟩
theorem SlR.at : ∀ {ws : List (Option Addr)} {σ : L2.St} {ρ : Env} {i : Nat}, SlR K W H0 F H ws σ ρ → i < ws.length → ∃ w v d, ws[i]? = some w ∧ σ[i]? = some v ∧ ρ[i]? = some d ∧ SlotR K W H0 F H w v d
  | [], [], [], i, _, hi => by simp at hi
  | w :: ws, v :: σ, d :: ρ, 0, h, _ => ⟨w, v, d, rfl, rfl, rfl, h.1⟩
  | w :: ws, v :: σ, d :: ρ, i + 1, h, hi => by
    obtain ⟨w', v', d', h1, h2, h3, h4⟩ := SlR.at (i := i) h.2 (by simpa using hi)
    exact ⟨w', v', d', by simpa using h1, by simpa using h2, by simpa using h3, h4⟩
  | [], [], _ :: _, _, h, _ => h.elim
  | [], _ :: _, _, _, h, _ => h.elim
  | _ :: _, [], _, _, h, _ => h.elim
  | _ :: _, _ :: _, [], _, h, _ => h.elim
theorem SlR.put {w : Option Addr} {v : Option V} {d : Option D} (hn : SlotR K W H0 F H w v d) : ∀ {ws : List (Option Addr)} {σ : L2.St} {ρ : Env} (i : Nat), SlR K W H0 F H ws σ ρ → SlR K W H0 F H (ws.set i w) (σ.set i v) (ρ.set i d)
  | [], [], [], i, _ => trivial
  | _ :: ws, _ :: σ, _ :: ρ, 0, h => ⟨hn, h.2⟩
  | _ :: ws, _ :: σ, _ :: ρ, i + 1, h => ⟨h.1, SlR.put hn i h.2⟩
  | [], [], _ :: _, _, h => h.elim
  | [], _ :: _, _, _, h => h.elim
  | _ :: _, [], _, _, h => h.elim
  | _ :: _, _ :: _, [], _, h => h.elim
theorem SlR.len : ∀ {ws : List (Option Addr)} {σ : L2.St} {ρ : Env}, SlR K W H0 F H ws σ ρ → ws.length = σ.length ∧ ρ.length = σ.length
  | [], [], [], _ => ⟨rfl, rfl⟩
  | _ :: ws, _ :: σ, _ :: ρ, h => by
    obtain ⟨h1, h2⟩ := SlR.len h.2
    exact ⟨by rw [List.length_cons, List.length_cons, h1], by rw [List.length_cons, List.length_cons, h2]⟩
  | [], [], _ :: _, h => h.elim
  | [], _ :: _, _, h => h.elim
  | _ :: _, [], _, h => h.elim
  | _ :: _, _ :: _, [], h => h.elim
end
end M

/-! M2: the plain monad, expressions. -/
namespace M
open PySem PySem.Spec PyProof.Rows L2 TL G

/-! ### the monad -/
abbrev M (α : Type) := (α → Prop) → (Er → Prop) → Prop
def ret {α : Type} (a : α) : M α := fun Q _ => Q a
def bnd {α β : Type} (m : M α) (k : α → M β) : M β := fun Q E => m (fun a => k a Q E) E
def stuck {α : Type} : M α := fun _ _ => False
def thrw {α : Type} (e : Er) : M α := fun _ E => E e
def all {α : Type} (P : α → Prop) : M α := fun Q _ => ∀ a, P a → Q a
def grd {α : Type} (p : Prop) (m : M α) : M α := fun Q E => p ∧ m Q E

/-! ### what a value's step gives -/
def ResR (K : PySem.W.Frag) (W : Wd) (fr : Bool) (F H F1 H1 : Hp) (v : V) (d : D) : Prop := Ext K W F H F1 H1 ∧ match fr with
  | false => Rep K W F1 d v
  | true => ∃ p vs ds, v = .ref p ∧ d = .lst ds ∧ H p = none ∧ F1 p = none ∧ H1 p = some (.lst vs) ∧ Reps K W F1 ds vs
section
variable {K : PySem.W.Frag} {W : Wd} {F0 H0 F H F1 H1 : Hp} {o : Ow} {ρ : Env} {σ : L2.St} {v : V} {d : D} {fr : Bool}
theorem ResR.same (e : Ext K W F0 H0 F H) (h : Rep K W F d v) : ResR K W false F H F H v d := ⟨e.refl, h⟩
theorem notNew {a : Addr} (j : JW W H) (h : H a = none) : ¬ InW W a := fun z => j.dom z h
theorem SlR.free : ∀ {ws : List (Option Addr)} {σ : L2.St} {ρ : Env} {a : Addr}, SlR K W H0 F H ws σ ρ → a ∈ ws.filterMap id → H a ≠ none ∧ F a = none ∧ H0 a = none ∧ ¬ InW W a
  | [], [], [], a, h, m => by simp at m
  | w :: ws, v :: σ, d :: ρ, a, h, m => by
    cases w with
    | none => exact SlR.free (ws := ws) h.2 (by simpa using m)
    | some b =>
      have m' : a = b ∨ a ∈ ws.filterMap id := by simpa using m
      rcases m' with rfl | m'
      · obtain ⟨h1, _⟩ := h
        cases v with
        | none => cases d <;> exact h1.elim
        | some v =>
          cases d with
          | none => exact h1.elim
          | some d =>
            cases d with
            | lst ds =>
              obtain ⟨_, e2, e3, e4, vs, e5, _⟩ := h1
              exact ⟨by (rw [e5]; exact fun z => nomatch z), e2, e3, e4⟩
            | _ => exact h1.elim
      · exact SlR.free h.2 m'
  | [], [], _ :: _, _, h, _ => h.elim
  | [], _ :: _, _, _, h, _ => h.elim
  | _ :: _, [], _, _, h, _ => h.elim
  | _ :: _, _ :: _, [], _, h, _ => h.elim
/-- a value beside the slots -/
theorem Sr.val (h : Sr K W F0 H0 o ρ σ F H) (r : ResR K W fr F H F1 H1 v d) : Sr K W F0 H0 (fr :: o) (some d :: ρ) (some v :: σ) F1 H1 := by
  obtain ⟨e, r⟩ := r
  obtain ⟨ws, h1, h2, h3⟩ := (h.step e).sl
  cases fr with
  | false => exact ⟨h.ext.trans e, none :: ws, by simp [h1], by simpa using h2, ⟨r, h3⟩⟩
  | true =>
    obtain ⟨p, vs, ds, rfl, rfl, hp, hF, hH, hr⟩ := r
    have hw : ¬ InW W p := notNew h.ext.j hp
    have h0 : H0 p = none := by
      cases q : H0 p with
      | none => rfl
      | some u =>
        rw [h.ext.hh p u hw q] at hp
        cases hp
    obtain ⟨ws', g1, g2, g3⟩ := h.sl
    refine ⟨h.ext.trans e, some p :: ws', by simp [g1], ?_, ⟨rfl, hF, h0, hw, vs, hH, hr⟩, g3.step e⟩
    have : p ∉ ws'.filterMap id := fun z => (g3.free z).1 hp
    exact List.nodup_cons.mpr ⟨this, g2⟩
theorem Sr.tail {b : Bool} {x : Option D} {y : Option V} (h : Sr K W F0 H0 (b :: o) (x :: ρ) (y :: σ) F H) : Sr K W F0 H0 o ρ σ F H := by
  obtain ⟨ws, h1, h2, h3⟩ := h.sl
  cases ws with
  | nil => simp at h1
  | cons w ws =>
    simp at h1
    refine ⟨h.ext, ws, h1.2, ?_, h3.2⟩
    cases w with
    | none => simpa using h2
    | some a =>
      have : (a :: ws.filterMap id).Nodup := by simpa using h2
      exact (List.nodup_cons.mp this).2
theorem Sr.head (h : Sr K W F0 H0 (false :: o) (some d :: ρ) (some v :: σ) F H) : Rep K W F d v := by
  obtain ⟨ws, h1, h2, h3⟩ := h.sl
  cases ws with
  | nil => simp at h1
  | cons w ws =>
    cases w with
    | none => exact h3.1
    | some a => simp at h1
theorem Sr.headT (h : Sr K W F0 H0 (true :: o) (some d :: ρ) (some v :: σ) F H) : ∃ p vs ds, v = .ref p ∧ d = .lst ds ∧ F p = none ∧ H0 p = none ∧ ¬ InW W p ∧ H p = some (.lst vs) ∧ Reps K W F ds vs := by
  obtain ⟨ws, h1, h2, h3⟩ := h.sl
  cases ws with
  | nil => simp at h1
  | cons w ws =>
    cases w with
    | none => simp at h1
    | some a =>
      obtain ⟨h4, _⟩ := h3
      cases d with
      | lst ds =>
        obtain ⟨e1, e2, e3, e4, vs, e5, e6⟩ := h4
        exact ⟨a, vs, ds, e1, rfl, e2, e3, e4, e5, e6⟩
      | _ => exact h4.elim
end
section
variable {K : PySem.W.Frag} {W : Wd} {F0 H0 F H F1 H1 : Hp}
/-- the slot i is frozen -/
theorem SlR.freeze {a : Addr} {vs : List V} (ha : H a = some (.lst vs)) (hF : F a = none) : ∀ {ws : List (Option Addr)} {σ : L2.St} {ρ : Env} (i : Nat), (ws.filterMap id).Nodup → SlR K W H0 F H ws σ ρ → ws[i]? = some (some a) → SlR K W H0 (upd F a (.lst vs)) H (ws.set i none) σ ρ := by
  have up : Same F (upd F a (.lst vs)) := upd_of hF
  have far : ∀ {ws : List (Option Addr)} {σ : L2.St} {ρ : Env}, a ∉ ws.filterMap id → SlR K W H0 F H ws σ ρ → SlR K W H0 (upd F a (.lst vs)) H ws σ ρ := by
    intro ws
    induction ws with
    | nil =>
      intro σ ρ _ h
      cases σ with
      | nil => cases ρ with
        | nil => trivial
        | cons _ _ => exact h.elim
      | cons _ _ => exact h.elim
    | cons w ws ih =>
      intro σ ρ m h
      cases σ with
      | nil => exact h.elim
      | cons v σ =>
        cases ρ with
        | nil => exact h.elim
        | cons d ρ =>
          cases w with
          | none =>
            refine ⟨?_, ih (by simpa using m) h.2⟩
            obtain ⟨h1, _⟩ := h
            cases d with
            | none => trivial
            | some d => cases v with
              | none => exact h1.elim
              | some v => exact Rep.mono up d h1
          | some b =>
            have m' : ¬ (a = b ∨ a ∈ ws.filterMap id) := by simpa using m
            refine ⟨?_, ih (fun z => m' (.inr z)) h.2⟩
            obtain ⟨h1, _⟩ := h
            cases v with
            | none => cases d <;> exact h1.elim
            | some v =>
              cases d with
              | none => exact h1.elim
              | some d =>
                cases d with
                | lst ds =>
                  obtain ⟨e1, e2, e3, e4, us, e5, e6⟩ := h1
                  exact ⟨e1, by rw [upd_ne (fun z => m' (.inl z.symm))]; exact e2, e3, e4, us, e5, Reps.mono up ds e6⟩
                | _ => exact h1.elim
  intro ws
  induction ws with
  | nil => intro σ ρ i _ h e; simp at e
  | cons w ws ih =>
    intro σ ρ i nd h e
    cases σ with
    | nil => exact h.elim
    | cons v σ =>
      cases ρ with
      | nil => exact h.elim
      | cons d ρ =>
        cases i with
        | zero =>
          simp at e
          subst e
          have nd' : (a :: ws.filterMap id).Nodup := by simpa using nd
          refine ⟨?_, far (List.nodup_cons.mp nd').1 h.2⟩
          obtain ⟨h1, _⟩ := h
          cases v with
          | none => cases d <;> exact h1.elim
          | some v =>
            cases d with
            | none => trivial
            | some d =>
              cases d with
              | lst ds =>
                obtain ⟨e1, e2, e3, e4, us, e5, e6⟩ := h1
                rw [ha] at e5
                cases e5
                exact Rep.lst.mpr ⟨a, vs, e1, upd_same, Reps.mono up ds e6⟩
              | _ => exact h1.elim
        | succ i =>
          have e' : ws[i]? = some (some a) := by simpa using e
          have mem : a ∈ ws.filterMap id := List.mem_filterMap.mpr ⟨some a, List.mem_of_getElem? e', rfl⟩
          refine ⟨?_, ih i ?_ h.2 e'⟩
          · obtain ⟨h1, _⟩ := h
            cases w with
            | none =>
              cases d with
              | none => trivial
              | some d => cases v with
                | none => exact h1.elim
                | some v => exact Rep.mono up d h1
            | some b =>
              have nd' : (b :: ws.filterMap id).Nodup := by simpa using nd
              have hab : b ≠ a := fun z => (List.nodup_cons.mp nd').1 (by rw [z]; exact mem)
              cases v with
              | none => cases d <;> exact h1.elim
              | some v =>
                cases d with
                | none => exact h1.elim
                | some d =>
                  cases d with
                  | lst ds =>
                    obtain ⟨e1, e2, e3, e4, us, e5, e6⟩ := h1
                    exact ⟨e1, by rw [upd_ne hab]; exact e2, e3, e4, us, e5, Reps.mono up ds e6⟩
                  | _ => exact h1.elim
          · cases w with
            | none => simpa using nd
            | some b =>
              have nd' : (b :: ws.filterMap id).Nodup := by simpa using nd
              exact (List.nodup_cons.mp nd').2
end
theorem set_at {α : Type} : ∀ {l : List α} {i : Nat} {a : α}, l[i]? = some a → l.set i a = l
  | [], i, a, h => by simp at h
  | x :: l, 0, a, h => by
    simp at h
    rw [h]
    rfl
  | x :: l, i + 1, a, h => by
    rw [List.set_cons_succ, set_at (by simpa using h)]
theorem map_set_none {ws : List (Option Addr)} {i : Nat} : (ws.set i none).map Option.isSome = (ws.map Option.isSome).set i false := by
  rw [List.map_set]
  rfl
theorem nodup_set_none : ∀ {ws : List (Option Addr)} {i : Nat}, (ws.filterMap id).Nodup → ((ws.set i none).filterMap id).Nodup
  | [], i, h => by simp
  | w :: ws, 0, h => by
    cases w with
    | none => simpa using h
    | some a =>
      have : (a :: ws.filterMap id).Nodup := by simpa using h
      simpa using (List.nodup_cons.mp this).2
  | w :: ws, i + 1, h => by
    cases w with
    | none => simpa using nodup_set_none (ws := ws) (i := i) (by simpa using h)
    | some a =>
      have h' : (a :: ws.filterMap id).Nodup := by simpa using h
      obtain ⟨h1, h2⟩ := List.nodup_cons.mp h'
      have : (a :: (ws.set i none).filterMap id).Nodup := List.nodup_cons.mpr ⟨fun z => h1 ?_, nodup_set_none h2⟩
      · simpa using this
      · obtain ⟨x, hx, ex⟩ := List.mem_filterMap.mp z
        rcases List.mem_or_eq_of_mem_set hx with q | q
        · exact List.mem_filterMap.mpr ⟨x, q, ex⟩
        · rw [q] at ex
          cases ex
section
variable {K : PySem.W.Frag} {W : Wd} {F0 H0 F H F1 H1 : Hp} {o : Ow} {ρ : Env} {σ : L2.St}
theorem ow_at {ws : List (Option Addr)} {i : Nat} {b : Bool} (h : ws.map Option.isSome = o) (e : o[i]? = some b) : ∃ w, ws[i]? = some w ∧ w.isSome = b := by
  rw [← h, List.getElem?_map] at e
  cases q : ws[i]? with
  | none => rw [q] at e; cases e
  | some w => rw [q] at e; exact ⟨w, rfl, by simpa using e⟩
theorem Sr.freeze (h : Sr K W F0 H0 o ρ σ F H) (i : Nat) : ∃ F1, Sr K W F0 H0 (o.set i false) ρ σ F1 H ∧ Same F F1 := by
  obtain ⟨ws, h1, h2, h3⟩ := h.sl
  by_cases hi : i < ws.length
  · obtain ⟨w, v, d, e1, e2, e3, e4⟩ := h3.at hi
    cases w with
    | none => exact ⟨F, ⟨h.ext, ws.set i none, by rw [map_set_none, h1], nodup_set_none h2, by
        have := SlR.put e4 i h3
        rw [set_at e2, set_at e3] at this
        exact this⟩, Same.refl _⟩
    | some a =>
      cases v with
      | none => cases d <;> exact e4.elim
      | some v =>
        cases d with
        | none => exact e4.elim
        | some d =>
          cases d with
          | lst ds =>
            obtain ⟨g1, g2, g3, g4, vs, g5, g6⟩ := e4
            exact ⟨upd F a (.lst vs), ⟨h.ext.freeze g5 g2 g3 g4, ws.set i none, by rw [map_set_none, h1], nodup_set_none h2, SlR.freeze g5 g2 i h2 h3 e1⟩, upd_of g2⟩
          | _ => exact e4.elim
  · exact ⟨F, ⟨h.ext, ws, by rw [h1, List.set_eq_of_length_le]; rw [← h1, List.length_map]; omega, h2, h3⟩, Same.refl _⟩
end
end M

/-! M3: expressions over plain data. -/
namespace M
open PySem PySem.Spec PyProof.Rows L2 TL G

section
variable {K : PySem.W.Frag} {W : Wd} {F0 H0 F H F1 H1 : Hp} {o : Ow} {ρ : Env} {σ : L2.St}
theorem Sr.freezeL : ∀ (is : List Nat) {o : Ow} {F : Hp}, Sr K W F0 H0 o ρ σ F H → ∃ F1, Sr K W F0 H0 (is.foldl (fun o i => o.set i false) o) ρ σ F1 H ∧ Same F F1
  | [], o, F, h => ⟨F, h, Same.refl _⟩
  | i :: is, o, F, h => by
    obtain ⟨F1, h1, s1⟩ := h.freeze i
    obtain ⟨F2, h2, s2⟩ := Sr.freezeL is h1
    exact ⟨F2, h2, s1.trans s2⟩
theorem setAll : ∀ (o p : List Bool), ((List.range' p.length o.length).foldl (fun o i => o.set i false) (p ++ o)) = p ++ o.map fun _ => false
  | [], p => by simp
  | b :: o, p => by
    have ih := setAll o (p ++ [false])
    rw [List.length_append, List.append_assoc] at ih
    have e : (p ++ b :: o).set p.length false = p ++ ([false] ++ o) := by simp
    rw [List.length_cons, List.range'_succ, List.foldl_cons, e]
    simpa using ih
theorem Sr.freezeAll (h : Sr K W F0 H0 o ρ σ F H) : ∃ F1, Sr K W F0 H0 (o.map fun _ => false) ρ σ F1 H ∧ Same F F1 := by
  have e := setAll o []
  obtain ⟨F1, h1, s1⟩ := h.freezeL (List.range' 0 o.length)
  refine ⟨F1, ?_, s1⟩
  rw [show (List.range' 0 o.length).foldl (fun o i => o.set i false) o = o.map fun _ => false by simpa using e] at h1
  exact h1
theorem Sr.olen (h : Sr K W F0 H0 o ρ σ F H) : o.length = σ.length ∧ ρ.length = σ.length := by
  obtain ⟨ws, h1, h2, h3⟩ := h.sl
  obtain ⟨l1, l2⟩ := h3.len
  exact ⟨by rw [← h1, List.length_map, l1], l2⟩
theorem Sr.at (h : Sr K W F0 H0 o ρ σ F H) {i : Nat} {d : D} (ho : o[i]? = some false) (e : ρ[i]? = some (some d)) : ∃ v, σ[i]? = some (some v) ∧ Rep K W F d v := by
  obtain ⟨ws, h1, h2, h3⟩ := h.sl
  obtain ⟨w, e1, e2⟩ := ow_at h1 ho
  obtain ⟨w', v, d', f1, f2, f3, f4⟩ := h3.at (List.getElem?_eq_some_iff.mp e1).1
  rw [f1] at e1
  cases e1
  rw [f3] at e
  cases e
  cases w with
  | some a => cases e2
  | none =>
    cases v with
    | none => exact f4.elim
    | some v => exact ⟨v, f2, f4⟩
theorem Sr.atO (h : Sr K W F0 H0 o ρ σ F H) {i : Nat} (ho : o[i]? = some true) : ∃ p vs ds, ρ[i]? = some (some (.lst ds)) ∧ σ[i]? = some (some (.ref p)) ∧ F p = none ∧ H0 p = none ∧ ¬ InW W p ∧ H p = some (.lst vs) ∧ Reps K W F ds vs := by
  obtain ⟨ws, h1, h2, h3⟩ := h.sl
  obtain ⟨w, e1, e2⟩ := ow_at h1 ho
  obtain ⟨w', v, d', f1, f2, f3, f4⟩ := h3.at (List.getElem?_eq_some_iff.mp e1).1
  rw [f1] at e1
  cases e1
  cases w with
  | none => cases e2
  | some a =>
    cases v with
    | none => cases d' <;> exact f4.elim
    | some v =>
      cases d' with
      | none => exact f4.elim
      | some d =>
        cases d with
        | lst ds =>
          obtain ⟨g1, g2, g3, g4, vs, g5, g6⟩ := f4
          subst g1
          exact ⟨a, vs, ds, f3, f2, g2, g3, g4, g5, g6⟩
        | _ => exact f4.elim
end

/-- a step: what was frozen is, what stood stands -/
structure Stp (W : Wd) (F H F1 H1 : Hp) : Prop where
  ff : Same F F1
  hh : ∀ a o, ¬ InW W a → H a = some o → H1 a = some o
theorem Stp.refl {W : Wd} {F H : Hp} : Stp W F H F H := ⟨Same.refl _, fun _ _ _ e => e⟩
theorem Stp.of {W : Wd} {F H F1 : Hp} (s : Same F F1) : Stp W F H F1 H := ⟨s, fun _ _ _ e => e⟩
theorem Stp.trans {W : Wd} {F H F1 H1 F2 H2 : Hp} (a : Stp W F H F1 H1) (b : Stp W F1 H1 F2 H2) : Stp W F H F2 H2 := ⟨a.ff.trans b.ff, fun x o n e => b.hh x o n (a.hh x o n e)⟩
theorem Ext.stp {K : PySem.W.Frag} {W : Wd} {F H F1 H1 : Hp} (e : Ext K W F H F1 H1) : Stp W F H F1 H1 := ⟨e.ff, e.hh⟩
/-! ### what is raised -/
def XR (K : PySem.W.Frag) (W : Wd) (F H : Hp) : Er → Value → Option Addr → Prop
  | .e0 c, cls, dd => cls = .ref (He.ga K (Str.ofString c)) ∧ dd = none
  | .e1 c f d, cls, dd => cls = .ref (He.ga K (Str.ofString c)) ∧ ∃ x v, dd = some x ∧ F x = some (.xd [(Str.ofString f, v)]) ∧ Rep K W F d v

section
variable (K : PySem.W.Frag) (W : Wd) (E : L2.St → XK)
def SE (o : Ow) (fr : Bool) (o' : Ow) (t : TE) (m : Env → M D) : Prop := ∀ ⦃F0 H0 : Hp⦄ ⦃ρ : Env⦄ ⦃σ : L2.St⦄ ⦃F H : Hp⦄ ⦃Qd : D → Prop⦄ ⦃Ed : Er → Prop⦄ ⦃Q : VK⦄, Sr K W F0 H0 o ρ σ F H → m ρ Qd Ed →
  (∀ v d F' H', Sr K W F0 H0 (fr :: o') (some d :: ρ) (some v :: σ) F' H' → Stp W F H F' H' → Qd d → Q v H') →
  (∀ er o1 F' H' cls dd, Sr K W F0 H0 o1 ρ σ F' H' → XR K W F' H' er cls dd → Ed er → E σ cls dd H') → t σ H Q
def ST (o : Ow) (o' : Ow) (t : TT) (m : Env → M Bool) : Prop := ∀ ⦃F0 H0 : Hp⦄ ⦃ρ : Env⦄ ⦃σ : L2.St⦄ ⦃F H : Hp⦄ ⦃Qd : Bool → Prop⦄ ⦃Ed : Er → Prop⦄ ⦃Q : Bool → Hp → Prop⦄, Sr K W F0 H0 o ρ σ F H → m ρ Qd Ed →
  (∀ b F' H', Sr K W F0 H0 o' ρ σ F' H' → Stp W F H F' H' → Qd b → Q b H') →
  (∀ er o1 F' H' cls dd, Sr K W F0 H0 o1 ρ σ F' H' → XR K W F' H' er cls dd → Ed er → E σ cls dd H') → t σ H Q
def SA (o : Ow) (o' : Ow) (t : TA) (m : Env → M (List D)) : Prop := ∀ ⦃F0 H0 : Hp⦄ ⦃ρ : Env⦄ ⦃σ : L2.St⦄ ⦃F H : Hp⦄ ⦃Qd : List D → Prop⦄ ⦃Ed : Er → Prop⦄ ⦃Q : List V → Hp → Prop⦄, Sr K W F0 H0 o ρ σ F H → m ρ Qd Ed →
  (∀ vs ds F' H', Sr K W F0 H0 o' ρ σ F' H' → Reps K W F' ds vs → Stp W F H F' H' → Qd ds → Q vs H') →
  (∀ er o1 F' H' cls dd, Sr K W F0 H0 o1 ρ σ F' H' → XR K W F' H' er cls dd → Ed er → E σ cls dd H') → t σ H Q
/-- operators, built-ins, methods by values -/
def OpS (fr : Bool) (r : R2) (f : D → D → M D) : Prop := ∀ ⦃F H : Hp⦄ ⦃x y : V⦄ ⦃dx dy : D⦄ ⦃Qd : D → Prop⦄ ⦃Ed : Er → Prop⦄ ⦃Q : VK⦄, Ext K W F H F H → Rep K W F dx x → Rep K W F dy y → f dx dy Qd Ed →
  (∀ v d F' H', ResR K W fr F H F' H' v d → Qd d → Q v H') → r x y H Q
def CallS (fr : Bool) (r : List V → Hp → VK → Prop) (f : List D → M D) : Prop := ∀ ⦃F H : Hp⦄ ⦃xs : List V⦄ ⦃ds : List D⦄ ⦃Qd : D → Prop⦄ ⦃Ed : Er → Prop⦄ ⦃Q : VK⦄, Ext K W F H F H → Reps K W F ds xs → f ds Qd Ed →
  (∀ v d F' H', ResR K W fr F H F' H' v d → Qd d → Q v H') → r xs H Q
end

/-! ### the combinators -/
def eVar (i : Nat) : Env → M D := fun ρ Q _ => match ρ[i]? with
  | some (some d) => Q d
  | _ => False
def eC (d : D) : Env → M D := fun _ => ret d
def eOp (f : D → D → M D) (a b : Env → M D) : Env → M D := fun ρ => bnd (a ρ) fun x => bnd (b ρ) fun y => f x y
def eUn (f : D → M D) (a : Env → M D) : Env → M D := fun ρ => bnd (a ρ) f
def dBool : D → M Bool
  | .bl b => ret b
  | _ => stuck
def cTest (a : Env → M D) : Env → M Bool := fun ρ => bnd (a ρ) dBool
def cIf {α : Type} (c : Env → M Bool) (a b : Env → M α) : Env → M α := fun ρ => bnd (c ρ) fun x => if x = true then a ρ else b ρ
def cAnd (a b : Env → M Bool) : Env → M Bool := cIf a b fun _ => ret false
def cOr (a b : Env → M Bool) : Env → M Bool := cIf a (fun _ => ret true) b
def cNot (a : Env → M Bool) : Env → M Bool := fun ρ => bnd (a ρ) fun x => ret (!x)
def eAnd (a b : Env → M D) : Env → M D := cIf (cTest a) b fun _ => ret (.bl false)
def eOr (a b : Env → M D) : Env → M D := cIf (cTest a) (fun _ => ret (.bl true)) b
def eNot (a : Env → M D) : Env → M D := fun ρ => bnd (a ρ) fun x => bnd (dBool x) fun b => ret (.bl (!b))
def aNil : Env → M (List D) := fun _ => ret []
def aCons (a : Env → M D) (r : Env → M (List D)) : Env → M (List D) := fun ρ => bnd (a ρ) fun x => bnd (r ρ) fun xs => ret (x :: xs)
def eFn (f : List D → M D) (a : Env → M (List D)) : Env → M D := fun ρ => bnd (a ρ) f
/-- the value is scalar -/
def eScal (a : Env → M D) : Env → M D := fun ρ => bnd (a ρ) fun d => grd (scal d = true) (ret d)
def dLst (ds : List D) : M D := grd (ds.length ≤ 1000000) (ret (.lst ds))
def dTup (ds : List D) : M D := grd (ds.length ≤ 1000000) (ret (.tup ds))

section
variable {K : PySem.W.Frag} {W : Wd} {E : L2.St → XK} {o o1 o2 o' : Ow} {ta tb te to : TE} {t u : TT} {tA : TA} {a b m : Env → M D} {c e : Env → M Bool} {aa : Env → M (List D)} {fr : Bool}
theorem se_var {i : Nat} (h : o[i]? = some false) : SE K W E o false o (tVar i) (eVar i) := by
  intro F0 H0 ρ σ F H Qd Ed Q s hm k x
  unfold eVar at hm
  split at hm
  · rename_i d e
    obtain ⟨v, e1, r⟩ := s.at h e
    exact ⟨v, e1, k v d F H (s.val (ResR.same s.ext r)) Stp.refl hm⟩
  · exact hm.elim
theorem leak_at {o : Ow} {i : Nat} {b : Bool} (h : o[i]? = some b) : (o.set i false)[i]? = some false := by
  rw [List.getElem?_set_self (List.getElem?_eq_some_iff.mp h).1]
theorem se_leak {i : Nat} (h : o[i]? = some true) : SE K W E o false (o.set i false) (tVar i) (eVar i) := by
  intro F0 H0 ρ σ F H Qd Ed Q s hm k x
  obtain ⟨F1, s1, sm⟩ := s.freeze i
  refine se_var (leak_at h) s1 hm (fun v d F' H' s' sm' q => k v d F' H' s' ((Stp.of sm).trans sm') q) x
theorem se_c {v : V} {d : D} (h : ∀ F, Rep K W F d v) : SE K W E o false o (tC v) (eC d) := by
  intro F0 H0 ρ σ F H Qd Ed Q s hm k x
  exact k v d F H (s.val (ResR.same s.ext (h F))) Stp.refl hm
theorem se_frz (h : SE K W E o true o' te m) : SE K W E o false o' te m := by
  intro F0 H0 ρ σ F H Qd Ed Q s hm k x
  refine h s hm (fun v d F' H' s' sm q => ?_) x
  obtain ⟨F1, s1, sm1⟩ := s'.freeze 0
  exact k v d F1 H' s1 (sm.trans (Stp.of sm1)) q
theorem se_op {r : R2} {f : D → D → M D} (ha : SE K W E o false o1 ta a) (hb : SE K W E o1 false o2 tb b) (hr : OpS K W fr r f) : SE K W E o fr o2 (tOp r ta tb) (eOp f a b) := by
  intro F0 H0 ρ σ F H Qd Ed Q s hm k x
  refine ha s hm (fun v d F1 H1 s1 sm1 q1 => ?_) x
  refine hb s1.tail q1 (fun v2 d2 F2 H2 s2 sm2 q2 => ?_) x
  exact hr s2.ext.refl (Rep.mono sm2.ff d s1.head) s2.head q2 fun v3 d3 F3 H3 r3 q3 => k v3 d3 F3 H3 (s2.tail.val r3) ((sm1.trans sm2).trans r3.1.stp) q3
theorem se_un {r : V → Hp → VK → Prop} {f : D → M D} (ha : SE K W E o false o1 ta a) (hr : CallS K W fr (fun xs H Q => ∃ x, xs = [x] ∧ r x H Q) (fun ds => match ds with | [d] => f d | _ => stuck)) : SE K W E o fr o1 (tUn r ta) (eUn f a) := by
  intro F0 H0 ρ σ F H Qd Ed Q s hm k x
  refine ha s hm (fun v d F1 H1 s1 sm1 q1 => ?_) x
  obtain ⟨y, e, q⟩ := hr (xs := [v]) (ds := [d]) s1.ext.refl (Reps.cons s1.head Reps.nil) q1 fun v3 d3 F3 H3 r3 q3 => k v3 d3 F3 H3 (s1.tail.val r3) (sm1.trans r3.1.stp) q3
  cases e
  exact q
theorem st_test (ha : SE K W E o false o1 ta a) : ST K W E o o1 (uTest ta) (cTest a) := by
  intro F0 H0 ρ σ F H Qd Ed Q s hm k x
  refine ha s hm (fun v d F1 H1 s1 sm1 q1 => ?_) x
  cases d with
  | bl b => exact ⟨b, Rep.bl.mp s1.head, k b F1 H1 s1.tail sm1 q1⟩
  | _ => exact q1.elim
/-- what is frozen in one of two ways -/
abbrev frL (is : List Nat) (o : Ow) : Ow := is.foldl (fun o i => o.set i false) o
theorem st_weak (is : List Nat) (ha : ST K W E o o1 t c) (h : frL is o1 = o2) : ST K W E o o2 t c := by
  intro F0 H0 ρ σ F H Qd Ed Q s hm k x
  refine ha s hm (fun b F1 H1 s1 sm1 q1 => ?_) x
  obtain ⟨F2, s2, sm2⟩ := s1.freezeL is
  have s3 : Sr K W F0 H0 (frL is o1) ρ σ F2 H1 := s2
  rw [h] at s3
  exact k b F2 H1 s3 (sm1.trans (Stp.of sm2)) q1
theorem se_weak (is : List Nat) (ha : SE K W E o fr o1 ta a) (h : frL is o1 = o2) : SE K W E o fr o2 ta a := by
  intro F0 H0 ρ σ F H Qd Ed Q s hm k x
  refine ha s hm (fun v d F1 H1 s1 sm1 q1 => ?_) x
  obtain ⟨F2, s2, sm2⟩ := s1.freezeL (is.map (· + 1))
  have e : ∀ (is : List Nat) (o1 : Ow), (is.map (· + 1)).foldl (fun o i => o.set i false) (fr :: o1) = fr :: frL is o1 := by
    intro is
    induction is with
    | nil => intro o1; rfl
    | cons i is ih => intro o1; exact ih (o1.set i false)
  rw [e, h] at s2
  exact k v d F2 H1 s2 (sm1.trans (Stp.of sm2)) q1
theorem st_and (ha : ST K W E o o1 t c) (hb : ST K W E o1 o1 u e) : ST K W E o o1 (uAnd t u) (cAnd c e) := by
  intro F0 H0 ρ σ F H Qd Ed Q s hm k x
  refine ha s hm (fun b F1 H1 s1 sm1 q1 => ?_) x
  cases b with
  | false => exact iteF (k false F1 H1 s1 sm1 q1)
  | true => exact iteT (hb s1 q1 (fun b F2 H2 s2 sm2 q2 => k b F2 H2 s2 (sm1.trans sm2) q2) x)
theorem st_or (ha : ST K W E o o1 t c) (hb : ST K W E o1 o1 u e) : ST K W E o o1 (uOr t u) (cOr c e) := by
  intro F0 H0 ρ σ F H Qd Ed Q s hm k x
  refine ha s hm (fun b F1 H1 s1 sm1 q1 => ?_) x
  cases b with
  | true => exact iteT (k true F1 H1 s1 sm1 q1)
  | false => exact iteF (hb s1 q1 (fun b F2 H2 s2 sm2 q2 => k b F2 H2 s2 (sm1.trans sm2) q2) x)
theorem st_not (ha : ST K W E o o1 t c) : ST K W E o o1 (tNot t) (cNot c) := by
  intro F0 H0 ρ σ F H Qd Ed Q s hm k x
  exact ha s hm (fun b F1 H1 s1 sm1 q1 => k (!b) F1 H1 s1 sm1 q1) x
theorem se_and (ha : SE K W E o false o1 ta a) (hb : SE K W E o1 false o1 tb b) : SE K W E o false o1 (uAndV ta tb) (eAnd a b) := by
  intro F0 H0 ρ σ F H Qd Ed Q s hm k x
  refine ha s hm (fun v d F1 H1 s1 sm1 q1 => ?_) x
  cases d with
  | bl c =>
    refine ⟨c, Rep.bl.mp s1.head, ?_⟩
    cases c with
    | false => exact iteF (k (.bl false) (.bl false) F1 H1 (s1.tail.val (ResR.same s1.ext (Rep.bl.mpr rfl))) sm1 q1)
    | true => exact iteT (hb s1.tail q1 (fun v d F2 H2 s2 sm2 q2 => k v d F2 H2 s2 (sm1.trans sm2) q2) x)
  | _ => exact q1.elim
theorem se_or (ha : SE K W E o false o1 ta a) (hb : SE K W E o1 false o1 tb b) : SE K W E o false o1 (uOrV ta tb) (eOr a b) := by
  intro F0 H0 ρ σ F H Qd Ed Q s hm k x
  refine ha s hm (fun v d F1 H1 s1 sm1 q1 => ?_) x
  cases d with
  | bl c =>
    refine ⟨c, Rep.bl.mp s1.head, ?_⟩
    cases c with
    | true => exact iteT (k (.bl true) (.bl true) F1 H1 (s1.tail.val (ResR.same s1.ext (Rep.bl.mpr rfl))) sm1 q1)
    | false => exact iteF (hb s1.tail q1 (fun v d F2 H2 s2 sm2 q2 => k v d F2 H2 s2 (sm1.trans sm2) q2) x)
  | _ => exact q1.elim
theorem se_not (ha : SE K W E o false o1 ta a) : SE K W E o false o1 (uNotV ta) (eNot a) := by
  intro F0 H0 ρ σ F H Qd Ed Q s hm k x
  refine ha s hm (fun v d F1 H1 s1 sm1 q1 => ?_) x
  cases d with
  | bl c => exact ⟨c, Rep.bl.mp s1.head, k (.bl (!c)) (.bl (!c)) F1 H1 (s1.tail.val (ResR.same s1.ext (Rep.bl.mpr rfl))) sm1 q1⟩
  | _ => exact q1.elim
theorem se_if (hc : ST K W E o o1 t c) (ha : SE K W E o1 fr o2 ta a) (hb : SE K W E o1 fr o2 tb b) : SE K W E o fr o2 (uIfE t ta tb) (cIf c a b) := by
  intro F0 H0 ρ σ F H Qd Ed Q s hm k x
  refine hc s hm (fun c F1 H1 s1 sm1 q1 => ?_) x
  cases c with
  | true => exact iteT (ha s1 q1 (fun v d F2 H2 s2 sm2 q2 => k v d F2 H2 s2 (sm1.trans sm2) q2) x)
  | false => exact iteF (hb s1 q1 (fun v d F2 H2 s2 sm2 q2 => k v d F2 H2 s2 (sm1.trans sm2) q2) x)
theorem sa_nil : SA K W E o o tNil aNil := by
  intro F0 H0 ρ σ F H Qd Ed Q s hm k x
  exact k [] [] F H s Reps.nil Stp.refl hm
theorem sa_cons (ha : SE K W E o false o1 ta a) (hr : SA K W E o1 o2 tA aa) : SA K W E o o2 (tCons ta tA) (aCons a aa) := by
  intro F0 H0 ρ σ F H Qd Ed Q s hm k x
  refine ha s hm (fun v d F1 H1 s1 sm1 q1 => ?_) x
  refine hr s1.tail q1 (fun vs ds F2 H2 s2 r2 sm2 q2 => ?_) x
  exact k (v :: vs) (d :: ds) F2 H2 s2 (Reps.cons (Rep.mono sm2.ff d s1.head) r2) (sm1.trans sm2) q2
theorem se_cb {r : List V → Hp → VK → Prop} {f : List D → M D} (ha : SA K W E o o1 tA aa) (hr : CallS K W fr r f) : SE K W E o fr o1 (tCB r tA) (eFn f aa) := by
  intro F0 H0 ρ σ F H Qd Ed Q s hm k x
  refine ha s hm (fun vs ds F1 H1 s1 r1 sm1 q1 => ?_) x
  exact hr s1.ext.refl r1 q1 fun v3 d3 F3 H3 r3 q3 => k v3 d3 F3 H3 (s1.val r3) (sm1.trans r3.1.stp) q3
theorem new_lst {F0 H0 F H : Hp} (s : Ext K W F0 H0 F H) {vs : List V} {ds : List D} {p : Addr} (hp : H p = none) (r : Reps K W F ds vs) : ResR K W true F H F (upd H p (.lst vs)) (.ref p) (.lst ds) :=
  ⟨s.newO hp, p, vs, ds, rfl, rfl, hp, s.fh.free hp, upd_same, r⟩
theorem new_tup {F0 H0 F H : Hp} (s : Ext K W F0 H0 F H) {vs : List V} {ds : List D} {p : Addr} (hp : H p = none) (r : Reps K W F ds vs) : ResR K W false F H (upd F p (.tup vs)) (upd H p (.tup vs)) (.ref p) (.tup ds) :=
  ⟨s.new hp, Rep.tup.mpr ⟨p, vs, rfl, st_of upd_same, Reps.mono (upd_of (s.fh.free hp)) ds r⟩⟩
theorem se_lst (ha : SA K W E o o1 tA aa) : SE K W E o true o1 (tLst tA) (eFn dLst aa) := by
  intro F0 H0 ρ σ F H Qd Ed Q s hm k x
  refine ha s hm (fun vs ds F1 H1 s1 r1 sm1 q1 => ?_) x
  refine ⟨by rw [r1.length]; exact sz6 q1.1, fun p hp => ?_⟩
  have n := new_lst s1.ext hp r1
  exact k _ _ _ _ (s1.val n) (sm1.trans n.1.stp) q1.2
theorem se_tup (ha : SA K W E o o1 tA aa) : SE K W E o false o1 (tTup tA) (eFn dTup aa) := by
  intro F0 H0 ρ σ F H Qd Ed Q s hm k x
  refine ha s hm (fun vs ds F1 H1 s1 r1 sm1 q1 => ?_) x
  refine ⟨by rw [r1.length]; exact sz6 q1.1, fun p hp => ?_⟩
  have n := new_tup s1.ext hp r1
  exact k _ _ _ _ (s1.val n) (sm1.trans n.1.stp) q1.2
/-- a scalar value: all that was ours is ours again -/
theorem se_scal (ha : SE K W E (o.map fun _ => false) false o1 ta a) : SE K W E o false o ta (eScal a) := by
  intro F0 H0 ρ σ F H Qd Ed Q s hm k x
  obtain ⟨F1, s1, sm1⟩ := s.freezeAll
  refine ha s1 hm (fun v d F2 H2 s2 sm2 q2 => ?_) x
  obtain ⟨q3, q4⟩ := q2
  have e : Ext K W F H F H2 := ⟨Same.refl _, (sm1.trans sm2.ff).trans s2.ext.fh, sm2.hh, fun _ _ z => z, s2.ext.j, s.ext.fw⟩
  exact k v d F H2 (s.val ⟨e, Rep.scal s2.head q3⟩) e.stp q4
end
end M

/-! M4: operators by values. -/
namespace M
open PySem PySem.Spec PyProof.Rows L2 TL G

section
variable {K : PySem.W.Frag} {W : Wd} {F0 H0 F H F1 H1 : Hp}
theorem new_lstF (s : Ext K W F0 H0 F H) {vs : List V} {ds : List D} {p : Addr} (hp : H p = none) (r : Reps K W F ds vs) : ResR K W false F H (upd F p (.lst vs)) (upd H p (.lst vs)) (.ref p) (.lst ds) :=
  ⟨s.new hp, Rep.lst.mpr ⟨p, vs, rfl, upd_same, Reps.mono (upd_of (s.fh.free hp)) ds r⟩⟩
end

/-! ### equality -/
mutual
def toPy : D → PyData
  | .non => .none
  | .bl b => .bool b
  | .int i => .int i
  | .str l => .str (mk l)
  | .lst ds => .list (toPys ds)
  | .tup ds => .tuple (toPys ds)
  | _ => .none
def toPys : List D → List PyData
  | [] => []
  | d :: ds => toPy d :: toPys ds
end
mutual
/-- data alone, at most so deep -/
def pln : Nat → D → Bool
  | _, .non => true
  | _, .bl _ => true
  | _, .int _ => true
  | _, .str l => l.all fun c => decide (c < 1114112)
  | n + 1, .lst ds => plns n ds
  | n + 1, .tup ds => plns n ds
  | _, _ => false
def plns : Nat → List D → Bool
  | _, [] => true
  | n, d :: ds => pln n d && plns n ds
end
theorem ba2 {a b : Bool} (h : (a && b) = true) : a = true ∧ b = true := Bool.and_eq_true_iff.mp h
mutual
theorem pln_dp {K : PySem.W.Frag} {W : Wd} {F : Hp} : ∀ (n : Nat) (d : D) {v : V}, pln n d = true → Rep K W F d v → Dp K F v (toPy d)
  | n, .non, v, h, r => by rw [Rep] at r; subst r; rw [toPy]; exact .non
  | n, .bl b, v, h, r => by rw [Rep] at r; subst r; rw [toPy]; exact .bl b
  | n, .int b, v, h, r => by rw [Rep] at r; subst r; rw [toPy]; exact .int b
  | n, .str b, v, h, r => by rw [Rep] at r; subst r; rw [toPy]; exact .str _
  | n + 1, .lst ds, v, h, r => by
    obtain ⟨a, vs, rfl, q, r⟩ := Rep.lst.mp r
    rw [pln] at h
    rw [toPy]
    exact .lst (sq_of q) (plns_dp n ds h r)
  | n + 1, .tup ds, v, h, r => by
    obtain ⟨a, vs, rfl, q, r⟩ := Rep.tup.mp r
    rw [pln] at h
    rw [toPy]
    exact .tup q (plns_dp n ds h r)
  | 0, .lst ds, v, h, r => by rw [pln] at h; cases h; all_goals (intros; simp_all)
  | 0, .tup ds, v, h, r => by rw [pln] at h; cases h; all_goals (intros; simp_all)
  | _, .deal, v, h, r => by rw [pln] at h; cases h; all_goals (intros; simp_all)
  | _, .ty _, v, h, r => by rw [pln] at h; cases h; all_goals (intros; simp_all)
  | _, .obj _ _ _, v, h, r => by rw [pln] at h; cases h; all_goals (intros; simp_all)
  | _, .cls _, v, h, r => by rw [pln] at h; cases h; all_goals (intros; simp_all)
  | _, .exc0 _, v, h, r => by rw [pln] at h; cases h; all_goals (intros; simp_all)
  | _, .exc1 _ _ _, v, h, r => by rw [pln] at h; cases h; all_goals (intros; simp_all)
theorem plns_dp {K : PySem.W.Frag} {W : Wd} {F : Hp} : ∀ (n : Nat) (ds : List D) {vs : List V}, plns n ds = true → Reps K W F ds vs → DpAll K F vs (toPys ds)
  | n, [], vs, h, r => by rw [Reps] at r; subst r; rw [toPys]; exact .nil
  | n, d :: ds, vs, h, r => by
    obtain ⟨v, r, rfl, q1, q2⟩ := r.inv
    rw [plns] at h
    obtain ⟨h1, h2⟩ := ba2 h
    rw [toPys]
    exact .cons (pln_dp n d h1 q1) (plns_dp n ds h2 q2)
end
mutual
theorem pln_shape : ∀ (n : Nat) (d : D), pln n d = true → (toPy d).canLay0 = true ∧ (toPy d).depth ≤ n
  | n, .non, h => ⟨rfl, Nat.zero_le _⟩
  | n, .bl b, h => ⟨rfl, Nat.zero_le _⟩
  | n, .int b, h => ⟨rfl, Nat.zero_le _⟩
  | n, .str b, h => by
    rw [pln] at h
    refine ⟨?_, Nat.zero_le _⟩
    rw [toPy, PyData.canLay0]
    unfold PyData.strOk
    simpa using h
  | n + 1, .lst ds, h => by
    rw [pln] at h
    obtain ⟨h1, h2⟩ := plns_shape n ds h
    rw [toPy]
    exact ⟨h1, Nat.succ_le_succ h2⟩
  | n + 1, .tup ds, h => by
    rw [pln] at h
    obtain ⟨h1, h2⟩ := plns_shape n ds h
    rw [toPy]
    exact ⟨h1, Nat.succ_le_succ h2⟩
  | 0, .lst ds, h => by rw [pln] at h; cases h; all_goals (intros; simp_all)
  | 0, .tup ds, h => by rw [pln] at h; cases h; all_goals (intros; simp_all)
  | _, .deal, h => by rw [pln] at h; cases h; all_goals (intros; simp_all)
  | _, .ty _, h => by rw [pln] at h; cases h; all_goals (intros; simp_all)
  | _, .obj _ _ _, h => by rw [pln] at h; cases h; all_goals (intros; simp_all)
  | _, .cls _, h => by rw [pln] at h; cases h; all_goals (intros; simp_all)
  | _, .exc0 _, h => by rw [pln] at h; cases h; all_goals (intros; simp_all)
  | _, .exc1 _ _ _, h => by rw [pln] at h; cases h; all_goals (intros; simp_all)
theorem plns_shape : ∀ (n : Nat) (ds : List D), plns n ds = true → PyData.canLayAll0 (toPys ds) = true ∧ PyData.depthAll (toPys ds) ≤ n
  | n, [], h => ⟨rfl, Nat.zero_le _⟩
  | n, d :: ds, h => by
    rw [plns] at h
    obtain ⟨h1, h2⟩ := ba2 h
    obtain ⟨g1, g2⟩ := pln_shape n d h1
    obtain ⟨g3, g4⟩ := plns_shape n ds h2
    rw [toPys]
    refine ⟨?_, ?_⟩
    · show ((toPy d).canLay0 && PyData.canLayAll0 (toPys ds)) = true
      rw [g1, g3]
      rfl
    · show max (toPy d).depth (PyData.depthAll (toPys ds)) ≤ n
      omega
end
theorem pln_shaped {d : D} (h : pln 60 d = true) : SeqAt.shaped (toPy d) = true := by
  obtain ⟨h1, h2⟩ := pln_shape 60 d h
  unfold SeqAt.shaped
  rw [h1, decide_eq_true (by omega)]
  rfl
/-- == -/
def dEqB (x y : D) : Bool := PyData.eqv (toPy x) (toPy y)
def dEqG (x y : D) : Bool := (scal x && scal y) || (pln 60 x && pln 60 y)
def dEq (x y : D) : M D := grd (dEqG x y = true) (ret (.bl (dEqB x y)))
def dNe (x y : D) : M D := grd (dEqG x y = true) (ret (.bl (!dEqB x y)))
theorem dEqB_int (a b : Int) : dEqB (.int a) (.int b) = decide (a = b) := by
  unfold dEqB
  rw [toPy, toPy, PyData.eqv, Bool.beq_eq_decide_eq]
theorem dEqB_str (a b : List Nat) : dEqB (.str a) (.str b) = decide (a = b) := by
  unfold dEqB
  rw [toPy, toPy, PyData.eqv, Bool.beq_eq_decide_eq]
  exact decide_eq_decide.mpr ⟨fun h => mk_inj h, fun h => by rw [h]⟩
theorem dEqB_bl (a b : Bool) : dEqB (.bl a) (.bl b) = (a == b) := by
  unfold dEqB
  rw [toPy, toPy, PyData.eqv]
section
variable {K : PySem.W.Frag} {W : Wd}
theorem Dp.mono {K : PySem.W.Frag} {F H : Hp} (s : Same F H) {d : D} {W : Wd} {v : V} (h : pln 60 d = true) (r : Rep K W F d v) : Dp K H v (toPy d) := pln_dp 60 d h (Rep.mono s d r)
/-- scalars: by the values, or as data -/
theorem sc_eq {x y : V} {dx dy : D} {F : Hp} (rx : Rep K W F dx x) (ry : Rep K W F dy y) (h1 : scal dx = true) (h2 : scal dy = true) : (L2.scal x y = true ∧ decide (x = y) = dEqB dx dy) ∨ (pln 60 dx && pln 60 dy) = true := by
  cases dx with
  | non =>
    cases Rep.non.mp rx
    cases dy with
    | non => cases Rep.non.mp ry; exact .inl ⟨rfl, rfl⟩
    | bl b => cases Rep.bl.mp ry; exact .inl ⟨rfl, rfl⟩
    | int b => cases Rep.int.mp ry; exact .inl ⟨rfl, rfl⟩
    | str b => cases Rep.str.mp ry; exact .inl ⟨rfl, rfl⟩
    | _ => cases h2
  | bl a =>
    cases Rep.bl.mp rx
    cases dy with
    | non => cases Rep.non.mp ry; exact .inl ⟨rfl, rfl⟩
    | bl b => cases Rep.bl.mp ry; exact .inl ⟨rfl, by rw [dEqB_bl]; cases a <;> cases b <;> rfl⟩
    | int b => exact .inr rfl
    | str b => cases Rep.str.mp ry; exact .inl ⟨rfl, rfl⟩
    | _ => cases h2
  | int a =>
    cases Rep.int.mp rx
    cases dy with
    | non => cases Rep.non.mp ry; exact .inl ⟨rfl, rfl⟩
    | bl b => exact .inr rfl
    | int b => cases Rep.int.mp ry; exact .inl ⟨rfl, by rw [dEqB_int]; exact decide_eq_decide.mpr ⟨fun h => V.int.inj h, fun h => by rw [h]⟩⟩
    | str b => cases Rep.str.mp ry; exact .inl ⟨rfl, rfl⟩
    | _ => cases h2
  | str a =>
    cases Rep.str.mp rx
    cases dy with
    | non => cases Rep.non.mp ry; exact .inl ⟨rfl, rfl⟩
    | bl b => cases Rep.bl.mp ry; exact .inl ⟨rfl, rfl⟩
    | int b => cases Rep.int.mp ry; exact .inl ⟨rfl, rfl⟩
    | str b => cases Rep.str.mp ry; exact .inl ⟨rfl, by rw [dEqB_str, decS]⟩
    | _ => cases h2
  | _ => cases h1
theorem eq_ways {x y : V} {dx dy : D} {F : Hp} (rx : Rep K W F dx x) (ry : Rep K W F dy y) (h : dEqG dx dy = true) : (L2.scal x y = true ∧ decide (x = y) = dEqB dx dy) ∨ (pln 60 dx && pln 60 dy) = true := by
  rcases Bool.or_eq_true_iff.mp h with h | h
  · obtain ⟨h1, h2⟩ := ba2 h
    exact sc_eq rx ry h1 h2
  · exact .inr h
theorem os_eq : OpS K W false (rEqU K) dEq := by
  intro F H x y dx dy Qd Ed Q e rx ry ⟨h, q⟩ k
  have kk := k _ _ F H (ResR.same e (Rep.bl.mpr rfl)) q
  rcases eq_ways rx ry h with ⟨g1, g2⟩ | h
  · exact .inl ⟨g1, by rw [g2]; exact kk⟩
  · obtain ⟨h1, h2⟩ := ba2 h
    exact .inr ⟨_, _, Dp.mono e.fh h1 rx, Dp.mono e.fh h2 ry, pln_shaped h1, pln_shaped h2, kk⟩
theorem os_ne : OpS K W false (rNeU K) dNe := by
  intro F H x y dx dy Qd Ed Q e rx ry ⟨h, q⟩ k
  have kk := k _ _ F H (ResR.same e (Rep.bl.mpr rfl)) q
  rcases eq_ways rx ry h with ⟨g1, g2⟩ | h
  · exact .inl ⟨g1, by rw [g2]; exact kk⟩
  · obtain ⟨h1, h2⟩ := ba2 h
    exact .inr ⟨_, _, Dp.mono e.fh h1 rx, Dp.mono e.fh h2 ry, pln_shaped h1, pln_shaped h2, kk⟩
end
end M

/-! M5: arithmetic, order, in, items, slices by values. -/
namespace M
open PySem PySem.Spec PyProof.Rows L2 TL G

/-! ### readings by K -/
def rAddA (K : PySem.W.Frag) : R2 := fun x y H Q => rAddU x y H Q ∨ rCatA K x y H Q
theorem op_addA {X : Cx} (K : PySem.W.Frag) (hK : X.K = K) : OpR X (binaryOp .Add) (rAddA K) := by subst hK; exact OpR.or op_addU op_catA
def rMulA : R2 := fun x y H Q => rMulU x y H Q ∨ (rMulS x y H Q ∨ rRep x y H Q)
theorem op_mulA {X : Cx} : OpR X (binaryOp .Mult) rMulA := OpR.or op_mulU (OpR.or op_mulS op_rep)
def rStrC (p : List Nat → List Nat → Bool) : R2 := fun x y H Q => ∃ a b : List Nat, x = S a ∧ y = S b ∧ Q (.bl (p a b)) H
def rCmpA (p : Int → Int → Bool) (q : List Nat → List Nat → Bool) : R2 := fun x y H Q => rCmp p x y H Q ∨ rStrC q x y H Q
theorem tl_mk' (a : List Nat) : (mk a).cps.toList = a := by simp
theorem op_ltA {X : Cx} : OpR X (compareOp .Lt) (rCmpA (fun i j => decide (i < j)) fun a b => decide (a < b)) := OpR.or op_ltU (by
  intro pins s σ H x y v u Q I rx ry ⟨a, b, ex, ey, q⟩
  exact op_lt_str pins s σ H x y v u Q I rx ry ⟨_, _, ex, ey, by rw [tl_mk', tl_mk']; exact q⟩)
theorem op_leA {X : Cx} : OpR X (compareOp .LtE) (rCmpA (fun i j => decide (i ≤ j)) fun a b => !decide (b < a)) := OpR.or op_leU (by
  intro pins s σ H x y v u Q I rx ry ⟨a, b, ex, ey, q⟩
  exact op_le_str pins s σ H x y v u Q I rx ry ⟨_, _, ex, ey, by rw [tl_mk', tl_mk']; exact q⟩)
theorem op_gtA {X : Cx} : OpR X (compareOp .Gt) (rCmpA (fun i j => decide (j < i)) fun a b => decide (b < a)) := OpR.or op_gtU (by
  intro pins s σ H x y v u Q I rx ry ⟨a, b, ex, ey, q⟩
  exact op_gt_str pins s σ H x y v u Q I rx ry ⟨_, _, ex, ey, by rw [tl_mk', tl_mk']; exact q⟩)
theorem op_geA {X : Cx} : OpR X (compareOp .GtE) (rCmpA (fun i j => decide (j ≤ i)) fun a b => !decide (a < b)) := OpR.or op_geU (by
  intro pins s σ H x y v u Q I rx ry ⟨a, b, ex, ey, q⟩
  exact op_ge_str pins s σ H x y v u Q I rx ry ⟨_, _, ex, ey, by rw [tl_mk', tl_mk']; exact q⟩)
def rInA (K : PySem.W.Frag) (neg : Bool) : R2 := fun x y H Q => rInT neg x y H Q ∨ (L2.rIn K neg x y H Q ∨ (if neg = true then rNotInD K x y H Q else rInD K x y H Q))
theorem op_inA {X : Cx} (K : PySem.W.Frag) (hK : X.K = K) (hu : X.A.units + 65 < cLine) : OpR X (compareOp .In) (rInA K false) := by
  subst hK
  exact OpR.or op_inT (OpR.or op_in_seq (by
    intro pins s σ H x y v u Q I rx ry h
    exact op_inD hu pins s σ H x y v u Q I rx ry (iteF' h)))
where iteF' {A B : Prop} (h : if false = true then A else B) : B := h
theorem op_ninA {X : Cx} (K : PySem.W.Frag) (hK : X.K = K) (hu : X.A.units + 65 < cLine) : OpR X (compareOp .NotIn) (rInA K true) := by
  subst hK
  exact OpR.or op_ninT (OpR.or op_notIn_seq (by
    intro pins s σ H x y v u Q I rx ry h
    exact op_notInD hu pins s σ H x y v u Q I rx ry (by simpa using h)))

/-! ### by plain values -/
def dAdd : D → D → M D
  | .int i, .int j => ret (.int (i + j))
  | .str a, .str b => grd (a.length + b.length ≤ 1000000) (ret (.str (a ++ b)))
  | .lst a, .lst b => grd (a.length + b.length ≤ 1000000) (ret (.lst (a ++ b)))
  | .tup a, .tup b => grd (a.length + b.length ≤ 1000000) (ret (.tup (a ++ b)))
  | _, _ => stuck
def dSub : D → D → M D
  | .int i, .int j => ret (.int (i - j))
  | _, _ => stuck
def smallI (i : Int) : Prop := -(2 ^ 64) < i ∧ i < 2 ^ 64
def dMul : D → D → M D
  | .int i, .int j => grd (smallI i ∨ smallI j) (ret (.int (i * j)))
  | .str l, .int n => grd (0 ≤ n ∧ n ≤ 1000000 ∧ n * l.length ≤ 1000000) (ret (.str (rep l n.toNat)))
  | .lst l, .int n => grd (0 ≤ n ∧ n ≤ 1000000 ∧ n * l.length ≤ 1000000) (ret (.lst (List.replicate n.toNat l).flatten))
  | _, _ => stuck
def dDiv : D → D → M D
  | .int i, .int j => grd (0 < j ∧ j < 2 ^ 64) (ret (.int (i / j)))
  | _, _ => stuck
def dMod : D → D → M D
  | .int i, .int j => grd (0 < j) (ret (.int (i % j)))
  | _, _ => stuck
def dPow : D → D → M D
  | .int i, .int j => grd (0 ≤ j ∧ j ≤ 1000 ∧ smallI i) (ret (.int (i ^ j.toNat)))
  | _, _ => stuck
def dNeg : D → M D
  | .int i => ret (.int (-i))
  | _ => stuck
def dCmp (p : Int → Int → Bool) (q : List Nat → List Nat → Bool) : D → D → M D
  | .int i, .int j => ret (.bl (p i j))
  | .str a, .str b => ret (.bl (q a b))
  | _, _ => stuck
abbrev dLt := dCmp (fun i j => decide (i < j)) fun a b => decide (a < b)
abbrev dLe := dCmp (fun i j => decide (i ≤ j)) fun a b => !decide (b < a)
abbrev dGt := dCmp (fun i j => decide (j < i)) fun a b => decide (b < a)
abbrev dGe := dCmp (fun i j => decide (j ≤ i)) fun a b => !decide (a < b)
def isNonD : D → Bool
  | .non => true
  | _ => false
def isBlD (b : Bool) : D → Bool
  | .bl c => c == b
  | _ => false
def isOk : D → Bool
  | .ty _ => false
  | _ => true
def dIs : D → D → M D
  | x, .non => ret (.bl (isNonD x))
  | x, .bl b => grd (isOk x = true) (ret (.bl (isBlD b x)))
  | _, _ => stuck
def dIsn : D → D → M D
  | x, .non => ret (.bl (!isNonD x))
  | _, _ => stuck
/-- in: a sign in a text; data in a list; scalars in a tuple -/
def dInB (neg : Bool) : D → D → M D
  | .str [c], .str l => ret (.bl (if neg then !decide (c ∈ l) else decide (c ∈ l)))
  | x, .lst ds => grd ((scal x && ds.all scal || pln 60 x && pln 60 (.lst ds)) = true) (ret (.bl (if neg then !ds.any (fun z => dEqB z x) else ds.any fun z => dEqB z x)))
  | x, .tup ds => grd ((scal x && ds.all scal) = true) (ret (.bl (if neg then !ds.any (fun z => dEqB z x) else ds.any fun z => dEqB z x)))
  | _, _ => stuck
/-- an item -/
def ofO : Option D → M D
  | some d => ret d
  | none => stuck
def dIx : D → D → M D
  | .lst ds, .int i => ofO (atI ds i)
  | .tup ds, .int i => ofO (atI ds i)
  | .str l, .int i => grd (l.length ≤ 1000000) (ofO ((atI l i).map fun c => .str [c]))
  | _, _ => stuck
def cutD {α : Type} (xs : List α) (lo hi : Option Int) : List α := (xs.drop (HT.sIx xs.length 0 lo)).take (HT.sIx xs.length xs.length hi - HT.sIx xs.length 0 lo)
def dSl : D → Option Int → Option Int → M D
  | .str l, lo, hi => grd (l.length ≤ 1000000) (ret (.str (cutD l lo hi)))
  | .lst l, lo, hi => ret (.lst (cutD l lo hi))
  | _, _, _ => stuck

section
variable {K : PySem.W.Frag} {W : Wd}
theorem intR {F : Hp} {i : Int} : Rep K W F (.int i) (.int i) := Rep.int.mpr rfl
theorem blR {F : Hp} {i : Bool} : Rep K W F (.bl i) (.bl i) := Rep.bl.mpr rfl
theorem strR {F : Hp} {l : List Nat} : Rep K W F (.str l) (S l) := Rep.str.mpr rfl
theorem os_add : OpS K W false (rAddA K) dAdd := by
  intro F H x y dx dy Qd Ed Q e rx ry h k
  unfold dAdd at h
  split at h
  · cases Rep.int.mp rx
    cases Rep.int.mp ry
    exact .inl (.inl ⟨_, _, rfl, rfl, k _ _ F H (ResR.same e intR) h⟩)
  · obtain ⟨hl, h⟩ := h
    cases Rep.str.mp rx
    cases Rep.str.mp ry
    exact .inl (go_adds hl (k _ _ F H (ResR.same e strR) h))
  · obtain ⟨hl, h⟩ := h
    obtain ⟨a, vs, rfl, ha, ra⟩ := Rep.lst.mp rx
    obtain ⟨b, us, rfl, hb, rb⟩ := Rep.lst.mp ry
    refine .inl (.inr (.inr ⟨a, b, vs, us, rfl, rfl, e.fh _ _ ha, e.fh _ _ hb, by rw [ra.length, rb.length]; exact sz6 hl, fun p hp => ?_⟩))
    exact k _ _ _ _ (new_lstF e hp (ra.app rb)) h
  · rename_i as bs
    obtain ⟨hl, h⟩ := h
    obtain ⟨a, vs, rfl, ha, ra⟩ := Rep.tup.mp rx
    obtain ⟨b, us, rfl, hb, rb⟩ := Rep.tup.mp ry
    refine .inr ⟨a, b, vs, us, rfl, rfl, st_same e.fh ha, st_same e.fh hb, by rw [ra.length, rb.length]; exact sz6 hl, fun e1 => ?_, fun _ e1 => ?_, fun _ _ p hp => ?_⟩
    · subst e1
      have : as = [] := List.length_eq_zero_iff.mp ra.length.symm
      subst this
      exact k _ _ F H (ResR.same e ry) h
    · subst e1
      have : bs = [] := List.length_eq_zero_iff.mp rb.length.symm
      subst this
      rw [List.append_nil] at h
      exact k _ _ F H (ResR.same e rx) h
    · exact k _ _ _ _ (new_tup e hp (ra.app rb)) h
  · exact h.elim
/-- list + list, a list of our own -/
def dAddL : D → D → M D
  | .lst a, .lst b => grd (a.length + b.length ≤ 1000000) (ret (.lst (a ++ b)))
  | _, _ => stuck
theorem os_addL : OpS K W true (rAddA K) dAddL := by
  intro F H x y dx dy Qd Ed Q e rx ry h k
  unfold dAddL at h
  split at h
  · obtain ⟨hl, h⟩ := h
    obtain ⟨a, vs, rfl, ha, ra⟩ := Rep.lst.mp rx
    obtain ⟨b, us, rfl, hb, rb⟩ := Rep.lst.mp ry
    refine .inl (.inr (.inr ⟨a, b, vs, us, rfl, rfl, e.fh _ _ ha, e.fh _ _ hb, by rw [ra.length, rb.length]; exact sz6 hl, fun p hp => ?_⟩))
    exact k _ _ _ _ (new_lst e hp (ra.app rb)) h
  · exact h.elim
theorem os_sub : OpS K W false rSubU dSub := by
  intro F H x y dx dy Qd Ed Q e rx ry h k
  unfold dSub at h
  split at h
  · cases Rep.int.mp rx
    cases Rep.int.mp ry
    exact ⟨_, _, rfl, rfl, k _ _ F H (ResR.same e intR) h⟩
  · exact h.elim
theorem repV_len {α : Type} (l : List α) : ∀ n : Nat, (List.replicate n l).flatten.length = n * l.length
  | 0 => by simp
  | n + 1 => by rw [List.replicate_succ, List.flatten_cons, List.length_append, repV_len l n, Nat.add_mul, Nat.one_mul, Nat.add_comm]
theorem Reps.rep {F : Hp} {ds : List D} {vs : List V} (r : Reps K W F ds vs) : ∀ n : Nat, Reps K W F (List.replicate n ds).flatten (List.replicate n vs).flatten
  | 0 => Reps.nil
  | n + 1 => by
    rw [List.replicate_succ, List.flatten_cons, List.replicate_succ, List.flatten_cons]
    exact r.app (Reps.rep r n)
theorem os_mul : OpS K W false rMulA dMul := by
  intro F H x y dx dy Qd Ed Q e rx ry h k
  unfold dMul at h
  split at h
  · obtain ⟨hl, h⟩ := h
    cases Rep.int.mp rx
    cases Rep.int.mp ry
    exact .inl (go_mul (.inl hl) (k _ _ F H (ResR.same e intR) h))
  · obtain ⟨⟨h0, h1, h2⟩, h⟩ := h
    cases Rep.str.mp rx
    cases Rep.int.mp ry
    exact .inr (.inl (go_muls h0 h1 h2 (k _ _ F H (ResR.same e strR) h)))
  · rename_i ds n
    obtain ⟨⟨h0, h1, h2⟩, h⟩ := h
    obtain ⟨a, vs, rfl, ha, ra⟩ := Rep.lst.mp rx
    cases Rep.int.mp ry
    refine .inr (.inr ⟨a, n, vs, rfl, rfl, e.fh _ _ ha, by omega, by omega, ?_, fun p hp => k _ _ _ _ (new_lstF e hp (ra.rep _)) h⟩)
    rw [ra.length]
    have e1 : ((ds.length * n.toNat : Nat) : Int) = n * ds.length := by rw [Int.natCast_mul, Int.toNat_of_nonneg h0, Int.mul_comm]
    exact sz6 (by omega)
  · exact h.elim
theorem os_div : OpS K W false rDivU dDiv := by
  intro F H x y dx dy Qd Ed Q e rx ry h k
  unfold dDiv at h
  split at h
  · obtain ⟨⟨h0, h1⟩, h⟩ := h
    cases Rep.int.mp rx
    cases Rep.int.mp ry
    refine go_div (wide_div h0 (b := 64) ?_ (by decide) (by decide)) (k _ _ F H (ResR.same e intR) h)
    omega
  · exact h.elim
theorem os_mod : OpS K W false rModU dMod := by
  intro F H x y dx dy Qd Ed Q e rx ry h k
  unfold dMod at h
  split at h
  · obtain ⟨h0, h⟩ := h
    cases Rep.int.mp rx
    cases Rep.int.mp ry
    exact go_mod h0 (k _ _ F H (ResR.same e intR) h)
  · exact h.elim
theorem os_pow : OpS K W false rPowU dPow := by
  intro F H x y dx dy Qd Ed Q e rx ry h k
  unfold dPow at h
  split at h
  · rename_i i j
    obtain ⟨⟨h0, h1, h2⟩, h⟩ := h
    cases Rep.int.mp rx
    cases Rep.int.mp ry
    refine go_pow h0 ?_ (k _ _ F H (ResR.same e intR) h)
    have hb := intBits_le_64 h2.1 h2.2
    have : (Builtin.Int.intBits i : Int) * j ≤ 64 * 1000 := Int.mul_le_mul (by omega) h1 h0 (by omega)
    omega
  · exact h.elim
theorem cs_neg : CallS K W false (fun xs H Q => ∃ x, xs = [x] ∧ rU (fun i => V.int (-i)) x H Q) (fun ds => match ds with | [d] => dNeg d | _ => stuck) := by
  intro F H xs ds Qd Ed Q e r h k
  split at h
  · rename_i d
    obtain ⟨v, vs, rfl, r1, r2⟩ := r.inv
    rw [Reps] at r2
    subst r2
    unfold dNeg at h
    split at h
    · cases Rep.int.mp r1
      exact ⟨_, rfl, _, rfl, k _ _ F H (ResR.same e intR) h⟩
    · exact h.elim
  · exact h.elim
theorem os_cmp {p : Int → Int → Bool} {q : List Nat → List Nat → Bool} : OpS K W false (rCmpA p q) (dCmp p q) := by
  intro F H x y dx dy Qd Ed Q e rx ry h k
  unfold dCmp at h
  split at h
  · cases Rep.int.mp rx
    cases Rep.int.mp ry
    exact .inl ⟨_, _, rfl, rfl, k _ _ F H (ResR.same e blR) h⟩
  · cases Rep.str.mp rx
    cases Rep.str.mp ry
    exact .inr ⟨_, _, rfl, rfl, k _ _ F H (ResR.same e blR) h⟩
  · exact h.elim
theorem non_iff {F : Hp} {d : D} {v : V} (r : Rep K W F d v) : decide (v = .non) = isNonD d := by
  cases d with
  | non => cases Rep.non.mp r; rfl
  | bl b => cases Rep.bl.mp r; rfl
  | int b => cases Rep.int.mp r; rfl
  | str b => cases Rep.str.mp r; rfl
  | lst ds => obtain ⟨a, vs, rfl, _⟩ := Rep.lst.mp r; rfl
  | tup ds => obtain ⟨a, vs, rfl, _⟩ := Rep.tup.mp r; rfl
  | deal => obtain ⟨a, _, rfl⟩ := Rep.deal.mp r; rfl
  | ty n => cases Rep.ty.mp r; rfl
  | obj c ns ds => rw [Rep] at r; obtain ⟨a, dx, vs, rfl, _⟩ := r; rfl
  | cls c => rw [Rep] at r; subst r; rfl
  | exc0 c => rw [Rep] at r; obtain ⟨a, _, rfl⟩ := r; rfl
  | exc1 c f d => rw [Rep] at r; obtain ⟨a, x, u, _, rfl, _⟩ := r; rfl
theorem bl_iff {F : Hp} {d : D} {v : V} {b : Bool} (r : Rep K W F d v) : decide (v = .bl b) = isBlD b d := by
  cases d with
  | non => cases Rep.non.mp r; rfl
  | bl c => cases Rep.bl.mp r; cases b <;> cases c <;> rfl
  | int b => cases Rep.int.mp r; rfl
  | str b => cases Rep.str.mp r; rfl
  | lst ds => obtain ⟨a, vs, rfl, _⟩ := Rep.lst.mp r; rfl
  | tup ds => obtain ⟨a, vs, rfl, _⟩ := Rep.tup.mp r; rfl
  | deal => obtain ⟨a, _, rfl⟩ := Rep.deal.mp r; rfl
  | ty n => cases Rep.ty.mp r; rfl
  | obj c ns ds => rw [Rep] at r; obtain ⟨a, dx, vs, rfl, _⟩ := r; rfl
  | cls c => rw [Rep] at r; subst r; rfl
  | exc0 c => rw [Rep] at r; obtain ⟨a, _, rfl⟩ := r; rfl
  | exc1 c f d => rw [Rep] at r; obtain ⟨a, x, u, _, rfl, _⟩ := r; rfl
theorem isw_bl {F : Hp} {d : D} {v : V} {b : Bool} (r : Rep K W F d v) (h : isOk d = true) : isW v (.bl b) := by
  cases d with
  | non => cases Rep.non.mp r; trivial
  | bl c => cases Rep.bl.mp r; trivial
  | int b => cases Rep.int.mp r; trivial
  | str b => cases Rep.str.mp r; trivial
  | lst ds => obtain ⟨a, vs, rfl, _⟩ := Rep.lst.mp r; trivial
  | tup ds => obtain ⟨a, vs, rfl, _⟩ := Rep.tup.mp r; trivial
  | deal => obtain ⟨a, _, rfl⟩ := Rep.deal.mp r; trivial
  | ty n => cases h
  | obj c ns ds => rw [Rep] at r; obtain ⟨a, dx, vs, rfl, _⟩ := r; trivial
  | cls c => rw [Rep] at r; subst r; trivial
  | exc0 c => rw [Rep] at r; obtain ⟨a, _, rfl⟩ := r; trivial
  | exc1 c f d => rw [Rep] at r; obtain ⟨a, x, u, _, rfl, _⟩ := r; trivial
theorem os_is : OpS K W false rIsU dIs := by
  intro F H x y dx dy Qd Ed Q e rx ry h k
  unfold dIs at h
  split at h
  · cases Rep.non.mp ry
    exact ⟨by cases x <;> trivial, by rw [non_iff rx]; exact k _ _ F H (ResR.same e blR) h⟩
  · obtain ⟨ho, h⟩ := h
    cases Rep.bl.mp ry
    exact ⟨isw_bl rx ho, by rw [bl_iff rx]; exact k _ _ F H (ResR.same e blR) h⟩
  · exact h.elim
theorem os_isn : OpS K W false rIsNU dIsn := by
  intro F H x y dx dy Qd Ed Q e rx ry h k
  unfold dIsn at h
  split at h
  · cases Rep.non.mp ry
    exact ⟨rfl, by rw [non_iff rx]; exact k _ _ F H (ResR.same e blR) h⟩
  · exact h.elim
theorem flat_of {F : Hp} {d : D} {v : V} (r : Rep K W F d v) (h : scal d = true) : flatV v = true := by
  cases d with
  | non => cases Rep.non.mp r; rfl
  | bl c => cases Rep.bl.mp r; rfl
  | int b => cases Rep.int.mp r; rfl
  | str b => cases Rep.str.mp r; rfl
  | _ => cases h
theorem flats_of {F : Hp} : ∀ {ds : List D} {vs : List V}, Reps K W F ds vs → ds.all scal = true → vs.all flatV = true
  | [], vs, r, h => by rw [Reps] at r; subst r; rfl
  | d :: ds, vs, r, h => by
    obtain ⟨v, r, rfl, r1, r2⟩ := r.inv
    rw [List.all_cons] at h ⊢
    obtain ⟨h1, h2⟩ := ba2 h
    rw [flat_of r1 h1, flats_of r2 h2]
    rfl
theorem eqV_of {F : Hp} {dx dy : D} {x y : V} (rx : Rep K W F dx x) (ry : Rep K W F dy y) (h1 : scal dx = true) (h2 : scal dy = true) : eqV x y = dEqB dx dy := by
  cases dx with
  | non =>
    cases Rep.non.mp rx
    cases dy with
    | non => cases Rep.non.mp ry; rfl
    | bl b => cases Rep.bl.mp ry; rfl
    | int b => cases Rep.int.mp ry; rfl
    | str b => cases Rep.str.mp ry; rfl
    | _ => cases h2
  | bl a =>
    cases Rep.bl.mp rx
    cases dy with
    | non => cases Rep.non.mp ry; rfl
    | bl b => cases Rep.bl.mp ry; rw [dEqB_bl]; rfl
    | int b => cases Rep.int.mp ry; unfold dEqB; rw [toPy, toPy, PyData.eqv]; rfl
    | str b => cases Rep.str.mp ry; rfl
    | _ => cases h2
  | int a =>
    cases Rep.int.mp rx
    cases dy with
    | non => cases Rep.non.mp ry; rfl
    | bl b => cases Rep.bl.mp ry; unfold dEqB; rw [toPy, toPy, PyData.eqv]; rfl
    | int b => cases Rep.int.mp ry; unfold dEqB; rw [toPy, toPy, PyData.eqv]; rfl
    | str b => cases Rep.str.mp ry; rfl
    | _ => cases h2
  | str a =>
    cases Rep.str.mp rx
    cases dy with
    | non => cases Rep.non.mp ry; rfl
    | bl b => cases Rep.bl.mp ry; rfl
    | int b => cases Rep.int.mp ry; rfl
    | str b => cases Rep.str.mp ry; unfold dEqB; rw [toPy, toPy, PyData.eqv]; rfl
    | _ => cases h2
  | _ => cases h1
theorem any_of {F : Hp} {x : V} {dx : D} (rx : Rep K W F dx x) (hx : scal dx = true) : ∀ {ds : List D} {vs : List V}, Reps K W F ds vs → ds.all scal = true → (vs.any fun y => eqV y x) = ds.any fun z => dEqB z dx
  | [], vs, r, h => by rw [Reps] at r; subst r; rfl
  | d :: ds, vs, r, h => by
    obtain ⟨v, r, rfl, r1, r2⟩ := r.inv
    rw [List.all_cons] at h
    obtain ⟨h1, h2⟩ := ba2 h
    rw [List.any_cons, List.any_cons, eqV_of r1 rx h1 hx, any_of rx hx r2 h2]
theorem anyPy (dx : D) : ∀ ds : List D, ((toPys ds).any fun z => PyData.eqv z (toPy dx)) = ds.any fun z => dEqB z dx
  | [] => by rw [toPys]; rfl
  | d :: ds => by rw [toPys, List.any_cons, List.any_cons, anyPy dx ds]; rfl
theorem os_in (neg : Bool) : OpS K W false (rInA K neg) (dInB neg) := by
  intro F H x y dx dy Qd Ed Q e rx ry h k
  unfold dInB at h
  split at h
  · cases Rep.str.mp rx
    cases Rep.str.mp ry
    exact .inl ⟨_, _, rfl, rfl, k _ _ F H (ResR.same e blR) h⟩
  · rename_i ds
    obtain ⟨g, h⟩ := h
    have kk := k _ _ F H (ResR.same e blR) h
    obtain ⟨a, vs, rfl, ha, ra⟩ := Rep.lst.mp ry
    rcases Bool.or_eq_true_iff.mp g with g | g
    · obtain ⟨g1, g2⟩ := ba2 g
      refine .inr (.inl ⟨a, vs, rfl, .inl (sq_of (e.fh _ _ ha)), flat_of rx g1, flats_of ra g2, ?_⟩)
      show Q (.bl (if neg = true then !(vs.any fun y => eqV y x) else vs.any fun y => eqV y x)) H
      rw [any_of rx g1 ra g2]
      exact kk
    · obtain ⟨g1, g2⟩ := ba2 g
      have p1 := Dp.mono e.fh g1 rx
      have p2 := Dp.mono e.fh g2 ry
      have s2 := pln_shaped g2
      rw [toPy] at p2 s2
      cases neg with
      | true => exact .inr (.inr ⟨_, _, p1, p2, pln_shaped g1, s2, by rw [anyPy]; exact kk⟩)
      | false => exact .inr (.inr ⟨_, _, p1, p2, pln_shaped g1, s2, by rw [anyPy]; exact kk⟩)
  · rename_i ds
    obtain ⟨g, h⟩ := h
    have kk := k _ _ F H (ResR.same e blR) h
    obtain ⟨a, vs, rfl, ha, ra⟩ := Rep.tup.mp ry
    obtain ⟨g1, g2⟩ := ba2 g
    refine .inr (.inl ⟨a, vs, rfl, .inr (st_same e.fh ha), flat_of rx g1, flats_of ra g2, ?_⟩)
    show Q (.bl (if neg = true then !(vs.any fun y => eqV y x) else vs.any fun y => eqV y x)) H
    rw [any_of rx g1 ra g2]
    exact kk
  · exact h.elim
theorem atI_rep {F : Hp} {ds : List D} {vs : List V} {i : Int} {d : D} (r : Reps K W F ds vs) (e : atI ds i = some d) : ∃ v, atI vs i = some v ∧ Rep K W F d v := by
  unfold atI at e ⊢
  rw [r.length]
  cases q : ixN ds.length i with
  | none => rw [q] at e; cases e
  | some j =>
    rw [q] at e
    exact r.at e
theorem os_ix : OpS K W false (rIxU K) dIx := by
  intro F H x y dx dy Qd Ed Q e rx ry h k
  unfold dIx at h
  split at h
  · rename_i ds i
    obtain ⟨a, vs, rfl, ha, ra⟩ := Rep.lst.mp rx
    cases Rep.int.mp ry
    cases ed : atI ds i with
    | none => rw [ed] at h; exact h.elim
    | some d =>
      rw [ed] at h
      obtain ⟨v, ev, rv⟩ := atI_rep ra ed
      exact go_ixl (sq_of (e.fh _ _ ha)) ev (k _ _ F H (ResR.same e rv) h)
  · rename_i ds i
    obtain ⟨a, vs, rfl, ha, ra⟩ := Rep.tup.mp rx
    cases Rep.int.mp ry
    cases ed : atI ds i with
    | none => rw [ed] at h; exact h.elim
    | some d =>
      rw [ed] at h
      obtain ⟨v, ev, rv⟩ := atI_rep ra ed
      exact go_ixt (st_same e.fh ha) ev (k _ _ F H (ResR.same e rv) h)
  · rename_i l i
    obtain ⟨hl, h⟩ := h
    cases Rep.str.mp rx
    cases Rep.int.mp ry
    cases ec : atI l i with
    | none => rw [ec] at h; exact h.elim
    | some c =>
      rw [ec] at h
      exact go_ixs hl ec (k _ _ F H (ResR.same e strR) h)
  · exact h.elim
end
end M

/-! M6: slices, built-ins, methods, calls of own defs. -/
namespace M
open PySem PySem.Spec PyProof.Rows L2 TL G

section
variable {K : PySem.W.Frag} {W : Wd} {E : L2.St → XK} {o o1 o2 o3 : Ow} {te : TE} {tl th : TO} {tA : TA} {a : Env → M D} {aa : Env → M (List D)} {fr : Bool}
/-! ### slices -/
variable (K W E) in
def SP (o o' : Ow) (t : TO) (m : Env → M (Option Int)) : Prop := ∀ ⦃F0 H0 : Hp⦄ ⦃ρ : Env⦄ ⦃σ : L2.St⦄ ⦃F H : Hp⦄ ⦃Qd : Option Int → Prop⦄ ⦃Ed : Er → Prop⦄ ⦃Q : Option Int → Hp → Prop⦄, Sr K W F0 H0 o ρ σ F H → m ρ Qd Ed →
  (∀ b F' H', Sr K W F0 H0 o' ρ σ F' H' → Stp W F H F' H' → Qd b → Q b H') →
  (∀ er o1 F' H' cls dd, Sr K W F0 H0 o1 ρ σ F' H' → XR K W F' H' er cls dd → Ed er → E σ cls dd H') → t σ H Q
def pNo : Env → M (Option Int) := fun _ => ret none
def dI : D → M (Option Int)
  | .int i => ret (some i)
  | _ => stuck
def pEx (a : Env → M D) : Env → M (Option Int) := fun ρ => bnd (a ρ) dI
theorem sp_no : SP K W E o o tNoPart pNo := by
  intro F0 H0 ρ σ F H Qd Ed Q s hm k x
  exact k none F H s Stp.refl hm
theorem sp_ex (ha : SE K W E o false o1 te a) : SP K W E o o1 (tPart te) (pEx a) := by
  intro F0 H0 ρ σ F H Qd Ed Q s hm k x
  refine ha s hm (fun v d F1 H1 s1 sm1 q1 => ?_) x
  cases d with
  | int i => exact ⟨i, Rep.int.mp s1.head, k (some i) F1 H1 s1.tail sm1 q1⟩
  | _ => exact q1.elim
def SlS (K : PySem.W.Frag) (W : Wd) (fr : Bool) (r : V → Option Int → Option Int → Hp → VK → Prop) (f : D → Option Int → Option Int → M D) : Prop := ∀ ⦃F H : Hp⦄ ⦃x : V⦄ ⦃dx : D⦄ ⦃l u : Option Int⦄ ⦃Qd : D → Prop⦄ ⦃Ed : Er → Prop⦄ ⦃Q : VK⦄, Ext K W F H F H → Rep K W F dx x → f dx l u Qd Ed →
  (∀ v d F' H', ResR K W fr F H F' H' v d → Qd d → Q v H') → r x l u H Q
def eSl (f : D → Option Int → Option Int → M D) (a : Env → M D) (l u : Env → M (Option Int)) : Env → M D := fun ρ => bnd (a ρ) fun d => bnd (l ρ) fun x => bnd (u ρ) fun y => f d x y
theorem se_sl {r : V → Option Int → Option Int → Hp → VK → Prop} {f : D → Option Int → Option Int → M D} {pl ph : Env → M (Option Int)} (ha : SE K W E o false o1 te a) (hl : SP K W E o1 o2 tl pl) (hh : SP K W E o2 o3 th ph) (hr : SlS K W fr r f) : SE K W E o fr o3 (tSl r te tl th) (eSl f a pl ph) := by
  intro F0 H0 ρ σ F H Qd Ed Q s hm k x
  refine ha s hm (fun v d F1 H1 s1 sm1 q1 => ?_) x
  refine hl s1.tail q1 (fun i F2 H2 s2 sm2 q2 => ?_) x
  refine hh s2 q2 (fun j F3 H3 s3 sm3 q3 => ?_) x
  exact hr s3.ext.refl (Rep.mono (sm2.trans sm3).ff d s1.head) q3 fun v3 d3 F4 H4 r3 q4 => k v3 d3 F4 H4 (s3.val r3) ((sm1.trans (sm2.trans sm3)).trans r3.1.stp) q4
theorem cutD_eq (l : List Nat) (lo hi : Option Int) : cutD l lo hi = cutL l lo hi := rfl
theorem Reps.cut {F : Hp} {ds : List D} {vs : List V} (r : Reps K W F ds vs) (lo hi : Option Int) : Reps K W F (cutD ds lo hi) (cutV vs lo hi) := by
  unfold cutD cutV
  rw [r.length]
  exact (r.drop _).take _
theorem ss_sl : SlS K W false (rSlU K) dSl := by
  intro F H x dx lo hi Qd Ed Q e rx h k
  unfold dSl at h
  split at h
  · obtain ⟨hl, h⟩ := h
    cases Rep.str.mp rx
    exact go_sls hl (k _ _ F H (ResR.same e strR) h)
  · obtain ⟨a, vs, rfl, ha, ra⟩ := Rep.lst.mp rx
    exact .inr ⟨a, vs, rfl, sq_of (e.fh _ _ ha), fun p hp => k _ _ _ _ (new_lstF e hp (ra.cut _ _)) h⟩
  · exact h.elim
def dSlL : D → Option Int → Option Int → M D
  | .lst l, lo, hi => ret (.lst (cutD l lo hi))
  | _, _, _ => stuck
theorem ss_slL : SlS K W true (rSlU K) dSlL := by
  intro F H x dx lo hi Qd Ed Q e rx h k
  unfold dSlL at h
  split at h
  · obtain ⟨a, vs, rfl, ha, ra⟩ := Rep.lst.mp rx
    exact .inr ⟨a, vs, rfl, sq_of (e.fh _ _ ha), fun p hp => k _ _ _ _ (new_lst e hp (ra.cut _ _)) h⟩
  · exact h.elim

/-! ### methods of built-in types -/
def MtS (K : PySem.W.Frag) (W : Wd) (fr : Bool) (r : V → List V → Hp → VK → Prop) (f : D → List D → M D) : Prop := ∀ ⦃F H : Hp⦄ ⦃x : V⦄ ⦃dx : D⦄ ⦃xs : List V⦄ ⦃ds : List D⦄ ⦃Qd : D → Prop⦄ ⦃Ed : Er → Prop⦄ ⦃Q : VK⦄, Ext K W F H F H → Rep K W F dx x → Reps K W F ds xs → f dx ds Qd Ed →
  (∀ v d F' H', ResR K W fr F H F' H' v d → Qd d → Q v H') → r x xs H Q
def isStrD : D → Bool
  | .str _ => true
  | _ => false
def isLstD : D → Bool
  | .lst _ => true
  | _ => false
def eMt (t : D → Bool) (f : D → List D → M D) (a : Env → M D) (aa : Env → M (List D)) : Env → M D := fun ρ => bnd (a ρ) fun d => grd (t d = true) (bnd (aa ρ) fun ds => f d ds)
theorem ty_str {F : Hp} {H : Hp} {d : D} {v : V} (r : Rep K W F d v) (h : isStrD d = true) : tyV K "str" v H := by
  cases d with
  | str l => cases Rep.str.mp r; exact rfl
  | _ => cases h
theorem ty_lst {F : Hp} {H : Hp} {d : D} {v : V} (s : Same F H) (r : Rep K W F d v) (h : isLstD d = true) : tyV K "list" v H := by
  cases d with
  | lst l =>
    obtain ⟨a, vs, rfl, ha, ra⟩ := Rep.lst.mp r
    exact .inl ⟨rfl, _, sq_of (s _ _ ha)⟩
  | _ => cases h
theorem se_mtS {r : V → List V → Hp → VK → Prop} {f : D → List D → M D} (ha : SE K W E o false o1 te a) (hb : SA K W E o1 o2 tA aa) (hr : MtS K W fr r f) : SE K W E o fr o2 (tBM K "str" r te tA) (eMt isStrD f a aa) := by
  intro F0 H0 ρ σ F H Qd Ed Q s hm k x
  refine ha s hm (fun v d F1 H1 s1 sm1 q1 => ?_) x
  obtain ⟨ht, q1⟩ := q1
  refine ⟨ty_str s1.head ht, hb s1.tail q1 (fun vs ds F2 H2 s2 r2 sm2 q2 => ?_) x⟩
  exact hr s2.ext.refl (Rep.mono sm2.ff d s1.head) r2 q2 fun v3 d3 F3 H3 r3 q3 => k v3 d3 F3 H3 (s2.val r3) ((sm1.trans sm2).trans r3.1.stp) q3
theorem se_mtL {r : V → List V → Hp → VK → Prop} {f : D → List D → M D} (ha : SE K W E o false o1 te a) (hb : SA K W E o1 o2 tA aa) (hr : MtS K W fr r f) : SE K W E o fr o2 (tBM K "list" r te tA) (eMt isLstD f a aa) := by
  intro F0 H0 ρ σ F H Qd Ed Q s hm k x
  refine ha s hm (fun v d F1 H1 s1 sm1 q1 => ?_) x
  obtain ⟨ht, q1⟩ := q1
  refine ⟨ty_lst s1.ext.fh s1.head ht, hb s1.tail q1 (fun vs ds F2 H2 s2 r2 sm2 q2 => ?_) x⟩
  exact hr s2.ext.refl (Rep.mono sm2.ff d s1.head) r2 q2 fun v3 d3 F3 H3 r3 q3 => k v3 d3 F3 H3 (s2.val r3) ((sm1.trans sm2).trans r3.1.stp) q3
theorem se_mtS0 {r : V → List V → Hp → VK → Prop} {f : D → List D → M D} (ha : SE K W E o false o1 te a) (hr : MtS K W fr r f) : SE K W E o fr o1 (tBM0 K "str" r te) (eMt isStrD f a aNil) := by
  intro F0 H0 ρ σ F H Qd Ed Q s hm k x
  refine ha s hm (fun v d F1 H1 s1 sm1 q1 => ?_) x
  obtain ⟨ht, q1⟩ := q1
  exact ⟨ty_str s1.head ht, hr s1.ext.refl s1.head Reps.nil q1 fun v3 d3 F3 H3 r3 q3 => k v3 d3 F3 H3 (s1.tail.val r3) (sm1.trans r3.1.stp) q3⟩
theorem reps1 {F : Hp} {d : D} {xs : List V} (r : Reps K W F [d] xs) : ∃ v, xs = [v] ∧ Rep K W F d v := by
  obtain ⟨v, t, rfl, r1, r2⟩ := r.inv
  rw [Reps] at r2
  subst r2
  exact ⟨v, rfl, r1⟩
theorem reps2 {F : Hp} {d e : D} {xs : List V} (r : Reps K W F [d, e] xs) : ∃ v u, xs = [v, u] ∧ Rep K W F d v ∧ Rep K W F e u := by
  obtain ⟨v, t, rfl, r1, r2⟩ := r.inv
  obtain ⟨u, rfl, r3⟩ := reps1 r2
  exact ⟨v, u, rfl, r1, r3⟩
theorem reps0 {F : Hp} {xs : List V} (r : Reps K W F [] xs) : xs = [] := by rw [Reps] at r; exact r
/-- text methods -/
def dCntS : D → List D → M D
  | .str l, [.str [c]] => ret (.int (l.count c : Nat))
  | _, _ => stuck
theorem ms_cntS : MtS K W false rCntS dCntS := by
  intro F H x dx xs ds Qd Ed Q e rx rxs h k
  unfold dCntS at h
  split at h
  · cases Rep.str.mp rx
    obtain ⟨v, rfl, r1⟩ := reps1 rxs
    cases Rep.str.mp r1
    exact ⟨_, _, rfl, rfl, k _ _ F H (ResR.same e intR) h⟩
  · exact h.elim
def dEnds : D → List D → M D
  | .str l, [.str [c]] => ret (.bl (decide (l.getLast? = some c)))
  | _, _ => stuck
theorem ms_ends : MtS K W false rEndS dEnds := by
  intro F H x dx xs ds Qd Ed Q e rx rxs h k
  unfold dEnds at h
  split at h
  · cases Rep.str.mp rx
    obtain ⟨v, rfl, r1⟩ := reps1 rxs
    cases Rep.str.mp r1
    exact ⟨_, _, rfl, rfl, k _ _ F H (ResR.same e blR) h⟩
  · exact h.elim
/-- the first c: what is ahead of it, behind it -/
def cutAt (c : Nat) (l : List Nat) : Option (List Nat × List Nat) := if c ∈ l then some (l.takeWhile (fun x => decide (x ≠ c)), (l.dropWhile (fun x => decide (x ≠ c))).drop 1) else none
theorem cutAt_some {c : Nat} {p r : List Nat} (h : c ∉ p) : cutAt c (p ++ c :: r) = some (p, r) := by
  unfold cutAt
  rw [if_pos (by simp)]
  induction p with
  | nil => simp
  | cons a p ih =>
    have ha : a ≠ c := fun z => h (by rw [z]; exact List.mem_cons_self)
    have hp : c ∉ p := fun z => h (List.mem_cons_of_mem _ z)
    have i := Option.some.inj (ih hp)
    rw [List.cons_append, List.takeWhile_cons, if_pos (decide_eq_true ha), List.dropWhile_cons, if_pos (decide_eq_true ha)]
    rw [(Prod.mk.inj i).1, (Prod.mk.inj i).2]
theorem cutAt_none {c : Nat} {p : List Nat} (h : c ∉ p) : cutAt c p = none := by unfold cutAt; rw [if_neg h]
def dPartM (l : List Nat) (c : Nat) : Option (List Nat × List Nat) → M D
  | some (p, r) => ret (.tup [.str p, .str [c], .str r])
  | none => ret (.tup [.str l, .str [], .str []])
def dPart : D → List D → M D
  | .str l, [.str [c]] => grd (l.length ≤ 1000000) (dPartM l c (cutAt c l))
  | _, _ => stuck
theorem ms_part : MtS K W false rPart dPart := by
  intro F H x dx xs ds Qd Ed Q e rx rxs h k
  unfold dPart at h
  split at h
  · obtain ⟨hl, h⟩ := h
    cases Rep.str.mp rx
    obtain ⟨v, rfl, r1⟩ := reps1 rxs
    cases Rep.str.mp r1
    refine ⟨_, _, rfl, rfl, hl, fun p r ep hp b hb => ?_, fun hn b hb => ?_⟩
    · subst ep
      rw [cutAt_some hp] at h
      exact k _ _ _ _ (new_tup e hb (Reps.cons strR (Reps.cons strR (Reps.cons strR Reps.nil)))) h
    · rw [cutAt_none hn] at h
      exact k _ _ _ _ (new_tup e hb (Reps.cons strR (Reps.cons strR (Reps.cons strR Reps.nil)))) h
  · exact h.elim
def dIdxM : Option (List Nat × List Nat) → M D
  | some (p, _) => ret (.int p.length)
  | none => stuck
def dIdxS : D → List D → M D
  | .str l, [.str [c]] => dIdxM (cutAt c l)
  | _, _ => stuck
theorem ms_idxS : MtS K W false rIdxS dIdxS := by
  intro F H x dx xs ds Qd Ed Q e rx rxs h k
  unfold dIdxS at h
  split at h
  · rename_i l c
    cases Rep.str.mp rx
    obtain ⟨v, rfl, r1⟩ := reps1 rxs
    cases Rep.str.mp r1
    by_cases hc : c ∈ l
    · obtain ⟨p, r, rfl, hp⟩ := first_split hc
      rw [cutAt_some hp] at h
      exact ⟨p, r, c, rfl, rfl, hp, k _ _ F H (ResR.same e intR) h⟩
    · rw [cutAt_none hc] at h
      exact h.elim
  · exact h.elim
/-- ''.join(list of texts) -/
def strsD : List D → Option (List (List Nat))
  | [] => some []
  | .str l :: ds => (strsD ds).map (l :: ·)
  | _ :: _ => none
theorem strs_reps {F : Hp} : ∀ {ds : List D} {vs : List V} {ls : List (List Nat)}, Reps K W F ds vs → strsD ds = some ls → vs = ls.map S
  | [], vs, ls, r, h => by
    rw [reps0 r]
    rw [strsD] at h
    cases h
    rfl
  | d :: ds, vs, ls, r, h => by
    obtain ⟨v, t, rfl, r1, r2⟩ := r.inv
    cases d with
    | str l =>
      rw [strsD] at h
      cases q : strsD ds with
      | none => rw [q] at h; cases h
      | some ms =>
        rw [q] at h
        cases h
        cases Rep.str.mp r1
        rw [strs_reps r2 q]
        rfl
    | _ => simp [strsD] at h
def dJoinM : Option (List (List Nat)) → M D
  | some ls => grd (ls.flatten.length + ls.length ≤ 1000000) (ret (.str ls.flatten))
  | none => stuck
def dJoin : D → List D → M D
  | .str [], [.lst ds] => dJoinM (strsD ds)
  | _, _ => stuck
theorem ms_join : MtS K W false (rJoin K) dJoin := by
  intro F H x dx xs ds Qd Ed Q e rx rxs h k
  unfold dJoin at h
  split at h
  · rename_i ds
    cases Rep.str.mp rx
    obtain ⟨v, rfl, r1⟩ := reps1 rxs
    obtain ⟨b, vs, rfl, hb, rb⟩ := Rep.lst.mp r1
    cases q : strsD ds with
    | none => rw [q] at h; exact h.elim
    | some ls =>
      rw [q] at h
      obtain ⟨hl, h⟩ := h
      have ev := strs_reps rb q
      subst ev
      exact ⟨b, ls, rfl, rfl, sq_of (e.fh _ _ hb), hl, k _ _ F H (ResR.same e strR) h⟩
  · exact h.elim
def dUp : D → List D → M D
  | .str l, [] => grd (l.length ≤ 1000000 ∧ ∀ c ∈ l, c < 128) (ret (.str (l.map up1)))
  | _, _ => stuck
theorem ms_up : MtS K W false rUp dUp := by
  intro F H x dx xs ds Qd Ed Q e rx rxs h k
  unfold dUp at h
  split at h
  · obtain ⟨⟨hl, ha⟩, h⟩ := h
    cases Rep.str.mp rx
    rw [reps0 rxs]
    exact ⟨_, rfl, rfl, hl, ha, k _ _ F H (ResR.same e strR) h⟩
  · exact h.elim
/-- list.count of scalars -/
def dCntL : D → List D → M D
  | .lst ds, [y] => grd ((scal y && ds.all scal) = true) (ret (.int (ds.countP (fun z => dEqB z y) : Nat)))
  | _, _ => stuck
theorem countP_of {F : Hp} {x : V} {dx : D} (rx : Rep K W F dx x) (hx : scal dx = true) : ∀ {ds : List D} {vs : List V}, Reps K W F ds vs → ds.all scal = true → (vs.countP fun y => eqV y x) = ds.countP fun z => dEqB z dx
  | [], vs, r, h => by rw [reps0 r]; rfl
  | d :: ds, vs, r, h => by
    obtain ⟨v, r, rfl, r1, r2⟩ := r.inv
    rw [List.all_cons] at h
    obtain ⟨h1, h2⟩ := ba2 h
    rw [List.countP_cons, List.countP_cons, eqV_of r1 rx h1 hx, countP_of rx hx r2 h2]
theorem ms_cntL : MtS K W false (rCntF K) dCntL := by
  intro F H x dx xs ds Qd Ed Q e rx rxs h k
  unfold dCntL at h
  split at h
  · obtain ⟨g, h⟩ := h
    obtain ⟨g1, g2⟩ := ba2 g
    obtain ⟨a, vs, rfl, ha, ra⟩ := Rep.lst.mp rx
    obtain ⟨v, rfl, r1⟩ := reps1 rxs
    exact ⟨a, vs, v, rfl, rfl, sq_of (e.fh _ _ ha), flat_of r1 g1, flats_of ra g2, by rw [countP_of r1 g1 ra g2]; exact k _ _ F H (ResR.same e intR) h⟩
  · exact h.elim

/-! ### built-ins -/
def dLen : List D → M D
  | [.str l] => grd (l.length ≤ 1000000) (ret (.int l.length))
  | [.lst ds] => ret (.int ds.length)
  | [.tup ds] => ret (.int ds.length)
  | _ => stuck
theorem cs_len : CallS K W false (rLenU K) dLen := by
  intro F H xs ds Qd Ed Q e r h k
  unfold dLen at h
  split at h
  · obtain ⟨hl, h⟩ := h
    obtain ⟨v, rfl, r1⟩ := reps1 r
    cases Rep.str.mp r1
    exact go_lens hl (k _ _ F H (ResR.same e intR) h)
  · obtain ⟨v, rfl, r1⟩ := reps1 r
    obtain ⟨a, vs, rfl, ha, ra⟩ := Rep.lst.mp r1
    exact go_lenl (sq_of (e.fh _ _ ha)) (k _ _ F H (ResR.same e intR) (by rw [ra.length]; exact h))
  · obtain ⟨v, rfl, r1⟩ := reps1 r
    obtain ⟨a, vs, rfl, ha, ra⟩ := Rep.tup.mp r1
    exact go_lent (st_same e.fh ha) (k _ _ F H (ResR.same e intR) (by rw [ra.length]; exact h))
  · exact h.elim
def rIntA : List V → Hp → VK → Prop := fun xs H Q => rIntU xs H Q ∨ (∃ a n, xs = [.str a] ∧ PySem.intText? a = some n ∧ a.length ≤ 640 ∧ Q (.int n) H)
theorem call_intA {X : Cx} : CallR X (.type "int") rIntA := CallR.or call_intU call_int_str
def dIntM (l : List Nat) : Option Int → M D
  | some n => grd (l.length ≤ 640) (ret (.int n))
  | none => stuck
def dInt : List D → M D
  | [.int i] => ret (.int i)
  | [.bl b] => ret (.int (if b then 1 else 0))
  | [.str l] => dIntM l (PySem.intText? (mk l))
  | _ => stuck
theorem cs_int : CallS K W false rIntA dInt := by
  intro F H xs ds Qd Ed Q e r h k
  unfold dInt at h
  split at h
  · obtain ⟨v, rfl, r1⟩ := reps1 r
    cases Rep.int.mp r1
    exact .inl (.inl ⟨_, rfl, k _ _ F H (ResR.same e intR) h⟩)
  · obtain ⟨v, rfl, r1⟩ := reps1 r
    cases Rep.bl.mp r1
    exact .inl (.inr ⟨_, rfl, k _ _ F H (ResR.same e intR) h⟩)
  · rename_i l
    obtain ⟨v, rfl, r1⟩ := reps1 r
    cases Rep.str.mp r1
    cases q : PySem.intText? (mk l) with
    | none => rw [q] at h; exact h.elim
    | some n =>
      rw [q] at h
      obtain ⟨hl, h⟩ := h
      exact .inr ⟨_, n, rfl, q, by rw [mk_len]; exact hl, k _ _ F H (ResR.same e intR) h⟩
  · exact h.elim
/-- str(int), str(text) -/
def decI (i : Int) : List Nat := (Str.ofString (toString i)).cps.toList
def rStrA : List V → Hp → VK → Prop := fun xs H Q => (∃ i, xs = [.int i] ∧ i.natAbs.log2 < 1920 ∧ Q (.str (toString i)) H) ∨ (∃ a, xs = [.str a] ∧ Q (.str a) H)
theorem call_strA {X : Cx} : CallR X (.type "str") rStrA := CallR.or call_str_int SkE.call_str_str
def dStr : List D → M D
  | [.int i] => grd (i.natAbs.log2 < 1920) (ret (.str (decI i)))
  | [.str l] => ret (.str l)
  | _ => stuck
theorem cs_str : CallS K W false rStrA dStr := by
  intro F H xs ds Qd Ed Q e r h k
  unfold dStr at h
  split at h
  · obtain ⟨hl, h⟩ := h
    obtain ⟨v, rfl, r1⟩ := reps1 r
    cases Rep.int.mp r1
    exact .inl ⟨_, rfl, hl, k _ _ F H (ResR.same e (Rep.str.mpr (by unfold decI; exact congrArg V.str (mk_tl' _).symm))) h⟩
  · obtain ⟨v, rfl, r1⟩ := reps1 r
    cases Rep.str.mp r1
    exact .inr ⟨_, rfl, k _ _ F H (ResR.same e strR) h⟩
  · exact h.elim
def dMax2 : List D → M D
  | [.int i, .int j] => ret (.int (if j > i then j else i))
  | _ => stuck
def dMin2 : List D → M D
  | [.int i, .int j] => ret (.int (if j < i then j else i))
  | _ => stuck
theorem cs_max2 : CallS K W false rMaxU dMax2 := by
  intro F H xs ds Qd Ed Q e r h k
  unfold dMax2 at h
  split at h
  · obtain ⟨v, u, rfl, r1, r2⟩ := reps2 r
    cases Rep.int.mp r1
    cases Rep.int.mp r2
    exact ⟨_, _, rfl, k _ _ F H (ResR.same e intR) h⟩
  · exact h.elim
theorem cs_min2 : CallS K W false rMinU dMin2 := by
  intro F H xs ds Qd Ed Q e r h k
  unfold dMin2 at h
  split at h
  · obtain ⟨v, u, rfl, r1, r2⟩ := reps2 r
    cases Rep.int.mp r1
    cases Rep.int.mp r2
    exact ⟨_, _, rfl, k _ _ F H (ResR.same e intR) h⟩
  · exact h.elim
/-- lists of ints, of bools, of texts -/
def intsD : List D → Option (List Int)
  | [] => some []
  | .int l :: ds => (intsD ds).map (l :: ·)
  | _ :: _ => none
theorem ints_reps {F : Hp} : ∀ {ds : List D} {vs : List V} {ls : List Int}, Reps K W F ds vs → intsD ds = some ls → vs = ls.map V.int
  | [], vs, ls, r, h => by
    rw [reps0 r]
    rw [intsD] at h
    cases h
    rfl
  | d :: ds, vs, ls, r, h => by
    obtain ⟨v, t, rfl, r1, r2⟩ := r.inv
    cases d with
    | int l =>
      rw [intsD] at h
      cases q : intsD ds with
      | none => rw [q] at h; cases h
      | some ms =>
        rw [q] at h
        cases h
        cases Rep.int.mp r1
        rw [ints_reps r2 q]
        rfl
    | _ => simp [intsD] at h
def blsD : List D → Option (List Bool)
  | [] => some []
  | .bl l :: ds => (blsD ds).map (l :: ·)
  | _ :: _ => none
theorem bls_reps {F : Hp} : ∀ {ds : List D} {vs : List V} {ls : List Bool}, Reps K W F ds vs → blsD ds = some ls → vs = ls.map V.bl
  | [], vs, ls, r, h => by
    rw [reps0 r]
    rw [blsD] at h
    cases h
    rfl
  | d :: ds, vs, ls, r, h => by
    obtain ⟨v, t, rfl, r1, r2⟩ := r.inv
    cases d with
    | bl l =>
      rw [blsD] at h
      cases q : blsD ds with
      | none => rw [q] at h; cases h
      | some ms =>
        rw [q] at h
        cases h
        cases Rep.bl.mp r1
        rw [bls_reps r2 q]
        rfl
    | _ => simp [blsD] at h
theorem intsD_map : ∀ l : List Int, intsD (l.map D.int) = some l
  | [] => rfl
  | a :: l => by rw [List.map_cons, intsD, intsD_map l]; rfl
theorem blsD_map : ∀ l : List Bool, blsD (l.map D.bl) = some l
  | [] => rfl
  | a :: l => by rw [List.map_cons, blsD, blsD_map l]; rfl
theorem strsD_map : ∀ l : List (List Nat), strsD (l.map D.str) = some l
  | [] => rfl
  | a :: l => by rw [List.map_cons, strsD, strsD_map l]; rfl
def optM {α : Type} (f : α → M D) : Option α → M D
  | some a => f a
  | none => stuck
def dSum : List D → M D
  | [.lst ds] => optM (fun ns => ret (.int ns.sum)) (intsD ds)
  | _ => stuck
theorem cs_sum : CallS K W false (rSum K) dSum := by
  intro F H xs ds Qd Ed Q e r h k
  unfold dSum at h
  split at h
  · rename_i ds
    obtain ⟨v, rfl, r1⟩ := reps1 r
    obtain ⟨a, vs, rfl, ha, ra⟩ := Rep.lst.mp r1
    cases q : intsD ds with
    | none => rw [q] at h; exact h.elim
    | some ns =>
      rw [q] at h
      cases ints_reps ra q
      exact ⟨a, ns, rfl, sq_of (e.fh _ _ ha), k _ _ F H (ResR.same e intR) h⟩
  · exact h.elim
def dAll : List D → M D
  | [.lst ds] => optM (fun bs => ret (.bl (bs.all id))) (blsD ds)
  | _ => stuck
def dAny : List D → M D
  | [.lst ds] => optM (fun bs => ret (.bl (bs.any id))) (blsD ds)
  | _ => stuck
theorem cs_all : CallS K W false (rAll K) dAll := by
  intro F H xs ds Qd Ed Q e r h k
  unfold dAll at h
  split at h
  · rename_i ds
    obtain ⟨v, rfl, r1⟩ := reps1 r
    obtain ⟨a, vs, rfl, ha, ra⟩ := Rep.lst.mp r1
    cases q : blsD ds with
    | none => rw [q] at h; exact h.elim
    | some ns =>
      rw [q] at h
      cases bls_reps ra q
      exact ⟨a, ns, rfl, sq_of (e.fh _ _ ha), k _ _ F H (ResR.same e blR) h⟩
  · exact h.elim
theorem cs_any : CallS K W false (rAny K) dAny := by
  intro F H xs ds Qd Ed Q e r h k
  unfold dAny at h
  split at h
  · rename_i ds
    obtain ⟨v, rfl, r1⟩ := reps1 r
    obtain ⟨a, vs, rfl, ha, ra⟩ := Rep.lst.mp r1
    cases q : blsD ds with
    | none => rw [q] at h; exact h.elim
    | some ns =>
      rw [q] at h
      cases bls_reps ra q
      exact ⟨a, ns, rfl, sq_of (e.fh _ _ ha), k _ _ F H (ResR.same e blR) h⟩
  · exact h.elim
def dMax1 : List D → M D
  | [.lst ds] => optM (fun ns Q _ => 0 < ns.length ∧ ∀ m, m ∈ ns → (∀ y, y ∈ ns → y ≤ m) → Q (.int m)) (intsD ds)
  | _ => stuck
def dMin1 : List D → M D
  | [.lst ds] => optM (fun ns Q _ => 0 < ns.length ∧ ∀ m, m ∈ ns → (∀ y, y ∈ ns → m ≤ y) → Q (.int m)) (intsD ds)
  | _ => stuck
theorem cs_max1 : CallS K W false (rMax K) dMax1 := by
  intro F H xs ds Qd Ed Q e r h k
  unfold dMax1 at h
  split at h
  · rename_i ds
    obtain ⟨v, rfl, r1⟩ := reps1 r
    obtain ⟨a, vs, rfl, ha, ra⟩ := Rep.lst.mp r1
    cases q : intsD ds with
    | none => rw [q] at h; exact h.elim
    | some ns =>
      rw [q] at h
      cases ints_reps ra q
      exact ⟨a, ns, rfl, sq_of (e.fh _ _ ha), h.1, fun m h1 h2 => k _ _ F H (ResR.same e intR) (h.2 m h1 h2)⟩
  · exact h.elim
theorem cs_min1 : CallS K W false (rMin K) dMin1 := by
  intro F H xs ds Qd Ed Q e r h k
  unfold dMin1 at h
  split at h
  · rename_i ds
    obtain ⟨v, rfl, r1⟩ := reps1 r
    obtain ⟨a, vs, rfl, ha, ra⟩ := Rep.lst.mp r1
    cases q : intsD ds with
    | none => rw [q] at h; exact h.elim
    | some ns =>
      rw [q] at h
      cases ints_reps ra q
      exact ⟨a, ns, rfl, sq_of (e.fh _ _ ha), h.1, fun m h1 h2 => k _ _ F H (ResR.same e intR) (h.2 m h1 h2)⟩
  · exact h.elim
/-- list(x): a list of our own -/
def dList : List D → M D
  | [.lst ds] => ret (.lst ds)
  | [.tup ds] => ret (.lst ds)
  | _ => stuck
theorem cs_list : CallS K W true (rListU K) dList := by
  intro F H xs ds Qd Ed Q e r h k
  unfold dList at h
  split at h
  · obtain ⟨v, rfl, r1⟩ := reps1 r
    obtain ⟨a, vs, rfl, ha, ra⟩ := Rep.lst.mp r1
    exact ⟨a, vs, rfl, .inl (sq_of (e.fh _ _ ha)), fun p hp => k _ _ _ _ (new_lst e hp ra) h⟩
  · obtain ⟨v, rfl, r1⟩ := reps1 r
    obtain ⟨a, vs, rfl, ha, ra⟩ := Rep.tup.mp r1
    exact ⟨a, vs, rfl, .inr (st_same e.fh ha), fun p hp => k _ _ _ _ (new_lst e hp ra) h⟩
  · exact h.elim
def dTuple : List D → M D
  | [.lst ds] => ret (.tup ds)
  | [.tup ds] => ret (.tup ds)
  | _ => stuck
theorem cs_tuple : CallS K W false (fun xs H Q => ∃ p ys, xs = [.ref p] ∧ ((SqL K H p ys ∧ ∀ l, H l = none → Q (.ref l) (upd H l (.tup ys))) ∨ (SqT K H p ys ∧ Q (.ref p) H))) dTuple := by
  intro F H xs ds Qd Ed Q e r h k
  unfold dTuple at h
  split at h
  · obtain ⟨v, rfl, r1⟩ := reps1 r
    obtain ⟨a, vs, rfl, ha, ra⟩ := Rep.lst.mp r1
    exact ⟨a, vs, rfl, .inl ⟨sq_of (e.fh _ _ ha), fun p hp => k _ _ _ _ (new_tup e hp ra) h⟩⟩
  · obtain ⟨v, rfl, r1⟩ := reps1 r
    obtain ⟨a, vs, rfl, ha, ra⟩ := Rep.tup.mp r1
    exact ⟨a, vs, rfl, .inr ⟨st_same e.fh ha, k _ _ F H (ResR.same e r1) h⟩⟩
  · exact h.elim
def dDivmod : List D → M D
  | [.int i, .int j] => grd (0 < j ∧ j < 1000000) (ret (.tup [.int (i / j), .int (i % j)]))
  | _ => stuck
theorem cs_divmod : CallS K W false rDmU dDivmod := by
  intro F H xs ds Qd Ed Q e r h k
  unfold dDivmod at h
  split at h
  · obtain ⟨⟨h0, h1⟩, h⟩ := h
    obtain ⟨v, u, rfl, r1, r2⟩ := reps2 r
    cases Rep.int.mp r1
    cases Rep.int.mp r2
    exact ⟨_, _, rfl, cdp h0 h1, fun p hp => k _ _ _ _ (new_tup e hp (Reps.cons intR (Reps.cons intR Reps.nil))) h⟩
  · exact h.elim
def dAbs : List D → M D
  | [.int i] => ret (.int (if i < 0 then -i else i))
  | _ => stuck
theorem cs_abs : CallS K W false (fun xs H Q => ∃ i, xs = [.int i] ∧ Q (.int (if i < 0 then -i else i)) H) dAbs := by
  intro F H xs ds Qd Ed Q e r h k
  unfold dAbs at h
  split at h
  · obtain ⟨v, rfl, r1⟩ := reps1 r
    cases Rep.int.mp r1
    exact ⟨_, rfl, k _ _ F H (ResR.same e intR) h⟩
  · exact h.elim
/-- isinstance of data -/
def tyOf : D → Option String
  | .non => some "NoneType"
  | .bl _ => some "bool"
  | .int _ => some "int"
  | .str _ => some "str"
  | .lst _ => some "list"
  | .tup _ => some "tuple"
  | _ => none
def dIsiM : Option Bool → M D
  | some b => ret (.bl b)
  | none => stuck
def dIsi : List D → M D
  | [x, .ty c] => dIsiM ((tyOf x).bind fun t => kitB t c)
  | _ => stuck
theorem isi_of {F H : Hp} (s : Same F H) {d : D} {v : V} {c : String} {b : Bool} (r : Rep K W F d v) (h : ((tyOf d).bind fun t => kitB t c) = some b) : isiB K H v c b := by
  cases d with
  | non => cases Rep.non.mp r; exact h
  | bl _ => cases Rep.bl.mp r; exact h
  | int _ => cases Rep.int.mp r; exact h
  | str _ => cases Rep.str.mp r; exact h
  | lst ds =>
    obtain ⟨a, vs, rfl, ha, ra⟩ := Rep.lst.mp r
    exact .inl ⟨vs, sq_of (s _ _ ha), h⟩
  | tup ds =>
    obtain ⟨a, vs, rfl, ha, ra⟩ := Rep.tup.mp r
    exact .inr ⟨vs, st_same s ha, h⟩
  | _ => cases h
theorem cs_isi : CallS K W false (rIsiU K) dIsi := by
  intro F H xs ds Qd Ed Q e r h k
  unfold dIsi at h
  split at h
  · rename_i x c
    obtain ⟨v, u, rfl, r1, r2⟩ := reps2 r
    cases Rep.ty.mp r2
    cases q : (tyOf x).bind fun t => kitB t c with
    | none => rw [q] at h; exact h.elim
    | some b =>
      rw [q] at h
      exact go_isi (isi_of e.fh r1 q) (k _ _ F H (ResR.same e blR) h)
  · exact h.elim

/-! ### own defs -/
def SpM (K : PySem.W.Frag) (fr : Bool) (n : Nat) (fM : List D → M D) : Sp := fun vs H Q E => ∃ (W : Wd) (ds : List D) (F : Hp) (Qd : D → Prop) (Ed : Er → Prop), W.xc = none ∧ ds.length = n ∧ Ext K W F H F H ∧ Reps K W F ds vs ∧ fM ds Qd Ed ∧
  (∀ v d F' H', ResR K W fr F H F' H' v d → Qd d → Q v H') ∧ (∀ er F' H' cls dd, Ext K W F H F' H' → XR K W F' H' er cls dd → Ed er → E cls dd H')
theorem SpM.len {n : Nat} {fM : List D → M D} {vs : List V} {H : Hp} {Q : VK} {E : XK} (h : SpM K fr n fM vs H Q E) : vs.length = n := by
  obtain ⟨W, ds, F, Qd, Ed, _, e, _, r, _⟩ := h
  rw [r.length, e]
def eCall (n : Nat) (f : List D → M D) (aa : Env → M (List D)) : Env → M D := fun ρ => bnd (aa ρ) fun ds => grd (ds.length = n) (f ds)
theorem se_call (hx : W.xc = none) {n : Nat} {fM : List D → M D} (ha : SA K W E o o1 tA aa) : SE K W E o fr o1 (uCall (SpM K fr n fM) E tA) (eCall n fM aa) := by
  intro F0 H0 ρ σ F H Qd Ed Q s hm k x
  refine ha s hm (fun vs ds F1 H1 s1 r1 sm1 q1 => ?_) x
  exact ⟨W, ds, F1, Qd, Ed, hx, q1.1, s1.ext.refl, r1, q1.2, fun v d F' H' rr q => k v d F' H' (s1.val rr) (sm1.trans rr.1.stp) q, fun er F' H' cls dd e xr q => x er o1 F' H' cls dd (s1.step e) xr q⟩
def eCallD (n : Nat) (f : List D → M D) (dd : List D) (aa : Env → M (List D)) : Env → M D := fun ρ => bnd (aa ρ) fun ds => grd ((ds ++ dd).length = n) (f (ds ++ dd))
theorem se_callD (hx : W.xc = none) {n : Nat} {fM : List D → M D} {dvs : List V} {dd : List D} (hd : ∀ F, Reps K W F dd dvs) (ha : SA K W E o o1 tA aa) : SE K W E o fr o1 (uCallD (SpM K fr n fM) dvs E tA) (eCallD n fM dd aa) := by
  intro F0 H0 ρ σ F H Qd Ed Q s hm k x
  refine ha s hm (fun vs ds F1 H1 s1 r1 sm1 q1 => ?_) x
  exact ⟨W, ds ++ dd, F1, Qd, Ed, hx, q1.1, s1.ext.refl, r1.app (hd F1), q1.2, fun v d F' H' rr q => k v d F' H' (s1.val rr) (sm1.trans rr.1.stp) q, fun er F' H' cls dd e xr q => x er o1 F' H' cls dd (s1.step e) xr q⟩
theorem Reps.rev {F : Hp} : ∀ {ds : List D} {vs : List V}, Reps K W F ds vs → Reps K W F ds.reverse vs.reverse
  | [], vs, h => by rw [reps0 h]; exact Reps.nil
  | d :: ds, vs, h => by
    obtain ⟨v, r, rfl, r1, r2⟩ := h.inv
    rw [List.reverse_cons, List.reverse_cons]
    exact (Reps.rev r2).app (Reps.cons r1 Reps.nil)
def eCallR (n : Nat) (f : List D → M D) (aa : Env → M (List D)) : Env → M D := fun ρ => bnd (aa ρ) fun ds => grd (ds.length = n) (f ds.reverse)
theorem se_callR (hx : W.xc = none) {n : Nat} {fM : List D → M D} (ha : SA K W E o o1 tA aa) : SE K W E o fr o1 (uCallR (SpM K fr n fM) E tA) (eCallR n fM aa) := by
  intro F0 H0 ρ σ F H Qd Ed Q s hm k x
  refine ha s hm (fun vs ds F1 H1 s1 r1 sm1 q1 => ?_) x
  exact ⟨W, ds.reverse, F1, Qd, Ed, hx, by rw [List.length_reverse]; exact q1.1, s1.ext.refl, r1.rev, q1.2, fun v d F' H' rr q => k v d F' H' (s1.val rr) (sm1.trans rr.1.stp) q, fun er F' H' cls dd e xr q => x er o1 F' H' cls dd (s1.step e) xr q⟩
end
end M

/-! M7: statements, loops, comprehensions. -/
namespace M
open PySem PySem.Spec PyProof.Rows L2 TL G

structure Ms where
  nx : Env → Prop
  rt : D → Prop
  bk : Env → Prop
  ct : Env → Prop
  ex : Er → Env → Prop
abbrev MS := Env → Ms → Prop
structure EOk (K : PySem.W.Frag) (W : Wd) (E : L2.St → XK) (F0 H0 Fs : Hp) (fr : Bool) (ob o' : Ow) (De : Ms) (Dr : Ends) : Prop where
  nx : ∀ ρ σ F H, Sr K W F0 H0 o' ρ σ F H → Same Fs F → De.nx ρ → Dr.nx σ H
  rt : ∀ o1 ρ σ F H v d, Sr K W F0 H0 (fr :: o1) (some d :: ρ) (some v :: σ) F H → De.rt d → Dr.rt v H
  bk : ∀ ρ σ F H, Sr K W F0 H0 ob ρ σ F H → Same Fs F → De.bk ρ → Dr.bk σ H
  ct : ∀ ρ σ F H, Sr K W F0 H0 ob ρ σ F H → Same Fs F → De.ct ρ → Dr.ct σ H
  ex : ∀ er o1 ρ σ F H cls dd, Sr K W F0 H0 o1 ρ σ F H → XR K W F H er cls dd → De.ex er ρ → E σ cls dd H
def SS (K : PySem.W.Frag) (W : Wd) (E : L2.St → XK) (fr : Bool) (ob o o' : Ow) (t : TS) (m : MS) : Prop := ∀ ⦃F0 H0 Fs : Hp⦄ ⦃ρ : Env⦄ ⦃σ : L2.St⦄ ⦃F H : Hp⦄ ⦃De : Ms⦄ ⦃Dr : Ends⦄, Sr K W F0 H0 o ρ σ F H → m ρ De → Same Fs F → EOk K W E F0 H0 Fs fr ob o' De Dr → t Dr σ H

/-! ### the combinators -/
def sNext : MS := fun ρ D => D.nx ρ
def sSeq (a b : MS) : MS := fun ρ D => a ρ { D with nx := fun ρ' => b ρ' D }
def sSet (i : Nat) (e : Env → M D) : MS := fun ρ D => e ρ (fun d => D.nx (ρ.set i (some d))) fun er => D.ex er ρ
def sDo (e : Env → M D) : MS := fun ρ D => e ρ (fun _ => D.nx ρ) fun er => D.ex er ρ
def sIf (c : Env → M Bool) (a b : MS) : MS := fun ρ D => c ρ (fun x => if x = true then a ρ D else b ρ D) fun er => D.ex er ρ
def sRet (e : Env → M D) : MS := fun ρ D => e ρ D.rt fun er => D.ex er ρ
def sRetN : MS := fun _ D => D.rt .non
def sBreak : MS := fun ρ D => D.bk ρ
def sCont : MS := fun ρ D => D.ct ρ
/-- x.append(e), x ours -/
def sApp (i : Nat) (e : Env → M D) : MS := fun ρ D => e ρ (fun d => match ρ[i]? with
  | some (some (.lst ds)) => ds.length < 1000000 ∧ D.nx (ρ.set i (some (.lst (ds ++ [d]))))
  | _ => False) fun er => D.ex er ρ
/-- x[k] = e, x ours -/
def sPut (i : Nat) (ek e : Env → M D) : MS := fun ρ D => e ρ (fun d => ek ρ (fun k => match ρ[i]?, k with
  | some (some (.lst ds)), .int j => (match ixN ds.length j with | some n => D.nx (ρ.set i (some (.lst (ds.set n d)))) | none => False)
  | _, _ => False) fun er => D.ex er ρ) fun er => D.ex er ρ
abbrev TgM := D → Env → (Env → Prop) → Prop
abbrev TgsM := List D → Env → (Env → Prop) → Prop
def tgName (i : Nat) : TgM := fun d ρ k => k (ρ.set i (some d))
def tgsNil : TgsM := fun ds ρ k => ds = [] ∧ k ρ
def tgsCons (t : TgM) (ts : TgsM) : TgsM := fun ds ρ k => match ds with
  | d :: r => t d ρ fun ρ' => ts r ρ' k
  | [] => False
def tgTup (n : Nat) (ts : TgsM) : TgM := fun d ρ k => match d with
  | .tup ds => ds.length = n ∧ ts ds ρ k
  | _ => False
def sAsg (e : Env → M D) (t : TgM) : MS := fun ρ D => e ρ (fun d => t d ρ D.nx) fun er => D.ex er ρ
def sPar (i j : Nat) (aa : Env → M (List D)) : MS := fun ρ D => aa ρ (fun ds => match ds with
  | [d, e] => D.nx ((ρ.set i (some d)).set j (some e))
  | _ => False) fun er => D.ex er ρ
def loop (t : TgM) (b : MS) (De : Ms) : List D → Env → Prop
  | [], ρ => De.nx ρ
  | x :: xs, ρ => t x ρ fun ρ' => b ρ' { De with nx := loop t b De xs, ct := loop t b De xs, bk := De.nx }
def sFor (it : Env → M (List D)) (t : TgM) (b : MS) : MS := fun ρ D => it ρ (fun xs => loop t b D xs ρ) fun er => D.ex er ρ
def whN (c : Env → M Bool) (b : MS) (D : Ms) : Nat → Env → Prop
  | 0, _ => False
  | n + 1, ρ => c ρ (fun x => if x = true then b ρ { D with nx := whN c b D n, ct := whN c b D n, bk := D.nx } else D.nx ρ) fun er => D.ex er ρ
def sWhile (c : Env → M Bool) (b : MS) : MS := fun ρ D => ∃ n, whN c b D n ρ

section
variable {K : PySem.W.Frag} {W : Wd} {E : L2.St → XK} {o o1 o2 o' ob : Ow} {te : TE} {tt : TT} {tA : TA} {a b : MS} {e : Env → M D} {c : Env → M Bool} {aa : Env → M (List D)} {fr : Bool} {t u : TS} {F0 H0 F H : Hp} {ρ : Env} {σ : L2.St}
theorem ss_next : SS K W E fr ob o o tNext sNext := fun _ _ _ _ _ _ _ _ _ s hm z k => k.nx _ _ _ _ s z hm
theorem ss_seq (h1 : SS K W E fr ob o o1 t a) (h2 : SS K W E fr ob o1 o2 u b) : SS K W E fr ob o o2 (tSeq t u) (sSeq a b) := fun _ _ _ _ _ _ _ _ _ s hm z k =>
  h1 s hm z ⟨fun ρ σ F H s' z' q => h2 s' q z' k, k.rt, k.bk, k.ct, k.ex⟩
theorem ss_pre (is : List Nat) (h : SS K W E fr ob o1 o2 t a) (e : frL is o = o1) : SS K W E fr ob o o2 t a := fun _ _ _ _ _ _ _ _ _ s hm z k => by
  obtain ⟨F1, s1, sm⟩ := s.freezeL is
  subst e
  exact h s1 hm (z.trans sm) k
theorem ss_post (is : List Nat) (h : SS K W E fr ob o o1 t a) (e : frL is o1 = o2) : SS K W E fr ob o o2 t a := fun _ _ _ _ _ _ _ _ _ s hm z k =>
  h s hm z ⟨fun ρ σ F H s' z' q => by
    obtain ⟨F1, s1, sm⟩ := s'.freezeL is
    subst e
    exact k.nx _ _ _ _ s1 (z'.trans sm) q, k.rt, k.bk, k.ct, k.ex⟩
theorem nodup_set {ws : List (Option Addr)} {i : Nat} {p : Addr} (h : (some p :: ws).filterMap id = p :: ws.filterMap id := by rfl) (nd : ((some p :: ws).filterMap id).Nodup) : ((ws.set i (some p)).filterMap id).Nodup := by
  induction ws generalizing i with
  | nil => simp
  | cons w ws ih =>
    have nd' : p ∉ (w :: ws).filterMap id ∧ ((w :: ws).filterMap id).Nodup := List.nodup_cons.mp nd
    cases i with
    | zero =>
      cases w with
      | none => exact nd
      | some a =>
        have n2 : p ∉ a :: ws.filterMap id := nd'.1
        have n3 : (a :: ws.filterMap id).Nodup := nd'.2
        exact List.nodup_cons.mpr ⟨fun z => n2 (List.mem_cons_of_mem _ z), (List.nodup_cons.mp n3).2⟩
    | succ i =>
      cases w with
      | none => exact ih rfl (List.nodup_cons.mpr ⟨nd'.1, nd'.2⟩)
      | some a =>
        have n2 : p ∉ a :: ws.filterMap id := nd'.1
        have n3 : (a :: ws.filterMap id).Nodup := nd'.2
        have r := ih (i := i) rfl (List.nodup_cons.mpr ⟨fun z => n2 (List.mem_cons_of_mem _ z), (List.nodup_cons.mp n3).2⟩)
        refine List.nodup_cons.mpr ⟨fun z => ?_, r⟩
        obtain ⟨x, hx, ex⟩ := List.mem_filterMap.mp z
        rcases List.mem_or_eq_of_mem_set hx with q | q
        · exact (List.nodup_cons.mp n3).1 (List.mem_filterMap.mpr ⟨x, q, ex⟩)
        · rw [q] at ex
          have e2 : p = a := Option.some.inj ex
          exact n2 (by rw [e2]; exact List.mem_cons_self)
theorem Sr.put {bb : Bool} {d : D} {v : V} (i : Nat) (h : Sr K W F0 H0 (bb :: o) (some d :: ρ) (some v :: σ) F H) : Sr K W F0 H0 (o.set i bb) (ρ.set i (some d)) (σ.set i (some v)) F H := by
  obtain ⟨ws, h1, h2, h3⟩ := h.sl
  cases ws with
  | nil => simp at h1
  | cons w ws =>
    rw [List.map_cons] at h1
    obtain ⟨e1, e2⟩ := List.cons.inj h1
    refine ⟨h.ext, ws.set i w, by rw [List.map_set, e1, e2], ?_, SlR.put h3.1 i h3.2⟩
    cases w with
    | none => exact nodup_set_none h2
    | some p => exact nodup_set rfl h2
theorem ss_set {i : Nat} {bb : Bool} (he : SE K W E o bb o1 te e) (eo : o1.set i bb = o2) : SS K W E fr ob o o2 (tAsg te (gName i)) (sSet i e) := fun _ _ _ _ _ _ _ _ _ s hm z k => by
  subst eo
  exact he s hm (fun v d F' H' s' st q => k.nx _ _ _ _ (s'.put i) (z.trans st.ff) q) fun er o1 F' H' cls dd s' x q => k.ex er o1 _ _ F' H' cls dd s' x q
theorem ss_do (he : SE K W E o false o1 te e) : SS K W E fr ob o o1 (tDrop te) (sDo e) := fun _ _ _ _ _ _ _ _ _ s hm z k =>
  he s hm (fun v d F' H' s' st q => k.nx _ _ _ _ s'.tail (z.trans st.ff) q) fun er o1 F' H' cls dd s' x q => k.ex er o1 _ _ F' H' cls dd s' x q
theorem ss_if (hc : ST K W E o o1 tt c) (ha : SS K W E fr ob o1 o2 t a) (hb : SS K W E fr ob o1 o2 u b) : SS K W E fr ob o o2 (uIfS tt t u) (sIf c a b) := fun _ _ _ _ _ _ _ _ _ s hm z k => by
  refine hc s hm (fun x F' H' s' st q => ?_) fun er o1 F' H' cls dd s' x q => k.ex er o1 _ _ F' H' cls dd s' x q
  cases x with
  | true => exact iteT (ha s' q (z.trans st.ff) k)
  | false => exact iteF (hb s' q (z.trans st.ff) k)
theorem ss_ret (he : SE K W E o fr o1 te e) : SS K W E fr ob o o2 (tRet te) (sRet e) := fun _ _ _ _ _ _ _ _ _ s hm _ k =>
  he s hm (fun v d F' H' s' _ q => k.rt _ _ _ _ _ _ _ s' q) fun er o1 F' H' cls dd s' x q => k.ex er o1 _ _ F' H' cls dd s' x q
theorem ss_retN : SS K W E false ob o o2 tRetN sRetN := fun _ _ _ _ _ _ _ _ _ s hm _ k => k.rt _ _ _ _ _ _ _ (s.val (ResR.same s.ext (Rep.non.mpr rfl))) hm
/-- return x, x ours -/
theorem ss_retO {i : Nat} (h : o[i]? = some true) : SS K W E true ob o o2 (tRet (tVar i)) (sRet (eVar i)) := fun {F0 H0 Fs ρ σ F H De Dr} s hm _ k => by
  obtain ⟨ws, h1, h2, h3⟩ := s.sl
  obtain ⟨p, vs, ds, e1, e2, e3, e4, e5, e6, e7⟩ := s.atO h
  refine ⟨_, e2, ?_⟩
  have hm' : De.rt (.lst ds) := by
    have z : (match ρ[i]? with | some (some d) => De.rt d | _ => False) := hm
    rw [e1] at z
    exact z
  refine k.rt [] [] [] F H (.ref p) (.lst ds) ⟨s.ext, [some p], rfl, ?_, ⟨rfl, e3, e4, e5, vs, e6, e7⟩, trivial⟩ hm'
  simp
theorem ss_break : SS K W E fr o o o2 tBreak sBreak := fun _ _ _ _ _ _ _ _ _ s hm z k => k.bk _ _ _ _ s z hm
theorem ss_cont : SS K W E fr o o o2 tCont sCont := fun _ _ _ _ _ _ _ _ _ s hm z k => k.ct _ _ _ _ s z hm
/-- a list of ours is changed -/
theorem Sr.wr {i : Nat} {p : Addr} {us : List V} {ds es : List D} (h : Sr K W F0 H0 o ρ σ F H) (ho : o[i]? = some true) (e1 : ρ[i]? = some (some (.lst ds))) (e2 : σ[i]? = some (some (.ref p))) (r : Reps K W F es us) : Sr K W F0 H0 o (ρ.set i (some (.lst es))) σ F (upd H p (.lst us)) := by
  obtain ⟨p', vs', ds', f1, f2, f3, f4, f5, f6, f7⟩ := h.atO ho
  rw [e2] at f2
  cases f2
  obtain ⟨ws, h1, h2, h3⟩ := h.sl
  refine ⟨h.ext.write f3 f4 f5, ws, h1, h2, ?_⟩
  have hw : ∃ w, ws[i]? = some w ∧ w.isSome = true := ow_at h1 ho
  have key : ∀ {ws : List (Option Addr)} {σ : L2.St} {ρ : Env} {i : Nat}, (ws.filterMap id).Nodup → SlR K W H0 F H ws σ ρ → (∃ w, ws[i]? = some w ∧ w.isSome = true) → σ[i]? = some (some (.ref p)) → SlR K W H0 F (upd H p (.lst us)) ws σ (ρ.set i (some (.lst es))) := by
    have far : ∀ {ws : List (Option Addr)} {σ : L2.St} {ρ : Env}, p ∉ ws.filterMap id → SlR K W H0 F H ws σ ρ → SlR K W H0 F (upd H p (.lst us)) ws σ ρ := by
      intro ws
      induction ws with
      | nil =>
        intro σ ρ _ hs
        cases σ with
        | nil => cases ρ with
          | nil => trivial
          | cons _ _ => exact hs.elim
        | cons _ _ => exact hs.elim
      | cons w ws ih =>
        intro σ ρ m hs
        cases σ with
        | nil => exact hs.elim
        | cons v σ =>
          cases ρ with
          | nil => exact hs.elim
          | cons d ρ =>
            cases w with
            | none =>
              refine ⟨?_, ih m hs.2⟩
              obtain ⟨g, _⟩ := hs
              cases d with
              | none => trivial
              | some d => cases v with
                | none => exact g.elim
                | some v => exact g
            | some q =>
              have m' : p ∉ q :: ws.filterMap id := m
              refine ⟨?_, ih (fun z => m' (List.mem_cons_of_mem _ z)) hs.2⟩
              obtain ⟨g, _⟩ := hs
              have hqp : q ≠ p := fun z => m' (by rw [z]; exact List.mem_cons_self)
              cases v with
              | none => cases d <;> exact g.elim
              | some v =>
                cases d with
                | none => exact g.elim
                | some d =>
                  cases d with
                  | lst ds =>
                    obtain ⟨g1, g2, g3, g4, xs, g5, g6⟩ := g
                    exact ⟨g1, g2, g3, g4, xs, by rw [upd_ne hqp]; exact g5, g6⟩
                  | _ => exact g.elim
    intro ws
    induction ws with
    | nil => intro σ ρ i _ _ hw _; obtain ⟨w, z, _⟩ := hw; simp at z
    | cons w ws ih =>
      intro σ ρ i nd hs hw e
      cases σ with
      | nil => exact hs.elim
      | cons v σ =>
        cases ρ with
        | nil => exact hs.elim
        | cons d ρ =>
          cases i with
          | zero =>
            obtain ⟨w', z1, z2⟩ := hw
            simp at z1
            subst z1
            cases w with
            | none => cases z2
            | some q =>
              simp at e
              subst e
              have nd' : (q :: ws.filterMap id).Nodup := nd
              obtain ⟨g, hs2⟩ := hs
              have hq : q = p := by
                cases d with
                | none => exact g.elim
                | some d =>
                  cases d with
                  | lst ds => obtain ⟨g1, _⟩ := g; exact (V.ref.inj g1).symm
                  | _ => exact g.elim
              subst hq
              exact ⟨⟨rfl, f3, f4, f5, us, upd_same, r⟩, far (List.nodup_cons.mp nd').1 hs2⟩
          | succ i =>
            have hw' : ∃ w, ws[i]? = some w ∧ w.isSome = true := by simpa using hw
            have e' : σ[i]? = some (some (.ref p)) := by simpa using e
            have pm : p ∈ ws.filterMap id := by
              obtain ⟨w', z1, z2⟩ := hw'
              obtain ⟨wx, vx, dx, y1, y2, y3, y4⟩ := hs.2.at (List.getElem?_eq_some_iff.mp z1).1
              rw [z1] at y1
              cases y1
              rw [e'] at y2
              cases y2
              cases w' with
              | none => cases z2
              | some q =>
                cases dx with
                | none => exact y4.elim
                | some d =>
                  cases d with
                  | lst ds =>
                    obtain ⟨g1, _⟩ := y4
                    cases g1
                    exact List.mem_filterMap.mpr ⟨some p, List.mem_of_getElem? z1, rfl⟩
                  | _ => exact y4.elim
            refine ⟨?_, ih ?_ hs.2 hw' e'⟩
            · obtain ⟨g, _⟩ := hs
              cases w with
              | none =>
                cases d with
                | none => trivial
                | some d => cases v with
                  | none => exact g.elim
                  | some v => exact g
              | some q =>
                have nd' : (q :: ws.filterMap id).Nodup := nd
                have hqp : q ≠ p := fun z => (List.nodup_cons.mp nd').1 (by rw [z]; exact pm)
                cases v with
                | none => cases d <;> exact g.elim
                | some v =>
                  cases d with
                  | none => exact g.elim
                  | some d =>
                    cases d with
                    | lst ds =>
                      obtain ⟨g1, g2, g3, g4, xs, g5, g6⟩ := g
                      exact ⟨g1, g2, g3, g4, xs, by rw [upd_ne hqp]; exact g5, g6⟩
                    | _ => exact g.elim
            · cases w with
              | none => exact nd
              | some q =>
                have nd' : (q :: ws.filterMap id).Nodup := nd
                exact (List.nodup_cons.mp nd').2
  exact key h2 h3 hw e2
end
end M

/-! M8: append, store of an item, targets, what is walked, for, while, comprehensions. -/
namespace M
open PySem PySem.Spec PyProof.Rows L2 TL G

section
variable {K : PySem.W.Frag} {W : Wd} {E : L2.St → XK} {o o1 o2 o' ob : Ow} {te tk : TE} {tt : TT} {tA : TA} {a b : MS} {e ek : Env → M D} {c : Env → M Bool} {aa : Env → M (List D)} {fr : Bool} {t u : TS} {F0 H0 F H : Hp} {ρ : Env} {σ : L2.St}
/-- x.append(e) -/
theorem ss_app {i : Nat} (h0 : o[i]? = some true) (he : SE K W E o false o1 te e) (h : o1[i]? = some true) : SS K W E fr ob o o1 (tDrop (tBM K "list" rAppend (tVar i) (tCons te tNil))) (sApp i e) := fun {F0 H0 Fs ρ σ F H De Dr} s hm z k => by
  obtain ⟨p, vs, ds, e1, e2, e3, e4, e5, e6, e7⟩ := s.atO h0
  refine ⟨_, e2, .inl ⟨rfl, _, sq_of e6⟩, ?_⟩
  refine he s hm (fun v d F' H' s' st q => ?_) fun er o1 F' H' cls dd s' x q => k.ex er o1 _ _ F' H' cls dd s' x q
  obtain ⟨p', vs', ds', g1, g2, g3, g4, g5, g6, g7⟩ := s'.tail.atO h
  rw [e2] at g2
  cases g2
  rw [g1] at q
  show rAppend (.ref p) [v] H' (fun _ H1 => Dr.nx σ H1)
  exact go_append g6 (by rw [g7.length]; exact q.1) (k.nx _ _ _ _ (s'.tail.wr h g1 e2 (g7.app (Reps.cons s'.head Reps.nil))) (z.trans st.ff) q.2)
/-- x[k] = e -/
theorem ss_put {i : Nat} (he : SE K W E o false o1 te e) (hk : SE K W E o1 false o2 tk ek) (h1 : o1[i]? = some true) (h : o2[i]? = some true) : SS K W E fr ob o o2 (tAsg te (gSub (tVar i) tk rSetL)) (sPut i ek e) := fun {F0 H0 Fs ρ σ F H De Dr} s hm z k => by
  refine he s hm (fun v d F' H' s1 st1 q => ?_) fun er o1 F' H' cls dd s' x q => k.ex er o1 _ _ F' H' cls dd s' x q
  obtain ⟨p, vs, ds, e1, e2, e3, e4, e5, e6, e7⟩ := s1.tail.atO h1
  refine ⟨_, e2, ?_⟩
  refine hk s1.tail q (fun vk dk F2 H2 s2 st2 q2 => ?_) fun er o1 F' H' cls dd s' x q => k.ex er o1 _ _ F' H' cls dd s' x q
  obtain ⟨p', vs', ds', g1, g2, g3, g4, g5, g6, g7⟩ := s2.tail.atO h
  rw [e2] at g2
  cases g2
  rw [g1] at q2
  cases dk with
  | int j =>
    dsimp only at q2
    cases en : ixN ds'.length j with
    | none => rw [en] at q2; exact q2.elim
    | some n =>
      rw [en] at q2
      cases Rep.int.mp s2.head
      exact go_set g6 (by rw [g7.length]; exact en) (k.nx _ _ _ _ (s2.tail.wr h g1 e2 (g7.set n (Rep.mono st2.ff d s1.head))) (z.trans (st1.ff.trans st2.ff)) q2)
  | _ => exact q2.elim

/-! ### targets -/
/-- the slots is are stored by the target -/
def STg (K : PySem.W.Frag) (W : Wd) (is : List Nat) (g : TG) (t : TgM) : Prop := ∀ ⦃F0 H0 : Hp⦄ ⦃o : Ow⦄ ⦃ρ : Env⦄ ⦃σ : L2.St⦄ ⦃F H : Hp⦄ ⦃v : V⦄ ⦃d : D⦄ ⦃k : Env → Prop⦄ ⦃Q : L2.St → Hp → Prop⦄, Sr K W F0 H0 o ρ σ F H → Rep K W F d v → t d ρ k →
  (∀ ρ' σ', Sr K W F0 H0 (frL is o) ρ' σ' F H → (∀ vs : List Nat, (∀ i ∈ is, i ∈ vs) → wipe σ' vs = wipe σ vs) → k ρ' → Q σ' H) → g v σ H Q
def STgs (K : PySem.W.Frag) (W : Wd) (is : List Nat) (g : TGs) (t : TgsM) : Prop := ∀ ⦃F0 H0 : Hp⦄ ⦃o : Ow⦄ ⦃ρ : Env⦄ ⦃σ : L2.St⦄ ⦃F H : Hp⦄ ⦃v : List V⦄ ⦃d : List D⦄ ⦃k : Env → Prop⦄ ⦃Q : L2.St → Hp → Prop⦄, Sr K W F0 H0 o ρ σ F H → Reps K W F d v → t d ρ k →
  (∀ ρ' σ', Sr K W F0 H0 (frL is o) ρ' σ' F H → (∀ vs : List Nat, (∀ i ∈ is, i ∈ vs) → wipe σ' vs = wipe σ vs) → k ρ' → Q σ' H) → g v σ H Q
theorem wipe_far {σ : L2.St} {i : Nat} {v : Option V} : ∀ {vs : List Nat}, i ∉ vs → wipe (σ.set i v) vs = (wipe σ vs).set i v
  | [], _ => rfl
  | j :: vs, h => by
    show (wipe (σ.set i v) vs).set j none = ((wipe σ vs).set j none).set i v
    have e : i ≠ j := fun z => h (by rw [z]; exact List.mem_cons_self)
    rw [wipe_far fun z => h (List.mem_cons_of_mem _ z), List.set_comm _ _ e]
theorem wipe_set {σ : L2.St} {i : Nat} {v : Option V} {vs : List Nat} (h : i ∈ vs) : wipe (σ.set i v) vs = wipe σ vs := by
  induction vs generalizing σ with
  | nil => cases h
  | cons j vs ih =>
    show (wipe (σ.set i v) vs).set j none = (wipe σ vs).set j none
    by_cases hm : i ∈ vs
    · rw [ih hm]
    · have e : i = j := by
        rcases List.mem_cons.mp h with z | z
        · exact z
        · exact absurd z hm
      subst e
      rw [wipe_far hm, List.set_set]
theorem wipe_sub {σ : L2.St} {vs : List Nat} : ∀ {js : List Nat}, (∀ j ∈ js, j ∈ vs) → wipe (wipe σ js) vs = wipe σ vs
  | [], _ => rfl
  | j :: js, h => by
    show wipe ((wipe σ js).set j none) vs = wipe σ vs
    rw [wipe_set (h j List.mem_cons_self), wipe_sub fun i hi => h i (List.mem_cons_of_mem _ hi)]
theorem st_name {i : Nat} : STg K W [i] (gName i) (tgName i) := fun {F0 H0 o ρ σ F H v d k Q} s r hm q =>
  q _ _ ((s.val (ResR.same s.ext r)).put i) (fun vs h => wipe_set (h i (List.mem_singleton.mpr rfl))) hm
theorem sts_nil : STgs K W [] gNil tgsNil := fun {F0 H0 o ρ σ F H v d k Q} s r hm q => by
  obtain ⟨e, hm⟩ := hm
  subst e
  exact ⟨reps0 r, q _ _ s (fun vs h => rfl) hm⟩
theorem sts_cons {is js : List Nat} {g : TG} {gs : TGs} {t : TgM} {ts : TgsM} (h1 : STg K W is g t) (h2 : STgs K W js gs ts) : STgs K W (is ++ js) (gCons g gs) (tgsCons t ts) := fun {F0 H0 o ρ σ F H v d k Q} s r hm q => by
  cases d with
  | nil => exact hm.elim
  | cons d ds =>
    obtain ⟨x, xs, rfl, r1, r2⟩ := r.inv
    refine ⟨x, xs, rfl, h1 s r1 hm fun ρ1 σ1 s1 w1 k1 => ?_⟩
    refine h2 s1 r2 k1 fun ρ2 σ2 s2 w2 k2 => q ρ2 σ2 ?_ (fun vs h => ?_) k2
    · have e : frL (is ++ js) o = frL js (frL is o) := List.foldl_append
      rw [e]
      exact s2
    · rw [w2 vs fun i hi => h i (List.mem_append_right _ hi), w1 vs fun i hi => h i (List.mem_append_left _ hi)]
theorem st_tup {is : List Nat} {n : Nat} {gs : TGs} {ts : TgsM} (h : STgs K W is gs ts) : STg K W is (gTup K n gs) (tgTup n ts) := fun {F0 H0 o ρ σ F H v d k Q} s r hm q => by
  cases d with
  | tup ds =>
    obtain ⟨hl, hm⟩ := hm
    obtain ⟨a, vs, rfl, ha, ra⟩ := Rep.tup.mp r
    exact ⟨a, vs, rfl, st_same s.ext.fh ha, by rw [ra.length]; exact hl, h s ra hm q⟩
  | _ => exact hm.elim
theorem ss_asg {is : List Nat} {g : TG} {tg : TgM} (he : SE K W E o false o1 te e) (hg : STg K W is g tg) (eo : frL is o1 = o2) : SS K W E fr ob o o2 (tAsg te g) (sAsg e tg) := fun _ _ _ _ _ _ _ _ _ s hm z k => by
  subst eo
  refine he s hm (fun v d F' H' s' st q => ?_) fun er o1 F' H' cls dd s' x q => k.ex er o1 _ _ F' H' cls dd s' x q
  exact hg s'.tail s'.head q fun ρ' σ' s2 _ q2 => k.nx _ _ _ _ s2 (z.trans st.ff) q2
theorem ss_par {i j : Nat} (ha : SA K W E o o1 tA aa) (eo : (o1.set i false).set j false = o2) : SS K W E fr ob o o2 (tPar i j tA) (sPar i j aa) := fun _ _ _ _ _ _ _ _ _ s hm z k => by
  subst eo
  refine ha s hm (fun vs ds F' H' s' r st q => ?_) fun er o1 F' H' cls dd s' x q => k.ex er o1 _ _ F' H' cls dd s' x q
  split at q
  · obtain ⟨v, w, rfl, r1, r2⟩ := reps2 r
    exact ⟨v, w, rfl, k.nx _ _ _ _ ((((s'.val (ResR.same s'.ext r1)).put i).val (ResR.same s'.ext r2)).put j) (z.trans st.ff) q⟩
  · exact q.elim

/-! ### what is walked -/
def ItOk (K : PySem.W.Frag) (W : Wd) (J : It) (F1 : Hp) (ds : List D) : Prop := ∀ F H, Ext K W F H F H → Same F1 F → (∀ i d, ds[i]? = some d → J.go i H ∧ ∀ x H', J.yld i H x H' → ∃ F', Ext K W F H F' H' ∧ Rep K W F' d x) ∧ ∀ i, ds.length ≤ i → J.stop i H
variable (K W E) in
def SI (o o' : Ow) (t : TI) (m : Env → M (List D)) : Prop := ∀ ⦃F0 H0 : Hp⦄ ⦃ρ : Env⦄ ⦃σ : L2.St⦄ ⦃F H : Hp⦄ ⦃Qd : List D → Prop⦄ ⦃Ed : Er → Prop⦄ ⦃R : It → Hp → Prop⦄, Sr K W F0 H0 o ρ σ F H → m ρ Qd Ed →
  (∀ J ds F' H', Sr K W F0 H0 o' ρ σ F' H' → ItOk K W J F' ds → Stp W F H F' H' → Qd ds → R J H') →
  (∀ er o1 F' H' cls dd, Sr K W F0 H0 o1 ρ σ F' H' → XR K W F' H' er cls dd → Ed er → E σ cls dd H') → t σ H R
/-- a list, a tuple, a text -/
def iAny (K : PySem.W.Frag) (tl : TE) : TI := fun σ H R => tl σ H fun x H1 => (∃ a, x = .ref a ∧ (∃ xs, SqL K H1 a xs) ∧ R (Itl K a) H1) ∨ (∃ a, x = .ref a ∧ (∃ xs, SqT K H1 a xs) ∧ R (Itt K a) H1) ∨ ∃ l, x = S l ∧ R (Its (mk l)) H1
theorem pi_any {X : Cx} {tg l : Expr} {tl : TE} (K : PySem.W.Frag) (hK : X.K = K) (hl : PE X l tl) : PI X tg l (iAny K tl) := by
  subst hK
  refine ⟨fun ps s σ H R I hw => thn (hl.run ps s σ H _ I hw) fun v t hv => ?_⟩
  obtain ⟨x, H1, J, r1, q⟩ := hv
  rcases q with ⟨a, rfl, ⟨xs, hs⟩, q⟩ | ⟨a, rfl, ⟨xs, hs⟩, q⟩ | ⟨l, rfl, q⟩
  · obtain ⟨its, _, p, _⟩ := J.list hs
    cases r1
    exact wpAny_pyIter_list p.isList (pi_one (tk := t.toks) J _ (turn_list a _) ⟨_, Heap.get?_push_size _ rfl, rfl, rfl⟩ q)
  · obtain ⟨its, _, p, _⟩ := J.tuple hs
    cases r1
    exact wpAny_pyIter_tuple (show t.heap.IsTuple a its.toArray from p) (pi_one (tk := t.toks) J _ (turn_tuple a _) ⟨_, Heap.get?_push_size _ rfl, rfl, rfl⟩ q)
  · obtain ⟨tk, rfl⟩ := r1
    cases ha : (mk l).cps.all (· < 128) with
    | false => exact wpAny_pyIter_wide ha (pi_one (tk := t.toks) J _ (turn_str _ _ tk _ (.inr rfl)) ⟨_, Heap.get?_push_size _ rfl, rfl, rfl⟩ q)
    | true => exact wpAny_pyIter_ascii ha (pi_one (tk := t.toks) J _ (turn_str _ _ tk _ (.inl rfl)) ⟨_, Heap.get?_push_size _ rfl, rfl, rfl⟩ q)
def itemsD : D → M (List D)
  | .lst ds => ret ds
  | .tup ds => ret ds
  | .str l => ret (l.map fun c => .str [c])
  | _ => stuck
def iItems (a : Env → M D) : Env → M (List D) := fun ρ => bnd (a ρ) itemsD
theorem it_lst {p : Addr} {ds : List D} {vs : List V} {F1 : Hp} (e1 : F1 p = some (.lst vs)) (r : Reps K W F1 ds vs) : ItOk K W (Itl K p) F1 ds := fun F H e s => by
  have eH : SqL K H p vs := sq_of (e.fh _ _ (s _ _ e1))
  refine ⟨fun i d ed => ?_, fun i hi => ⟨vs, eH, by rw [r.length]; exact hi⟩⟩
  obtain ⟨v, ev, rv⟩ := r.at ed
  refine ⟨⟨vs, v, eH, ev⟩, fun x H' y => ?_⟩
  obtain ⟨rfl, y2⟩ := y
  have z := y2 vs eH
  rw [ev] at z
  cases z
  exact ⟨F, e, Rep.mono s d rv⟩
theorem it_tup {p : Addr} {ds : List D} {vs : List V} {F1 : Hp} (e1 : SqT K F1 p vs) (r : Reps K W F1 ds vs) : ItOk K W (Itt K p) F1 ds := fun F H e s => by
  have eH : SqT K H p vs := st_same (s.trans e.fh) e1
  refine ⟨fun i d ed => ?_, fun i hi => ⟨vs, eH, by rw [r.length]; exact hi⟩⟩
  obtain ⟨v, ev, rv⟩ := r.at ed
  refine ⟨⟨vs, v, eH, ev⟩, fun x H' y => ?_⟩
  obtain ⟨rfl, y2⟩ := y
  have z := y2 vs eH
  rw [ev] at z
  cases z
  exact ⟨F, e, Rep.mono s d rv⟩
theorem it_str {l : List Nat} {F1 : Hp} : ItOk K W (Its (mk l)) F1 (l.map fun c => .str [c]) := fun F H e s => by
  have w := walk_s (l := l)
  refine ⟨fun i d ed => ?_, fun i hi => ?_⟩
  · rw [List.getElem?_map] at ed
    cases q : l[i]? with
    | none => rw [q] at ed; cases ed
    | some c =>
      rw [q] at ed
      cases ed
      have hi : i < l.length := (List.getElem?_eq_some_iff.mp q).1
      refine ⟨w.goes i H hi trivial, fun x H' y => ?_⟩
      obtain ⟨rfl, c', e1, rfl⟩ := w.yields i H x H' hi trivial y
      rw [q] at e1
      cases e1
      exact ⟨F, e, strR⟩
  · rw [List.length_map] at hi
    show (mk l).cps.size ≤ i
    simpa using hi
theorem si_any (he : SE K W E o false o1 te e) : SI K W E o o1 (iAny K te) (iItems e) := by
  intro F0 H0 ρ σ F H Qd Ed R s hm k x
  refine he s hm (fun v d F1 H1 s1 st1 q => ?_) x
  have ex := s1.ext
  cases d with
  | lst ds =>
    obtain ⟨a, vs, rfl, ha, ra⟩ := Rep.lst.mp s1.head
    exact .inl ⟨a, rfl, ⟨vs, sq_of (ex.fh _ _ ha)⟩, k _ _ F1 H1 s1.tail (it_lst ha ra) st1 q⟩
  | tup ds =>
    obtain ⟨a, vs, rfl, ha, ra⟩ := Rep.tup.mp s1.head
    exact .inr (.inl ⟨a, rfl, ⟨vs, st_same ex.fh ha⟩, k _ _ F1 H1 s1.tail (it_tup ha ra) st1 q⟩)
  | str l =>
    cases Rep.str.mp s1.head
    exact .inr (.inr ⟨l, rfl, k _ _ F1 H1 s1.tail it_str st1 q⟩)
  | _ => exact q.elim
def rngD (i : Int) (n : Nat) : List D := (List.range n).map fun k => .int (i + (k : Nat))
def smallR (i : Int) : Prop := -(2 ^ 62) ≤ i ∧ i < 2 ^ 62
def dRng1 : List D → M (List D)
  | [.int j] => grd (smallR j) (ret (rngD 0 j.toNat))
  | _ => stuck
def dRng2 : List D → M (List D)
  | [.int i, .int j] => grd (smallR i ∧ smallR j) (ret (rngD i (j - i).toNat))
  | _ => stuck
def iFn (f : List D → M (List D)) (aa : Env → M (List D)) : Env → M (List D) := fun ρ => bnd (aa ρ) f
theorem it_rng {i : Int} {n : Nat} {F1 : Hp} : ItOk K W (Itr i n) F1 (rngD i n) := fun F H e s => by
  unfold rngD
  refine ⟨fun k d ed => ?_, fun k hk => by rw [List.length_map, List.length_range] at hk; exact hk⟩
  rw [List.getElem?_map] at ed
  by_cases hk : k < n
  · rw [List.getElem?_range hk] at ed
    cases ed
    refine ⟨hk, fun x H' y => ?_⟩
    obtain ⟨rfl, rfl⟩ := y
    exact ⟨F, e, intR⟩
  · rw [List.getElem?_eq_none (by rw [List.length_range]; omega)] at ed
    cases ed
theorem si_rng1 (ha : SA K W E o o1 tA aa) : SI K W E o o1 (iRng1 tA) (iFn dRng1 aa) := by
  intro F0 H0 ρ σ F H Qd Ed R s hm k x
  refine ha s hm (fun vs ds F1 H1 s1 r1 st1 q => ?_) x
  unfold dRng1 at q
  split at q
  · obtain ⟨q1, q⟩ := q
    obtain ⟨v, rfl, r⟩ := reps1 r1
    cases Rep.int.mp r
    exact ⟨_, rfl, q1.1, q1.2, k _ _ F1 H1 s1 it_rng st1 q⟩
  · exact q.elim
theorem si_rng2 (ha : SA K W E o o1 tA aa) : SI K W E o o1 (iRng2 tA) (iFn dRng2 aa) := by
  intro F0 H0 ρ σ F H Qd Ed R s hm k x
  refine ha s hm (fun vs ds F1 H1 s1 r1 st1 q => ?_) x
  unfold dRng2 at q
  split at q
  · obtain ⟨⟨q1, q2⟩, q⟩ := q
    obtain ⟨v, u, rfl, r, r'⟩ := reps2 r1
    cases Rep.int.mp r
    cases Rep.int.mp r'
    exact ⟨_, _, rfl, ⟨q1.1, q1.2, q2.1, q2.2⟩, k _ _ F1 H1 s1 it_rng st1 q⟩
  · exact q.elim

/-! ### for, while -/
theorem ss_for {is : List Nat} {oL oB : Ow} {wi : TI} {g : TG} {tg : TgM} {tb : TS} {it : Env → M (List D)} {body : MS} (hi : SI K W E o oL wi it) (hg : STg K W is g tg) (eo : frL is oL = oB) (hb : SS K W E fr oL oB oL tb body) : SS K W E fr ob o oL (tFor wi g tb) (sFor it tg body) := by
  intro F0 H0 Fs ρ σ F H De Dr s hm z k
  refine hi s hm (fun J ds F1 H1 s1 iok st1 q => ?_) fun er o1 F' H' cls dd s' x q => k.ex er o1 _ _ F' H' cls dd s' x q
  refine ⟨fun i m σ' H' => m = ds.length - i ∧ ∃ ρ' F', Sr K W F0 H0 oL ρ' σ' F' H' ∧ Same F1 F' ∧ loop tg body De (ds.drop i) ρ', ⟨_, rfl, ρ, F1, s1, Same.refl _, q⟩, ?_⟩
  rintro i m σ2 H2 ⟨rfl, ρ2, F2, s2, sm2, q2⟩
  obtain ⟨ig, is_⟩ := iok F2 H2 s2.ext.refl sm2
  by_cases hlt : i < ds.length
  · refine .inr ?_
    obtain ⟨g1, g2⟩ := ig i ds[i] (List.getElem?_eq_getElem hlt)
    refine ⟨g1, fun σ' H' => ∃ ρ' F', Sr K W F0 H0 oL ρ' σ' F' H' ∧ Same F1 F' ∧ loop tg body De (ds.drop (i + 1)) ρ', fun σ' H' z => ⟨_, by omega, rfl, z⟩, fun x H3 y => ?_⟩
    obtain ⟨F3, e3, r3⟩ := g2 x H3 y
    rw [List.drop_eq_getElem_cons hlt] at q2
    refine hg (s2.step e3) r3 q2 fun ρ4 σ4 s4 _ q4 => ?_
    rw [eo] at s4
    exact hb (Fs := F1) s4 q4 (sm2.trans e3.ff) ⟨fun ρ5 σ5 F5 H5 s5 z5 q5 => ⟨ρ5, F5, s5, z5, q5⟩, k.rt, fun ρ5 σ5 F5 H5 s5 z5 q5 => k.nx _ _ _ _ s5 (z.trans (st1.ff.trans z5)) q5, fun ρ5 σ5 F5 H5 s5 z5 q5 => ⟨ρ5, F5, s5, z5, q5⟩, k.ex⟩
  · refine .inl ⟨is_ i (by omega), ?_⟩
    rw [List.drop_of_length_le (by omega)] at q2
    exact k.nx _ _ _ _ s2 (z.trans (st1.ff.trans sm2)) q2
theorem ss_while {oL : Ow} {tc : TT} {tb : TS} {body : MS} (hc : ST K W E oL oL tc c) (hb : SS K W E fr oL oL oL tb body) : SS K W E fr ob oL oL (tWhile tc tb) (sWhile c body) := by
  intro F0 H0 Fs ρ σ F H De Dr s hm z k
  obtain ⟨n, hm⟩ := hm
  refine ⟨fun m σ' H' => ∃ ρ' F', Sr K W F0 H0 oL ρ' σ' F' H' ∧ Same Fs F' ∧ whN c body De m ρ', ⟨n, ρ, F, s, z, hm⟩, ?_⟩
  rintro m σ2 H2 ⟨ρ2, F2, s2, z2, q2⟩
  cases m with
  | zero => exact q2.elim
  | succ m =>
    refine hc s2 q2 (fun x F3 H3 s3 st3 q3 => ?_) fun er o1 F' H' cls dd s' x q => k.ex er o1 _ _ F' H' cls dd s' x q
    cases x with
    | false => exact iteF (k.nx _ _ _ _ s3 (z2.trans st3.ff) q3)
    | true =>
      refine iteT ⟨fun σ' H' => ∃ ρ' F', Sr K W F0 H0 oL ρ' σ' F' H' ∧ Same Fs F' ∧ whN c body De m ρ', fun σ' H' w => ⟨m, by omega, w⟩, ?_⟩
      exact hb (Fs := Fs) s3 q3 (z2.trans st3.ff) ⟨fun ρ5 σ5 F5 H5 s5 z5 q5 => ⟨ρ5, F5, s5, z5, q5⟩, k.rt, k.nx, fun ρ5 σ5 F5 H5 s5 z5 q5 => ⟨ρ5, F5, s5, z5, q5⟩, k.ex⟩

/-! ### comprehensions -/
def wipeD (ρ : Env) : List Nat → Env
  | [] => ρ
  | i :: is => (wipeD ρ is).set i none
def lcGo (t : TgM) (c : Env → M Bool) (e : Env → M D) (ρ : Env) : List D → List D → M (List D)
  | [], acc => ret acc
  | x :: xs, acc => fun Q E => t x ρ fun ρ' => c ρ' (fun b => if b = true then e ρ' (fun d => lcGo t c e ρ xs (acc ++ [d]) Q E) E else lcGo t c e ρ xs acc Q E) E
def eLc (vs : List Nat) (it : Env → M (List D)) (t : TgM) (c : Env → M Bool) (e : Env → M D) : Env → M D := fun ρ => bnd (it ρ) fun xs => grd (xs.length ≤ 1000000) (bnd (fun Q _ => lcGo t c e (wipeD ρ vs) xs [] Q fun _ => False) fun ds => ret (.lst ds))
def cYes : Env → M Bool := fun _ => ret true
theorem SlR.wipe : ∀ (is : List Nat) {ws : List (Option Addr)} {σ : L2.St} {ρ : Env}, SlR K W H0 F H ws σ ρ → (∀ w ∈ ws, w = none) → SlR K W H0 F H ws (L2.wipe σ is) (wipeD ρ is)
  | [], ws, σ, ρ, h, _ => h
  | i :: is, ws, σ, ρ, h, hn => by
    have ih := SlR.wipe is h hn
    show SlR K W H0 F H ws ((L2.wipe σ is).set i none) ((wipeD ρ is).set i none)
    have p := SlR.put (w := none) (v := none) (d := none) trivial i ih
    have e : ws.set i none = ws := by
      by_cases hi : i < ws.length
      · exact set_at (by rw [List.getElem?_eq_getElem hi, hn _ (List.getElem_mem hi)])
      · exact List.set_eq_of_length_le (by omega)
    rw [e] at p
    exact p
theorem allF_none {ws : List (Option Addr)} (h : ws.map Option.isSome = o) (ho : o = o.map fun _ => false) : ∀ w ∈ ws, w = none := fun w hw => by
  have : w.isSome ∈ o := by rw [← h]; exact List.mem_map_of_mem hw
  rw [ho] at this
  obtain ⟨_, _, e⟩ := List.mem_map.mp this
  cases w with
  | none => rfl
  | some _ => cases e
theorem SlR.base {H0' : Hp} : ∀ {ws : List (Option Addr)} {σ : L2.St} {ρ : Env}, SlR K W H0 F H ws σ ρ → (∀ w ∈ ws, w = none) → SlR K W H0' F H ws σ ρ
  | [], [], [], _, _ => trivial
  | w :: ws, v :: σ, d :: ρ, h, hn => by
    have e : w = none := hn w List.mem_cons_self
    subst e
    refine ⟨?_, SlR.base h.2 fun w hw => hn w (List.mem_cons_of_mem _ hw)⟩
    obtain ⟨g, _⟩ := h
    cases d with
    | none => trivial
    | some d => cases v with
      | none => exact g.elim
      | some v => exact g
  | [], [], _ :: _, h, _ => h.elim
  | [], _ :: _, _, h, _ => h.elim
  | _ :: _, [], _, h, _ => h.elim
  | _ :: _, _ :: _, [], h, _ => h.elim
/-- all is frozen: another base -/
theorem Sr.rebase (h : Sr K W F0 H0 o ρ σ F H) (ho : o = o.map fun _ => false) : Sr K W F H o ρ σ F H := by
  obtain ⟨ws, h1, h2, h3⟩ := h.sl
  refine ⟨h.ext.refl, ws, h1, h2, ?_⟩
  exact SlR.base h3 (allF_none h1 ho)
theorem Sr.wipe (h : Sr K W F0 H0 o ρ σ F H) (ho : o = o.map fun _ => false) (is : List Nat) : Sr K W F0 H0 o (wipeD ρ is) (L2.wipe σ is) F H := by
  obtain ⟨ws, h1, h2, h3⟩ := h.sl
  exact ⟨h.ext, ws, h1, h2, SlR.wipe is h3 (allF_none h1 ho)⟩
theorem frL_all {is : List Nat} (ho : o = o.map fun _ => false) : frL is o = o := by
  have key : ∀ (is : List Nat) (o : Ow), (∀ b ∈ o, b = false) → frL is o = o := by
    intro is
    induction is with
    | nil => intro o _; rfl
    | cons i is ih =>
      intro o h
      show frL is (o.set i false) = o
      have e : o.set i false = o := by
        by_cases hi : i < o.length
        · exact set_at (by rw [List.getElem?_eq_getElem hi, h _ (List.getElem_mem hi)])
        · exact List.set_eq_of_length_le (by omega)
      rw [e]
      exact ih o h
  refine key is o fun b hb => ?_
  rw [ho] at hb
  obtain ⟨_, _, e⟩ := List.mem_map.mp hb
  exact e.symm
theorem st_yes : ST K W E o o tYes cYes := by
  intro F0 H0 ρ σ F H Qd Ed Q s hm k x
  exact k true F H s Stp.refl hm
theorem se_lc {is vs : List Nat} {wi : TI} {g : TG} {tg : TgM} {it : Env → M (List D)} (ho : o = o.map fun _ => false) (hi : SI K W E o o wi it) (hg : STg K W is g tg) (hv : ∀ i ∈ is, i ∈ vs) (hc : ST K W (fun _ => E0) o o tt c) (he : SE K W (fun _ => E0) o false o te e) :
    SE K W E o true o (tLc wi g tt te vs) (eLc vs it tg c e) := by
  intro F0 H0 ρ σ F H Qd Ed Q s hm k x
  refine hi s hm (fun J ds F1 H1 s1 iok st1 q => ?_) x
  obtain ⟨hlen, q⟩ := q
  intro Dd hD
  have hDw : ¬ InW W Dd := notNew s1.ext.j hD
  refine ⟨fun i m H' => m = ds.length - i ∧ i ≤ ds.length ∧ ∃ F' accV accD, Ext K W F1 H1 F' H' ∧ H' Dd = some (.lst accV) ∧ F' Dd = none ∧ Reps K W F' accD accV ∧ accD.length ≤ i ∧
    lcGo tg c e (wipeD ρ vs) (ds.drop i) accD (fun ds => Qd (.lst ds)) (fun _ => False), ⟨_, rfl, Nat.zero_le _, F1, [], [], s1.ext.newO hD, upd_same, s1.ext.fh.free hD, Reps.nil, Nat.le_refl _, q⟩, ?_⟩
  rintro i m H2 ⟨rfl, hil, F2, accV, accD, e2, eD, fD, rA, hlA, q2⟩
  obtain ⟨ig, is_⟩ := iok F2 H2 e2.refl e2.ff
  by_cases hlt : i < ds.length
  · refine .inr ?_
    obtain ⟨g1, g2⟩ := ig i ds[i] (List.getElem?_eq_getElem hlt)
    refine ⟨g1, fun H' => ∃ F' accV accD, Ext K W F1 H1 F' H' ∧ H' Dd = some (.lst accV) ∧ F' Dd = none ∧ Reps K W F' accD accV ∧ accD.length ≤ i + 1 ∧
      lcGo tg c e (wipeD ρ vs) (ds.drop (i + 1)) accD (fun ds => Qd (.lst ds)) (fun _ => False), fun H' w => ⟨_, by omega, rfl, by omega, w⟩, fun y H3 yy => ?_⟩
    obtain ⟨F3, e3, r3⟩ := g2 y H3 yy
    rw [List.drop_eq_getElem_cons hlt] at q2
    have e13 := e2.trans e3
    have s3 : Sr K W F3 H3 o (wipeD ρ vs) (L2.wipe σ vs) F3 H3 := ((s1.step e13).wipe ho vs).rebase ho
    refine hg s3 r3 q2 fun ρ4 σ4 s4 w4 q4 => ?_
    rw [frL_all ho] at s4
    refine ⟨by rw [w4 vs hv, wipe_sub fun _ h => h], ?_⟩
    refine hc s4 q4 (fun b F5 H5 s5 st5 q5 => ?_) fun er o1 F' H' cls dd s' x q => q.elim
    have hD3 : H3 Dd = some (.lst accV) := e3.hh _ _ hDw eD
    have fD3 : F3 Dd = none := e3.nf Dd (by rw [eD]; exact fun z => nomatch z) fD
    have hD5 : H5 Dd = some (.lst accV) := st5.hh _ _ hDw hD3
    have fD5 : F5 Dd = none := s5.ext.nf Dd (by rw [hD3]; exact fun z => nomatch z) fD3
    cases b with
    | false => exact iteF ⟨F5, accV, accD, e13.trans s5.ext, hD5, fD5, Reps.mono (e3.ff.trans st5.ff) accD rA, by omega, q5⟩
    | true =>
      refine iteT (he s5 q5 (fun v d F6 H6 s6 st6 q6 => ?_) fun er o1 F' H' cls dd s' x q => q.elim)
      have hD6 : H6 Dd = some (.lst accV) := st6.hh _ _ hDw hD5
      have fD6 : F6 Dd = none := s6.ext.nf Dd (by rw [hD3]; exact fun z => nomatch z) fD3
      have rl := rA.length
      refine ⟨accV, hD6, by have := sizeLine_eq; omega, F6, accV ++ [v], accD ++ [d], ?_, upd_same, fD6, ?_, by rw [List.length_append]; exact Nat.succ_le_succ hlA, q6⟩
      · exact (e13.trans s6.ext).write fD6 hD hDw
      · exact (Reps.mono (e3.ff.trans (st5.ff.trans st6.ff)) accD rA).app (Reps.cons s6.head Reps.nil)
  · refine .inl ⟨is_ i (by omega), ?_⟩
    rw [List.drop_of_length_le (by omega)] at q2
    have rr : ResR K W true F1 H1 F2 H2 (.ref Dd) (.lst accD) := ⟨e2, Dd, accV, accD, rfl, rfl, hD, fD, eD, rA⟩
    exact k _ _ F2 H2 (s1.val rr) (st1.trans e2.stp) q2
end
end M

/-! M9: defs, errors raised and caught, texts by parts, tables of the top. -/
namespace M
open PySem PySem.Spec PyProof.Rows L2 TL G

section
variable {K : PySem.W.Frag} {W : Wd} {E : L2.St → XK} {o o1 o2 o' ob : Ow} {te tk : TE} {tt : TT} {tA : TA} {a b : MS} {e ek : Env → M D} {c : Env → M Bool} {aa : Env → M (List D)} {fr : Bool} {t u : TS} {F0 H0 F H : Hp} {ρ : Env} {σ : L2.St}

/-! ### a def's body -/
def env0 (ds : List D) (k : Nat) : Env := ds.map some ++ List.replicate k none
/-- a def that raises; one that does not; one that hands back a list of its own -/
def mFnX (k : Nat) (b : MS) : List D → M D := fun ds Q E => b (env0 ds k) ⟨fun _ => Q .non, Q, fun _ => False, fun _ => False, fun er _ => E er⟩
def mFnN (k : Nat) (b : MS) : List D → M D := fun ds Q _ => b (env0 ds k) ⟨fun _ => Q .non, Q, fun _ => False, fun _ => False, fun _ _ => False⟩
def mFnXO (k : Nat) (b : MS) : List D → M D := fun ds Q E => b (env0 ds k) ⟨fun _ => False, Q, fun _ => False, fun _ => False, fun er _ => E er⟩
def mFnNO (k : Nat) (b : MS) : List D → M D := fun ds Q _ => b (env0 ds k) ⟨fun _ => False, Q, fun _ => False, fun _ => False, fun _ _ => False⟩
theorem sr_start (n : Nat) : ∀ {ds : List D} {vs : List V}, Ext K W F H F H → Reps K W F ds vs → Sr K W F H (List.replicate (ds.length + n) false) (env0 ds n) (vs.map some ++ List.replicate n none) F H := by
  have rep : ∀ n : Nat, SlR K W H F H (List.replicate n none) (List.replicate n none) (List.replicate n none) := by
    intro n
    induction n with
    | zero => trivial
    | succ n ih => exact ⟨trivial, ih⟩
  have key : ∀ {ds : List D} {vs : List V}, Reps K W F ds vs → SlR K W H F H (List.replicate (ds.length + n) none) (vs.map some ++ List.replicate n none) (env0 ds n) := by
    intro ds
    induction ds with
    | nil =>
      intro vs r
      rw [reps0 r]
      simpa [env0] using rep n
    | cons d ds ih =>
      intro vs r
      obtain ⟨v, vs, rfl, r1, r2⟩ := r.inv
      rw [List.length_cons, Nat.succ_add, List.replicate_succ]
      exact ⟨r1, ih r2⟩
  intro ds vs e r
  refine ⟨e, List.replicate (ds.length + n) none, by rw [List.map_replicate]; rfl, ?_, key r⟩
  have z : (List.replicate (ds.length + n) (none : Option Addr)).filterMap id = [] := by
    generalize ds.length + n = m
    induction m with
    | zero => rfl
    | succ m ih => rw [List.replicate_succ]; exact ih
  rw [z]
  exact List.nodup_nil
theorem start_eq {N : List Str} {vs : List V} {k : Nat} (h : N.length = vs.length + k) : L2.start N vs = vs.map some ++ List.replicate k none := by
  unfold L2.start
  rw [h, Nat.add_sub_cancel_left]
variable {N : List Str} {n k : Nat} {vs : List V} {Q : VK} {E1 : XK}
theorem fnX (h : ∀ W, W.xc = none → SS K W (fun _ => E1) false ob (List.replicate (n + k) false) o' t a) (hN : N.length = n + k) (hs : SpM K false n (mFnX k a) vs H Q E1) : t { nx := fun _ H' => Q .non H', rt := Q } (L2.start N vs) H := by
  obtain ⟨W, ds, F, Qd, Ed, hx, hl, e, r, hm, q, x⟩ := hs
  subst hl
  rw [start_eq (k := k) (by rw [r.length, hN])]
  exact h W hx (sr_start k e r) hm (Same.refl _) ⟨fun ρ σ F' H' s _ z => q _ _ F' H' ⟨s.ext, Rep.non.mpr rfl⟩ z, fun o1 ρ σ F' H' v d s z => q _ _ F' H' ⟨s.ext, s.head⟩ z, fun _ _ _ _ _ _ z => z.elim, fun _ _ _ _ _ _ z => z.elim, fun er o1 ρ σ F' H' cls dd s xr z => x er F' H' cls dd s.ext xr z⟩
theorem fnN (h : ∀ W, W.xc = none → SS K W (fun _ => E0) false ob (List.replicate (n + k) false) o' t a) (hN : N.length = n + k) (hs : SpM K false n (mFnN k a) vs H Q E1) : t { nx := fun _ H' => Q .non H', rt := Q } (L2.start N vs) H := by
  obtain ⟨W, ds, F, Qd, Ed, hx, hl, e, r, hm, q, x⟩ := hs
  subst hl
  rw [start_eq (k := k) (by rw [r.length, hN])]
  exact h W hx (sr_start k e r) hm (Same.refl _) ⟨fun ρ σ F' H' s _ z => q _ _ F' H' ⟨s.ext, Rep.non.mpr rfl⟩ z, fun o1 ρ σ F' H' v d s z => q _ _ F' H' ⟨s.ext, s.head⟩ z, fun _ _ _ _ _ _ z => z.elim, fun _ _ _ _ _ _ z => z.elim, fun er o1 ρ σ F' H' cls dd s xr z => z.elim⟩
theorem own_res {o1 : Ow} {d : D} {v : V} {F' H' : Hp} (s : Sr K W F H (true :: o1) (some d :: ρ) (some v :: σ) F' H') : ResR K W true F H F' H' v d := by
  obtain ⟨p, vs, ds, e1, e2, e3, e4, e5, e6, e7⟩ := s.headT
  exact ⟨s.ext, p, vs, ds, e1, e2, e4, e3, e6, e7⟩
theorem fnXO (h : ∀ W, W.xc = none → SS K W (fun _ => E1) true ob (List.replicate (n + k) false) o' t a) (hN : N.length = n + k) (hs : SpM K true n (mFnXO k a) vs H Q E1) : t { nx := fun _ H' => Q .non H', rt := Q } (L2.start N vs) H := by
  obtain ⟨W, ds, F, Qd, Ed, hx, hl, e, r, hm, q, x⟩ := hs
  subst hl
  rw [start_eq (k := k) (by rw [r.length, hN])]
  exact h W hx (sr_start k e r) hm (Same.refl _) ⟨fun _ _ _ _ _ _ z => z.elim, fun o1 ρ σ F' H' v d s z => q _ _ F' H' (own_res s) z, fun _ _ _ _ _ _ z => z.elim, fun _ _ _ _ _ _ z => z.elim, fun er o1 ρ σ F' H' cls dd s xr z => x er F' H' cls dd s.ext xr z⟩
theorem fnNO (h : ∀ W, W.xc = none → SS K W (fun _ => E0) true ob (List.replicate (n + k) false) o' t a) (hN : N.length = n + k) (hs : SpM K true n (mFnNO k a) vs H Q E1) : t { nx := fun _ H' => Q .non H', rt := Q } (L2.start N vs) H := by
  obtain ⟨W, ds, F, Qd, Ed, hx, hl, e, r, hm, q, x⟩ := hs
  subst hl
  rw [start_eq (k := k) (by rw [r.length, hN])]
  exact h W hx (sr_start k e r) hm (Same.refl _) ⟨fun _ _ _ _ _ _ z => z.elim, fun o1 ρ σ F' H' v d s z => q _ _ F' H' (own_res s) z, fun _ _ _ _ _ _ z => z.elim, fun _ _ _ _ _ _ z => z.elim, fun er o1 ρ σ F' H' cls dd s xr z => z.elim⟩

/-! ### raise -/
def sRaise0 (c : String) : MS := fun ρ D => D.ex (.e0 c) ρ
theorem ss_raise0 {cn : String} : SS K W E fr ob o o2 (fun _ σ H => (fun _ H Q => Q (.ref (He.ga K (Str.ofString cn))) none H) σ H fun cls d H' => E σ cls d H') (sRaise0 cn) := fun _ _ _ _ _ _ _ _ _ s hm _ k => k.ex (.e0 cn) _ _ _ _ _ _ _ s ⟨rfl, rfl⟩ hm
/-- an __init__ that keeps one value -/
def spInitM (K : PySem.W.Frag) (f : Str) (g : D → M D) : Sp := fun vs H Q _ => ∃ (a C : Addr) (v : V) (W : Wd) (d : D) (F : Hp) (Qd : D → Prop), W.xc = none ∧ vs = [.ref a, v] ∧ OexC K C ∧ PySem.W.findIn K (.ref C) f = some none ∧ H a = some (exo a C none) ∧ F a = none ∧ ¬ InW W a ∧ Ext K W F H F H ∧ Rep K W F d v ∧
  g d Qd (fun _ => False) ∧ ∀ d' v' F1 H1 dx, Qd d' → Ext K W F H F1 H1 → Rep K W F1 d' v' → H1 dx = none → dx ≠ a → Q .non (upd (upd H1 dx (exd dx [(f, v')])) a (exo a C (some dx)))
theorem fnInit {f : Str} {Q0 : VK} (h : ∀ W, W.xc = none → SE K W (fun _ => E0) [false, false] false o' te e) (hN : N.length = 2) (hs : spInitM K f (fun d => e [none, some d]) vs H Q0 E1) : tSeq (tOst K f (tVar 0) te) tNext { nx := fun _ H' => Q0 .non H', rt := Q0 } (L2.start N vs) H ∧ tOst K f (tVar 0) te { nx := fun _ H' => Q0 .non H', rt := Q0 } (L2.start N vs) H := by
  suffices z : tOst K f (tVar 0) te { nx := fun _ H' => Q0 .non H', rt := Q0 } (L2.start N vs) H from ⟨z, z⟩
  obtain ⟨a, C, v, W, d, F, Qd, hx, rfl, ho, hf, hH, hF, hW, ex, r, hm, q⟩ := hs
  rw [start_eq (k := 0) (by rw [hN]; rfl)]
  have s : Sr K W F H [false, false] [none, some d] [some (.ref a), some v] F H := ⟨ex, [none, none], rfl, by simp, trivial, r, trivial⟩
  refine h W hx s hm (fun v' d' F1 H1 s1 st1 q1 => ?_) fun _ _ _ _ _ _ _ _ z => z.elim
  have ha1 := st1.hh a _ hW hH
  exact ⟨.ref a, rfl, a, C, rfl, ho, hf, .inl ⟨ha1, fun dx h1 h2 => q d' v' F1 H1 dx q1 s1.ext s1.head h1 h2⟩⟩
def sRaise1 (cn f : String) (g : D → M D) (aa : Env → M (List D)) : MS := fun ρ D => aa ρ (fun ds => match ds with
  | [d] => g d (fun d' => D.ex (.e1 cn f d') ρ) fun _ => False
  | _ => False) fun er => D.ex er ρ
theorem ss_raise1 (hx : W.xc = none) {cn f : String} {g : D → M D} (ho : OexC K (He.ga K (Str.ofString cn))) (hf : PySem.W.findIn K (.ref (He.ga K (Str.ofString cn))) (Str.ofString f) = some none) (ha : SA K W E o o1 tA aa) :
    SS K W E fr ob o o2 (fun _ σ H => tMkO (He.ga K (Str.ofString cn)) (spInitM K (Str.ofString f) g) [] tA σ H fun cls d H' => E σ cls d H') (sRaise1 cn f g aa) := by
  intro F0 H0 Fs ρ σ F H De Dr s hm z k
  refine ha s hm (fun vs ds F1 H1 s1 r st q => ?_) fun er o1 F' H' cls dd s' x q => k.ex er o1 _ _ F' H' cls dd s' x q
  split at q
  · rename_i d
    obtain ⟨v, rfl, r1⟩ := reps1 r
    refine ⟨by show 1 ≤ 1000; decide, fun a hn => ?_⟩
    have hFa : F1 a = none := s1.ext.fh.free hn
    have hWa : ¬ InW W a := notNew s1.ext.j hn
    have ex1 : Ext K W F1 H1 F1 (upd H1 a (exo a (He.ga K (Str.ofString cn)) none)) := s1.ext.newO hn
    refine ⟨a, _, v, W, d, F1, _, hx, rfl, ho, hf, upd_same, hFa, hWa, ex1.refl, r1, q, fun d' v' F2 H2 dx hq ex2 r2 hdx hne => ?_⟩
    have hFa2 : F2 a = none := ex2.nf a (by rw [upd_same]; exact fun z => nomatch z) hFa
    have hFd2 : F2 dx = none := ex2.fh.free hdx
    have hH2a : H2 a = some (exo a (He.ga K (Str.ofString cn)) none) := ex2.hh a _ hWa upd_same
    have hWd : ¬ InW W dx := notNew ex2.j hdx
    have hH1d : H1 dx = none := by
      cases e : H1 dx with
      | none => rfl
      | some u =>
        have y := ex2.hh dx u hWd (by rw [upd_ne hne]; exact e)
        rw [hdx] at y
        cases y
    refine ⟨rfl, dx, [(Str.ofString f, v')], upd_same, by rw [upd_ne hne, upd_same], hH1d, ?_⟩
    have e12 := ex1.trans ex2
    have key : ∀ b, b ≠ a → b ≠ dx → upd (L2.del (upd (upd H2 dx (exd dx [(Str.ofString f, v')])) a (exo a (He.ga K (Str.ofString cn)) (some dx))) a) dx (.xd [(Str.ofString f, v')]) b = H2 b := fun b h1 h2 => by
      rw [upd_ne h2, del_ne h1, upd_ne h1, upd_ne h2]
    have ex3 : Ext K W F1 H1 (upd F2 dx (.xd [(Str.ofString f, v')])) (upd (L2.del (upd (upd H2 dx (exd dx [(Str.ofString f, v')])) a (exo a (He.ga K (Str.ofString cn)) (some dx))) a) dx (.xd [(Str.ofString f, v')])) := by
      refine ⟨e12.ff.trans (upd_of hFd2), fun b u eb => ?_, fun b u nb eb => ?_, fun b n1 n2 => ?_, e12.j.of fun b hb => ?_, fun b hb => ?_⟩
      · by_cases h2 : b = dx
        · subst h2
          rw [upd_same] at eb ⊢
          exact eb
        · rw [upd_ne h2] at eb
          have h1 : b ≠ a := fun z => by rw [z, hFa2] at eb; cases eb
          rw [key b h1 h2]
          exact e12.fh b u eb
      · rw [key b (ne_of_none eb hn) (ne_of_none eb hH1d)]
        exact e12.hh b u nb eb
      · rw [upd_ne (fun z => n1 (by rw [z]; exact hH1d))]
        exact e12.nf b n1 n2
      · exact key b (fun z => hWa (by rw [← z]; exact hb)) (fun z => hWd (by rw [← z]; exact hb))
      · rw [upd_ne (fun z => hWd (by rw [← z]; exact hb))]
        exact e12.fw b hb
    exact k.ex (.e1 cn f d') _ _ _ _ _ _ _ (s1.step ex3) ⟨rfl, dx, v', rfl, upd_same, Rep.mono (upd_of hFd2) d' r2⟩ hq
  · exact q.elim

/-! ### x += e, ints -/
def sAug (f : D → D → M D) (i : Nat) (e : Env → M D) : MS := fun ρ D => match ρ[i]? with
  | some (some x) => e ρ (fun y => f x y (fun z => D.nx (ρ.set i (some z))) fun er => D.ex er ρ) fun er => D.ex er ρ
  | _ => False
theorem ss_augI {i : Nat} {g : Int → Int → Int} {f : D → D → M D} (h0 : o[i]? = some false) (he : SE K W E o false o1 te e) (hf : ∀ x y Q Ed, f x y Q Ed → ∃ m n, x = .int m ∧ y = .int n ∧ Q (.int (g m n))) (eo : o1.set i false = o2) : SS K W E fr ob o o2 (tAug i te (ipI g)) (sAug f i e) := by
  intro F0 H0 Fs ρ σ F H De Dr s hm z k
  unfold sAug at hm
  split at hm
  · rename_i x ex
    obtain ⟨v, ev, rv⟩ := s.at h0 ex
    refine ⟨v, ev, he s hm (fun y dy F1 H1 s1 st1 q => ?_) fun er o1 F' H' cls dd s' x q => k.ex er o1 _ _ F' H' cls dd s' x q⟩
    obtain ⟨m, n, rfl, rfl, q2⟩ := hf _ _ _ _ q
    cases Rep.int.mp rv
    cases Rep.int.mp s1.head
    subst eo
    exact ⟨m, n, rfl, rfl, k.nx _ _ _ _ ((s1.tail.val (ResR.same s1.ext intR)).put i) (z.trans st1.ff) q2⟩
  · exact hm.elim
def dAddI : D → D → M D
  | .int i, .int j => ret (.int (i + j))
  | _, _ => stuck
def dSubI : D → D → M D
  | .int i, .int j => ret (.int (i - j))
  | _, _ => stuck
theorem addI_ok : ∀ x y Q Ed, dAddI x y Q Ed → ∃ m n, x = .int m ∧ y = .int n ∧ Q (.int (m + n)) := fun x y Q Ed h => by
  unfold dAddI at h
  split at h
  · exact ⟨_, _, rfl, rfl, h⟩
  · exact h.elim
theorem subI_ok : ∀ x y Q Ed, dSubI x y Q Ed → ∃ m n, x = .int m ∧ y = .int n ∧ Q (.int (m - n)) := fun x y Q Ed h => by
  unfold dSubI at h
  split at h
  · exact ⟨_, _, rfl, rfl, h⟩
  · exact h.elim

/-! ### texts by parts -/
def fmtD : D → M (List Nat)
  | .str l => grd (l.length ≤ 1000000) (ret l)
  | .int i => grd (i.natAbs.log2 < 1920) (ret (decI i))
  | _ => stuck
def txtD : D → M (List Nat)
  | .str l => ret l
  | _ => stuck
def jsNil : List Nat → Env → M D := fun acc _ => ret (.str acc)
def jsCons (f : D → M (List Nat)) (a : Env → M D) (r : List Nat → Env → M D) : List Nat → Env → M D := fun acc ρ => bnd (a ρ) fun d => bnd (f d) fun l => grd (acc.length + l.length ≤ 1000000) (r (acc ++ l) ρ)
def SJ (K : PySem.W.Frag) (W : Wd) (E : L2.St → XK) (o o' : Ow) (ts : List TE) (m : List Nat → Env → M D) : Prop := ∀ ⦃F0 H0 : Hp⦄ ⦃ρ : Env⦄ ⦃σ : L2.St⦄ ⦃F H : Hp⦄ ⦃Qd : D → Prop⦄ ⦃Ed : Er → Prop⦄ ⦃acc : List Nat⦄ ⦃Q : Str → Hp → Prop⦄, Sr K W F0 H0 o ρ σ F H → m acc ρ Qd Ed →
  (∀ l F' H', Sr K W F0 H0 o' ρ σ F' H' → Stp W F H F' H' → Qd (.str l) → Q (mk l) H') →
  (∀ er o1 F' H' cls dd, Sr K W F0 H0 o1 ρ σ F' H' → XR K W F' H' er cls dd → Ed er → E σ cls dd H') → tJs ts (mk acc) σ H Q
theorem sj_nil : SJ K W E o o [] jsNil := fun _ _ _ _ _ _ _ _ _ _ s hm k x => k _ _ _ s Stp.refl hm
theorem sj_txt {ts : List TE} {r : List Nat → Env → M D} (ha : SE K W E o false o1 te e) (hr : SJ K W E o1 o2 ts r) : SJ K W E o o2 (te :: ts) (jsCons txtD e r) := by
  intro F0 H0 ρ σ F H Qd Ed acc Q s hm k x
  refine ha s hm (fun v d F1 H1 s1 st1 q => ?_) x
  cases d with
  | str l =>
    cases Rep.str.mp s1.head
    exact go_js q.1 (hr s1.tail q.2 (fun l F' H' s' st' q' => k l F' H' s' (st1.trans st') q') x)
  | _ => exact q.elim
theorem sj_fmt {ts : List TE} {r : List Nat → Env → M D} (ha : SE K W E o false o1 te e) (hr : SJ K W E o1 o2 ts r) : SJ K W E o o2 (tFmt te :: ts) (jsCons fmtD e r) := by
  intro F0 H0 ρ σ F H Qd Ed acc Q s hm k x
  refine ha s hm (fun v d F1 H1 s1 st1 q => ?_) x
  cases d with
  | str l =>
    cases Rep.str.mp s1.head
    exact go_fmt q.1 (go_js q.2.1 (hr s1.tail q.2.2 (fun l F' H' s' st' q' => k l F' H' s' (st1.trans st') q') x))
  | int i =>
    cases Rep.int.mp s1.head
    refine .inr ⟨i, rfl, q.1, ?_⟩
    have e1 : (V.str (toString i : Str)) = S (decI i) := by unfold decI; exact congrArg V.str (mk_tl' _).symm
    rw [e1]
    exact go_js q.2.1 (hr s1.tail q.2.2 (fun l F' H' s' st' q' => k l F' H' s' (st1.trans st') q') x)
  | _ => exact q.elim
def eJs (m : List Nat → Env → M D) : Env → M D := m []
theorem se_js {ts : List TE} {m : List Nat → Env → M D} (h : SJ K W E o o1 ts m) : SE K W E o false o1 (uJ ts) (eJs m) := by
  intro F0 H0 ρ σ F H Qd Ed Q s hm k x
  exact h s hm (fun l F' H' s' st q => k _ _ F' H' (s'.val (ResR.same s'.ext strR)) st q) x

/-! ### tables of the top: texts to scalars -/
def scV : D → V
  | .bl b => .bl b
  | .int i => .int i
  | .str l => S l
  | _ => .non
theorem scV_rep {d : D} (h : scal d = true) : Rep K W F d (scV d) := by
  cases d with
  | non => exact Rep.non.mpr rfl
  | bl b => exact blR
  | int b => exact intR
  | str b => exact strR
  | _ => cases h
abbrev TabS := List (List Nat × D)
def tabV (t : TabS) : List (List Nat × V) := t.map fun kv => (kv.1, scV kv.2)
def dTabM : Option (List Nat × D) → M D
  | some kv => ret kv.2
  | none => stuck
def dTab (t : TabS) : D → M D
  | .str l => dTabM (t.find? fun kv => decide (kv.1 = l))
  | _ => stuck
def eTab (t : TabS) (e : Env → M D) : Env → M D := fun ρ => bnd (e ρ) (dTab t)
theorem se_tab {ad : Addr} {tb : TabS} (hs : (tb.all fun kv => scal kv.2) = true) (ha : SE K W E o false o1 te e) : SE K W E o false o1 (tOp (rIxDU ad (tabV tb)) (tC (.ref ad)) te) (eTab tb e) := by
  intro F0 H0 ρ σ F H Qd Ed Q s hm k x
  refine ha s hm (fun v d F1 H1 s1 st1 q => ?_) x
  cases d with
  | str l =>
    cases Rep.str.mp s1.head
    change dTabM (tb.find? fun kv => decide (kv.1 = l)) Qd Ed at q
    cases hf : tb.find? fun kv => decide (kv.1 = l) with
    | none => rw [hf] at q; exact q.elim
    | some kv =>
      rw [hf] at q
      have h1 := List.mem_of_find?_eq_some hf
      have h2 : kv.1 = l := by simpa using List.find?_some hf
      have h3 : scal kv.2 = true := List.all_eq_true.mp hs kv h1
      exact ⟨(kv.1, scV kv.2), List.mem_map.mpr ⟨kv, h1, rfl⟩, rfl, by rw [h2], k _ _ F1 H1 (s1.tail.val (ResR.same s1.ext (scV_rep h3))) st1 q⟩
  | _ => exact q.elim
def dTabNin (t : TabS) : D → M D
  | .str l => ret (.bl (!t.any fun kv => decide (kv.1 = l)))
  | _ => stuck
def eTabNin (t : TabS) (e : Env → M D) : Env → M D := fun ρ => bnd (e ρ) (dTabNin t)
theorem se_tabNin {ad : Addr} {tb : TabS} (ha : SE K W E o false o1 te e) : SE K W E o false o1 (tOp (rNinD ad (tabV tb)) te (tC (.ref ad))) (eTabNin tb e) := by
  intro F0 H0 ρ σ F H Qd Ed Q s hm k x
  refine ha s hm (fun v d F1 H1 s1 st1 q => ?_) x
  cases d with
  | str l =>
    cases Rep.str.mp s1.head
    refine ⟨l, rfl, rfl, fun h => ?_, fun h => ?_⟩
    · have e1 : (!tb.any fun kv => decide (kv.1 = l)) = true := by
        rw [Bool.not_eq_true', List.any_eq_false]
        intro kv hkv
        have := h (kv.1, scV kv.2) (List.mem_map.mpr ⟨kv, hkv, rfl⟩)
        simpa using fun z : kv.1 = l => this z.symm
      have q' : Qd (.bl (!tb.any fun kv => decide (kv.1 = l))) := q
      rw [e1] at q'
      exact k _ _ F1 H1 (s1.tail.val (ResR.same s1.ext blR)) st1 q'
    · have e1 : (!tb.any fun kv => decide (kv.1 = l)) = false := by
        rw [Bool.not_eq_false', List.any_eq_true]
        obtain ⟨kv, hkv, e⟩ := h
        obtain ⟨kv', h1, rfl⟩ := List.mem_map.mp hkv
        exact ⟨kv', h1, by simpa using e.symm⟩
      have q' : Qd (.bl (!tb.any fun kv => decide (kv.1 = l))) := q
      rw [e1] at q'
      exact k _ _ F1 H1 (s1.tail.val (ResR.same s1.ext blR)) st1 q'
  | _ => exact q.elim
end
end M

/-! M10: try, what is asked of a caught error, the law's own start, draws. -/
namespace M
open PySem PySem.Spec PyProof.Rows L2 TL G

section
variable {K : PySem.W.Frag} {W : Wd} {E : L2.St → XK} {o o1 o2 o' ob : Ow} {te tk : TE} {tt : TT} {tA : TA} {a b : MS} {e ek : Env → M D} {c : Env → M Bool} {aa : Env → M (List D)} {fr : Bool} {t u : TS} {F0 H0 F H : Hp} {ρ : Env} {σ : L2.St}

/-! ### all is frozen -/
def AllF (o : Ow) : Prop := ∀ b ∈ o, b = false
theorem AllF.at (h : AllF o) {i : Nat} (hi : i < o.length) : o[i]? = some false := by
  rw [List.getElem?_eq_getElem hi, h _ (List.getElem_mem hi)]
theorem AllF.set (h : AllF o) (i : Nat) : o.set i false = o := by
  by_cases hi : i < o.length
  · exact set_at (h.at hi)
  · exact List.set_eq_of_length_le (by omega)
theorem AllF.map (h : AllF o) : o = o.map fun _ => false := by
  induction o with
  | nil => rfl
  | cons b o ih =>
    have hb : b = false := h b List.mem_cons_self
    rw [List.map_cons, ← ih fun x hx => h x (List.mem_cons_of_mem _ hx), hb]
theorem AllF.of_map : AllF (o.map fun _ => false) := fun b hb => by
  obtain ⟨_, _, e⟩ := List.mem_map.mp hb
  exact e.symm
theorem se_varF (h : AllF o) {i : Nat} : SE K W E o false o (tVar i) (eVar i) := by
  intro F0 H0 ρ σ F H Qd Ed Q s hm k x
  have hm' := hm
  unfold eVar at hm'
  split at hm'
  · rename_i d e
    have hi : i < o.length := by
      obtain ⟨l1, l2⟩ := s.olen
      rw [l1, ← l2]
      exact (List.getElem?_eq_some_iff.mp e).1
    exact se_var (h.at hi) s hm k x
  · exact hm'.elim
theorem ss_setF (h : AllF o) {i : Nat} (he : SE K W E o false o te e) : SS K W E fr ob o o (tAsg te (gName i)) (sSet i e) := ss_set he (h.set i)

/-! ### what is asked of an error -/
structure XTab (K : PySem.W.Frag) (rs cs : List String) : Prop where
  d : ∀ c ∈ rs, ExcD K (He.ga K (Str.ofString c))
  q : ∀ c ∈ rs, ∀ c' ∈ cs, PySem.W.kitOne K (.ref (He.ga K (Str.ofString c))) (.ref (He.ga K (Str.ofString c'))) = some (decide (c' = c ∨ c' = "LeadsError"))
  v : ∀ c ∈ rs, PySem.W.kitOne K (.ref (He.ga K (Str.ofString c))) (.type "ValueError") = some true
  l : ∀ c ∈ rs, PySem.W.exmOne K (.ref (He.ga K (Str.ofString c))) (.ref (He.ga K (Str.ofString "LeadsError"))) = some true
def excC : D → Option String
  | .exc0 c => some c
  | .exc1 c _ _ => some c
  | _ => none
def dIsxM (rs cs : List String) : Option String → D → M D
  | some c, .cls c' => grd ((rs.elem c && cs.elem c') = true) (ret (.bl (decide (c' = c ∨ c' = "LeadsError"))))
  | some c, .ty t => grd ((rs.elem c && decide (t = "ValueError")) = true) (ret (.bl true))
  | _, _ => stuck
def dIsx (rs cs : List String) : List D → M D
  | [x, y] => dIsxM rs cs (excC x) y
  | _ => stuck
theorem exc_rep {d : D} {v : V} {cn : String} {a : Addr} {cls : Value} {dd : Option Addr} (r : Rep K { W with xc := some (a, cls, dd) } F d v) (h : excC d = some cn) : v = .ref a ∧ cls = .ref (He.ga K (Str.ofString cn)) ∧ ∀ H, Same F H → DicAt dd H := by
  cases d with
  | exc0 c =>
    cases h
    rw [Rep] at r
    obtain ⟨b, e, rfl⟩ := r
    cases e
    exact ⟨rfl, rfl, fun _ _ => .inl rfl⟩
  | exc1 c f d =>
    cases h
    rw [Rep] at r
    obtain ⟨b, x, u, e, rfl, ex, _⟩ := r
    cases e
    exact ⟨rfl, rfl, fun H s => .inr ⟨x, _, rfl, s _ _ ex⟩⟩
  | _ => cases h
theorem cs_isx {rs cs : List String} (X : XTab K rs cs) {a : Addr} {cls : Value} {dd : Option Addr} : CallS K { W with xc := some (a, cls, dd) } false (rIsX K a cls dd) (dIsx rs cs) := by
  intro F H xs ds Qd Ed Q e r h k
  unfold dIsx at h
  split at h
  · rename_i x y
    obtain ⟨v, u, rfl, r1, r2⟩ := reps2 r
    cases ex : excC x with
    | none => rw [ex] at h; exact h.elim
    | some cn =>
      rw [ex] at h
      obtain ⟨rfl, rfl, hd⟩ := exc_rep r1 ex
      cases y with
      | cls c' =>
        obtain ⟨g, h⟩ := h
        obtain ⟨g1, g2⟩ := ba2 g
        rw [Rep] at r2
        subst r2
        have m1 : cn ∈ rs := by simpa using g1
        have m2 : c' ∈ cs := by simpa using g2
        exact ⟨_, _, _, _, rfl, X.d cn m1, hd H e.fh, rfl, .own _, X.q cn m1 c' m2, k _ _ F H (ResR.same e blR) h⟩
      | ty t =>
        obtain ⟨g, h⟩ := h
        obtain ⟨g1, g2⟩ := ba2 g
        have et : t = "ValueError" := of_decide_eq_true g2
        subst et
        cases Rep.ty.mp r2
        have m1 : cn ∈ rs := by simpa using g1
        exact ⟨_, _, _, _, rfl, X.d cn m1, hd H e.fh, rfl, .ty _, X.v cn m1, k _ _ F H (ResR.same e blR) h⟩
      | _ => exact h.elim
  · exact h.elim
def eXf (cn n : String) (e : Env → M D) : Env → M D := fun ρ => bnd (e ρ) fun d => match d with
  | .exc1 c f d' => grd (c = cn ∧ f = n) (ret d')
  | _ => stuck
theorem se_xf {cn n : String} {a : Addr} {cls : Value} {dd : Option Addr} (he : SE K { W with xc := some (a, cls, dd) } E o false o1 te e) : SE K { W with xc := some (a, cls, dd) } E o false o1 (tXf a cls dd (He.ga K (Str.ofString cn)) (Str.ofString n) te) (eXf cn n e) := by
  intro F0 H0 ρ σ F H Qd Ed Q s hm k x
  refine he s hm (fun v d F1 H1 s1 st1 q => ?_) x
  dsimp only at q
  split at q
  · rename_i c f d'
    obtain ⟨⟨rfl, rfl⟩, q⟩ := q
    have r := s1.head
    rw [Rep] at r
    obtain ⟨b, y, u, e, rfl, ey, ru⟩ := r
    cases e
    exact ⟨rfl, rfl, y, _, u, rfl, s1.ext.fh _ _ ey, by simp [List.lookup], k u d' F1 H1 (s1.tail.val (ResR.same s1.ext ru)) st1 q⟩
  · exact q.elim

/-! ### with the error held, without it -/
mutual
def noX : D → Bool
  | .lst ds => noXs ds
  | .tup ds => noXs ds
  | .obj _ _ ds => noXs ds
  | .exc0 _ => false
  | .exc1 _ _ _ => false
  | _ => true
def noXs : List D → Bool
  | [] => true
  | d :: ds => noX d && noXs ds
end
variable {z z' : Option (Addr × Value × Option Addr)}
mutual
theorem Rep.xc : ∀ (d : D) {v : V}, noX d = true → Rep K { W with xc := z } F d v → Rep K { W with xc := z' } F d v
  | .non, v, _, h => h
  | .bl b, v, _, h => h
  | .int i, v, _, h => h
  | .str l, v, _, h => h
  | .lst ds, v, n, h => by
    rw [noX] at n
    obtain ⟨a, vs, e, q, r⟩ := Rep.lst.mp h
    exact Rep.lst.mpr ⟨a, vs, e, q, Reps.xc ds n r⟩
  | .tup ds, v, n, h => by
    rw [noX] at n
    obtain ⟨a, vs, e, q, r⟩ := Rep.tup.mp h
    exact Rep.tup.mpr ⟨a, vs, e, q, Reps.xc ds n r⟩
  | .deal, v, _, h => by
    rw [Rep] at h ⊢
    exact h
  | .ty n, v, _, h => h
  | .obj c ns ds, v, n, h => by
    rw [noX] at n
    rw [Rep] at h ⊢
    obtain ⟨a, dx, vs, e, q1, q2, q3, r⟩ := h
    exact ⟨a, dx, vs, e, q1, q2, q3, Reps.xc ds n r⟩
  | .cls c, v, _, h => h
  | .exc0 c, v, n, _ => by cases n
  | .exc1 c f d, v, n, _ => by cases n
theorem Reps.xc : ∀ (ds : List D) {vs : List V}, noXs ds = true → Reps K { W with xc := z } F ds vs → Reps K { W with xc := z' } F ds vs
  | [], vs, _, h => by rw [reps0 h]; exact Reps.nil
  | d :: ds, vs, n, h => by
    rw [noXs] at n
    obtain ⟨n1, n2⟩ := ba2 n
    obtain ⟨v, r, rfl, q1, q2⟩ := h.inv
    exact Reps.cons (Rep.xc d n1 q1) (Reps.xc ds n2 q2)
end
mutual
theorem Rep.noX : ∀ (d : D) {v : V}, W.xc = none → Rep K W F d v → M.noX d = true
  | .non, v, _, h => rfl
  | .bl b, v, _, h => rfl
  | .int i, v, _, h => rfl
  | .str l, v, _, h => rfl
  | .lst ds, v, n, h => by
    rw [M.noX]
    obtain ⟨a, vs, e, q, r⟩ := Rep.lst.mp h
    exact Reps.noXs ds n r
  | .tup ds, v, n, h => by
    rw [M.noX]
    obtain ⟨a, vs, e, q, r⟩ := Rep.tup.mp h
    exact Reps.noXs ds n r
  | .deal, v, _, h => rfl
  | .ty n, v, _, h => rfl
  | .obj c ns ds, v, n, h => by
    rw [M.noX]
    rw [Rep] at h
    obtain ⟨a, dx, vs, e, q1, q2, q3, r⟩ := h
    exact Reps.noXs ds n r
  | .cls c, v, _, h => rfl
  | .exc0 c, v, n, h => by
    rw [Rep] at h
    obtain ⟨a, e, _⟩ := h
    rw [n] at e
    cases e
  | .exc1 c f d, v, n, h => by
    rw [Rep] at h
    obtain ⟨a, x, u, e, _⟩ := h
    rw [n] at e
    cases e
theorem Reps.noXs : ∀ (ds : List D) {vs : List V}, W.xc = none → Reps K W F ds vs → M.noXs ds = true
  | [], vs, _, h => rfl
  | d :: ds, vs, n, h => by
    obtain ⟨v, r, rfl, q1, q2⟩ := h.inv
    rw [M.noXs, Rep.noX d n q1, Reps.noXs ds n q2]
    rfl
end
theorem Ext.xc (h : Ext K W F0 H0 F H) : Ext K { W with xc := z } F0 H0 F H := ⟨h.ff, h.fh, h.hh, h.nf, h.j, h.fw⟩
theorem Ext.xc' (h : Ext K { W with xc := z } F0 H0 F H) : Ext K W F0 H0 F H := ⟨h.ff, h.fh, h.hh, h.nf, h.j, h.fw⟩
theorem wd_eta (h : W.xc = none) : W = { W with xc := none } := by
  obtain ⟨a, b⟩ := W
  cases h
  rfl
theorem SlR.xc (hx : W.xc = none) : ∀ {ws : List (Option Addr)} {σ : L2.St} {ρ : Env}, SlR K W H0 F H ws σ ρ → (∀ w ∈ ws, w = none) → SlR K { W with xc := z } H0 F H ws σ ρ
  | [], [], [], _, _ => trivial
  | w :: ws, v :: σ, d :: ρ, h, hn => by
    have e : w = none := hn w List.mem_cons_self
    subst e
    refine ⟨?_, SlR.xc hx h.2 fun w hw => hn w (List.mem_cons_of_mem _ hw)⟩
    obtain ⟨g, _⟩ := h
    cases d with
    | none => trivial
    | some d => cases v with
      | none => exact g.elim
      | some v =>
        have g' : Rep K W F d v := g
        have nx := Rep.noX d hx g'
        rw [wd_eta hx] at g'
        exact Rep.xc d nx g'
  | [], [], _ :: _, h, _ => h.elim
  | [], _ :: _, _, h, _ => h.elim
  | _ :: _, [], _, h, _ => h.elim
  | _ :: _, _ :: _, [], h, _ => h.elim
theorem Sr.xc (h : Sr K W F0 H0 o ρ σ F H) (hx : W.xc = none) (ho : AllF o) : Sr K { W with xc := z } F0 H0 o ρ σ F H := by
  obtain ⟨ws, h1, h2, h3⟩ := h.sl
  exact ⟨h.ext.xc, ws, h1, h2, h3.xc hx (allF_none h1 ho.map)⟩

/-! ### try -/
def Er.nm : Er → String
  | .e0 c => c
  | .e1 c _ _ => c
def Er.d : Er → D
  | .e0 c => .exc0 c
  | .e1 c f d => .exc1 c f d
def sTry (i : Nat) (rs : List String) (b hd : MS) : MS := fun ρ D => b ρ { D with ex := fun er ρ' => rs.elem er.nm = true ∧ hd (ρ'.set i (some er.d)) ⟨fun _ => False, fun d => noX d = true ∧ D.rt d, fun _ => False, fun _ => False, fun _ _ => False⟩ }
theorem xr_rep {er : Er} {cls : Value} {dd : Option Addr} {a : Addr} (hx : W.xc = none) (h : XR K W F H er cls dd) : Rep K { W with xc := some (a, cls, dd) } F er.d (.ref a) ∧ cls = .ref (He.ga K (Str.ofString er.nm)) := by
  cases er with
  | e0 c =>
    obtain ⟨rfl, rfl⟩ := h
    exact ⟨by unfold Er.d; rw [Rep]; exact ⟨a, rfl, rfl⟩, rfl⟩
  | e1 c f d =>
    obtain ⟨rfl, x, v, rfl, ex, r⟩ := h
    refine ⟨?_, rfl⟩
    unfold Er.d
    rw [Rep]
    have nx := Rep.noX d hx r
    rw [wd_eta hx] at r
    exact ⟨a, x, v, rfl, rfl, ex, Rep.xc d nx r⟩
theorem XR.mono {er : Er} {cls : Value} {dd : Option Addr} {F1 H1 : Hp} (s : Same F F1) (h : XR K W F H er cls dd) : XR K W F1 H1 er cls dd := by
  cases er with
  | e0 c => exact h
  | e1 c f d =>
    obtain ⟨e1, x, v, e2, ex, r⟩ := h
    exact ⟨e1, x, v, e2, s _ _ ex, Rep.mono s d r⟩
theorem ss_try (hx : W.xc = none) {i : Nat} {rs cs : List String} {tb : WX → TS} {ts : Addr → Value → Option Addr → TS} {Wout : WX} {hd : MS} (X : XTab K rs cs) (hb : ∀ Wx : WX, SS K W (WE Wx) false ob o o1 (tb Wx) b)
    (hsu : ∀ (a : Addr) (cls : Value) (dd : Option Addr) (o : Ow), AllF o → SS K { W with xc := some (a, cls, dd) } (fun _ => E0) false o o o (ts a cls dd) hd) :
    SS K W E false ob o o1 (fun D σ H => tb (wAs K (.ref (He.ga K "LeadsError")) i ts Wout D) D σ H) (sTry i rs b hd) := by
  intro F0 H0 Fs ρ σ F H De Dr s hm z k
  refine hb _ s hm z ⟨k.nx, k.rt, k.bk, k.ct, fun er o2 ρ2 σ2 F2 H2 cls dd s2 xr q => ?_⟩
  obtain ⟨q1, q2⟩ := q
  have m1 : er.nm ∈ rs := by simpa using q1
  have ecls := (xr_rep (a := 0) hx xr).2
  refine ⟨true, by rw [ecls]; exact X.l er.nm m1, fun _ a ha => ?_, fun y => by cases y⟩
  obtain ⟨F3, s3, sm3⟩ := s2.freezeAll
  have aF : AllF (o2.map fun _ => false) := AllF.of_map
  have s4 : Sr K { W with xc := some (a, cls, dd) } F0 H0 (o2.map fun _ => false) ρ2 σ2 F3 H2 := s3.xc hx aF
  have r4 := (xr_rep (a := a) hx (XR.mono (H1 := H2) sm3 xr)).1
  have s5 := (s4.val (ResR.same s4.ext r4)).put i
  rw [aF.set] at s5
  refine hsu a cls dd _ aF (Fs := F3) s5 q2 (Same.refl _) ⟨fun _ _ _ _ _ _ y => y.elim, fun o1 ρ5 σ5 F5 H5 v d s5 q5 => ?_, fun _ _ _ _ _ _ y => y.elim, fun _ _ _ _ _ _ y => y.elim, fun _ _ _ _ _ _ _ _ _ _ y => y.elim⟩
  have r5 : Rep K W F5 d v := by
    have y := Rep.xc (z' := none) d q5.1 s5.head
    rw [← wd_eta hx] at y
    exact y
  have ex5 := s5.ext.xc'
  exact k.rt [] [] [] F5 H5 v d ⟨ex5, [none], rfl, by simp, r5, trivial⟩ q5.2
end
end M

/-! M11: draws, the law's start, what follows of the plain forms. -/
namespace M
open PySem PySem.Spec PyProof.Rows L2 TL G

/-! ### draws -/
def takeM : List D → M D
  | [.deal, .int n] => fun Q _ => n < 1073741824 ∧ ∀ r : Int, 0 ≤ r → (2 ≤ n → r < n) → (n < 2 → r = 0) → Q (.int r)
  | _ => stuck
theorem take_of {K : PySem.W.Frag} {vs : List V} {H : Hp} {Q : VK} {E : XK} (h : SpM K false 2 takeM vs H Q E) : ∃ (d : DA) (n : Int), vs = [.ref d.a, .int n] ∧ DealJ d H ∧ n < 1073741824 ∧
    ∀ (r : Int) (H' : Hp), (∀ b, b ≠ d.a → H' b = H b) → DealJ d H' → 0 ≤ r → (2 ≤ n → r < n) → (n < 2 → r = 0) → Q (.int r) H' := by
  obtain ⟨W, ds, F, Qd, Ed, hx, hl, ex, r, hm, q, _⟩ := h
  unfold takeM at hm
  split at hm
  · rename_i n
    obtain ⟨v, u, rfl, r1, r2⟩ := reps2 r
    obtain ⟨d, hW, rfl⟩ := Rep.deal.mp r1
    cases Rep.int.mp r2
    have j := ex.j
    have inW : ∀ b, InW W b ↔ b = d.a ∨ b = d.c := fun b => by
      unfold InW
      rw [hW]
    have j0 : DealJ d H := by
      unfold JW at j
      rw [hW] at j
      exact j
    refine ⟨d, n, rfl, j0, hm.1, fun r H' hs j' h0 h1 h2 => q _ _ F H' ⟨⟨Same.refl _, fun b o e => ?_, fun b o nb e => ?_, fun _ _ z => z, ?_, ex.fw⟩, intR⟩ (hm.2 r h0 h1 h2)⟩
    · have : b ≠ d.a := fun z => by
        have y := ex.fw b ((inW b).mpr (.inl z))
        rw [y] at e
        cases e
      rw [hs b this]
      exact ex.fh b o e
    · rw [hs b (fun z => nb ((inW b).mpr (.inl z)))]
      exact e
    · unfold JW
      rw [hW]
      exact j'
  · exact hm.elim
/-- what is stored at the list of the draws -/
theorem dealJ_upd {d : DA} {H : Hp} {i r l m : Int} (hc : H d.c = some (.lst (d.cells.map V.int))) (hn : d.c ≠ d.a) (v : DealV d i r l m) : DealJ d (upd H d.a (.lst [.ref d.c, .int i, .int r, .int l, .int m])) :=
  ⟨i, r, l, m, upd_same, by rw [upd_ne hn]; exact hc, hn, v⟩
def spStore (K : PySem.W.Frag) : Sp := fun vs H Q _ => ∃ (a : Addr) (ns : List Int), vs = [.ref a] ∧ SqL K H a (ns.map V.int) ∧ ns.length ≤ 63 ∧ ∀ (d : DA) (H' : Hp), DealJ d H' → Q (.ref d.a) H'
def spLaw (K : PySem.W.Frag) : Sp := fun vs H Q _ => ∃ (a : Addr) (ns : List Int), vs = [.ref a] ∧ SqL K H a (ns.map V.int) ∧ ns.length ≤ 63 ∧ ∀ H', Q (.bl true) H'
def lawM (n : Nat) (b : MS) : Prop := b (none :: some .deal :: List.replicate n none) ⟨fun _ => False, fun d => d = .bl true, fun _ => False, fun _ => False, fun _ _ => False⟩
theorem law_go {K : PySem.W.Frag} {n : Nat} {ob o' : Ow} {b : MS} {t : TS} {N : List Str} {vs : List V} {H : Hp} {Q : VK} {E : XK} (h : ∀ W : Wd, W.xc = none → SS K W (fun _ => E0) false ob (List.replicate (n + 2) false) o' t b) (hN : N.length = n + 2) (hm : lawM n b) (hs : spLaw K vs H Q E) :
    tSeq (tAsg (uCall (spStore K) (fun _ => E0) (tCons (tVar 0) tNil)) (gName 1)) t { nx := fun _ H' => Q .non H', rt := Q } (L2.start N vs) H := by
  obtain ⟨a, ns, rfl, ha, hl, q⟩ := hs
  rw [start_eq (k := n + 1) (by rw [hN]; show n + 2 = 1 + (n + 1); omega)]
  refine ⟨.ref a, rfl, a, ns, rfl, ha, hl, fun d H' j => ?_⟩
  have s : Sr K { dl := some d } (fun _ => none) H' (List.replicate (n + 2) false) (none :: some .deal :: List.replicate n none) (some (.ref a) :: some (.ref d.a) :: List.replicate n none) (fun _ => none) H' := by
    refine ⟨⟨fun _ _ z => z, fun _ _ z => (nomatch z), fun _ _ _ z => z, fun _ _ z => z, j, fun _ _ => rfl⟩, List.replicate (n + 2) none, by rw [List.map_replicate]; rfl, ?_, ?_⟩
    · have z : (List.replicate (n + 2) (none : Option Addr)).filterMap id = [] := by
        generalize n + 2 = m
        induction m with
        | zero => rfl
        | succ m ih => rw [List.replicate_succ]; exact ih
      rw [z]
      exact List.nodup_nil
    · refine ⟨trivial, ⟨d, rfl, rfl⟩, ?_⟩
      clear h hN hm
      induction n with
      | zero => trivial
      | succ n ih => exact ⟨trivial, ih⟩
  refine h { dl := some d } rfl s hm (Same.refl _) ⟨fun _ _ _ _ _ _ z => z.elim, fun o1 ρ σ F1 H1 v dd s1 e => ?_, fun _ _ _ _ _ _ z => z.elim, fun _ _ _ _ _ _ z => z.elim, fun _ _ _ _ _ _ _ _ _ _ z => z.elim⟩
  have e' : dd = .bl true := e
  subst e'
  cases Rep.bl.mp s1.head
  exact q H1

/-! ### more wants more -/
class MonoE {α : Type} (e : Env → M α) : Prop where
  h : ∀ (ρ : Env) (Q Q' : α → Prop) (E E' : Er → Prop), (∀ a, Q a → Q' a) → (∀ x, E x → E' x) → e ρ Q E → e ρ Q' E'
class MonoF {α β : Type} (f : α → M β) : Prop where
  h : ∀ (x : α) (Q Q' : β → Prop) (E E' : Er → Prop), (∀ a, Q a → Q' a) → (∀ x, E x → E' x) → f x Q E → f x Q' E'
class MonoF2 {α β γ : Type} (f : α → β → M γ) : Prop where
  h : ∀ (x : α) (y : β) (Q Q' : γ → Prop) (E E' : Er → Prop), (∀ a, Q a → Q' a) → (∀ x, E x → E' x) → f x y Q E → f x y Q' E'
class MonoT (t : TgM) : Prop where
  h : ∀ (d : D) (ρ : Env) (k k' : Env → Prop), (∀ ρ, k ρ → k' ρ) → t d ρ k → t d ρ k'
theorem MonoT.ap {t : TgM} (x : MonoT t) {d : D} {ρ : Env} {k k' : Env → Prop} (m : t d ρ k) (h : ∀ ρ, k ρ → k' ρ) : t d ρ k' := x.h d ρ k k' h m
class MonoTs (t : TgsM) : Prop where
  h : ∀ (d : List D) (ρ : Env) (k k' : Env → Prop), (∀ ρ, k ρ → k' ρ) → t d ρ k → t d ρ k'
structure LeMs (D D' : Ms) : Prop where
  nx : ∀ ρ, D.nx ρ → D'.nx ρ
  rt : ∀ d, D.rt d → D'.rt d
  bk : ∀ ρ, D.bk ρ → D'.bk ρ
  ct : ∀ ρ, D.ct ρ → D'.ct ρ
  ex : ∀ e ρ, D.ex e ρ → D'.ex e ρ
class MonoS (b : MS) : Prop where
  h : ∀ (ρ : Env) (D D' : Ms), LeMs D D' → b ρ D → b ρ D'
theorem MonoS.ap {b : MS} (x : MonoS b) {ρ : Env} {D D' : Ms} (m : b ρ D) (h : LeMs D D') : b ρ D' := x.h ρ D D' h m
section
variable {α β : Type} {a b e : Env → M D} {c c' : Env → M Bool} {aa : Env → M (List D)} {f : D → D → M D} {g : List D → M D} {s s' : MS} {t : TgM} {ts : TgsM}
theorem mono_ret {m : M α} {Q Q' : α → Prop} {E E' : Er → Prop} (h : ∃ p : Prop, ∃ a, m = grd p (ret a)) (hQ : ∀ a, Q a → Q' a) (hm : m Q E) : m Q' E' := by
  obtain ⟨p, a, rfl⟩ := h
  exact ⟨hm.1, hQ _ hm.2⟩
instance {i : Nat} : MonoE (eVar i) := ⟨fun ρ Q Q' E E' h _ m => by
  unfold eVar at m ⊢
  split at m
  · exact h _ m
  · exact m.elim⟩
instance {d : D} : MonoE (eC d) := ⟨fun ρ Q Q' E E' h _ m => h _ m⟩
instance [x : MonoE a] [y : MonoE b] [z : MonoF2 f] : MonoE (eOp f a b) := ⟨fun ρ Q Q' E E' h k m => x.h ρ _ _ _ _ (fun u mu => y.h ρ _ _ _ _ (fun w mw => z.h u w _ _ _ _ h k mw) k mu) k m⟩
instance {u : D → M D} [x : MonoE a] [z : MonoF u] : MonoE (eUn u a) := ⟨fun ρ Q Q' E E' h k m => x.h ρ _ _ _ _ (fun w mw => z.h w _ _ _ _ h k mw) k m⟩
instance : MonoF dBool := ⟨fun d Q Q' E E' h _ m => by cases d <;> first | exact h _ m | exact m.elim⟩
instance [x : MonoE a] : MonoE (cTest a) := ⟨fun ρ Q Q' E E' h k m => x.h ρ _ _ _ _ (fun w mw => MonoF.h (f := dBool) w _ _ _ _ h k mw) k m⟩
instance {u v : Env → M α} [x : MonoE c] [y : MonoE u] [z : MonoE v] : MonoE (cIf c u v) := ⟨fun ρ Q Q' E E' h k m => x.h ρ _ _ _ _ (fun w mw => by
  cases w with
  | true => exact y.h ρ _ _ _ _ h k mw
  | false => exact z.h ρ _ _ _ _ h k mw) k m⟩
instance {x : Bool} : MonoE (fun _ => (ret x : M Bool)) := ⟨fun ρ Q Q' E E' h _ m => h _ m⟩
instance {x : D} : MonoE (fun _ => (ret x : M D)) := ⟨fun ρ Q Q' E E' h _ m => h _ m⟩
instance [x : MonoE c] [y : MonoE c'] : MonoE (cAnd c c') := inferInstanceAs (MonoE (cIf c c' fun _ => ret false))
instance [x : MonoE c] [y : MonoE c'] : MonoE (cOr c c') := inferInstanceAs (MonoE (cIf c (fun _ => ret true) c'))
instance [x : MonoE c] : MonoE (cNot c) := ⟨fun ρ Q Q' E E' h k m => x.h ρ _ _ _ _ (fun w mw => h _ mw) k m⟩
instance [x : MonoE a] [y : MonoE b] : MonoE (eAnd a b) := inferInstanceAs (MonoE (cIf (cTest a) b fun _ => ret (.bl false)))
instance [x : MonoE a] [y : MonoE b] : MonoE (eOr a b) := inferInstanceAs (MonoE (cIf (cTest a) (fun _ => ret (.bl true)) b))
instance [x : MonoE a] : MonoE (eNot a) := ⟨fun ρ Q Q' E E' h k m => x.h ρ _ _ _ _ (fun w mw => MonoF.h (f := dBool) w _ _ _ _ (fun b mb => h _ mb) k mw) k m⟩
instance : MonoE aNil := ⟨fun ρ Q Q' E E' h _ m => h _ m⟩
instance [x : MonoE a] [y : MonoE aa] : MonoE (aCons a aa) := ⟨fun ρ Q Q' E E' h k m => x.h ρ _ _ _ _ (fun w mw => y.h ρ _ _ _ _ (fun v mv => h _ mv) k mw) k m⟩
instance [x : MonoE aa] [z : MonoF g] : MonoE (eFn g aa) := ⟨fun ρ Q Q' E E' h k m => x.h ρ _ _ _ _ (fun w mw => z.h w _ _ _ _ h k mw) k m⟩
instance [x : MonoE a] : MonoE (eScal a) := ⟨fun ρ Q Q' E E' h k m => x.h ρ _ _ _ _ (fun w mw => ⟨mw.1, h _ mw.2⟩) k m⟩
instance {n : Nat} [x : MonoE aa] [z : MonoF g] : MonoE (eCall n g aa) := ⟨fun ρ Q Q' E E' h k m => x.h ρ _ _ _ _ (fun w mw => ⟨mw.1, z.h w _ _ _ _ h k mw.2⟩) k m⟩
instance {n : Nat} {dd : List D} [x : MonoE aa] [z : MonoF g] : MonoE (eCallD n g dd aa) := ⟨fun ρ Q Q' E E' h k m => x.h ρ _ _ _ _ (fun w mw => ⟨mw.1, z.h _ _ _ _ _ h k mw.2⟩) k m⟩
instance {n : Nat} [x : MonoE aa] [z : MonoF g] : MonoE (eCallR n g aa) := ⟨fun ρ Q Q' E E' h k m => x.h ρ _ _ _ _ (fun w mw => ⟨mw.1, z.h _ _ _ _ _ h k mw.2⟩) k m⟩
theorem mono_grd {p : Prop} {m : M α} {Q Q' : α → Prop} {E E' : Er → Prop} (h : m Q E → m Q' E') (x : grd p m Q E) : grd p m Q' E' := ⟨x.1, h x.2⟩
instance : MonoF2 dAdd := ⟨fun x y Q Q' E E' h _ m => by cases x <;> cases y <;> first | exact m.elim | exact h _ m | exact ⟨m.1, h _ m.2⟩⟩
instance : MonoF2 dAddL := ⟨fun x y Q Q' E E' h _ m => by cases x <;> cases y <;> first | exact m.elim | exact ⟨m.1, h _ m.2⟩⟩
instance : MonoF2 dAddI := ⟨fun x y Q Q' E E' h _ m => by cases x <;> cases y <;> first | exact m.elim | exact h _ m⟩
instance : MonoF2 dSubI := ⟨fun x y Q Q' E E' h _ m => by cases x <;> cases y <;> first | exact m.elim | exact h _ m⟩
instance : MonoF2 dSub := ⟨fun x y Q Q' E E' h _ m => by cases x <;> cases y <;> first | exact m.elim | exact h _ m⟩
instance : MonoF2 dMul := ⟨fun x y Q Q' E E' h _ m => by cases x <;> cases y <;> first | exact m.elim | exact ⟨m.1, h _ m.2⟩⟩
instance : MonoF2 dDiv := ⟨fun x y Q Q' E E' h _ m => by cases x <;> cases y <;> first | exact m.elim | exact ⟨m.1, h _ m.2⟩⟩
instance : MonoF2 dMod := ⟨fun x y Q Q' E E' h _ m => by cases x <;> cases y <;> first | exact m.elim | exact ⟨m.1, h _ m.2⟩⟩
instance : MonoF2 dPow := ⟨fun x y Q Q' E E' h _ m => by cases x <;> cases y <;> first | exact m.elim | exact ⟨m.1, h _ m.2⟩⟩
instance : MonoF dNeg := ⟨fun x Q Q' E E' h _ m => by cases x <;> first | exact m.elim | exact h _ m⟩
instance {p : Int → Int → Bool} {q : List Nat → List Nat → Bool} : MonoF2 (dCmp p q) := ⟨fun x y Q Q' E E' h _ m => by cases x <;> cases y <;> first | exact m.elim | exact h _ m⟩
instance : MonoF2 dEq := ⟨fun x y Q Q' E E' h _ m => ⟨m.1, h _ m.2⟩⟩
instance : MonoF2 dNe := ⟨fun x y Q Q' E E' h _ m => ⟨m.1, h _ m.2⟩⟩
instance : MonoF2 dIs := ⟨fun x y Q Q' E E' h _ m => by cases y <;> first | exact m.elim | exact h _ m | exact ⟨m.1, h _ m.2⟩⟩
instance : MonoF2 dIsn := ⟨fun x y Q Q' E E' h _ m => by cases y <;> first | exact m.elim | exact h _ m⟩
instance {n : Bool} : MonoF2 (dInB n) := ⟨fun x y Q Q' E E' h _ m => by
  unfold dInB at m ⊢
  split at m <;> first | exact m.elim | exact h _ m | exact ⟨m.1, h _ m.2⟩⟩
instance : MonoF ofO := ⟨fun x Q Q' E E' h _ m => by cases x <;> first | exact m.elim | exact h _ m⟩
instance : MonoF2 dIx := ⟨fun x y Q Q' E E' h k m => by
  unfold dIx at m ⊢
  split at m
  · exact MonoF.h (f := ofO) _ _ _ _ _ h k m
  · exact MonoF.h (f := ofO) _ _ _ _ _ h k m
  · exact ⟨m.1, MonoF.h (f := ofO) _ _ _ _ _ h k m.2⟩
  · exact m.elim⟩
class MonoSl (f : D → Option Int → Option Int → M D) : Prop where
  h : ∀ (x : D) (l u : Option Int) (Q Q' : D → Prop) (E E' : Er → Prop), (∀ a, Q a → Q' a) → (∀ x, E x → E' x) → f x l u Q E → f x l u Q' E'
instance : MonoSl dSl := ⟨fun x l u Q Q' E E' h _ m => by cases x <;> first | exact m.elim | exact h _ m | exact ⟨m.1, h _ m.2⟩⟩
instance : MonoSl dSlL := ⟨fun x l u Q Q' E E' h _ m => by cases x <;> first | exact m.elim | exact h _ m⟩
instance : MonoF dI := ⟨fun x Q Q' E E' h _ m => by cases x <;> first | exact m.elim | exact h _ m⟩
instance : MonoE pNo := ⟨fun ρ Q Q' E E' h _ m => h _ m⟩
instance [x : MonoE a] : MonoE (pEx a) := ⟨fun ρ Q Q' E E' h k m => x.h ρ _ _ _ _ (fun w mw => MonoF.h (f := dI) w _ _ _ _ h k mw) k m⟩
instance {q : D → Option Int → Option Int → M D} {l u : Env → M (Option Int)} [x : MonoE a] [y : MonoE l] [z : MonoE u] [w : MonoSl q] : MonoE (eSl q a l u) := ⟨fun ρ Q Q' E E' h k m => x.h ρ _ _ _ _ (fun _ m1 => y.h ρ _ _ _ _ (fun _ m2 => z.h ρ _ _ _ _ (fun _ m3 => w.h _ _ _ _ _ _ _ h k m3) k m2) k m1) k m⟩
class MonoMt (f : D → List D → M D) : Prop where
  h : ∀ (x : D) (y : List D) (Q Q' : D → Prop) (E E' : Er → Prop), (∀ a, Q a → Q' a) → (∀ x, E x → E' x) → f x y Q E → f x y Q' E'
instance {q : D → List D → M D} {p : D → Bool} [x : MonoE a] [y : MonoE aa] [w : MonoMt q] : MonoE (eMt p q a aa) := ⟨fun ρ Q Q' E E' h k m => x.h ρ _ _ _ _ (fun _ m1 => ⟨m1.1, y.h ρ _ _ _ _ (fun _ m2 => w.h _ _ _ _ _ _ h k m2) k m1.2⟩) k m⟩
instance : MonoMt dCntS := ⟨fun x y Q Q' E E' h _ m => by unfold dCntS at m ⊢; split at m <;> first | exact m.elim | exact h _ m⟩
instance : MonoMt dEnds := ⟨fun x y Q Q' E E' h _ m => by unfold dEnds at m ⊢; split at m <;> first | exact m.elim | exact h _ m⟩
instance : MonoMt dPart := ⟨fun x y Q Q' E E' h _ m => by
  unfold dPart at m ⊢
  split at m
  · refine ⟨m.1, ?_⟩
    have m2 := m.2
    rename_i l c
    cases e : cutAt c l with
    | none => rw [e] at m2; exact h _ m2
    | some z => rw [e] at m2; exact h _ m2
  · exact m.elim⟩
instance : MonoMt dIdxS := ⟨fun x y Q Q' E E' h _ m => by
  unfold dIdxS at m ⊢
  split at m
  · rename_i l c
    cases e : cutAt c l with
    | none => rw [e] at m; exact m.elim
    | some z => rw [e] at m; exact h _ m
  · exact m.elim⟩
instance : MonoMt dJoin := ⟨fun x y Q Q' E E' h _ m => by
  unfold dJoin at m ⊢
  split at m
  · rename_i ds
    cases e : strsD ds with
    | none => rw [e] at m; exact m.elim
    | some z => rw [e] at m; exact ⟨m.1, h _ m.2⟩
  · exact m.elim⟩
instance : MonoMt dUp := ⟨fun x y Q Q' E E' h _ m => by unfold dUp at m ⊢; split at m <;> first | exact m.elim | exact ⟨m.1, h _ m.2⟩⟩
instance : MonoMt dCntL := ⟨fun x y Q Q' E E' h _ m => by unfold dCntL at m ⊢; split at m <;> first | exact m.elim | exact ⟨m.1, h _ m.2⟩⟩
instance : MonoF dLen := ⟨fun y Q Q' E E' h _ m => by unfold dLen at m ⊢; split at m <;> first | exact m.elim | exact h _ m | exact ⟨m.1, h _ m.2⟩⟩
instance : MonoF dInt := ⟨fun y Q Q' E E' h _ m => by
  unfold dInt at m ⊢
  split at m
  · exact h _ m
  · exact h _ m
  · rename_i l
    cases e : PySem.intText? (mk l) with
    | none => rw [e] at m; exact m.elim
    | some z => rw [e] at m; exact ⟨m.1, h _ m.2⟩
  · exact m.elim⟩
instance : MonoF dStr := ⟨fun y Q Q' E E' h _ m => by unfold dStr at m ⊢; split at m <;> first | exact m.elim | exact h _ m | exact ⟨m.1, h _ m.2⟩⟩
instance : MonoF dMax2 := ⟨fun y Q Q' E E' h _ m => by unfold dMax2 at m ⊢; split at m <;> first | exact m.elim | exact h _ m⟩
instance : MonoF dMin2 := ⟨fun y Q Q' E E' h _ m => by unfold dMin2 at m ⊢; split at m <;> first | exact m.elim | exact h _ m⟩
theorem mono_opt {f : α → M D} [x : MonoF f] {o : Option α} {Q Q' : D → Prop} {E E' : Er → Prop} (h : ∀ a, Q a → Q' a) (k : ∀ x, E x → E' x) (m : optM f o Q E) : optM f o Q' E' := by
  cases o with
  | none => exact m.elim
  | some a => exact x.h a _ _ _ _ h k m
instance : MonoF dSum := ⟨fun y Q Q' E E' h k m => by
  unfold dSum at m ⊢
  split at m
  · haveI : MonoF (fun ns : List Int => (ret (.int ns.sum) : M D)) := ⟨fun _ _ _ _ _ h _ m => h _ m⟩
    exact mono_opt h k m
  · exact m.elim⟩
instance : MonoF dAll := ⟨fun y Q Q' E E' h k m => by
  unfold dAll at m ⊢
  split at m
  · haveI : MonoF (fun ns : List Bool => (ret (.bl (ns.all id)) : M D)) := ⟨fun _ _ _ _ _ h _ m => h _ m⟩
    exact mono_opt h k m
  · exact m.elim⟩
instance : MonoF dAny := ⟨fun y Q Q' E E' h k m => by
  unfold dAny at m ⊢
  split at m
  · haveI : MonoF (fun ns : List Bool => (ret (.bl (ns.any id)) : M D)) := ⟨fun _ _ _ _ _ h _ m => h _ m⟩
    exact mono_opt h k m
  · exact m.elim⟩
instance : MonoF dMax1 := ⟨fun y Q Q' E E' h k m => by
  unfold dMax1 at m ⊢
  split at m
  · haveI : MonoF (fun (ns : List Int) (Q : D → Prop) (_ : Er → Prop) => 0 < ns.length ∧ ∀ m, m ∈ ns → (∀ y, y ∈ ns → y ≤ m) → Q (.int m)) := ⟨fun _ _ _ _ _ h _ m => ⟨m.1, fun x h1 h2 => h _ (m.2 x h1 h2)⟩⟩
    exact mono_opt h k m
  · exact m.elim⟩
instance : MonoF dMin1 := ⟨fun y Q Q' E E' h k m => by
  unfold dMin1 at m ⊢
  split at m
  · haveI : MonoF (fun (ns : List Int) (Q : D → Prop) (_ : Er → Prop) => 0 < ns.length ∧ ∀ m, m ∈ ns → (∀ y, y ∈ ns → m ≤ y) → Q (.int m)) := ⟨fun _ _ _ _ _ h _ m => ⟨m.1, fun x h1 h2 => h _ (m.2 x h1 h2)⟩⟩
    exact mono_opt h k m
  · exact m.elim⟩
instance : MonoF dList := ⟨fun y Q Q' E E' h _ m => by unfold dList at m ⊢; split at m <;> first | exact m.elim | exact h _ m⟩
instance : MonoF dTuple := ⟨fun y Q Q' E E' h _ m => by unfold dTuple at m ⊢; split at m <;> first | exact m.elim | exact h _ m⟩
instance : MonoF dDivmod := ⟨fun y Q Q' E E' h _ m => by unfold dDivmod at m ⊢; split at m <;> first | exact m.elim | exact ⟨m.1, h _ m.2⟩⟩
instance : MonoF dAbs := ⟨fun y Q Q' E E' h _ m => by unfold dAbs at m ⊢; split at m <;> first | exact m.elim | exact h _ m⟩
instance : MonoF dIsi := ⟨fun y Q Q' E E' h _ m => by
  unfold dIsi at m ⊢
  split at m
  · rename_i x c
    cases e : (tyOf x).bind fun t => kitB t c with
    | none => rw [e] at m; exact m.elim
    | some z => rw [e] at m; exact h _ m
  · exact m.elim⟩
instance : MonoF dLst := ⟨fun y Q Q' E E' h _ m => ⟨m.1, h _ m.2⟩⟩
instance : MonoF dTup := ⟨fun y Q Q' E E' h _ m => ⟨m.1, h _ m.2⟩⟩
instance : MonoF takeM := ⟨fun y Q Q' E E' h _ m => by
  unfold takeM at m ⊢
  split at m
  · exact ⟨m.1, fun r h1 h2 h3 => h _ (m.2 r h1 h2 h3)⟩
  · exact m.elim⟩
instance : MonoF dRng1 := ⟨fun y Q Q' E E' h _ m => by unfold dRng1 at m ⊢; split at m <;> first | exact m.elim | exact ⟨m.1, h _ m.2⟩⟩
instance : MonoF dRng2 := ⟨fun y Q Q' E E' h _ m => by unfold dRng2 at m ⊢; split at m <;> first | exact m.elim | exact ⟨m.1, h _ m.2⟩⟩
instance : MonoF itemsD := ⟨fun y Q Q' E E' h _ m => by cases y <;> first | exact m.elim | exact h _ m⟩
instance {q : List D → M (List D)} [x : MonoE aa] [z : MonoF q] : MonoE (iFn q aa) := ⟨fun ρ Q Q' E E' h k m => x.h ρ _ _ _ _ (fun w mw => z.h w _ _ _ _ h k mw) k m⟩
instance [x : MonoE a] : MonoE (iItems a) := ⟨fun ρ Q Q' E E' h k m => x.h ρ _ _ _ _ (fun w mw => MonoF.h (f := itemsD) w _ _ _ _ h k mw) k m⟩
instance {tb : TabS} : MonoF (dTab tb) := ⟨fun y Q Q' E E' h _ m => by
  cases y with
  | str l =>
    change dTabM (tb.find? fun kv => decide (kv.1 = l)) Q E at m
    change dTabM (tb.find? fun kv => decide (kv.1 = l)) Q' E'
    cases e : tb.find? fun kv => decide (kv.1 = l) with
    | none => rw [e] at m; exact m.elim
    | some z => rw [e] at m; exact h _ m
  | _ => exact m.elim⟩
instance {tb : TabS} : MonoF (dTabNin tb) := ⟨fun y Q Q' E E' h _ m => by cases y <;> first | exact m.elim | exact h _ m⟩
instance {tb : TabS} [x : MonoE a] : MonoE (eTab tb a) := ⟨fun ρ Q Q' E E' h k m => x.h ρ _ _ _ _ (fun w mw => MonoF.h (f := dTab tb) w _ _ _ _ h k mw) k m⟩
instance {tb : TabS} [x : MonoE a] : MonoE (eTabNin tb a) := ⟨fun ρ Q Q' E E' h k m => x.h ρ _ _ _ _ (fun w mw => MonoF.h (f := dTabNin tb) w _ _ _ _ h k mw) k m⟩
class MonoJ (r : List Nat → Env → M D) : Prop where
  h : ∀ (l : List Nat), MonoE (r l)
instance : MonoJ jsNil := ⟨fun l => ⟨fun ρ Q Q' E E' h _ m => h _ m⟩⟩
instance : MonoF fmtD := ⟨fun y Q Q' E E' h _ m => by cases y <;> first | exact m.elim | exact ⟨m.1, h _ m.2⟩⟩
instance : MonoF txtD := ⟨fun y Q Q' E E' h _ m => by cases y <;> first | exact m.elim | exact h _ m⟩
instance {q : D → M (List Nat)} {r : List Nat → Env → M D} [x : MonoE a] [y : MonoF q] [z : MonoJ r] : MonoJ (jsCons q a r) := ⟨fun l => ⟨fun ρ Q Q' E E' h k m => x.h ρ _ _ _ _ (fun w mw => y.h w _ _ _ _ (fun u mu => ⟨mu.1, (z.h _).h ρ _ _ _ _ h k mu.2⟩) k mw) k m⟩⟩
instance {r : List Nat → Env → M D} [z : MonoJ r] : MonoE (eJs r) := z.h []
instance : MonoE cYes := ⟨fun ρ Q Q' E E' h _ m => h _ m⟩
instance {i : Nat} : MonoT (tgName i) := ⟨fun d ρ k k' h m => h _ m⟩
instance : MonoTs tgsNil := ⟨fun d ρ k k' h m => ⟨m.1, h _ m.2⟩⟩
instance [x : MonoT t] [y : MonoTs ts] : MonoTs (tgsCons t ts) := ⟨fun d ρ k k' h m => by
  cases d with
  | nil => exact m.elim
  | cons d r => exact x.h d ρ _ _ (fun ρ' m' => y.h r ρ' _ _ h m') m⟩
instance {n : Nat} [y : MonoTs ts] : MonoT (tgTup n ts) := ⟨fun d ρ k k' h m => by cases d <;> first | exact m.elim | exact ⟨m.1, y.h _ _ _ _ h m.2⟩⟩
theorem lcGo_mono [x : MonoT t] [y : MonoE c] [z : MonoE e] : ∀ (xs acc : List D) (ρ : Env) (Q Q' : List D → Prop) (E E' : Er → Prop), (∀ a, Q a → Q' a) → (∀ x, E x → E' x) → lcGo t c e ρ xs acc Q E → lcGo t c e ρ xs acc Q' E'
  | [], acc, ρ, Q, Q', E, E', h, k, m => h _ m
  | d :: xs, acc, ρ, Q, Q', E, E', h, k, m => x.h d ρ _ _ (fun ρ' m1 => y.h ρ' _ _ _ _ (fun b m2 => by
      cases b with
      | true => exact z.h ρ' _ _ _ _ (fun v m3 => lcGo_mono xs _ ρ Q Q' E E' h k m3) k m2
      | false => exact lcGo_mono xs _ ρ Q Q' E E' h k m2) k m1) m
instance {vs : List Nat} {it : Env → M (List D)} [i : MonoE it] [x : MonoT t] [y : MonoE c] [z : MonoE e] : MonoE (eLc vs it t c e) := ⟨fun ρ Q Q' E E' h k m => i.h ρ _ _ _ _ (fun xs m1 => ⟨m1.1, lcGo_mono xs _ _ _ _ _ _ (fun ds m2 => h _ m2) (fun _ z => z) m1.2⟩) k m⟩
/-! statements -/
instance : MonoS sNext := ⟨fun ρ D D' h m => h.nx _ m⟩
instance [x : MonoS s] [y : MonoS s'] : MonoS (sSeq s s') := ⟨fun ρ D D' h m => x.ap m ⟨fun ρ' m' => y.ap m' h, h.rt, h.bk, h.ct, h.ex⟩⟩
instance {i : Nat} [x : MonoE e] : MonoS (sSet i e) := ⟨fun ρ D D' h m => x.h ρ _ _ _ _ (fun _ q => h.nx _ q) (fun _ q => h.ex _ _ q) m⟩
instance [x : MonoE e] : MonoS (sDo e) := ⟨fun ρ D D' h m => x.h ρ _ _ _ _ (fun _ q => h.nx _ q) (fun _ q => h.ex _ _ q) m⟩
instance [x : MonoE c] [y : MonoS s] [z : MonoS s'] : MonoS (sIf c s s') := ⟨fun ρ D D' h m => x.h ρ _ _ _ _ (fun b q => by
  cases b with
  | true => exact y.h ρ _ _ h q
  | false => exact z.h ρ _ _ h q) (fun _ q => h.ex _ _ q) m⟩
instance [x : MonoE e] : MonoS (sRet e) := ⟨fun ρ D D' h m => x.h ρ _ _ _ _ h.rt (fun _ q => h.ex _ _ q) m⟩
instance : MonoS sRetN := ⟨fun ρ D D' h m => h.rt _ m⟩
instance : MonoS sBreak := ⟨fun ρ D D' h m => h.bk _ m⟩
instance : MonoS sCont := ⟨fun ρ D D' h m => h.ct _ m⟩
instance {i : Nat} [x : MonoE e] : MonoS (sApp i e) := ⟨fun ρ D D' h m => x.h ρ _ _ _ _ (fun d q => by
  split at q
  · exact ⟨q.1, h.nx _ q.2⟩
  · exact q.elim) (fun _ q => h.ex _ _ q) m⟩
instance {i : Nat} [x : MonoE e] [y : MonoE a] : MonoS (sPut i a e) := ⟨fun ρ D D' h m => x.h ρ _ _ _ _ (fun d q => y.h ρ _ _ _ _ (fun k q => by
  split at q
  · rename_i ds j e
    cases en : ixN ds.length j with
    | none => rw [en] at q; exact q.elim
    | some n => rw [en] at q; exact h.nx _ q
  · exact q.elim) (fun _ q => h.ex _ _ q) q) (fun _ q => h.ex _ _ q) m⟩
instance [x : MonoE e] [y : MonoT t] : MonoS (sAsg e t) := ⟨fun ρ D D' h m => x.h ρ _ _ _ _ (fun d q => y.h d ρ _ _ h.nx q) (fun _ q => h.ex _ _ q) m⟩
instance {i j : Nat} [x : MonoE aa] : MonoS (sPar i j aa) := ⟨fun ρ D D' h m => x.h ρ _ _ _ _ (fun d q => by
  split at q
  · exact h.nx _ q
  · exact q.elim) (fun _ q => h.ex _ _ q) m⟩
theorem loop_mono [y : MonoT t] [z : MonoS s] {De De' : Ms} (h : LeMs De De') : ∀ (xs : List D) (ρ : Env), loop t s De xs ρ → loop t s De' xs ρ
  | [], ρ, m => h.nx _ m
  | d :: xs, ρ, m => y.ap m fun ρ' q => z.ap q ⟨fun ρ q => loop_mono h xs ρ q, h.rt, h.nx, fun ρ q => loop_mono h xs ρ q, h.ex⟩
instance {it : Env → M (List D)} [x : MonoE it] [y : MonoT t] [z : MonoS s] : MonoS (sFor it t s) := ⟨fun ρ D D' h m => x.h ρ _ _ _ _ (fun xs q => loop_mono h xs ρ q) (fun _ q => h.ex _ _ q) m⟩
theorem whN_mono [y : MonoE c] [z : MonoS s] {De De' : Ms} (h : LeMs De De') : ∀ (n : Nat) (ρ : Env), whN c s De n ρ → whN c s De' n ρ
  | 0, ρ, m => m.elim
  | n + 1, ρ, m => y.h ρ _ _ _ _ (fun b q => by
      cases b with
      | true => exact z.ap q ⟨fun ρ q => whN_mono h n ρ q, h.rt, h.nx, fun ρ q => whN_mono h n ρ q, h.ex⟩
      | false => exact h.nx _ q) (fun _ q => h.ex _ _ q) m
instance [y : MonoE c] [z : MonoS s] : MonoS (sWhile c s) := ⟨fun ρ D D' h ⟨n, m⟩ => ⟨n, whN_mono h n ρ m⟩⟩
instance {cn : String} : MonoS (sRaise0 cn) := ⟨fun ρ D D' h m => h.ex _ _ m⟩
instance {cn f : String} {g : D → M D} [x : MonoE aa] [y : MonoF g] : MonoS (sRaise1 cn f g aa) := ⟨fun ρ D D' h m => x.h ρ _ _ _ _ (fun ds q => by
  split at q
  · exact y.h _ _ _ _ _ (fun _ q => h.ex _ _ q) (fun _ q => q) q
  · exact q.elim) (fun _ q => h.ex _ _ q) m⟩
instance {i : Nat} {q : D → D → M D} [x : MonoE e] [y : MonoF2 q] : MonoS (sAug q i e) := ⟨fun ρ D D' h m => by
  unfold sAug at m ⊢
  split at m
  · exact x.h ρ _ _ _ _ (fun d q => y.h _ _ _ _ _ _ (fun _ q => h.nx _ q) (fun _ q => h.ex _ _ q) q) (fun _ q => h.ex _ _ q) m
  · exact m.elim⟩
instance {i : Nat} {rs : List String} [x : MonoS s] [y : MonoS s'] : MonoS (sTry i rs s s') := ⟨fun ρ D D' h m => x.ap m ⟨h.nx, h.rt, h.bk, h.ct, fun er ρ' q => ⟨q.1, y.ap q.2 ⟨fun _ z => z, fun d q => ⟨q.1, h.rt _ q.2⟩, fun _ z => z, fun _ z => z, fun _ _ z => z⟩⟩⟩⟩
instance {k : Nat} [x : MonoS s] : MonoF (mFnX k s) := ⟨fun ds Q Q' E E' h l m => x.ap m ⟨fun _ q => h _ q, h, fun _ z => z, fun _ z => z, fun _ _ q => l _ q⟩⟩
instance {k : Nat} [x : MonoS s] : MonoF (mFnN k s) := ⟨fun ds Q Q' E E' h l m => x.ap m ⟨fun _ q => h _ q, h, fun _ z => z, fun _ z => z, fun _ _ q => q⟩⟩
instance {k : Nat} [x : MonoS s] : MonoF (mFnXO k s) := ⟨fun ds Q Q' E E' h l m => x.ap m ⟨fun _ q => q, h, fun _ z => z, fun _ z => z, fun _ _ q => l _ q⟩⟩
instance {k : Nat} [x : MonoS s] : MonoF (mFnNO k s) := ⟨fun ds Q Q' E E' h l m => x.ap m ⟨fun _ q => q, h, fun _ z => z, fun _ z => z, fun _ _ q => q⟩⟩

/-! ### loops by what holds between two turns -/
theorem loop_it [y : MonoT t] [z : MonoS s] {De : Ms} {xs : List D} {ρ : Env} (Pv : Nat → Env → Prop) (h0 : Pv 0 ρ)
    (hs : ∀ i x ρ, xs[i]? = some x → Pv i ρ → t x ρ fun ρ' => s ρ' { De with nx := Pv (i + 1), ct := Pv (i + 1), bk := De.nx }) (hq : ∀ ρ, Pv xs.length ρ → De.nx ρ) : loop t s De xs ρ := by
  have key : ∀ (n i : Nat) (ρ : Env), i + n = xs.length → Pv i ρ → loop t s De (xs.drop i) ρ := by
    intro n
    induction n with
    | zero =>
      intro i ρ hi hp
      rw [List.drop_of_length_le (by omega)]
      exact hq ρ (by rw [← hi]; exact hp)
    | succ n ih =>
      intro i ρ hi hp
      have hlt : i < xs.length := by omega
      rw [List.drop_eq_getElem_cons hlt]
      exact y.ap (hs i _ ρ (List.getElem?_eq_getElem hlt) hp) fun ρ' q => z.ap q ⟨fun ρ q => ih (i + 1) ρ (by omega) q, fun _ q => q, fun _ q => q, fun ρ q => ih (i + 1) ρ (by omega) q, fun _ _ q => q⟩
  exact key xs.length 0 ρ (by omega) h0
theorem while_it [y : MonoE c] [z : MonoS s] {De : Ms} {ρ : Env} (Pv : Nat → Env → Prop) (m : Nat) (h0 : Pv m ρ)
    (hs : ∀ m ρ, Pv m ρ → c ρ (fun x => if x = true then s ρ { De with nx := fun ρ' => ∃ m', m' < m ∧ Pv m' ρ', ct := fun ρ' => ∃ m', m' < m ∧ Pv m' ρ', bk := De.nx } else De.nx ρ) fun er => De.ex er ρ) : sWhile c s ρ De := by
  have key : ∀ (n m : Nat) (ρ : Env), m < n → Pv m ρ → whN c s De n ρ := by
    intro n
    induction n with
    | zero => intro m ρ h; omega
    | succ n ih =>
      intro m ρ h hp
      exact y.h ρ _ _ _ _ (fun b q => by
        cases b with
        | true => exact z.ap q ⟨fun ρ ⟨m', h1, q⟩ => ih m' ρ (by omega) q, fun _ q => q, fun _ q => q, fun ρ ⟨m', h1, q⟩ => ih m' ρ (by omega) q, fun _ _ q => q⟩
        | false => exact q) (fun _ q => q) (hs m ρ hp)
  exact ⟨m + 1, key (m + 1) m ρ (by omega) h0⟩
/-! ### comprehensions -/
theorem lcGo_map {j : Nat} {e : Env → M D} {ρ : Env} {f : D → D} : ∀ (xs acc : List D), (∀ x ∈ xs, e (ρ.set j (some x)) = ret (f x)) → lcGo (tgName j) cYes e ρ xs acc = ret (acc ++ xs.map f)
  | [], acc, _ => by rw [List.map_nil, List.append_nil]; rfl
  | x :: xs, acc, h => by
    funext Q E
    show e (ρ.set j (some x)) (fun d => lcGo (tgName j) cYes e ρ xs (acc ++ [d]) Q E) E = _
    rw [h x List.mem_cons_self]
    show lcGo (tgName j) cYes e ρ xs (acc ++ [f x]) Q E = _
    rw [lcGo_map xs _ fun y hy => h y (List.mem_cons_of_mem _ hy)]
    simp
theorem lcGo_filter {j : Nat} {e : Env → M D} {c : Env → M Bool} {ρ : Env} {f : D → D} {p : D → Bool} : ∀ (xs acc : List D), (∀ x ∈ xs, c (ρ.set j (some x)) = ret (p x)) → (∀ x ∈ xs, p x = true → e (ρ.set j (some x)) = ret (f x)) → lcGo (tgName j) c e ρ xs acc = ret (acc ++ (xs.filter p).map f)
  | [], acc, _, _ => by rw [List.filter_nil, List.map_nil, List.append_nil]; rfl
  | x :: xs, acc, hc, h => by
    funext Q E
    show c (ρ.set j (some x)) (fun b => if b = true then e (ρ.set j (some x)) (fun d => lcGo (tgName j) c e ρ xs (acc ++ [d]) Q E) E else lcGo (tgName j) c e ρ xs acc Q E) E = _
    rw [hc x List.mem_cons_self]
    show (if p x = true then _ else _) = _
    by_cases hp : p x = true
    · rw [if_pos hp, h x List.mem_cons_self hp, List.filter_cons_of_pos hp]
      show lcGo (tgName j) c e ρ xs (acc ++ [f x]) Q E = _
      rw [lcGo_filter xs _ (fun y hy => hc y (List.mem_cons_of_mem _ hy)) fun y hy => h y (List.mem_cons_of_mem _ hy)]
      simp
    · rw [if_neg hp, List.filter_cons_of_neg hp, lcGo_filter xs _ (fun y hy => hc y (List.mem_cons_of_mem _ hy)) fun y hy => h y (List.mem_cons_of_mem _ hy)]
/-- elements drawn one by one -/
inductive All2 {α β : Type} (P : α → β → Prop) : List α → List β → Prop
  | nil : All2 P [] []
  | cons {x : α} {y : β} {xs : List α} {ys : List β} : P x y → All2 P xs ys → All2 P (x :: xs) (y :: ys)
theorem lcGo_draw {j : Nat} {e : Env → M D} {ρ : Env} {P : D → D → Prop} {E : Er → Prop} : ∀ (xs acc : List D) (Q : List D → Prop), (∀ x ∈ xs, ∀ Q' : D → Prop, (∀ d, P x d → Q' d) → e (ρ.set j (some x)) Q' E) → (∀ ds, All2 P xs ds → Q (acc ++ ds)) → lcGo (tgName j) cYes e ρ xs acc Q E
  | [], acc, Q, _, q => by
    have := q [] .nil
    rw [List.append_nil] at this
    exact this
  | x :: xs, acc, Q, h, q => by
    show e (ρ.set j (some x)) (fun d => lcGo (tgName j) cYes e ρ xs (acc ++ [d]) Q E) E
    refine h x List.mem_cons_self _ fun d hd => ?_
    refine lcGo_draw xs _ Q (fun y hy => h y (List.mem_cons_of_mem _ hy)) fun ds hds => ?_
    have := q (d :: ds) (.cons hd hds)
    simpa using this
end
end M

/-! M12: what is ours is hidden, chains, classes, enumerate. -/
namespace M
open PySem PySem.Spec PyProof.Rows L2 TL G
section
variable {K : PySem.W.Frag} {W : Wd} {E : L2.St → XK} {o o1 o2 o3 o' ob : Ow} {te ta tb tc : TE} {tA : TA} {e a b c : Env → M D} {aa : Env → M (List D)} {fr : Bool} {t : TE} {m : Env → M D} {F0 H0 F H : Hp} {ρ : Env} {σ : L2.St}
theorem clsR {cn : String} : Rep K W F (.cls cn) (.ref (He.ga K (Str.ofString cn))) := by rw [Rep]
def hideE : Ow → Env → Env
  | true :: o, _ :: ρ => none :: hideE o ρ
  | false :: o, d :: ρ => d :: hideE o ρ
  | [], ρ => ρ
  | _ :: _, [] => []
theorem SlR.hide : ∀ {ws : List (Option Addr)} {σ : L2.St} {ρ : Env} {H0' : Hp}, SlR K W H0 F H ws σ ρ → SlR K W H0' F H (ws.map fun _ => none) σ (hideE (ws.map Option.isSome) ρ)
  | [], [], [], _, _ => trivial
  | w :: ws, v :: σ, d :: ρ, _, h => by
    cases w with
    | none =>
      refine ⟨?_, SlR.hide h.2⟩
      obtain ⟨g, _⟩ := h
      cases d with
      | none => trivial
      | some d => cases v with
        | none => exact g.elim
        | some v => exact g
    | some a => exact ⟨trivial, SlR.hide h.2⟩
  | [], [], _ :: _, _, h => h.elim
  | [], _ :: _, _, _, h => h.elim
  | _ :: _, [], _, _, h => h.elim
  | _ :: _, _ :: _, [], _, h => h.elim
theorem Sr.hide (h : Sr K W F0 H0 o ρ σ F H) : Sr K W F H (o.map fun _ => false) (hideE o ρ) σ F H := by
  obtain ⟨ws, h1, h2, h3⟩ := h.sl
  refine ⟨h.ext.refl, ws.map fun _ => none, by rw [List.map_map, ← h1, List.map_map]; rfl, ?_, ?_⟩
  · have z : (ws.map fun _ => (none : Option Addr)).filterMap id = [] := by
      clear h1 h2 h3
      induction ws with
      | nil => rfl
      | cons w ws ih => exact ih
    rw [z]
    exact List.nodup_nil
  · have := h3.hide (H0' := H)
    rw [h1] at this
    exact this
def eHide {α : Type} (o : Ow) (m : Env → M α) : Env → M α := fun ρ => m (hideE o ρ)
instance {α : Type} {o : Ow} {m : Env → M α} [x : MonoE m] : MonoE (eHide o m) := ⟨fun ρ Q Q' E E' h k z => x.h _ Q Q' E E' h k z⟩
theorem se_hide (oF : Ow) (eo : o.map (fun _ => false) = oF) (h : SE K W E oF fr oF t m) : SE K W E o fr o t (eHide o m) := by
  intro F0 H0 ρ σ F H Qd Ed Q s hm k x
  have s1 := s.hide
  rw [eo] at s1
  refine h s1 hm (fun v d F' H' s2 st q => ?_) fun er o1 F' H' cls dd s2 xr q => x er o F' H' cls dd (s.step s2.ext) xr q
  cases fr with
  | false => exact k v d F' H' (s.val ⟨s2.ext, s2.head⟩) st q
  | true => exact k v d F' H' (s.val (own_res s2)) st q
/-! a < b < c -/
def eChain (f g : D → D → M D) (a b c : Env → M D) : Env → M D := fun ρ => bnd (a ρ) fun x => bnd (b ρ) fun y => bnd (f x y) fun z => bnd (dBool z) fun k => if k = true then bnd (c ρ) fun w => g y w else ret (.bl false)
theorem se_chain {r r' : R2} {f g : D → D → M D} (ha : SE K W E o false o1 ta a) (hb : SE K W E o1 false o2 tb b) (hr : OpS K W false r f) (hc : SE K W E o2 false o2 tc c) (hr' : OpS K W false r' g) : SE K W E o false o2 (tChain r r' ta tb tc) (eChain f g a b c) := by
  intro F0 H0 ρ σ F H Qd Ed Q s hm k x
  refine ha s hm (fun v d F1 H1 s1 st1 q1 => ?_) x
  refine hb s1.tail q1 (fun v2 d2 F2 H2 s2 st2 q2 => ?_) x
  refine hr s2.ext.refl (Rep.mono st2.ff d s1.head) s2.head q2 fun v3 d3 F3 H3 r3 q3 => ?_
  cases d3 with
  | bl b =>
    refine ⟨b, Rep.bl.mp r3.2, ?_⟩
    have s3 := s2.tail.step r3.1
    have st3 := (st1.trans st2).trans r3.1.stp
    cases b with
    | true =>
      refine iteT (hc s3 q3 (fun v4 d4 F4 H4 s4 st4 q4 => ?_) x)
      exact hr' s4.ext.refl (Rep.mono (r3.1.ff.trans st4.ff) d2 s2.head) s4.head q4 fun v5 d5 F5 H5 r5 q5 => k v5 d5 F5 H5 (s4.tail.val r5) ((st3.trans st4).trans r5.1.stp) q5
    | false => exact iteF (k _ _ F3 H3 (s3.val (ResR.same s3.ext blR)) st3 q3)
  | _ => exact q3.elim
instance {f g : D → D → M D} [x : MonoE a] [y : MonoE b] [z : MonoE c] [u : MonoF2 f] [v : MonoF2 g] : MonoE (eChain f g a b c) := ⟨fun ρ Q Q' E E' h k m => x.h ρ _ _ _ _ (fun p m1 => y.h ρ _ _ _ _ (fun q m2 => u.h _ _ _ _ _ _ (fun r m3 => MonoF.h (f := dBool) r _ _ _ _ (fun bb m4 => by
  cases bb with
  | true => exact z.h ρ _ _ _ _ (fun w m5 => v.h _ _ _ _ _ _ h k m5) k m4
  | false => exact h _ m4) k m3) k m2) k m1) k m⟩
/-! an item of a list of ours -/
def dIxO : Option (Option D) → D → M D
  | some (some (.lst ds)), .int i => ofO (atI ds i)
  | _, _ => stuck
def eIxO (i : Nat) (b : Env → M D) : Env → M D := fun ρ => bnd (b ρ) fun k => dIxO (ρ[i]?) k
theorem se_ixO {i : Nat} (h0 : o[i]? = some true) (hb : SE K W E o false o1 tb b) (h1 : o1[i]? = some true) : SE K W E o false o1 (tOp (rIxU K) (tVar i) tb) (eIxO i b) := by
  intro F0 H0 ρ σ F H Qd Ed Q s hm k x
  obtain ⟨p, vs, ds, e1, e2, e3, e4, e5, e6, e7⟩ := s.atO h0
  refine ⟨_, e2, hb s hm (fun v d F1 H1 s1 st q => ?_) x⟩
  obtain ⟨p', vs', ds', g1, g2, g3, g4, g5, g6, g7⟩ := s1.tail.atO h1
  rw [e2] at g2
  cases g2
  rw [g1] at q
  cases d with
  | int j =>
    cases Rep.int.mp s1.head
    have q' : ofO (atI ds' j) Qd Ed := q
    cases ed : atI ds' j with
    | none => rw [ed] at q'; exact q'.elim
    | some d =>
      rw [ed] at q'
      obtain ⟨v, ev, rv⟩ := atI_rep g7 ed
      exact go_ixl (sq_of g6) ev (k _ _ F1 H1 (s1.tail.val (ResR.same s1.ext rv)) st q')
  | _ => exact q.elim
theorem dIxO_mono {r : Option (Option D)} {w : D} {Q Q' : D → Prop} {E E' : Er → Prop} (h : ∀ d, Q d → Q' d) (k : ∀ e, E e → E' e) (mw : dIxO r w Q E) : dIxO r w Q' E' := by
  match r, w, mw with
  | some (some (.lst ds)), .int i, mw =>
    have mw' : ofO (atI ds i) Q E := mw
    show ofO (atI ds i) Q' E'
    cases ed : atI ds i with
    | none => rw [ed] at mw'; exact mw'.elim
    | some d => rw [ed] at mw'; exact h _ mw'
instance {i : Nat} [x : MonoE b] : MonoE (eIxO i b) := ⟨fun ρ Q Q' E E' h k m => x.h ρ _ _ _ _ (fun w mw => dIxO_mono h k mw) k m⟩
end
theorem hu65 {k : Nat} {A : Around} (hr : Room k A) : A.units + 65 < cLine := by have := hr.un; omega
end M

/-! M13: what was left: instances, a recursion's last level. -/
namespace M
open PySem PySem.Spec PyProof.Rows L2 TL G
theorem SpM.no {K : PySem.W.Frag} {fr : Bool} {n : Nat} {vs : List V} {H : Hp} {Q : VK} {E : XK} (h : SpM K fr n (fun _ => stuck) vs H Q E) : False := by
  obtain ⟨W, ds, F, Qd, Ed, _, _, _, _, hm, _⟩ := h
  exact hm
instance {rs cs : List String} : MonoF (dIsx rs cs) := ⟨fun ds Q Q' E E' h _ m => by
  unfold dIsx at m ⊢
  split at m
  · rename_i x y
    cases e : excC x with
    | none => rw [e] at m; exact m.elim
    | some c =>
      rw [e] at m
      cases y <;> first | exact m.elim | exact ⟨m.1, h _ m.2⟩
  · exact m.elim⟩
instance {a : Env → M D} {cn n : String} [x : MonoE a] : MonoE (eXf cn n a) := ⟨fun ρ Q Q' E E' h k m => x.h ρ _ _ _ _ (fun w mw => by
  cases w <;> first | exact mw.elim | exact ⟨mw.1, h _ mw.2⟩) k m⟩
theorem decS_eq (a b : String) : decide ((Str.ofString a) = Str.ofString b ∨ Str.ofString a = "LeadsError") = decide (a = b ∨ a = "LeadsError") := by
  have inj : ∀ {x y : String}, Str.ofString x = Str.ofString y → x = y := fun {x y} h => by
    have e := congrArg (fun s : Str => s.cps.toList) h
    simp only [PyProof.Rows.signs_ofString] at e
    have e2 : x.toList = y.toList := by
      generalize x.toList = u at e
      generalize y.toList = v at e
      induction u generalizing v with
      | nil =>
        cases v with
        | nil => rfl
        | cons c v => cases e
      | cons c u ih =>
        cases v with
        | nil => cases e
        | cons d v =>
          injection e with e1 e3
          rw [Char.toNat_inj.mp e1, ih v e3]
    exact String.ext e2
  by_cases h1 : a = b
  · subst h1
    simp
  · have h2 : Str.ofString a ≠ Str.ofString b := fun z => h1 (inj z)
    by_cases h3 : a = "LeadsError"
    · subst h3
      simp
    · have h4 : Str.ofString a ≠ Str.ofString "LeadsError" := fun z => h3 (inj z)
      have e1 : decide (Str.ofString a = Str.ofString b ∨ Str.ofString a = "LeadsError") = false := decide_eq_false (fun z => z.elim h2 h4)
      rw [e1]
      exact (decide_eq_false (fun z => z.elim h1 h3)).symm
/-! what is walked, and what is told of it, by one name for the walked -/
section
variable {K : PySem.W.Frag} {ob o' : Ow} {a : MS} {N : List Str} {n k : Nat} {vs : List V} {H : Hp} {Q : VK} {E1 : XK} {p : TS → Prop} {t : TS}
theorem viaN (hp : p t) (h : ∀ W, W.xc = none → SS K W (fun _ => E0) false ob (List.replicate (n + k) false) o' t a) (hN : N.length = n + k) (hs : SpM K false n (mFnN k a) vs H Q E1) : ∃ t, p t ∧ t { nx := fun _ H' => Q .non H', rt := Q } (L2.start N vs) H := ⟨t, hp, fnN h hN hs⟩
theorem viaX (hp : p t) (h : ∀ W, W.xc = none → SS K W (fun _ => E1) false ob (List.replicate (n + k) false) o' t a) (hN : N.length = n + k) (hs : SpM K false n (mFnX k a) vs H Q E1) : ∃ t, p t ∧ t { nx := fun _ H' => Q .non H', rt := Q } (L2.start N vs) H := ⟨t, hp, fnX h hN hs⟩
theorem viaNO (hp : p t) (h : ∀ W, W.xc = none → SS K W (fun _ => E0) true ob (List.replicate (n + k) false) o' t a) (hN : N.length = n + k) (hs : SpM K true n (mFnNO k a) vs H Q E1) : ∃ t, p t ∧ t { nx := fun _ H' => Q .non H', rt := Q } (L2.start N vs) H := ⟨t, hp, fnNO h hN hs⟩
theorem viaXO (hp : p t) (h : ∀ W, W.xc = none → SS K W (fun _ => E1) true ob (List.replicate (n + k) false) o' t a) (hN : N.length = n + k) (hs : SpM K true n (mFnXO k a) vs H Q E1) : ∃ t, p t ∧ t { nx := fun _ H' => Q .non H', rt := Q } (L2.start N vs) H := ⟨t, hp, fnXO h hN hs⟩
theorem viaL {p : TS → Prop} {t : TS} (hp : p (tSeq (tAsg (uCall (spStore K) (fun _ => E0) (tCons (tVar 0) tNil)) (gName 1)) t)) (h : ∀ W : Wd, W.xc = none → SS K W (fun _ => E0) false ob (List.replicate (n + 2) false) o' t a) (hN : N.length = n + 2) (hm : lawM n a) (hs : spLaw K vs H Q E1) : ∃ t, p t ∧ t { nx := fun _ H' => Q .non H', rt := Q } (L2.start N vs) H := ⟨_, hp, law_go h hN hm hs⟩
end
section
variable {K : PySem.W.Frag} {W : Wd} {E : L2.St → XK} {o o1 o2 o' ob : Ow} {te tk : TE} {tt : TT} {tA : TA} {a b : MS} {e ek : Env → M D} {c : Env → M Bool} {aa : Env → M (List D)} {fr : Bool} {t u : TS} {F0 H0 F H : Hp} {ρ : Env} {σ : L2.St}
theorem ss_tryD (hx : W.xc = none) {i : Nat} {rs cs : List String} {tb : Ends → TS} {ts : Addr → Value → Option Addr → TS} {Wout : WX} {hd : MS} (X : XTab K rs cs) (hb : ∀ D : Ends, SS K W (WE (wAs K (.ref (He.ga K "LeadsError")) i ts Wout D)) false ob o o1 (tb D) b)
    (hsu : ∀ (a : Addr) (cls : Value) (dd : Option Addr) (o : Ow), AllF o → SS K { W with xc := some (a, cls, dd) } (fun _ => E0) false o o o (ts a cls dd) hd) :
    SS K W E false ob o o1 (fun D σ H => tb D D σ H) (sTry i rs b hd) := by
  intro F0 H0 Fs ρ σ F H De Dr s hm z k
  refine hb _ s hm z ⟨k.nx, k.rt, k.bk, k.ct, fun er o2 ρ2 σ2 F2 H2 cls dd s2 xr q => ?_⟩
  obtain ⟨q1, q2⟩ := q
  have m1 : er.nm ∈ rs := by simpa using q1
  have ecls := (xr_rep (a := 0) hx xr).2
  refine ⟨true, by rw [ecls]; exact X.l er.nm m1, fun _ a ha => ?_, fun y => by cases y⟩
  obtain ⟨F3, s3, sm3⟩ := s2.freezeAll
  have aF : AllF (o2.map fun _ => false) := AllF.of_map
  have s4 : Sr K { W with xc := some (a, cls, dd) } F0 H0 (o2.map fun _ => false) ρ2 σ2 F3 H2 := s3.xc hx aF
  have r4 := (xr_rep (a := a) hx (XR.mono (H1 := H2) sm3 xr)).1
  have s5 := (s4.val (ResR.same s4.ext r4)).put i
  rw [aF.set] at s5
  refine hsu a cls dd _ aF (Fs := F3) s5 q2 (Same.refl _) ⟨fun _ _ _ _ _ _ y => y.elim, fun o1 ρ5 σ5 F5 H5 v d s5 q5 => ?_, fun _ _ _ _ _ _ y => y.elim, fun _ _ _ _ _ _ y => y.elim, fun _ _ _ _ _ _ _ _ _ _ y => y.elim⟩
  have r5 : Rep K W F5 d v := by
    have y := Rep.xc (z' := none) d q5.1 s5.head
    rw [← wd_eta hx] at y
    exact y
  have ex5 := s5.ext.xc'
  exact k.rt [] [] [] F5 H5 v d ⟨ex5, [none], rfl, by simp, r5, trivial⟩ q5.2
end
end M

/-! M14: one step of a plain form, found by its head. -/
namespace M
open PySem PySem.Spec PyProof.Rows L2 TL G

class Gm (p : Prop) (q : outParam Prop) : Prop where
  go : q → p
theorem gm {p q : Prop} [x : Gm p q] (h : q) : p := x.go h
class At (ρ : Env) (i : Nat) (d : outParam D) : Prop where
  h : ρ[i]? = some (some d)
instance {ρ : Env} {d : D} : At (some d :: ρ) 0 d := ⟨rfl⟩
instance {ρ : Env} {x : Option D} {d : D} {i : Nat} [a : At ρ i d] : At (x :: ρ) (i + 1) d := ⟨by rw [List.getElem?_cons_succ]; exact a.h⟩
class Put (ρ : Env) (i : Nat) (x : Option D) (ρ' : outParam Env) : Prop where
  h : ρ.set i x = ρ'
instance {ρ : Env} {x y : Option D} : Put (y :: ρ) 0 x (x :: ρ) := ⟨rfl⟩
instance {ρ ρ' : Env} {x y : Option D} {i : Nat} [a : Put ρ i x ρ'] : Put (y :: ρ) (i + 1) x (y :: ρ') := ⟨by rw [List.set_cons_succ, a.h]⟩
class EnvE (ds : List D) (k : Nat) (ρ : outParam Env) : Prop where
  h : env0 ds k = ρ
instance : EnvE [] 0 [] := ⟨rfl⟩
instance {k : Nat} {ρ : Env} [a : EnvE [] k ρ] : EnvE [] (k + 1) (none :: ρ) := ⟨by rw [← a.h]; rfl⟩
instance {k : Nat} {d : D} {ds : List D} {ρ : Env} [a : EnvE ds k ρ] : EnvE (d :: ds) k (some d :: ρ) := ⟨by rw [← a.h]; rfl⟩
class Sm {α : Type} (l : List α) (n : Nat) : Prop where
  h : l.length ≤ n
instance {α : Type} {n : Nat} : Sm ([] : List α) n := ⟨Nat.zero_le _⟩
instance {α : Type} {n : Nat} {x : α} {l : List α} [a : Sm l n] : Sm (x :: l) (n + 1) := ⟨Nat.succ_le_succ a.h⟩
class Ln {α : Type} (l : List α) (n : Nat) : Prop where
  h : l.length = n
instance {α : Type} : Ln ([] : List α) 0 := ⟨rfl⟩
instance {α : Type} {n : Nat} {x : α} {l : List α} [a : Ln l n] : Ln (x :: l) (n + 1) := ⟨by rw [List.length_cons, a.h]⟩
class Cat {α : Type} (l m : List α) (r : outParam (List α)) : Prop where
  h : l ++ m = r
instance {α : Type} {m : List α} : Cat [] m m := ⟨rfl⟩
instance {α : Type} {x : α} {l m r : List α} [a : Cat l m r] : Cat (x :: l) m (x :: r) := ⟨by rw [← a.h]; rfl⟩
class Rv {α : Type} (l acc : List α) (r : outParam (List α)) : Prop where
  h : l.reverseAux acc = r
instance {α : Type} {acc : List α} : Rv [] acc acc := ⟨rfl⟩
instance {α : Type} {x : α} {l acc r : List α} [a : Rv l (x :: acc) r] : Rv (x :: l) acc r := ⟨a.h⟩
class Wp (ρ : Env) (vs : List Nat) (ρ' : outParam Env) : Prop where
  h : wipeD ρ vs = ρ'
instance {ρ : Env} : Wp ρ [] ρ := ⟨rfl⟩
instance {ρ ρ1 ρ2 : Env} {i : Nat} {is : List Nat} [a : Wp ρ is ρ1] [b : Put ρ1 i none ρ2] : Wp ρ (i :: is) ρ2 := ⟨by show (wipeD ρ is).set i none = ρ2; rw [a.h, b.h]⟩
class Hd (o : Ow) (ρ : Env) (ρ' : outParam Env) : Prop where
  h : hideE o ρ = ρ'
instance {ρ : Env} : Hd [] ρ ρ := ⟨rfl⟩
instance {o : Ow} {ρ ρ' : Env} {x : Option D} [a : Hd o ρ ρ'] : Hd (true :: o) (x :: ρ) (none :: ρ') := ⟨by show none :: hideE o ρ = _; rw [a.h]⟩
instance {o : Ow} {ρ ρ' : Env} {x : Option D} [a : Hd o ρ ρ'] : Hd (false :: o) (x :: ρ) (x :: ρ') := ⟨by show x :: hideE o ρ = _; rw [a.h]⟩
/-- the kth of a written list -/
class Nth (l : List D) (i : Int) (d : outParam D) : Prop where
  h : atI l i = some d
instance {x0 : D} {l : List D} : Nth (x0 :: l) 0 x0 := ⟨atI_at (by decide) rfl⟩
instance {x0 x1 : D} {l : List D} : Nth (x0 :: x1 :: l) 1 x1 := ⟨atI_at (by decide) rfl⟩
instance {x0 x1 x2 : D} {l : List D} : Nth (x0 :: x1 :: x2 :: l) 2 x2 := ⟨atI_at (by decide) rfl⟩
instance {x0 x1 x2 x3 : D} {l : List D} : Nth (x0 :: x1 :: x2 :: x3 :: l) 3 x3 := ⟨atI_at (by decide) rfl⟩
instance {x0 x1 x2 x3 x4 : D} {l : List D} : Nth (x0 :: x1 :: x2 :: x3 :: x4 :: l) 4 x4 := ⟨atI_at (by decide) rfl⟩
instance {x0 x1 x2 x3 x4 x5 : D} {l : List D} : Nth (x0 :: x1 :: x2 :: x3 :: x4 :: x5 :: l) 5 x5 := ⟨atI_at (by decide) rfl⟩
instance {x0 x1 x2 x3 x4 x5 x6 : D} {l : List D} : Nth (x0 :: x1 :: x2 :: x3 :: x4 :: x5 :: x6 :: l) 6 x6 := ⟨atI_at (by decide) rfl⟩
instance {x0 x1 x2 x3 x4 x5 x6 x7 : D} {l : List D} : Nth (x0 :: x1 :: x2 :: x3 :: x4 :: x5 :: x6 :: x7 :: l) 7 x7 := ⟨atI_at (by decide) rfl⟩
class Isi (d : D) (c : String) (b : outParam Bool) : Prop where
  h : ((tyOf d).bind fun t => kitB t c) = some b
instance : Isi .non "bool" false := ⟨by rw [tyOf]; decide⟩
instance {x : Bool} : Isi (.bl x) "bool" true := ⟨by rw [tyOf]; decide⟩
instance {x : Int} : Isi (.int x) "bool" false := ⟨by rw [tyOf]; decide⟩
instance {x : List Nat} : Isi (.str x) "bool" false := ⟨by rw [tyOf]; decide⟩
instance {x : List D} : Isi (.lst x) "bool" false := ⟨by rw [tyOf]; decide⟩
instance {x : List D} : Isi (.tup x) "bool" false := ⟨by rw [tyOf]; decide⟩
instance : Isi .non "int" false := ⟨by rw [tyOf]; decide⟩
instance {x : Bool} : Isi (.bl x) "int" true := ⟨by rw [tyOf]; decide⟩
instance {x : Int} : Isi (.int x) "int" true := ⟨by rw [tyOf]; decide⟩
instance {x : List Nat} : Isi (.str x) "int" false := ⟨by rw [tyOf]; decide⟩
instance {x : List D} : Isi (.lst x) "int" false := ⟨by rw [tyOf]; decide⟩
instance {x : List D} : Isi (.tup x) "int" false := ⟨by rw [tyOf]; decide⟩
instance : Isi .non "str" false := ⟨by rw [tyOf]; decide⟩
instance {x : Bool} : Isi (.bl x) "str" false := ⟨by rw [tyOf]; decide⟩
instance {x : Int} : Isi (.int x) "str" false := ⟨by rw [tyOf]; decide⟩
instance {x : List Nat} : Isi (.str x) "str" true := ⟨by rw [tyOf]; decide⟩
instance {x : List D} : Isi (.lst x) "str" false := ⟨by rw [tyOf]; decide⟩
instance {x : List D} : Isi (.tup x) "str" false := ⟨by rw [tyOf]; decide⟩
instance : Isi .non "list" false := ⟨by rw [tyOf]; decide⟩
instance {x : Bool} : Isi (.bl x) "list" false := ⟨by rw [tyOf]; decide⟩
instance {x : Int} : Isi (.int x) "list" false := ⟨by rw [tyOf]; decide⟩
instance {x : List Nat} : Isi (.str x) "list" false := ⟨by rw [tyOf]; decide⟩
instance {x : List D} : Isi (.lst x) "list" true := ⟨by rw [tyOf]; decide⟩
instance {x : List D} : Isi (.tup x) "list" false := ⟨by rw [tyOf]; decide⟩
instance : Isi .non "tuple" false := ⟨by rw [tyOf]; decide⟩
instance {x : Bool} : Isi (.bl x) "tuple" false := ⟨by rw [tyOf]; decide⟩
instance {x : Int} : Isi (.int x) "tuple" false := ⟨by rw [tyOf]; decide⟩
instance {x : List Nat} : Isi (.str x) "tuple" false := ⟨by rw [tyOf]; decide⟩
instance {x : List D} : Isi (.lst x) "tuple" false := ⟨by rw [tyOf]; decide⟩
instance {x : List D} : Isi (.tup x) "tuple" true := ⟨by rw [tyOf]; decide⟩
section
variable {α β : Type} {ρ ρ' : Env} {a b e l u : Env → M D} {c c' : Env → M Bool} {aa : Env → M (List D)} {f : D → D → M D} {g : List D → M D} {s s' : MS} {t : TgM} {ts : TgsM} {Q : D → Prop} {Q1 : α → Prop} {QB : Bool → Prop} {QL : List D → Prop} {E : Er → Prop} {D0 : Ms} {d x y : D} {ds es : List D} {i j : Nat} {m n : Int} {p q : Prop} {w z : List Nat}
instance {m : M α} {k : α → M β} {Q : β → Prop} : Gm (bnd m k Q E) (m (fun a => k a Q E) E) := ⟨id⟩
instance {v : α} : Gm (ret v Q1 E) (Q1 v) := ⟨id⟩
instance {m : M α} : Gm (grd p m Q1 E) (p ∧ m Q1 E) := ⟨id⟩
instance [h : At ρ i d] : Gm (eVar i ρ Q E) (Q d) := ⟨fun k => by unfold eVar; rw [h.h]; exact k⟩
instance : Gm (eC d ρ Q E) (Q d) := ⟨id⟩
instance : Gm (eOp f a b ρ Q E) (a ρ (fun x => b ρ (fun y => f x y Q E) E) E) := ⟨id⟩
instance {f : D → M D} : Gm (eUn f a ρ Q E) (a ρ (fun x => f x Q E) E) := ⟨id⟩
instance : Gm (cTest a ρ QB E) (a ρ (fun x => dBool x QB E) E) := ⟨id⟩
instance {b : Bool} : Gm (dBool (.bl b) QB E) (QB b) := ⟨id⟩
instance {u v : Env → M α} : Gm (cIf c u v ρ Q1 E) (c ρ (fun x => (if x = true then u ρ else v ρ) Q1 E) E) := ⟨id⟩
instance {u v : M α} : Gm ((if true = true then u else v) Q1 E) (u Q1 E) := ⟨id⟩
instance {u v : M α} : Gm ((if false = true then u else v) Q1 E) (v Q1 E) := ⟨id⟩
instance : Gm (if true = true then p else q) p := ⟨id⟩
instance : Gm (if false = true then p else q) q := ⟨id⟩
instance : Gm (cAnd c c' ρ QB E) (c ρ (fun x => (if x = true then c' ρ else ret false) QB E) E) := ⟨id⟩
instance : Gm (cOr c c' ρ QB E) (c ρ (fun x => (if x = true then ret true else c' ρ) QB E) E) := ⟨id⟩
instance : Gm (cNot c ρ QB E) (c ρ (fun x => QB (!x)) E) := ⟨id⟩
instance : Gm (eAnd a b ρ Q E) (a ρ (fun x => dBool x (fun x => (if x = true then b ρ else ret (.bl false)) Q E) E) E) := ⟨id⟩
instance : Gm (eOr a b ρ Q E) (a ρ (fun x => dBool x (fun x => (if x = true then ret (.bl true) else b ρ) Q E) E) E) := ⟨id⟩
instance : Gm (eNot a ρ Q E) (a ρ (fun x => dBool x (fun b => Q (.bl (!b))) E) E) := ⟨id⟩
instance : Gm (aNil ρ QL E) (QL []) := ⟨id⟩
instance : Gm (aCons a aa ρ QL E) (a ρ (fun x => aa ρ (fun xs => QL (x :: xs)) E) E) := ⟨id⟩
instance : Gm (eFn g aa ρ Q E) (aa ρ (fun ds => g ds Q E) E) := ⟨id⟩
instance : Gm (eScal a ρ Q E) (a ρ (fun d => scal d = true ∧ Q d) E) := ⟨id⟩
instance : Gm (scal (.int n) = true ∧ p) p := ⟨fun h => ⟨rfl, h⟩⟩
instance {b : Bool} : Gm (scal (.bl b) = true ∧ p) p := ⟨fun h => ⟨rfl, h⟩⟩
instance : Gm (scal (.str w) = true ∧ p) p := ⟨fun h => ⟨rfl, h⟩⟩
instance : Gm (scal .non = true ∧ p) p := ⟨fun h => ⟨rfl, h⟩⟩
instance [h : Sm ds 1000000] : Gm (dLst ds Q E) (Q (.lst ds)) := ⟨fun k => ⟨h.h, k⟩⟩
instance [h : Sm ds 1000000] : Gm (dTup ds Q E) (Q (.tup ds)) := ⟨fun k => ⟨h.h, k⟩⟩
instance : Gm (eCall i g aa ρ Q E) (aa ρ (fun ds => ds.length = i ∧ g ds Q E) E) := ⟨id⟩
instance : Gm (eCallD i g es aa ρ Q E) (aa ρ (fun ds => (ds ++ es).length = i ∧ g (ds ++ es) Q E) E) := ⟨id⟩
instance : Gm (eCallR i g aa ρ Q E) (aa ρ (fun ds => ds.length = i ∧ g ds.reverse Q E) E) := ⟨id⟩
instance [h : Ln ds i] [r : Rv ds [] es] : Gm (ds.length = i ∧ g ds.reverse Q E) (g es Q E) := ⟨fun k => ⟨h.h, by rw [List.reverse, r.h]; exact k⟩⟩
instance {ds1 : List D} [c : Cat ds1 es ds] [h : Ln ds i] : Gm ((ds1 ++ es).length = i ∧ g (ds1 ++ es) Q E) (g ds Q E) := ⟨fun k => by rw [c.h]; exact ⟨h.h, k⟩⟩
instance [h : Ln ds i] : Gm (ds.length = i ∧ g ds Q E) (g ds Q E) := ⟨fun k => ⟨h.h, k⟩⟩
/-! data -/
instance : Gm (dAdd (.int m) (.int n) Q E) (Q (.int (m + n))) := ⟨id⟩
instance : Gm (dAdd (.str w) (.str z) Q E) (w.length + z.length ≤ 1000000 ∧ Q (.str (w ++ z))) := ⟨id⟩
instance : Gm (dAdd (.lst ds) (.lst es) Q E) (ds.length + es.length ≤ 1000000 ∧ Q (.lst (ds ++ es))) := ⟨id⟩
instance : Gm (dAdd (.tup ds) (.tup es) Q E) (ds.length + es.length ≤ 1000000 ∧ Q (.tup (ds ++ es))) := ⟨id⟩
instance : Gm (dAddL (.lst ds) (.lst es) Q E) (ds.length + es.length ≤ 1000000 ∧ Q (.lst (ds ++ es))) := ⟨id⟩
instance : Gm (dAddI (.int m) (.int n) Q E) (Q (.int (m + n))) := ⟨id⟩
instance : Gm (dSubI (.int m) (.int n) Q E) (Q (.int (m - n))) := ⟨id⟩
instance : Gm (dSub (.int m) (.int n) Q E) (Q (.int (m - n))) := ⟨id⟩
instance : Gm (dMul (.int m) (.int n) Q E) ((smallI m ∨ smallI n) ∧ Q (.int (m * n))) := ⟨id⟩
instance : Gm (dMul (.str w) (.int n) Q E) ((0 ≤ n ∧ n ≤ 1000000 ∧ n * w.length ≤ 1000000) ∧ Q (.str (rep w n.toNat))) := ⟨id⟩
instance : Gm (dMul (.lst ds) (.int n) Q E) ((0 ≤ n ∧ n ≤ 1000000 ∧ n * ds.length ≤ 1000000) ∧ Q (.lst (List.replicate n.toNat ds).flatten)) := ⟨id⟩
instance : Gm (dDiv (.int m) (.int n) Q E) ((0 < n ∧ n < 2 ^ 64) ∧ Q (.int (m / n))) := ⟨id⟩
instance : Gm (dMod (.int m) (.int n) Q E) (0 < n ∧ Q (.int (m % n))) := ⟨id⟩
instance : Gm (dNeg (.int m) Q E) (Q (.int (-m))) := ⟨id⟩
instance {p : Int → Int → Bool} {q : List Nat → List Nat → Bool} : Gm (dCmp p q (.int m) (.int n) Q E) (Q (.bl (p m n))) := ⟨id⟩
instance {p : Int → Int → Bool} {q : List Nat → List Nat → Bool} : Gm (dCmp p q (.str w) (.str z) Q E) (Q (.bl (q w z))) := ⟨id⟩
instance : Gm (dEq (.int m) (.int n) Q E) (Q (.bl (decide (m = n)))) := ⟨fun k => ⟨rfl, by rw [dEqB_int]; exact k⟩⟩
instance : Gm (dEq (.str w) (.str z) Q E) (Q (.bl (decide (w = z)))) := ⟨fun k => ⟨rfl, by rw [dEqB_str]; exact k⟩⟩
instance {m n : Bool} : Gm (dEq (.bl m) (.bl n) Q E) (Q (.bl (m == n))) := ⟨fun k => ⟨rfl, by rw [dEqB_bl]; exact k⟩⟩
instance : Gm (dNe (.int m) (.int n) Q E) (Q (.bl (!decide (m = n)))) := ⟨fun k => ⟨rfl, by rw [dEqB_int]; exact k⟩⟩
instance : Gm (dNe (.str w) (.str z) Q E) (Q (.bl (!decide (w = z)))) := ⟨fun k => ⟨rfl, by rw [dEqB_str]; exact k⟩⟩
instance : Gm (dIs .non .non Q E) (Q (.bl true)) := ⟨id⟩
instance : Gm (dIsn .non .non Q E) (Q (.bl false)) := ⟨id⟩
instance {v : Bool} : Gm (dIs .non (.bl v) Q E) (Q (.bl false)) := ⟨fun k => ⟨rfl, k⟩⟩
instance {k : Bool} : Gm (dIs (.bl k) .non Q E) (Q (.bl false)) := ⟨id⟩
instance {k : Bool} : Gm (dIsn (.bl k) .non Q E) (Q (.bl true)) := ⟨id⟩
instance {k : Bool} : Gm (dIs (.bl k) (.bl true) Q E) (Q (.bl (k == true))) := ⟨fun k => ⟨rfl, k⟩⟩
instance {k : Bool} : Gm (dIs (.bl k) (.bl false) Q E) (Q (.bl (k == false))) := ⟨fun k => ⟨rfl, k⟩⟩
instance {k : Int} : Gm (dIs (.int k) .non Q E) (Q (.bl false)) := ⟨id⟩
instance {k : Int} : Gm (dIsn (.int k) .non Q E) (Q (.bl true)) := ⟨id⟩
instance {k : Int} {v : Bool} : Gm (dIs (.int k) (.bl v) Q E) (Q (.bl false)) := ⟨fun k => ⟨rfl, k⟩⟩
instance {k : List Nat} : Gm (dIs (.str k) .non Q E) (Q (.bl false)) := ⟨id⟩
instance {k : List Nat} : Gm (dIsn (.str k) .non Q E) (Q (.bl true)) := ⟨id⟩
instance {k : List Nat} {v : Bool} : Gm (dIs (.str k) (.bl v) Q E) (Q (.bl false)) := ⟨fun k => ⟨rfl, k⟩⟩
instance {k : List D} : Gm (dIs (.lst k) .non Q E) (Q (.bl false)) := ⟨id⟩
instance {k : List D} : Gm (dIsn (.lst k) .non Q E) (Q (.bl true)) := ⟨id⟩
instance {k : List D} {v : Bool} : Gm (dIs (.lst k) (.bl v) Q E) (Q (.bl false)) := ⟨fun k => ⟨rfl, k⟩⟩
instance {k : List D} : Gm (dIs (.tup k) .non Q E) (Q (.bl false)) := ⟨id⟩
instance {k : List D} : Gm (dIsn (.tup k) .non Q E) (Q (.bl true)) := ⟨id⟩
instance {k : List D} {v : Bool} : Gm (dIs (.tup k) (.bl v) Q E) (Q (.bl false)) := ⟨fun k => ⟨rfl, k⟩⟩
instance {c : Nat} : Gm (dInB false (.str [c]) (.str w) Q E) (Q (.bl (decide (c ∈ w)))) := ⟨id⟩
instance {c : Nat} : Gm (dInB true (.str [c]) (.str w) Q E) (Q (.bl (!decide (c ∈ w)))) := ⟨id⟩
instance {n : Int} [h : Nth ds n d] : Gm (dIx (.lst ds) (.int n) Q E) (Q d) := ⟨fun k => by show ofO (atI ds n) Q E; rw [h.h]; exact k⟩
instance {n : Int} [h : Nth ds n d] : Gm (dIx (.tup ds) (.int n) Q E) (Q d) := ⟨fun k => by show ofO (atI ds n) Q E; rw [h.h]; exact k⟩
instance [h : At ρ i (.lst ds)] : Gm (eIxO i a ρ Q E) (a ρ (fun k => dIxO (some (some (.lst ds))) k Q E) E) := ⟨fun k => by unfold eIxO; rw [h.h]; exact k⟩
instance {n : Int} [h : Nth ds n d] : Gm (dIxO (some (some (.lst ds))) (.int n) Q E) (Q d) := ⟨fun k => by show ofO (atI ds n) Q E; rw [h.h]; exact k⟩
instance {v : D} : Gm (ofO (some v) Q E) (Q v) := ⟨id⟩
instance {lo hi : Option Int} : Gm (dSl (.str w) lo hi Q E) (w.length ≤ 1000000 ∧ Q (.str (cutD w lo hi))) := ⟨id⟩
instance {lo hi : Option Int} : Gm (dSl (.lst ds) lo hi Q E) (Q (.lst (cutD ds lo hi))) := ⟨id⟩
instance {lo hi : Option Int} : Gm (dSlL (.lst ds) lo hi Q E) (Q (.lst (cutD ds lo hi))) := ⟨id⟩
instance {f : D → Option Int → Option Int → M D} {l u : Env → M (Option Int)} : Gm (eSl f a l u ρ Q E) (a ρ (fun d => l ρ (fun x => u ρ (fun y => f d x y Q E) E) E) E) := ⟨id⟩
instance {Q : Option Int → Prop} : Gm (pNo ρ Q E) (Q none) := ⟨id⟩
instance {Q : Option Int → Prop} : Gm (pEx a ρ Q E) (a ρ (fun d => dI d Q E) E) := ⟨id⟩
instance {Q : Option Int → Prop} : Gm (dI (.int n) Q E) (Q (some n)) := ⟨id⟩
instance {t : D → Bool} {f : D → List D → M D} : Gm (eMt t f a aa ρ Q E) (a ρ (fun d => t d = true ∧ aa ρ (fun ds => f d ds Q E) E) E) := ⟨id⟩
instance : Gm (isStrD (.str w) = true ∧ p) p := ⟨fun h => ⟨rfl, h⟩⟩
instance : Gm (isLstD (.lst ds) = true ∧ p) p := ⟨fun h => ⟨rfl, h⟩⟩
instance {c : Nat} : Gm (dCntS (.str w) [.str [c]] Q E) (Q (.int (w.count c : Nat))) := ⟨id⟩
instance {c : Nat} : Gm (dEnds (.str w) [.str [c]] Q E) (Q (.bl (decide (w.getLast? = some c)))) := ⟨id⟩
instance {c : Nat} : Gm (dPart (.str w) [.str [c]] Q E) (w.length ≤ 1000000 ∧ dPartM w c (cutAt c w) Q E) := ⟨id⟩
instance {c : Nat} : Gm (dIdxS (.str w) [.str [c]] Q E) (dIdxM (cutAt c w) Q E) := ⟨id⟩
instance : Gm (dJoin (.str []) [.lst ds] Q E) (dJoinM (strsD ds) Q E) := ⟨id⟩
instance : Gm (dUp (.str w) [] Q E) ((w.length ≤ 1000000 ∧ ∀ c ∈ w, c < 128) ∧ Q (.str (w.map up1))) := ⟨id⟩
instance : Gm (dCntL (.lst ds) [y] Q E) ((scal y && ds.all scal) = true ∧ Q (.int (ds.countP (fun z => dEqB z y) : Nat))) := ⟨id⟩
instance : Gm (dLen [.str w] Q E) (w.length ≤ 1000000 ∧ Q (.int w.length)) := ⟨id⟩
instance : Gm (dLen [.lst ds] Q E) (Q (.int ds.length)) := ⟨id⟩
instance : Gm (dLen [.tup ds] Q E) (Q (.int ds.length)) := ⟨id⟩
instance : Gm (dInt [.int m] Q E) (Q (.int m)) := ⟨id⟩
instance : Gm (dStr [.str w] Q E) (Q (.str w)) := ⟨id⟩
instance : Gm (dMax2 [.int m, .int n] Q E) (Q (.int (if n > m then n else m))) := ⟨id⟩
instance : Gm (dMin2 [.int m, .int n] Q E) (Q (.int (if n < m then n else m))) := ⟨id⟩
instance : Gm (dList [.lst ds] Q E) (Q (.lst ds)) := ⟨id⟩
instance : Gm (dList [.tup ds] Q E) (Q (.lst ds)) := ⟨id⟩
instance : Gm (dTuple [.lst ds] Q E) (Q (.tup ds)) := ⟨id⟩
instance : Gm (dTuple [.tup ds] Q E) (Q (.tup ds)) := ⟨id⟩
instance : Gm (dDivmod [.int m, .int n] Q E) ((0 < n ∧ n < 1000000) ∧ Q (.tup [.int (m / n), .int (m % n)])) := ⟨id⟩
instance : Gm (dAbs [.int m] Q E) (Q (.int (if m < 0 then -m else m))) := ⟨id⟩
instance {c : String} {b : Bool} [h : Isi x c b] : Gm (dIsi [x, .ty c] Q E) (Q (.bl b)) := ⟨fun k => by show dIsiM _ Q E; rw [h.h]; exact k⟩
instance : Gm (dAll [.lst ds] Q E) (optM (fun bs => ret (.bl (bs.all id))) (blsD ds) Q E) := ⟨id⟩
instance : Gm (dAny [.lst ds] Q E) (optM (fun bs => ret (.bl (bs.any id))) (blsD ds) Q E) := ⟨id⟩
instance : Gm (dSum [.lst ds] Q E) (optM (fun ns => ret (.int ns.sum)) (intsD ds) Q E) := ⟨id⟩
instance {f : α → M D} {v : α} : Gm (optM f (some v) Q E) (f v Q E) := ⟨id⟩
instance {m : List Nat → Env → M D} : Gm (eJs m ρ Q E) (m [] ρ Q E) := ⟨id⟩
instance : Gm (jsNil w ρ Q E) (Q (.str w)) := ⟨id⟩
instance {f : D → M (List Nat)} {r : List Nat → Env → M D} : Gm (jsCons f a r w ρ Q E) (a ρ (fun d => f d (fun l => w.length + l.length ≤ 1000000 ∧ r (w ++ l) ρ Q E) E) E) := ⟨id⟩
instance {Q : List Nat → Prop} : Gm (fmtD (.str w) Q E) (w.length ≤ 1000000 ∧ Q w) := ⟨id⟩
instance {Q : List Nat → Prop} : Gm (txtD (.str w) Q E) (Q w) := ⟨id⟩
instance {tb : TabS} : Gm (eTab tb a ρ Q E) (a ρ (fun d => dTab tb d Q E) E) := ⟨id⟩
instance {tb : TabS} : Gm (dTab tb (.str w) Q E) (dTabM (tb.find? fun kv => decide (kv.1 = w)) Q E) := ⟨id⟩
instance {tb : TabS} : Gm (eTabNin tb a ρ Q E) (a ρ (fun d => dTabNin tb d Q E) E) := ⟨id⟩
instance {tb : TabS} : Gm (dTabNin tb (.str w) Q E) (Q (.bl (!tb.any fun kv => decide (kv.1 = w)))) := ⟨id⟩
instance {f g : D → D → M D} {c : Env → M D} : Gm (eChain f g a b c ρ Q E) (a ρ (fun x => b ρ (fun y => f x y (fun z => dBool z (fun k => (if k = true then bnd (c ρ) fun w => g y w else ret (.bl false)) Q E) E) E) E) E) := ⟨id⟩
instance {o : Ow} {m : Env → M α} [h : Hd o ρ ρ'] : Gm (eHide o m ρ Q1 E) (m ρ' Q1 E) := ⟨fun k => by unfold eHide; rw [h.h]; exact k⟩
instance {cn n : String} : Gm (eXf cn n a ρ Q E) (a ρ (fun d => (match d with | .exc1 c f d' => grd (c = cn ∧ f = n) (ret d') | _ => stuck) Q E) E) := ⟨id⟩
/-! what is walked -/
instance : Gm (iItems a ρ QL E) (a ρ (fun d => itemsD d QL E) E) := ⟨id⟩
instance : Gm (itemsD (.lst ds) QL E) (QL ds) := ⟨id⟩
instance : Gm (itemsD (.tup ds) QL E) (QL ds) := ⟨id⟩
instance : Gm (itemsD (.str w) QL E) (QL (w.map fun c => .str [c])) := ⟨id⟩
instance {f : List D → M (List D)} : Gm (iFn f aa ρ QL E) (aa ρ (fun ds => f ds QL E) E) := ⟨id⟩
instance : Gm (dRng1 [.int n] QL E) (smallR n ∧ QL (rngD 0 n.toNat)) := ⟨id⟩
instance : Gm (dRng2 [.int m, .int n] QL E) ((smallR m ∧ smallR n) ∧ QL (rngD m (n - m).toNat)) := ⟨id⟩
instance {vs : List Nat} {it : Env → M (List D)} [h : Wp ρ vs ρ'] : Gm (eLc vs it t c e ρ Q E) (it ρ (fun xs => xs.length ≤ 1000000 ∧ lcGo t c e ρ' xs [] (fun ds => Q (.lst ds)) fun _ => False) E) := ⟨fun k => by unfold eLc; rw [h.h]; exact k⟩
instance : Gm (lcGo t c e ρ [] ds QL E) (QL ds) := ⟨id⟩
instance : Gm (lcGo t c e ρ (x :: es) ds QL E) (t x ρ fun ρ' => c ρ' (fun b => if b = true then e ρ' (fun d => lcGo t c e ρ es (ds ++ [d]) QL E) E else lcGo t c e ρ es ds QL E) E) := ⟨id⟩
instance : Gm (cYes ρ QB E) (QB true) := ⟨id⟩
/-! statements -/
instance : Gm (sNext ρ D0) (D0.nx ρ) := ⟨id⟩
instance : Gm (sSeq s s' ρ D0) (s ρ ⟨fun ρ' => s' ρ' D0, D0.rt, D0.bk, D0.ct, D0.ex⟩) := ⟨id⟩
instance {f : D → Env} [h : ∀ d, Put ρ i (some d) (f d)] : Gm (sSet i e ρ D0) (e ρ (fun d => D0.nx (f d)) fun er => D0.ex er ρ) := ⟨fun k => by
  have e1 : f = fun d => ρ.set i (some d) := funext fun d => ((h d).h).symm
  rw [e1] at k
  exact k⟩
instance : Gm (sDo e ρ D0) (e ρ (fun _ => D0.nx ρ) fun er => D0.ex er ρ) := ⟨id⟩
instance : Gm (sIf c s s' ρ D0) (c ρ (fun x => if x = true then s ρ D0 else s' ρ D0) fun er => D0.ex er ρ) := ⟨id⟩
instance : Gm (sRet e ρ D0) (e ρ D0.rt fun er => D0.ex er ρ) := ⟨id⟩
instance : Gm (sRetN ρ D0) (D0.rt .non) := ⟨id⟩
instance : Gm (sBreak ρ D0) (D0.bk ρ) := ⟨id⟩
instance : Gm (sCont ρ D0) (D0.ct ρ) := ⟨id⟩
instance {f : D → Env} [h : At ρ i (.lst ds)] [k : ∀ d, Put ρ i (some (.lst (ds ++ [d]))) (f d)] : Gm (sApp i e ρ D0) (e ρ (fun d => ds.length < 1000000 ∧ D0.nx (f d)) fun er => D0.ex er ρ) := ⟨fun q => by
  have e1 : f = fun d => ρ.set i (some (.lst (ds ++ [d]))) := funext fun d => ((k d).h).symm
  rw [e1] at q
  unfold sApp
  rw [h.h]
  exact q⟩
instance [h : Put ρ i (some d) ρ'] {k : Env → Prop} : Gm (tgName i d ρ k) (k ρ') := ⟨fun q => by unfold tgName; rw [h.h]; exact q⟩
instance {k : Env → Prop} : Gm (tgsNil [] ρ k) (k ρ) := ⟨fun q => ⟨rfl, q⟩⟩
instance {k : Env → Prop} : Gm (tgsCons t ts (d :: ds) ρ k) (t d ρ fun ρ' => ts ds ρ' k) := ⟨id⟩
instance {k : Env → Prop} [h : Ln ds i] : Gm (tgTup i ts (.tup ds) ρ k) (ts ds ρ k) := ⟨fun q => ⟨h.h, q⟩⟩
instance : Gm (sAsg e t ρ D0) (e ρ (fun d => t d ρ D0.nx) fun er => D0.ex er ρ) := ⟨id⟩
def putM (ρ : Env) (i j : Nat) (k : Env → Prop) : List D → Prop
  | [d, e] => k ((ρ.set i (some d)).set j (some e))
  | _ => False
instance {ρ1 ρ2 : Env} {k : Env → Prop} [h : Put ρ i (some d) ρ1] [g : Put ρ1 j (some x) ρ2] : Gm (putM ρ i j k [d, x]) (k ρ2) := ⟨fun q => by show k _; rw [h.h, g.h]; exact q⟩
instance : Gm (sPar i j aa ρ D0) (aa ρ (putM ρ i j D0.nx) fun er => D0.ex er ρ) := ⟨fun k => by
  have e0 : sPar i j aa ρ D0 = (aa ρ (putM ρ i j D0.nx) fun er => D0.ex er ρ) := by
    unfold sPar
    congr 1
  rw [e0]
  exact k⟩
instance {it : Env → M (List D)} : Gm (sFor it t s ρ D0) (it ρ (fun xs => loop t s D0 xs ρ) fun er => D0.ex er ρ) := ⟨id⟩
instance : Gm (loop t s D0 [] ρ) (D0.nx ρ) := ⟨id⟩
instance : Gm (loop t s D0 (x :: ds) ρ) (t x ρ fun ρ' => s ρ' ⟨loop t s D0 ds, D0.rt, D0.nx, loop t s D0 ds, D0.ex⟩) := ⟨id⟩
instance {rs : List String} : Gm (sTry i rs s s' ρ D0) (s ρ ⟨D0.nx, D0.rt, D0.bk, D0.ct, fun er ρ' => rs.elem er.nm = true ∧ s' (ρ'.set i (some er.d)) ⟨fun _ => False, fun d => noX d = true ∧ D0.rt d, fun _ => False, fun _ => False, fun _ _ => False⟩⟩) := ⟨id⟩
instance {cn : String} : Gm (sRaise0 cn ρ D0) (D0.ex (.e0 cn) ρ) := ⟨id⟩
def rzM (cn f : String) (g : D → M D) (k : Er → Prop) : List D → Prop
  | [d] => g d (fun d' => k (.e1 cn f d')) fun _ => False
  | _ => False
instance {cn f : String} {g : D → M D} {k : Er → Prop} : Gm (rzM cn f g k [d]) (g d (fun d' => k (.e1 cn f d')) fun _ => False) := ⟨id⟩
instance {cn f : String} {g : D → M D} : Gm (sRaise1 cn f g aa ρ D0) (aa ρ (rzM cn f g (fun er => D0.ex er ρ)) fun er => D0.ex er ρ) := ⟨fun k => by
  have e0 : sRaise1 cn f g aa ρ D0 = (aa ρ (rzM cn f g (fun er => D0.ex er ρ)) fun er => D0.ex er ρ) := by
    unfold sRaise1
    congr 1
  rw [e0]
  exact k⟩
instance {h : D → Env} [hx : At ρ i x] [hp : ∀ d, Put ρ i (some d) (h d)] : Gm (sAug f i e ρ D0) (e ρ (fun y => f x y (fun z => D0.nx (h z)) fun er => D0.ex er ρ) fun er => D0.ex er ρ) := ⟨fun k => by
  have e1 : h = fun d => ρ.set i (some d) := funext fun d => ((hp d).h).symm
  rw [e1] at k
  unfold sAug
  rw [hx.h]
  exact k⟩
instance [h : EnvE ds j ρ] : Gm (mFnN j s ds Q E) (s ρ ⟨fun _ => Q .non, Q, fun _ => False, fun _ => False, fun _ _ => False⟩) := ⟨fun k => by unfold mFnN; rw [h.h]; exact k⟩
instance [h : EnvE ds j ρ] : Gm (mFnX j s ds Q E) (s ρ ⟨fun _ => Q .non, Q, fun _ => False, fun _ => False, fun er _ => E er⟩) := ⟨fun k => by unfold mFnX; rw [h.h]; exact k⟩
instance [h : EnvE ds j ρ] : Gm (mFnNO j s ds Q E) (s ρ ⟨fun _ => False, Q, fun _ => False, fun _ => False, fun _ _ => False⟩) := ⟨fun k => by unfold mFnNO; rw [h.h]; exact k⟩
instance [h : EnvE ds j ρ] : Gm (mFnXO j s ds Q E) (s ρ ⟨fun _ => False, Q, fun _ => False, fun _ => False, fun er _ => E er⟩) := ⟨fun k => by unfold mFnXO; rw [h.h]; exact k⟩
/-! branches by hand -/
theorem iteB {b : Bool} (h : b = true → p) (k : b = false → q) : if b = true then p else q := by
  cases b with
  | true => exact h rfl
  | false => exact k rfl
theorem iteD {P : Prop} [Decidable P] (h : P → p) (k : ¬ P → q) : if decide P = true then p else q := by
  by_cases hP : P
  · rw [if_pos (decide_eq_true hP)]; exact h hP
  · rw [if_neg (by rw [decide_eq_false hP]; exact Bool.false_ne_true)]; exact k hP
theorem iteN {P : Prop} [Decidable P] (h : ¬ P → p) (k : P → q) : if (!decide P) = true then p else q := by
  by_cases hP : P
  · rw [if_neg (by rw [decide_eq_true hP]; exact Bool.false_ne_true)]; exact k hP
  · rw [if_pos (by rw [decide_eq_false hP]; rfl)]; exact h hP
theorem iteBM {b : Bool} {u v : M α} (h : b = true → u Q1 E) (k : b = false → v Q1 E) : (if b = true then u else v) Q1 E := by
  cases b with
  | true => exact h rfl
  | false => exact k rfl
theorem iteDM {P : Prop} [Decidable P] {u v : M α} (h : P → u Q1 E) (k : ¬ P → v Q1 E) : (if decide P = true then u else v) Q1 E := by
  by_cases hP : P
  · rw [if_pos (decide_eq_true hP)]; exact h hP
  · rw [if_neg (by rw [decide_eq_false hP]; exact Bool.false_ne_true)]; exact k hP
theorem iteNM {P : Prop} [Decidable P] {u v : M α} (h : ¬ P → u Q1 E) (k : P → v Q1 E) : (if (!decide P) = true then u else v) Q1 E := by
  by_cases hP : P
  · rw [if_neg (by rw [decide_eq_true hP]; exact Bool.false_ne_true)]; exact k hP
  · rw [if_pos (by rw [decide_eq_false hP]; rfl)]; exact h hP
end
end M

/-! M15: plain steps by hand: cuts, loops over ranges, comprehensions, draws. -/
namespace M
open PySem PySem.Spec PyProof.Rows L2 TL G

/-! cuts of any row -/
theorem cutD_le {α : Type} (l : List α) (lo hi : Option Int) : (cutD l lo hi).length ≤ l.length := by
  unfold cutD
  rw [List.length_take, List.length_drop]
  omega
theorem cutD_to {α : Type} (l : List α) (k : Int) (h : 0 ≤ k) : cutD l none (some k) = l.take k.toNat := by
  obtain ⟨n, rfl⟩ := Int.eq_ofNat_of_zero_le h
  unfold cutD
  rw [HT.sIx_none, HT.sIx_nat, List.drop_zero, Nat.sub_zero, Int.toNat_natCast]
  by_cases hn : n ≤ l.length
  · rw [Nat.min_eq_left hn]
  · rw [Nat.min_eq_right (by omega), List.take_of_length_le (by omega), List.take_of_length_le (by omega)]
theorem cutD_from {α : Type} (l : List α) (k : Int) (h : 0 ≤ k) : cutD l (some k) none = l.drop k.toNat := by
  obtain ⟨n, rfl⟩ := Int.eq_ofNat_of_zero_le h
  unfold cutD
  rw [HT.sIx_none, HT.sIx_nat, Int.toNat_natCast]
  by_cases hn : n ≤ l.length
  · rw [Nat.min_eq_left hn, List.take_of_length_le (by rw [List.length_drop]; omega)]
  · rw [Nat.min_eq_right (by omega), List.drop_of_length_le (by omega), List.drop_of_length_le (by omega)]
    simp
theorem cutD_butlast {α : Type} (l : List α) : cutD l none (some (-1)) = l.dropLast := by
  unfold cutD
  rw [HT.sIx_none, List.drop_zero, Nat.sub_zero]
  have e : HT.sIx l.length l.length (some (-1)) = l.length - 1 := by
    show (if (-1 : Int) < 0 then ((-1 : Int) + (l.length : Int)).toNat else min (-1 : Int).toNat l.length) = l.length - 1
    rw [if_pos (by omega)]
    omega
  rw [e, List.dropLast_eq_take]
theorem cutD_mid {α : Type} (l : List α) (a b : Int) (ha : 0 ≤ a) (hb : 0 ≤ b) : cutD l (some a) (some b) = (l.take b.toNat).drop a.toNat := by
  obtain ⟨n, rfl⟩ := Int.eq_ofNat_of_zero_le ha
  obtain ⟨m, rfl⟩ := Int.eq_ofNat_of_zero_le hb
  unfold cutD
  rw [HT.sIx_nat, HT.sIx_nat, Int.toNat_natCast, Int.toNat_natCast, List.drop_take]
  by_cases hn : n ≤ l.length
  · rw [Nat.min_eq_left hn]
    by_cases hm : m ≤ l.length
    · rw [Nat.min_eq_left hm]
    · rw [Nat.min_eq_right (by omega), List.take_of_length_le (by rw [List.length_drop]; omega), List.take_of_length_le (by rw [List.length_drop]; omega)]
  · rw [show min n l.length = l.length from Nat.min_eq_right (by omega), List.drop_length, List.drop_of_length_le (show l.length ≤ n by omega)]
    simp
theorem atI_last {α : Type} {l : List α} {n : Nat} {x : α} (h : l.length = n + 1) (e : l[n]? = some x) : atI l (-1) = some x := by
  unfold atI
  rw [show ixN l.length (-1) = some n by unfold ixN; simp [h]; omega]
  exact e
section
variable {α β : Type} {ρ ρ' : Env} {a b e : Env → M D} {c : Env → M Bool} {s : MS} {t : TgM} {Q : D → Prop} {QL : List D → Prop} {E E' : Er → Prop} {D0 : Ms} {d x y : D} {ds es acc : List D} {i j : Nat} {m n : Int} {p q : Prop} {w z : List Nat}
theorem ix_l {ds : List D} {v : D} {n : Int} (h : 0 ≤ n) (e : ds[n.toNat]? = some v) (q : Q v) : dIx (.lst ds) (.int n) Q E := by
  show ofO (atI ds n) Q E
  rw [atI_at h e]
  exact q
theorem ix_t {ds : List D} {v : D} {n : Int} (h : 0 ≤ n) (e : ds[n.toNat]? = some v) (q : Q v) : dIx (.tup ds) (.int n) Q E := by
  show ofO (atI ds n) Q E
  rw [atI_at h e]
  exact q
theorem ix_s {w : List Nat} {c : Nat} {n : Int} (hl : w.length ≤ 1000000) (h : 0 ≤ n) (e : w[n.toNat]? = some c) (q : Q (.str [c])) : dIx (.str w) (.int n) Q E := by
  refine ⟨hl, ?_⟩
  rw [atI_at h e]
  exact q
theorem ix_last {w : List Nat} {c k : Nat} (hl : w.length ≤ 1000000) (h : w.length = k + 1) (e : w[k]? = some c) (q : Q (.str [c])) : dIx (.str w) (.int (-1)) Q E := by
  refine ⟨hl, ?_⟩
  rw [atI_last h e]
  exact q
/-! loops -/
theorem rngD_len (a : Int) (n : Nat) : (rngD a n).length = n := by unfold rngD; rw [List.length_map, List.length_range]
theorem rngD_at {a : Int} {n i : Nat} {x : D} (h : (rngD a n)[i]? = some x) : i < n ∧ x = .int (a + (i : Int)) := by
  have hi : i < n := by
    have := (List.getElem?_eq_some_iff.mp h).1
    rw [rngD_len] at this
    exact this
  unfold rngD at h
  rw [List.getElem?_map, List.getElem?_range hi] at h
  exact ⟨hi, (Option.some.inj h).symm⟩
theorem loop_rng [MonoT t] [MonoS s] {De : Ms} {a : Int} {n : Nat} (Pv : Nat → Env → Prop) (h0 : Pv 0 ρ)
    (hs : ∀ i ρ, i < n → Pv i ρ → t (.int (a + (i : Int))) ρ fun ρ' => s ρ' ⟨Pv (i + 1), De.rt, De.nx, Pv (i + 1), De.ex⟩) (hq : ∀ ρ, Pv n ρ → De.nx ρ) : loop t s De (rngD a n) ρ := by
  refine loop_it Pv h0 (fun i x ρ hx hp => ?_) (fun ρ h => hq ρ (by rw [rngD_len] at h; exact h))
  obtain ⟨hi, rfl⟩ := rngD_at hx
  exact hs i ρ hi hp
theorem loop_all [MonoT t] [MonoS s] {De : Ms} {xs : List D} (Pv : Env → Prop) (h0 : Pv ρ)
    (hs : ∀ x ∈ xs, ∀ ρ, Pv ρ → t x ρ fun ρ' => s ρ' ⟨Pv, De.rt, De.nx, Pv, De.ex⟩) (hq : ∀ ρ, Pv ρ → De.nx ρ) : loop t s De xs ρ :=
  loop_it (fun _ => Pv) h0 (fun i x ρ hx hp => hs x (List.mem_of_getElem? hx) ρ hp) hq
/-! comprehensions -/
theorem lc_map {g : D → Env} [hp : ∀ d, Put ρ j (some d) (g d)] {f : D → D} : ∀ {xs acc : List D}, (∀ x ∈ xs, ∀ Q' : D → Prop, Q' (f x) → e (g x) Q' E) → QL (acc ++ xs.map f) → lcGo (tgName j) cYes e ρ xs acc QL E
  | [], acc, _, q => by rw [List.map_nil, List.append_nil] at q; exact q
  | x :: xs, acc, h, q => by
    show e (ρ.set j (some x)) (fun d => lcGo (tgName j) cYes e ρ xs (acc ++ [d]) QL E) E
    rw [(hp x).h]
    refine h x List.mem_cons_self _ (lc_map (fun y hy => h y (List.mem_cons_of_mem _ hy)) ?_)
    rw [List.append_assoc]
    exact q
theorem lc_filter {g : D → Env} [hp : ∀ d, Put ρ j (some d) (g d)] {f : D → D} {P : D → Bool} : ∀ {xs acc : List D}, (∀ x ∈ xs, ∀ Q' : Bool → Prop, Q' (P x) → c (g x) Q' E) → (∀ x ∈ xs, P x = true → ∀ Q' : D → Prop, Q' (f x) → e (g x) Q' E) → QL (acc ++ (xs.filter P).map f) → lcGo (tgName j) c e ρ xs acc QL E
  | [], acc, _, _, q => by rw [List.filter_nil, List.map_nil, List.append_nil] at q; exact q
  | x :: xs, acc, hc, h, q => by
    show c (ρ.set j (some x)) (fun b => if b = true then e (ρ.set j (some x)) (fun d => lcGo (tgName j) c e ρ xs (acc ++ [d]) QL E) E else lcGo (tgName j) c e ρ xs acc QL E) E
    rw [(hp x).h]
    refine hc x List.mem_cons_self _ ?_
    by_cases hP : P x = true
    · rw [if_pos hP]
      refine h x List.mem_cons_self hP _ (lc_filter (fun y hy => hc y (List.mem_cons_of_mem _ hy)) (fun y hy => h y (List.mem_cons_of_mem _ hy)) ?_)
      rw [List.filter_cons_of_pos hP, List.map_cons] at q
      rw [List.append_assoc]
      exact q
    · rw [if_neg hP]
      refine lc_filter (fun y hy => hc y (List.mem_cons_of_mem _ hy)) (fun y hy => h y (List.mem_cons_of_mem _ hy)) ?_
      rw [List.filter_cons_of_neg hP] at q
      exact q
theorem lc_draw {g : D → Env} [hp : ∀ d, Put ρ j (some d) (g d)] {P : D → D → Prop} {xs acc : List D} (h : ∀ x ∈ xs, ∀ Q' : D → Prop, (∀ d, P x d → Q' d) → e (g x) Q' E) (q : ∀ ds, All2 P xs ds → QL (acc ++ ds)) : lcGo (tgName j) cYes e ρ xs acc QL E := by
  refine lcGo_draw (P := P) xs acc QL (fun x hx Q' k => ?_) q
  have := h x hx Q' k
  rw [← (hp x).h] at this
  exact this
theorem All2.len {α β : Type} {P : α → β → Prop} {xs : List α} {ys : List β} (h : All2 P xs ys) : ys.length = xs.length := by
  induction h with
  | nil => rfl
  | cons _ _ ih => rw [List.length_cons, List.length_cons, ih]
theorem All2.imp {α β : Type} {P R : α → β → Prop} {xs : List α} {ys : List β} (h : All2 P xs ys) (k : ∀ x y, P x y → R x y) : All2 R xs ys := by
  induction h with
  | nil => exact .nil
  | cons a _ ih => exact .cons (k _ _ a) ih
/-- texts of one sign each -/
theorem All2.signs {ls : List Nat} {xs : List D} {ds : List D} (h : All2 (fun _ d => ∃ c ∈ ls, d = .str [c]) xs ds) : ∃ l : List Nat, l.length = xs.length ∧ (∀ c ∈ l, c ∈ ls) ∧ ds = l.map fun c => .str [c] := by
  induction h with
  | nil => exact ⟨[], rfl, (fun _ z => by cases z), rfl⟩
  | cons a _ ih =>
    obtain ⟨c, hc, rfl⟩ := a
    obtain ⟨l, h1, h2, rfl⟩ := ih
    exact ⟨c :: l, by rw [List.length_cons, List.length_cons, h1], fun x hx => by
      rcases List.mem_cons.mp hx with rfl | hx
      · exact hc
      · exact h2 x hx, rfl⟩
theorem flat1 : ∀ l : List Nat, (l.map fun c => [c]).flatten = l
  | [] => rfl
  | c :: l => by
    show c :: (l.map fun c => [c]).flatten = _
    rw [flat1 l]
theorem join_signs {l : List Nat} (hl : l.length ≤ 500000) (q : Q (.str l)) : dJoin (.str []) [.lst (l.map fun c => .str [c])] Q E := by
  show dJoinM (strsD (l.map fun c => .str [c])) Q E
  have e1 : (l.map fun c => D.str [c]) = (l.map fun c => [c]).map D.str := by rw [List.map_map]; rfl
  rw [e1, strsD_map]
  refine ⟨?_, ?_⟩
  · rw [flat1, List.length_map]
    omega
  · rw [flat1]
    exact q
/-! draws -/
theorem take_p {n : Int} (hn : n < 1073741824) (q : ∀ r : Int, 0 ≤ r → (2 ≤ n → r < n) → (n < 2 → r = 0) → Q (.int r)) : takeM [.deal, .int n] Q E := ⟨hn, q⟩
/-- no word text -/
inductive BadD (ls : List Nat) : D → Prop
  | ns {d : D} : Isi d "str" false → BadD ls d
  | txt {l : List Nat} : l.length ≤ 1000000 → (∀ p c, Lw ls p c → l ≠ wt p c) → BadD ls (.str l)
theorem badD_txt {ls l : List Nat} (hl : 40 ∉ ls) (hz : l.length ≤ 1000000) (h : isWt ls l = false) : BadD ls (.str l) := .txt hz fun p c hw e => by
  rw [e, isW_of hl hw] at h
  cases h
end
theorem smr {i : Int} (h : -1000000000 ≤ i ∧ i ≤ 1000000000) : smallR i := by unfold smallR; omega
theorem smi {i : Int} (h : -1000000000000000000 ≤ i ∧ i ≤ 1000000000000000000) : smallI i := by unfold smallI; omega
end M

/-! M16: more plain steps. -/
namespace M
open PySem PySem.Spec PyProof.Rows L2 TL G
section
variable {α β : Type} {ρ ρ' : Env} {a b e : Env → M D} {c : Env → M Bool} {s : MS} {t : TgM} {Q : D → Prop} {Q1 : α → Prop} {QL : List D → Prop} {E E' : Er → Prop} {D0 : Ms} {d x y : D} {ds es acc : List D} {i j : Nat} {m n : Int} {p q : Prop} {w z : List Nat}
instance {u v : M α} : Gm ((if (!true) = true then u else v) Q1 E) (v Q1 E) := ⟨id⟩
instance {u v : M α} : Gm ((if (!false) = true then u else v) Q1 E) (u Q1 E) := ⟨id⟩
instance : Gm (if (!true) = true then p else q) q := ⟨id⟩
instance : Gm (if (!false) = true then p else q) p := ⟨id⟩
theorem iteBN {b : Bool} (h : b = false → p) (k : b = true → q) : if (!b) = true then p else q := by
  cases b with
  | true => exact k rfl
  | false => exact h rfl
theorem iteBNM {b : Bool} {u v : M α} (h : b = false → u Q1 E) (k : b = true → v Q1 E) : (if (!b) = true then u else v) Q1 E := by
  cases b with
  | true => exact k rfl
  | false => exact h rfl
theorem lc_of {g : D → Env} [hp : ∀ d, Put ρ j (some d) (g d)] {G F : α → D} : ∀ {l : List α} {acc : List D}, (∀ a ∈ l, ∀ Q' : D → Prop, Q' (F a) → e (g (G a)) Q' E) → QL (acc ++ l.map F) → lcGo (tgName j) cYes e ρ (l.map G) acc QL E
  | [], acc, _, q => by rw [List.map_nil, List.append_nil] at q; exact q
  | x :: l, acc, h, q => by
    show e (ρ.set j (some (G x))) (fun d => lcGo (tgName j) cYes e ρ (l.map G) (acc ++ [d]) QL E) E
    rw [(hp (G x)).h]
    refine h x List.mem_cons_self _ (lc_of (fun y hy => h y (List.mem_cons_of_mem _ hy)) ?_)
    rw [List.append_assoc]
    exact q
theorem lc_rng {g : D → Env} [hp : ∀ d, Put ρ j (some d) (g d)] {F : Nat → D} {a : Int} {n : Nat} (h : ∀ i, i < n → ∀ Q' : D → Prop, Q' (F i) → e (g (.int (a + (i : Int)))) Q' E) (q : QL (acc ++ (List.range n).map F)) : lcGo (tgName j) cYes e ρ (rngD a n) acc QL E :=
  lc_of (G := fun k : Nat => .int (a + (k : Int))) (fun k hk => h k (List.mem_range.mp hk)) q
/-- the elements' own test -/
theorem lc_ofF {g : D → Env} [hp : ∀ d, Put ρ j (some d) (g d)] {G F : α → D} {P : α → Bool} : ∀ {l : List α} {acc : List D}, (∀ a ∈ l, ∀ Q' : Bool → Prop, Q' (P a) → c (g (G a)) Q' E) → (∀ a ∈ l, P a = true → ∀ Q' : D → Prop, Q' (F a) → e (g (G a)) Q' E) → QL (acc ++ (l.filter P).map F) → lcGo (tgName j) c e ρ (l.map G) acc QL E
  | [], acc, _, _, q => by rw [List.filter_nil, List.map_nil, List.append_nil] at q; exact q
  | x :: l, acc, hc, h, q => by
    show c (ρ.set j (some (G x))) (fun b => if b = true then e (ρ.set j (some (G x))) (fun d => lcGo (tgName j) c e ρ (l.map G) (acc ++ [d]) QL E) E else lcGo (tgName j) c e ρ (l.map G) acc QL E) E
    rw [(hp (G x)).h]
    refine hc x List.mem_cons_self _ ?_
    by_cases hP : P x = true
    · rw [if_pos hP]
      refine h x List.mem_cons_self hP _ (lc_ofF (fun y hy => hc y (List.mem_cons_of_mem _ hy)) (fun y hy => h y (List.mem_cons_of_mem _ hy)) ?_)
      rw [List.filter_cons_of_pos hP, List.map_cons] at q
      rw [List.append_assoc]
      exact q
    · rw [if_neg hP]
      refine lc_ofF (fun y hy => hc y (List.mem_cons_of_mem _ hy)) (fun y hy => h y (List.mem_cons_of_mem _ hy)) ?_
      rw [List.filter_cons_of_neg hP] at q
      exact q
theorem blsD_of (B : α → Bool) : ∀ l : List α, blsD (l.map fun c => D.bl (B c)) = some (l.map B)
  | [] => rfl
  | x :: l => by
    show (blsD (l.map fun c => D.bl (B c))).map (B x :: ·) = _
    rw [blsD_of B l]
    rfl
theorem intsD_of (B : α → Int) : ∀ l : List α, intsD (l.map fun c => D.int (B c)) = some (l.map B)
  | [] => rfl
  | x :: l => by
    show (intsD (l.map fun c => D.int (B c))).map (B x :: ·) = _
    rw [intsD_of B l]
    rfl
theorem strsD_of (B : α → List Nat) : ∀ l : List α, strsD (l.map fun c => D.str (B c)) = some (l.map B)
  | [] => rfl
  | x :: l => by
    show (strsD (l.map fun c => D.str (B c))).map (B x :: ·) = _
    rw [strsD_of B l]
    rfl
/-! a text cut at its first such sign -/
theorem cutAt_of {c : Nat} {p r : List Nat} (h : c ∉ p) : cutAt c (p ++ c :: r) = some (p, r) := by
  have key : (p ++ c :: r).takeWhile (fun x => decide (x ≠ c)) = p ∧ (p ++ c :: r).dropWhile (fun x => decide (x ≠ c)) = c :: r := by
    induction p with
    | nil => exact ⟨by simp, by simp⟩
    | cons a p ih =>
      have ha : a ≠ c := fun z => h (by rw [z]; exact List.mem_cons_self)
      obtain ⟨h1, h2⟩ := ih fun z => h (List.mem_cons_of_mem _ z)
      constructor
      · rw [List.cons_append, List.takeWhile_cons, if_pos (decide_eq_true ha), h1]
      · rw [List.cons_append, List.dropWhile_cons, if_pos (decide_eq_true ha), h2]
  unfold cutAt
  rw [if_pos (by simp), key.1, key.2]
  rfl
theorem cutAt_no {c : Nat} {l : List Nat} (h : c ∉ l) : cutAt c l = none := if_neg h
theorem cutAt_ex {c : Nat} {l : List Nat} (h : c ∈ l) : ∃ p r, l = p ++ c :: r ∧ c ∉ p ∧ cutAt c l = some (p, r) := by
  obtain ⟨p, r, e, h2⟩ : ∃ p r, l = p ++ c :: r ∧ c ∉ p := by
    induction l with
    | nil => cases h
    | cons a l ih =>
      by_cases ha : a = c
      · subst ha
        exact ⟨[], l, rfl, fun z => nomatch z⟩
      · obtain ⟨p, r, e, h2⟩ := ih (by
          rcases List.mem_cons.mp h with z | z
          · exact absurd z.symm ha
          · exact z)
        subst e
        exact ⟨a :: p, r, rfl, fun z => by
          rcases List.mem_cons.mp z with z | z
          · exact ha z.symm
          · exact h2 z⟩
  exact ⟨p, r, e, h2, by rw [e]; exact cutAt_of h2⟩
instance : Gm (dIdxM (some (w, z)) Q E) (Q (.int w.length)) := ⟨id⟩
instance {c : Nat} {l : List Nat} : Gm (dPartM l c (some (w, z)) Q E) (Q (.tup [.str w, .str [c], .str z])) := ⟨id⟩
instance {c : Nat} {l : List Nat} : Gm (dPartM l c none Q E) (Q (.tup [.str l, .str [], .str []])) := ⟨id⟩
instance {b : Bool} {n : Int} : Gm (dEq (.bl b) (.int n) Q E) (Q (.bl (dEqB (.bl b) (.int n)))) := ⟨fun k => ⟨rfl, k⟩⟩
end
end M

/-! M17: data of a known depth, numbers asked. -/
namespace M
open PySem PySem.Spec PyProof.Rows L2 TL G
section
variable {α : Type} {u v : M α} {Q1 : α → Prop} {E : Er → Prop} {p q : Prop}
instance : Gm ((if (true == true) = true then u else v) Q1 E) (u Q1 E) := ⟨id⟩
instance : Gm ((if (false == false) = true then u else v) Q1 E) (u Q1 E) := ⟨id⟩
instance : Gm ((if (true == false) = true then u else v) Q1 E) (v Q1 E) := ⟨id⟩
instance : Gm ((if (false == true) = true then u else v) Q1 E) (v Q1 E) := ⟨id⟩
instance : Gm (if (true == true) = true then p else q) p := ⟨id⟩
instance : Gm (if (false == false) = true then p else q) p := ⟨id⟩
instance : Gm (if (true == false) = true then p else q) q := ⟨id⟩
instance : Gm (if (false == true) = true then p else q) q := ⟨id⟩
end
mutual
def datN : Nat → D → Bool
  | _, .non => true
  | _, .bl _ => true
  | _, .int _ => true
  | _, .str _ => true
  | n + 1, .lst ds => decide (ds.length ≤ 1000000) && datNs n ds
  | n + 1, .tup ds => decide (ds.length ≤ 1000000) && datNs n ds
  | _, _ => false
def datNs : Nat → List D → Bool
  | _, [] => true
  | n, d :: ds => datN n d && datNs n ds
end
theorem datNs_mem {n : Nat} : ∀ {ds : List D}, datNs n ds = true → ∀ d ∈ ds, datN n d = true
  | x :: ds, h, d, m => by
    rw [datNs] at h
    obtain ⟨h1, h2⟩ := ba2 h
    rcases List.mem_cons.mp m with rfl | m
    · exact h1
    · exact datNs_mem h2 d m
theorem datN_lst {n : Nat} {ds : List D} (h : datN n (.lst ds) = true) : ∃ m, n = m + 1 ∧ ds.length ≤ 1000000 ∧ ∀ d ∈ ds, datN m d = true := by
  cases n with
  | zero => simp [datN] at h
  | succ m =>
    rw [datN] at h
    obtain ⟨h1, h2⟩ := ba2 h
    exact ⟨m, rfl, of_decide_eq_true h1, datNs_mem h2⟩
theorem datN_tup {n : Nat} {ds : List D} (h : datN n (.tup ds) = true) : ∃ m, n = m + 1 ∧ ds.length ≤ 1000000 ∧ ∀ d ∈ ds, datN m d = true := by
  cases n with
  | zero => simp [datN] at h
  | succ m =>
    rw [datN] at h
    obtain ⟨h1, h2⟩ := ba2 h
    exact ⟨m, rfl, of_decide_eq_true h1, datNs_mem h2⟩
inductive DatK : D → Prop
  | non : DatK .non
  | bl (b : Bool) : DatK (.bl b)
  | int (i : Int) : DatK (.int i)
  | str (l : List Nat) : DatK (.str l)
  | lst (ds : List D) : DatK (.lst ds)
  | tup (ds : List D) : DatK (.tup ds)
theorem datK {m : Nat} {d : D} (h : datN m d = true) : DatK d := by
  cases d with
  | non => exact .non
  | bl b => exact .bl b
  | int b => exact .int b
  | str b => exact .str b
  | lst b => exact .lst b
  | tup b => exact .tup b
  | _ => cases m <;> simp [datN] at h
def badND (d : D) (least : Int) (mo : D) : Prop := match d with
  | .int n => n < least ∨ ∃ M, mo = .int M ∧ M < n
  | _ => True
/-- told apart from a scalar -/
def isD (a due : D) : Bool := match due, a with
  | .non, .non => true
  | .bl b, .bl c => c == b
  | .int m, .int n => decide (n = m)
  | .str w, .str z => decide (z = w)
  | _, _ => false
theorem isD_refl {d : D} (h : scal d = true) : isD d d = true := by
  cases d <;> first | rfl | exact beq_self_eq_true _ | exact decide_eq_true rfl | cases h
theorem isD_iff {a d : D} (h : scal d = true) : isD a d = true ↔ a = d := by
  constructor
  · intro e
    cases d <;> cases a <;> first | rfl | (simp [isD] at e; done) | (simp [isD] at e; rw [e]; done) | (cases h; done)
  · rintro rfl
    exact isD_refl h
end M

/-! M18: word texts. -/
namespace M
open PySem PySem.Spec PyProof.Rows L2 TL G
theorem wt_eq (p c : List Nat) : p ++ [40] ++ c ++ [41] = wt p c := by unfold wt; simp
theorem wt_eq2 (p c : List Nat) : p ++ ([40] ++ c ++ [41]) = wt p c := by unfold wt; simp
theorem wt_cut (p c : List Nat) : ((wt p c).take ((wt p c).length - 1)).drop (p.length + 1) = c := wt_mid p c
theorem lw_of {p c : List Nat} (h1 : p.length ≤ 12) (h2 : 1 ≤ c.length) (h3 : c.length ≤ 4) (h4 : ∀ x ∈ p, x ∈ BIO) (h5 : ∀ x ∈ c, x ∈ BIO) : Lw BIO p c := ⟨h1, h2, h3, h4, h5⟩
/-- the first place at which two words differ -/
def DiffD (p c q e : List Nat) (v : D) : Prop := (v = .non ∧ ∀ k, latN p c k = latN q e k) ∨ ∃ n : Nat, v = .int (n : Int) ∧ n < 24 ∧ (∀ k, k < n → latN p c k = latN q e k) ∧ latN p c n ≠ latN q e n
theorem DiffD.one {p c q e : List Nat} {v w : D} (a : DiffD p c q e v) (b : DiffD p c q e w) : v = w := by
  rcases a with ⟨rfl, a⟩ | ⟨n, rfl, _, a1, a2⟩ <;> rcases b with ⟨rfl, b⟩ | ⟨m, rfl, _, b1, b2⟩
  · rfl
  · exact absurd (a m) b2
  · exact absurd (b n) a2
  · have : n = m := by
      rcases Nat.lt_trichotomy n m with h | h | h
      · exact absurd (b1 n h) a2
      · exact h
      · exact absurd (a1 m h) b2
    rw [this]
theorem DiffD.swap {p c q e : List Nat} {v : D} (a : DiffD p c q e v) : DiffD q e p c v := by
  rcases a with ⟨rfl, a⟩ | ⟨n, rfl, a0, a1, a2⟩
  · exact .inl ⟨rfl, fun k => (a k).symm⟩
  · exact .inr ⟨n, rfl, a0, fun k h => (a1 k h).symm, fun z => a2 z.symm⟩
theorem DiffD.scal {p c q e : List Nat} {v : D} (a : DiffD p c q e v) : scal v = true := by
  rcases a with ⟨rfl, a⟩ | ⟨n, rfl, a1, a2⟩ <;> rfl
section
variable {rs cs : List String} {c c' f : String} {d : D} {Q : D → Prop} {E : Er → Prop}
instance : Gm (dIsx rs cs [.exc0 c, .cls c'] Q E) ((rs.elem c && cs.elem c') = true ∧ Q (.bl (decide (c' = c ∨ c' = "LeadsError")))) := ⟨id⟩
instance : Gm (dIsx rs cs [.exc1 c f d, .cls c'] Q E) ((rs.elem c && cs.elem c') = true ∧ Q (.bl (decide (c' = c ∨ c' = "LeadsError")))) := ⟨id⟩
instance : Gm (dIsx rs cs [.exc0 c, .ty "ValueError"] Q E) (rs.elem c = true ∧ Q (.bl true)) := ⟨fun h => ⟨by rw [h.1]; rfl, h.2⟩⟩
instance : Gm (dIsx rs cs [.exc1 c f d, .ty "ValueError"] Q E) (rs.elem c = true ∧ Q (.bl true)) := ⟨fun h => ⟨by rw [h.1]; rfl, h.2⟩⟩
end
end M

namespace W
open PySem PySem.Spec PyProof.Rows L2 TL G M
def tb_MIRRORED : TabS := [([66], .str [66]), ([73], .str [79]), ([79], .str [73])]
def raisedS : List String := ["NumberError", "WordError"]
def allS : List String := ["LeadsError", "NumberError", "OptionError", "PlaceError", "BookError", "HasHome", "NoHome", "NotFull", "NotGood", "CountError", "NotASink", "NotFree", "RowError", "PostError", "RingStands", "TooMany", "TooLong", "LineError", "WebError", "ArrowsError", "WordError", "MachineError", "ChangeError", "PaperError"]
end W
namespace W
open PySem PySem.Spec PyProof.Rows L2 TL G M
def top (i : Nat) : Stmt := PySem.Challenge.pw_leadshome_k09_first_unlike_letter_is_tol.main.body.getD i (.Pass ⟨0, 0, 0, 0⟩)
abbrev s_p_fresh : Stmt := top 2
abbrev N_p_fresh : List Str := ["x", "depth", "y"]
theorem sc_p_fresh : FnScope N_p_fresh ["x", "depth"] (defScope s_p_fresh) := scopeB_ok (by decide +kernel)
abbrev s_m_NumberError_init : Stmt := inClass (top 4) 0
abbrev N_m_NumberError_init : List Str := ["self", "at_number"]
theorem sc_m_NumberError_init : FnScope N_m_NumberError_init ["self", "at_number"] (defScope s_m_NumberError_init) := scopeB_ok (by decide +kernel)
abbrev s_p_check_number : Stmt := top 34
abbrev N_p_check_number : List Str := ["number", "least", "most"]
theorem sc_p_check_number : FnScope N_p_check_number ["number", "least", "most"] (defScope s_p_check_number) := scopeB_ok (by decide +kernel)
abbrev s_p_made_of : Stmt := top 35
abbrev N_p_made_of : List Str := ["text", "letters", "least", "most", "sign"]
theorem sc_p_made_of : FnScope N_p_made_of ["text", "letters", "least", "most"] (defScope s_p_made_of) := scopeB_ok (by decide +kernel)
abbrev s_p_are_parts : Stmt := top 36
abbrev N_p_are_parts : List Str := ["prefix", "cycle", "letters"]
theorem sc_p_are_parts : FnScope N_p_are_parts ["prefix", "cycle", "letters"] (defScope s_p_are_parts) := scopeB_ok (by decide +kernel)
abbrev s_p_text_parts : Stmt := top 37
abbrev N_p_text_parts : List Str := ["text", "letters", "prefix", "bracket", "behind", "cycle"]
theorem sc_p_text_parts : FnScope N_p_text_parts ["text", "letters"] (defScope s_p_text_parts) := scopeB_ok (by decide +kernel)
abbrev s_p_joined_text : Stmt := top 38
abbrev N_p_joined_text : List Str := ["prefix", "cycle"]
theorem sc_p_joined_text : FnScope N_p_joined_text ["prefix", "cycle"] (defScope s_p_joined_text) := scopeB_ok (by decide +kernel)
abbrev s_p_shortest_root : Stmt := top 39
abbrev N_p_shortest_root : List Str := ["cycle", "size", "length", "root"]
theorem sc_p_shortest_root : FnScope N_p_shortest_root ["cycle"] (defScope s_p_shortest_root) := scopeB_ok (by decide +kernel)
abbrev s_p_plain_parts : Stmt := top 40
abbrev N_p_plain_parts : List Str := ["prefix", "cycle"]
theorem sc_p_plain_parts : FnScope N_p_plain_parts ["prefix", "cycle"] (defScope s_p_plain_parts) := scopeB_ok (by decide +kernel)
abbrev s_p_plain_text : Stmt := top 41
abbrev N_p_plain_text : List Str := ["prefix", "cycle", "short_prefix", "short_cycle"]
theorem sc_p_plain_text : FnScope N_p_plain_text ["prefix", "cycle"] (defScope s_p_plain_text) := scopeB_ok (by decide +kernel)
abbrev s_p_read_word : Stmt := top 42
abbrev N_p_read_word : List Str := ["word"]
theorem sc_p_read_word : FnScope N_p_read_word ["word"] (defScope s_p_read_word) := scopeB_ok (by decide +kernel)
abbrev s_p_plain : Stmt := top 43
abbrev N_p_plain : List Str := ["word", "prefix", "cycle"]
theorem sc_p_plain : FnScope N_p_plain ["word"] (defScope s_p_plain) := scopeB_ok (by decide +kernel)
abbrev s_p_same_word : Stmt := top 44
abbrev N_p_same_word : List Str := ["x", "y", "first", "second"]
theorem sc_p_same_word : FnScope N_p_same_word ["x", "y"] (defScope s_p_same_word) := scopeB_ok (by decide +kernel)
abbrev s_p_letter : Stmt := top 45
abbrev N_p_letter : List Str := ["word", "k", "prefix", "cycle"]
theorem sc_p_letter : FnScope N_p_letter ["word", "k"] (defScope s_p_letter) := scopeB_ok (by decide +kernel)
abbrev s_p_first_letters : Stmt := top 46
abbrev N_p_first_letters : List Str := ["word", "many", "prefix", "cycle", "letters"]
theorem sc_p_first_letters : FnScope N_p_first_letters ["word", "many"] (defScope s_p_first_letters) := scopeB_ok (by decide +kernel)
abbrev s_p_rest : Stmt := top 47
abbrev N_p_rest : List Str := ["word", "k", "prefix", "cycle", "shift"]
theorem sc_p_rest : FnScope N_p_rest ["word", "k"] (defScope s_p_rest) := scopeB_ok (by decide +kernel)
abbrev s_p_first_unlike : Stmt := top 48
abbrev N_p_first_unlike : List Str := ["x", "y", "first", "second", "at"]
theorem sc_p_first_unlike : FnScope N_p_first_unlike ["x", "y"] (defScope s_p_first_unlike) := scopeB_ok (by decide +kernel)
abbrev s_p_mirror : Stmt := top 49
abbrev N_p_mirror : List Str := ["word", "prefix", "cycle", "new_prefix", "new_cycle", "sign"]
theorem sc_p_mirror : FnScope N_p_mirror ["word"] (defScope s_p_mirror) := scopeB_ok (by decide +kernel)
abbrev s_l_store : Stmt := top 51
abbrev N_l_store : List Str := ["script", "great", "cells", "cell", "small"]
theorem sc_l_store : FnScope N_l_store ["script"] (defScope s_l_store) := scopeB_ok (by decide +kernel)
abbrev s_l_take : Stmt := top 52
abbrev N_l_take : List Str := ["deal", "options", "cell", "drawn", "mixed"]
theorem sc_l_take : FnScope N_l_take ["deal", "options"] (defScope s_l_take) := scopeB_ok (by decide +kernel)
abbrev s_l_within : Stmt := top 53
abbrev N_l_within : List Str := ["deal", "least", "greatest"]
theorem sc_l_within : FnScope N_l_within ["deal", "least", "greatest"] (defScope s_l_within) := scopeB_ok (by decide +kernel)
abbrev s_l_edge : Stmt := top 54
abbrev N_l_edge : List Str := ["deal", "least", "greatest", "shape"]
theorem sc_l_edge : FnScope N_l_edge ["deal", "least", "greatest"] (defScope s_l_edge) := scopeB_ok (by decide +kernel)
abbrev s_l_pick : Stmt := top 55
abbrev N_l_pick : List Str := ["deal", "row"]
theorem sc_l_pick : FnScope N_l_pick ["deal", "row"] (defScope s_l_pick) := scopeB_ok (by decide +kernel)
abbrev s_l_huge : Stmt := top 56
abbrev N_l_huge : List Str := ["deal", "shape", "rounds_drawn", "drawn", "turn"]
theorem sc_l_huge : FnScope N_l_huge ["deal"] (defScope s_l_huge) := scopeB_ok (by decide +kernel)
abbrev s_l_prefix_size : Stmt := top 57
abbrev N_l_prefix_size : List Str := ["deal", "shape"]
theorem sc_l_prefix_size : FnScope N_l_prefix_size ["deal"] (defScope s_l_prefix_size) := scopeB_ok (by decide +kernel)
abbrev s_l_letter_text : Stmt := top 58
abbrev N_l_letter_text : List Str := ["deal", "marks", "size", "k"]
theorem sc_l_letter_text : FnScope N_l_letter_text ["deal", "marks", "size"] (defScope s_l_letter_text) := scopeB_ok (by decide +kernel)
abbrev s_l_turn_pair : Stmt := top 59
abbrev N_l_turn_pair : List Str := ["deal", "evenly", "head", "cycle"]
theorem sc_l_turn_pair : FnScope N_l_turn_pair ["deal", "evenly"] (defScope s_l_turn_pair) := scopeB_ok (by decide +kernel)
abbrev s_l_good_pair : Stmt := top 60
abbrev N_l_good_pair : List Str := ["head", "cycle", "letters", "turning_in", "mark"]
theorem sc_l_good_pair : FnScope N_l_good_pair ["head", "cycle"] (defScope s_l_good_pair) := scopeB_ok (by decide +kernel)
abbrev s_l_pair_text : Stmt := top 61
abbrev N_l_pair_text : List Str := ["pair"]
theorem sc_l_pair_text : FnScope N_l_pair_text ["pair"] (defScope s_l_pair_text) := scopeB_ok (by decide +kernel)
abbrev s_l_split : Stmt := top 62
abbrev N_l_split : List Str := ["word_text", "at"]
theorem sc_l_split : FnScope N_l_split ["word_text"] (defScope s_l_split) := scopeB_ok (by decide +kernel)
abbrev s_l_same_text : Stmt := top 63
abbrev N_l_same_text : List Str := ["deal", "word_text", "pair", "head", "cycle", "turn"]
theorem sc_l_same_text : FnScope N_l_same_text ["deal", "word_text"] (defScope s_l_same_text) := scopeB_ok (by decide +kernel)
abbrev s_l_good_word : Stmt := top 64
abbrev N_l_good_word : List Str := ["deal", "pair"]
theorem sc_l_good_word : FnScope N_l_good_word ["deal"] (defScope s_l_good_word) := scopeB_ok (by decide +kernel)
abbrev s_l_thrifty_word : Stmt := top 65
abbrev N_l_thrifty_word : List Str := ["deal", "head", "turn", "block", "row", "word_text"]
theorem sc_l_thrifty_word : FnScope N_l_thrifty_word ["deal"] (defScope s_l_thrifty_word) := scopeB_ok (by decide +kernel)
abbrev s_l_filled : Stmt := top 66
abbrev N_l_filled : List Str := ["cycle", "turns_in", "turns_out"]
theorem sc_l_filled : FnScope N_l_filled ["cycle"] (defScope s_l_filled) := scopeB_ok (by decide +kernel)
abbrev s_l_ringing_word : Stmt := top 67
abbrev N_l_ringing_word : List Str := ["deal", "pair", "letters", "cycle", "head"]
theorem sc_l_ringing_word : FnScope N_l_ringing_word ["deal"] (defScope s_l_ringing_word) := scopeB_ok (by decide +kernel)
abbrev s_l_full_word : Stmt := top 68
abbrev N_l_full_word : List Str := ["deal", "shape", "head"]
theorem sc_l_full_word : FnScope N_l_full_word ["deal"] (defScope s_l_full_word) := scopeB_ok (by decide +kernel)
abbrev s_l_starving_word : Stmt := top 69
abbrev N_l_starving_word : List Str := ["deal", "head"]
theorem sc_l_starving_word : FnScope N_l_starving_word ["deal"] (defScope s_l_starving_word) := scopeB_ok (by decide +kernel)
abbrev s_l_free_word : Stmt := top 70
abbrev N_l_free_word : List Str := ["deal", "head"]
theorem sc_l_free_word : FnScope N_l_free_word ["deal"] (defScope s_l_free_word) := scopeB_ok (by decide +kernel)
abbrev s_l_word_of : Stmt := top 71
abbrev N_l_word_of : List Str := ["deal", "wanted", "shape"]
theorem sc_l_word_of : FnScope N_l_word_of ["deal", "wanted"] (defScope s_l_word_of) := scopeB_ok (by decide +kernel)
abbrev s_l_two_words : Stmt := top 72
abbrev N_l_two_words : List Str := ["deal", "wanted", "one", "shape", "pair", "letters", "at"]
theorem sc_l_two_words : FnScope N_l_two_words ["deal", "wanted"] (defScope s_l_two_words) := scopeB_ok (by decide +kernel)
abbrev s_l_bad_word : Stmt := top 73
abbrev N_l_bad_word : List Str := ["deal", "row"]
theorem sc_l_bad_word : FnScope N_l_bad_word ["deal"] (defScope s_l_bad_word) := scopeB_ok (by decide +kernel)
abbrev s_l_mark_at : Stmt := top 74
abbrev N_l_mark_at : List Str := ["pair", "k"]
theorem sc_l_mark_at : FnScope N_l_mark_at ["pair", "k"] (defScope s_l_mark_at) := scopeB_ok (by decide +kernel)
abbrev s_l_first_marks : Stmt := top 75
abbrev N_l_first_marks : List Str := ["word_text", "size", "pair", "k"]
theorem sc_l_first_marks : FnScope N_l_first_marks ["word_text", "size"] (defScope s_l_first_marks) := scopeB_ok (by decide +kernel)
abbrev s_l_parting : Stmt := top 76
abbrev N_l_parting : List Str := ["one", "other", "one_pair", "other_pair", "k"]
theorem sc_l_parting : FnScope N_l_parting ["one", "other"] (defScope s_l_parting) := scopeB_ok (by decide +kernel)
abbrev s_l_is_number : Stmt := top 77
abbrev N_l_is_number : List Str := ["answer"]
theorem sc_l_is_number : FnScope N_l_is_number ["answer"] (defScope s_l_is_number) := scopeB_ok (by decide +kernel)
abbrev s_l_equal : Stmt := top 78
abbrev N_l_equal : List Str := ["answer", "due", "k"]
theorem sc_l_equal : FnScope N_l_equal ["answer", "due"] (defScope s_l_equal) := scopeB_ok (by decide +kernel)
abbrev s_l_told : Stmt := top 79
abbrev N_l_told : List Str := ["one", "two", "e", "kinds"]
theorem sc_l_told : FnScope N_l_told ["one", "two"] (defScope s_l_told) := scopeB_ok (by decide +kernel)
abbrev s_l_refused : Stmt := top 80
abbrev N_l_refused : List Str := ["told"]
theorem sc_l_refused : FnScope N_l_refused ["told"] (defScope s_l_refused) := scopeB_ok (by decide +kernel)
abbrev s_l_late_pair : Stmt := top 81
abbrev N_l_late_pair : List Str := ["deal", "one", "size", "cycle", "at"]
theorem sc_l_late_pair : FnScope N_l_late_pair ["deal"] (defScope s_l_late_pair) := scopeB_ok (by decide +kernel)
abbrev s_l_pair_holds : Stmt := top 82
abbrev N_l_pair_holds : List Str := ["deal", "one", "other", "due", "turn", "k"]
theorem sc_l_pair_holds : FnScope N_l_pair_holds ["deal", "one", "other"] (defScope s_l_pair_holds) := scopeB_ok (by decide +kernel)
abbrev s_law : Stmt := top 83
abbrev N_law : List Str := ["script", "deal", "pairs", "pair", "one", "bad", "row"]
theorem sc_law : FnScope N_law ["script"] (defScope s_law) := scopeB_ok (by decide +kernel)
def allC : List Str := ["LeadsError", "NumberError", "OptionError", "PlaceError", "BookError", "HasHome", "NoHome", "NotFull", "NotGood", "CountError", "NotASink", "NotFree", "RowError", "PostError", "RingStands", "TooMany", "TooLong", "LineError", "WebError", "ArrowsError", "WordError", "MachineError", "ChangeError", "PaperError"]
def kitsB (K : PySem.W.Frag) (D : Addr) (d : Str) : Bool := allC.all fun c => decide (PySem.W.kitOne K (.ref D) (.ref (He.ga K c)) = some (decide (c = d ∨ c = "LeadsError")))
theorem kitsB_ok {K : PySem.W.Frag} {D : Addr} {d : Str} (h : kitsB K D d = true) {c : Str} (hc : c ∈ allC) : PySem.W.kitOne K (.ref D) (.ref (He.ga K c)) = some (decide (c = d ∨ c = "LeadsError")) := of_decide_eq_true (List.all_eq_true.mp h c hc)
abbrev FnP (K : PySem.W.Frag) (p : FnAt) (x q : Str) (st : Stmt) (dvs : List V) : Prop := FunD K x q (defArgs st) (defBody st) (defScope st) dvs [] (He.fAd K p) (fdOf K p)
structure Top (w : World) (K : PySem.W.Frag) (mg : Str → Option Value) : Prop where
  f_p_fresh : FnP K ("fresh", none) "fresh" "fresh" s_p_fresh [.int 8]
  f_m_NumberError_init : FnP K ("NumberError", some "__init__") "__init__" "NumberError.__init__" s_m_NumberError_init []
  f_p_check_number : FnP K ("check_number", none) "check_number" "check_number" s_p_check_number [.non]
  f_p_made_of : FnP K ("made_of", none) "made_of" "made_of" s_p_made_of []
  f_p_are_parts : FnP K ("are_parts", none) "are_parts" "are_parts" s_p_are_parts []
  f_p_text_parts : FnP K ("text_parts", none) "text_parts" "text_parts" s_p_text_parts []
  f_p_joined_text : FnP K ("joined_text", none) "joined_text" "joined_text" s_p_joined_text []
  f_p_shortest_root : FnP K ("shortest_root", none) "shortest_root" "shortest_root" s_p_shortest_root []
  f_p_plain_parts : FnP K ("plain_parts", none) "plain_parts" "plain_parts" s_p_plain_parts []
  f_p_plain_text : FnP K ("plain_text", none) "plain_text" "plain_text" s_p_plain_text []
  f_p_read_word : FnP K ("read_word", none) "read_word" "read_word" s_p_read_word []
  f_p_plain : FnP K ("plain", none) "plain" "plain" s_p_plain []
  f_p_same_word : FnP K ("same_word", none) "same_word" "same_word" s_p_same_word []
  f_p_letter : FnP K ("letter", none) "letter" "letter" s_p_letter []
  f_p_first_letters : FnP K ("first_letters", none) "first_letters" "first_letters" s_p_first_letters []
  f_p_rest : FnP K ("rest", none) "rest" "rest" s_p_rest []
  f_p_first_unlike : FnP K ("first_unlike", none) "first_unlike" "first_unlike" s_p_first_unlike []
  f_p_mirror : FnP K ("mirror", none) "mirror" "mirror" s_p_mirror []
  f_l_store : FnP K ("_law_store", none) "_law_store" "_law_store" s_l_store []
  f_l_take : FnP K ("_law_take", none) "_law_take" "_law_take" s_l_take []
  f_l_within : FnP K ("_law_within", none) "_law_within" "_law_within" s_l_within []
  f_l_edge : FnP K ("_law_edge", none) "_law_edge" "_law_edge" s_l_edge []
  f_l_pick : FnP K ("_law_pick", none) "_law_pick" "_law_pick" s_l_pick []
  f_l_huge : FnP K ("_law_huge", none) "_law_huge" "_law_huge" s_l_huge []
  f_l_prefix_size : FnP K ("_law_prefix_size", none) "_law_prefix_size" "_law_prefix_size" s_l_prefix_size []
  f_l_letter_text : FnP K ("_law_letter_text", none) "_law_letter_text" "_law_letter_text" s_l_letter_text []
  f_l_turn_pair : FnP K ("_law_turn_pair", none) "_law_turn_pair" "_law_turn_pair" s_l_turn_pair []
  f_l_good_pair : FnP K ("_law_good_pair", none) "_law_good_pair" "_law_good_pair" s_l_good_pair []
  f_l_pair_text : FnP K ("_law_pair_text", none) "_law_pair_text" "_law_pair_text" s_l_pair_text []
  f_l_split : FnP K ("_law_split", none) "_law_split" "_law_split" s_l_split []
  f_l_same_text : FnP K ("_law_same_text", none) "_law_same_text" "_law_same_text" s_l_same_text []
  f_l_good_word : FnP K ("_law_good_word", none) "_law_good_word" "_law_good_word" s_l_good_word []
  f_l_thrifty_word : FnP K ("_law_thrifty_word", none) "_law_thrifty_word" "_law_thrifty_word" s_l_thrifty_word []
  f_l_filled : FnP K ("_law_filled", none) "_law_filled" "_law_filled" s_l_filled []
  f_l_ringing_word : FnP K ("_law_ringing_word", none) "_law_ringing_word" "_law_ringing_word" s_l_ringing_word []
  f_l_full_word : FnP K ("_law_full_word", none) "_law_full_word" "_law_full_word" s_l_full_word []
  f_l_starving_word : FnP K ("_law_starving_word", none) "_law_starving_word" "_law_starving_word" s_l_starving_word []
  f_l_free_word : FnP K ("_law_free_word", none) "_law_free_word" "_law_free_word" s_l_free_word []
  f_l_word_of : FnP K ("_law_word_of", none) "_law_word_of" "_law_word_of" s_l_word_of []
  f_l_two_words : FnP K ("_law_two_words", none) "_law_two_words" "_law_two_words" s_l_two_words []
  f_l_bad_word : FnP K ("_law_bad_word", none) "_law_bad_word" "_law_bad_word" s_l_bad_word []
  f_l_mark_at : FnP K ("_law_mark_at", none) "_law_mark_at" "_law_mark_at" s_l_mark_at []
  f_l_first_marks : FnP K ("_law_first_marks", none) "_law_first_marks" "_law_first_marks" s_l_first_marks []
  f_l_parting : FnP K ("_law_parting", none) "_law_parting" "_law_parting" s_l_parting []
  f_l_is_number : FnP K ("_law_is_number", none) "_law_is_number" "_law_is_number" s_l_is_number []
  f_l_equal : FnP K ("_law_equal", none) "_law_equal" "_law_equal" s_l_equal []
  f_l_told : FnP K ("_law_told", none) "_law_told" "_law_told" s_l_told []
  f_l_refused : FnP K ("_law_refused", none) "_law_refused" "_law_refused" s_l_refused []
  f_l_late_pair : FnP K ("_law_late_pair", none) "_law_late_pair" "_law_late_pair" s_l_late_pair []
  f_l_pair_holds : FnP K ("_law_pair_holds", none) "_law_pair_holds" "_law_pair_holds" s_l_pair_holds []
  f_law : FnP K ("law", none) "law" "law" s_law []
  z_ValueError : mg "ValueError" = none
  z_all : mg "all" = none
  z_bool : mg "bool" = none
  z_int : mg "int" = none
  z_isinstance : mg "isinstance" = none
  z_len : mg "len" = none
  z_list : mg "list" = none
  z_range : mg "range" = none
  z_str : mg "str" = none
  z_tuple : mg "tuple" = none
  g_p_fresh : mg "fresh" = some (.ref (He.fAd K ("fresh", none)))
  g_p_check_number : mg "check_number" = some (.ref (He.fAd K ("check_number", none)))
  g_p_made_of : mg "made_of" = some (.ref (He.fAd K ("made_of", none)))
  g_p_are_parts : mg "are_parts" = some (.ref (He.fAd K ("are_parts", none)))
  g_p_text_parts : mg "text_parts" = some (.ref (He.fAd K ("text_parts", none)))
  g_p_joined_text : mg "joined_text" = some (.ref (He.fAd K ("joined_text", none)))
  g_p_shortest_root : mg "shortest_root" = some (.ref (He.fAd K ("shortest_root", none)))
  g_p_plain_parts : mg "plain_parts" = some (.ref (He.fAd K ("plain_parts", none)))
  g_p_plain_text : mg "plain_text" = some (.ref (He.fAd K ("plain_text", none)))
  g_p_read_word : mg "read_word" = some (.ref (He.fAd K ("read_word", none)))
  g_p_plain : mg "plain" = some (.ref (He.fAd K ("plain", none)))
  g_p_same_word : mg "same_word" = some (.ref (He.fAd K ("same_word", none)))
  g_p_letter : mg "letter" = some (.ref (He.fAd K ("letter", none)))
  g_p_first_letters : mg "first_letters" = some (.ref (He.fAd K ("first_letters", none)))
  g_p_rest : mg "rest" = some (.ref (He.fAd K ("rest", none)))
  g_p_first_unlike : mg "first_unlike" = some (.ref (He.fAd K ("first_unlike", none)))
  g_p_mirror : mg "mirror" = some (.ref (He.fAd K ("mirror", none)))
  g_l_store : mg "_law_store" = some (.ref (He.fAd K ("_law_store", none)))
  g_l_take : mg "_law_take" = some (.ref (He.fAd K ("_law_take", none)))
  g_l_within : mg "_law_within" = some (.ref (He.fAd K ("_law_within", none)))
  g_l_edge : mg "_law_edge" = some (.ref (He.fAd K ("_law_edge", none)))
  g_l_pick : mg "_law_pick" = some (.ref (He.fAd K ("_law_pick", none)))
  g_l_huge : mg "_law_huge" = some (.ref (He.fAd K ("_law_huge", none)))
  g_l_prefix_size : mg "_law_prefix_size" = some (.ref (He.fAd K ("_law_prefix_size", none)))
  g_l_letter_text : mg "_law_letter_text" = some (.ref (He.fAd K ("_law_letter_text", none)))
  g_l_turn_pair : mg "_law_turn_pair" = some (.ref (He.fAd K ("_law_turn_pair", none)))
  g_l_good_pair : mg "_law_good_pair" = some (.ref (He.fAd K ("_law_good_pair", none)))
  g_l_pair_text : mg "_law_pair_text" = some (.ref (He.fAd K ("_law_pair_text", none)))
  g_l_split : mg "_law_split" = some (.ref (He.fAd K ("_law_split", none)))
  g_l_same_text : mg "_law_same_text" = some (.ref (He.fAd K ("_law_same_text", none)))
  g_l_good_word : mg "_law_good_word" = some (.ref (He.fAd K ("_law_good_word", none)))
  g_l_thrifty_word : mg "_law_thrifty_word" = some (.ref (He.fAd K ("_law_thrifty_word", none)))
  g_l_filled : mg "_law_filled" = some (.ref (He.fAd K ("_law_filled", none)))
  g_l_ringing_word : mg "_law_ringing_word" = some (.ref (He.fAd K ("_law_ringing_word", none)))
  g_l_full_word : mg "_law_full_word" = some (.ref (He.fAd K ("_law_full_word", none)))
  g_l_starving_word : mg "_law_starving_word" = some (.ref (He.fAd K ("_law_starving_word", none)))
  g_l_free_word : mg "_law_free_word" = some (.ref (He.fAd K ("_law_free_word", none)))
  g_l_word_of : mg "_law_word_of" = some (.ref (He.fAd K ("_law_word_of", none)))
  g_l_two_words : mg "_law_two_words" = some (.ref (He.fAd K ("_law_two_words", none)))
  g_l_bad_word : mg "_law_bad_word" = some (.ref (He.fAd K ("_law_bad_word", none)))
  g_l_mark_at : mg "_law_mark_at" = some (.ref (He.fAd K ("_law_mark_at", none)))
  g_l_first_marks : mg "_law_first_marks" = some (.ref (He.fAd K ("_law_first_marks", none)))
  g_l_parting : mg "_law_parting" = some (.ref (He.fAd K ("_law_parting", none)))
  g_l_is_number : mg "_law_is_number" = some (.ref (He.fAd K ("_law_is_number", none)))
  g_l_equal : mg "_law_equal" = some (.ref (He.fAd K ("_law_equal", none)))
  g_l_told : mg "_law_told" = some (.ref (He.fAd K ("_law_told", none)))
  g_l_refused : mg "_law_refused" = some (.ref (He.fAd K ("_law_refused", none)))
  g_l_late_pair : mg "_law_late_pair" = some (.ref (He.fAd K ("_law_late_pair", none)))
  g_l_pair_holds : mg "_law_pair_holds" = some (.ref (He.fAd K ("_law_pair_holds", none)))
  g_law : mg "law" = some (.ref (He.fAd K ("law", none)))
  g_LeadsError : mg "LeadsError" = some (.ref (He.ga K "LeadsError"))
  g_NumberError : mg "NumberError" = some (.ref (He.ga K "NumberError"))
  g_OptionError : mg "OptionError" = some (.ref (He.ga K "OptionError"))
  g_PlaceError : mg "PlaceError" = some (.ref (He.ga K "PlaceError"))
  g_BookError : mg "BookError" = some (.ref (He.ga K "BookError"))
  g_HasHome : mg "HasHome" = some (.ref (He.ga K "HasHome"))
  g_NoHome : mg "NoHome" = some (.ref (He.ga K "NoHome"))
  g_NotFull : mg "NotFull" = some (.ref (He.ga K "NotFull"))
  g_NotGood : mg "NotGood" = some (.ref (He.ga K "NotGood"))
  g_CountError : mg "CountError" = some (.ref (He.ga K "CountError"))
  g_NotASink : mg "NotASink" = some (.ref (He.ga K "NotASink"))
  g_NotFree : mg "NotFree" = some (.ref (He.ga K "NotFree"))
  g_RowError : mg "RowError" = some (.ref (He.ga K "RowError"))
  g_PostError : mg "PostError" = some (.ref (He.ga K "PostError"))
  g_RingStands : mg "RingStands" = some (.ref (He.ga K "RingStands"))
  g_TooMany : mg "TooMany" = some (.ref (He.ga K "TooMany"))
  g_TooLong : mg "TooLong" = some (.ref (He.ga K "TooLong"))
  g_LineError : mg "LineError" = some (.ref (He.ga K "LineError"))
  g_WebError : mg "WebError" = some (.ref (He.ga K "WebError"))
  g_ArrowsError : mg "ArrowsError" = some (.ref (He.ga K "ArrowsError"))
  g_WordError : mg "WordError" = some (.ref (He.ga K "WordError"))
  g_MachineError : mg "MachineError" = some (.ref (He.ga K "MachineError"))
  g_ChangeError : mg "ChangeError" = some (.ref (He.ga K "ChangeError"))
  g_PaperError : mg "PaperError" = some (.ref (He.ga K "PaperError"))
  k_MOST_DEEP : mg "MOST_DEEP" = some (.int 8 (tokOf (mg "MOST_DEEP")))
  k_LETTERS : mg "LETTERS" = some (.str (mk [66, 73, 79]) (tokOf (mg "LETTERS")))
  k_LONGEST_PREFIX : mg "LONGEST_PREFIX" = some (.int 12 (tokOf (mg "LONGEST_PREFIX")))
  k_LONGEST_CYCLE : mg "LONGEST_CYCLE" = some (.int 4 (tokOf (mg "LONGEST_CYCLE")))
  k_MOST_LETTERS : mg "MOST_LETTERS" = some (.int 400 (tokOf (mg "MOST_LETTERS")))
  k_COMPARED : mg "COMPARED" = some (.int 24 (tokOf (mg "COMPARED")))
  g_MIRRORED : mg "MIRRORED" = some (.ref (He.ga K "MIRRORED"))
  e_WordError : PySem.W.excIn K (He.ga K "WordError") He.veBase "ValueError.__new__" = true ∧ PySem.W.keepIn K (.ref (He.ga K "WordError")) = true ∧ PySem.W.subIn K (.ref (He.ga K "WordError")) (.type "BaseException") = some true ∧ PySem.W.typeIn K (.ref (He.ga K "WordError")) = some (.type "type")
  d_MIRRORED : TabD K w (He.ga K "MIRRORED") (tabV tb_MIRRORED)
  o_NumberError : OexC K (He.ga K "NumberError")
  i_NumberError : PySem.W.findIn K (.ref (He.ga K "NumberError")) "__init__" = some (some (.ref (He.fAd K ("NumberError", some "__init__"))))
  y_NumberError : PySem.W.typeIn K (.ref (He.fAd K ("NumberError", some "__init__"))) = some (.type "function")
  n_NumberError_at_number : PySem.W.findIn K (.ref (He.ga K "NumberError")) "at_number" = some none
  x_NumberError : XfC K (He.ga K "NumberError")
  D_NumberError : ExcD K (He.ga K "NumberError")
  q_NumberError : ∀ c ∈ allC, PySem.W.kitOne K (.ref (He.ga K "NumberError")) (.ref (He.ga K c)) = some (decide (c = "NumberError" ∨ c = "LeadsError"))
  v_NumberError : PySem.W.kitOne K (.ref (He.ga K "NumberError")) (.type "ValueError") = some true
  l_NumberError : PySem.W.exmOne K (.ref (He.ga K "NumberError")) (.ref (He.ga K "LeadsError")) = some true
  D_WordError : ExcD K (He.ga K "WordError")
  q_WordError : ∀ c ∈ allC, PySem.W.kitOne K (.ref (He.ga K "WordError")) (.ref (He.ga K c)) = some (decide (c = "WordError" ∨ c = "LeadsError"))
  v_WordError : PySem.W.kitOne K (.ref (He.ga K "WordError")) (.type "ValueError") = some true
  l_WordError : PySem.W.exmOne K (.ref (He.ga K "WordError")) (.ref (He.ga K "LeadsError")) = some true
section
variable {w : World} {K : PySem.W.Frag} {mg : Str → Option Value}
theorem b_p_fresh (T : Top w K mg) : Binds K (fdOf K ("fresh", none)) ["x", "depth"] [] := by
  obtain ⟨ds, h1, h2⟩ := T.f_p_fresh.binds1 (ps := ["x", "depth"]) 2 1 (fun z => by cases z) rfl fun _ _ _ _ _ _ _ us its l1 l2 => match us, its, l1, l2 with | [_, _], [_], _, _ => ⟨_, rfl, rfl⟩
  cases h1
  exact h2
theorem dflt_p_fresh (T : Top w K mg) : ∃ ds, Vals [.int 8] ds ∧ Binds K (fdOf K ("fresh", none)) ["x", "depth"] ds := T.f_p_fresh.binds1 1 0 (fun z => by cases z) rfl fun _ _ _ _ _ _ _ us its l1 l2 => match us, its, l1, l2 with | [_], [_], _, _ => ⟨_, rfl, rfl⟩
theorem b_m_NumberError_init (T : Top w K mg) : Binds K (fdOf K ("NumberError", some "__init__")) ["self", "at_number"] [] := T.f_m_NumberError_init.bindsN fun _ _ _ _ _ _ us hl => match us, hl with | [_, _], _ => rfl
theorem b_p_check_number (T : Top w K mg) : Binds K (fdOf K ("check_number", none)) ["number", "least", "most"] [] := by
  obtain ⟨ds, h1, h2⟩ := T.f_p_check_number.binds1 (ps := ["number", "least", "most"]) 3 1 (fun z => by cases z) rfl fun _ _ _ _ _ _ _ us its l1 l2 => match us, its, l1, l2 with | [_, _, _], [_], _, _ => ⟨_, rfl, rfl⟩
  cases h1
  exact h2
theorem dflt_p_check_number (T : Top w K mg) : ∃ ds, Vals [.non] ds ∧ Binds K (fdOf K ("check_number", none)) ["number", "least", "most"] ds := T.f_p_check_number.binds1 2 0 (fun z => by cases z) rfl fun _ _ _ _ _ _ _ us its l1 l2 => match us, its, l1, l2 with | [_, _], [_], _, _ => ⟨_, rfl, rfl⟩
theorem b_p_made_of (T : Top w K mg) : Binds K (fdOf K ("made_of", none)) ["text", "letters", "least", "most"] [] := T.f_p_made_of.bindsN fun _ _ _ _ _ _ us hl => match us, hl with | [_, _, _, _], _ => rfl
theorem b_p_are_parts (T : Top w K mg) : Binds K (fdOf K ("are_parts", none)) ["prefix", "cycle", "letters"] [] := T.f_p_are_parts.bindsN fun _ _ _ _ _ _ us hl => match us, hl with | [_, _, _], _ => rfl
theorem b_p_text_parts (T : Top w K mg) : Binds K (fdOf K ("text_parts", none)) ["text", "letters"] [] := T.f_p_text_parts.bindsN fun _ _ _ _ _ _ us hl => match us, hl with | [_, _], _ => rfl
theorem b_p_joined_text (T : Top w K mg) : Binds K (fdOf K ("joined_text", none)) ["prefix", "cycle"] [] := T.f_p_joined_text.bindsN fun _ _ _ _ _ _ us hl => match us, hl with | [_, _], _ => rfl
theorem b_p_shortest_root (T : Top w K mg) : Binds K (fdOf K ("shortest_root", none)) ["cycle"] [] := T.f_p_shortest_root.bindsN fun _ _ _ _ _ _ us hl => match us, hl with | [_], _ => rfl
theorem b_p_plain_parts (T : Top w K mg) : Binds K (fdOf K ("plain_parts", none)) ["prefix", "cycle"] [] := T.f_p_plain_parts.bindsN fun _ _ _ _ _ _ us hl => match us, hl with | [_, _], _ => rfl
theorem b_p_plain_text (T : Top w K mg) : Binds K (fdOf K ("plain_text", none)) ["prefix", "cycle"] [] := T.f_p_plain_text.bindsN fun _ _ _ _ _ _ us hl => match us, hl with | [_, _], _ => rfl
theorem b_p_read_word (T : Top w K mg) : Binds K (fdOf K ("read_word", none)) ["word"] [] := T.f_p_read_word.bindsN fun _ _ _ _ _ _ us hl => match us, hl with | [_], _ => rfl
theorem b_p_plain (T : Top w K mg) : Binds K (fdOf K ("plain", none)) ["word"] [] := T.f_p_plain.bindsN fun _ _ _ _ _ _ us hl => match us, hl with | [_], _ => rfl
theorem b_p_same_word (T : Top w K mg) : Binds K (fdOf K ("same_word", none)) ["x", "y"] [] := T.f_p_same_word.bindsN fun _ _ _ _ _ _ us hl => match us, hl with | [_, _], _ => rfl
theorem b_p_letter (T : Top w K mg) : Binds K (fdOf K ("letter", none)) ["word", "k"] [] := T.f_p_letter.bindsN fun _ _ _ _ _ _ us hl => match us, hl with | [_, _], _ => rfl
theorem b_p_first_letters (T : Top w K mg) : Binds K (fdOf K ("first_letters", none)) ["word", "many"] [] := T.f_p_first_letters.bindsN fun _ _ _ _ _ _ us hl => match us, hl with | [_, _], _ => rfl
theorem b_p_rest (T : Top w K mg) : Binds K (fdOf K ("rest", none)) ["word", "k"] [] := T.f_p_rest.bindsN fun _ _ _ _ _ _ us hl => match us, hl with | [_, _], _ => rfl
theorem b_p_first_unlike (T : Top w K mg) : Binds K (fdOf K ("first_unlike", none)) ["x", "y"] [] := T.f_p_first_unlike.bindsN fun _ _ _ _ _ _ us hl => match us, hl with | [_, _], _ => rfl
theorem b_p_mirror (T : Top w K mg) : Binds K (fdOf K ("mirror", none)) ["word"] [] := T.f_p_mirror.bindsN fun _ _ _ _ _ _ us hl => match us, hl with | [_], _ => rfl
theorem b_l_store (T : Top w K mg) : Binds K (fdOf K ("_law_store", none)) ["script"] [] := T.f_l_store.bindsN fun _ _ _ _ _ _ us hl => match us, hl with | [_], _ => rfl
theorem b_l_take (T : Top w K mg) : Binds K (fdOf K ("_law_take", none)) ["deal", "options"] [] := T.f_l_take.bindsN fun _ _ _ _ _ _ us hl => match us, hl with | [_, _], _ => rfl
theorem b_l_within (T : Top w K mg) : Binds K (fdOf K ("_law_within", none)) ["deal", "least", "greatest"] [] := T.f_l_within.bindsN fun _ _ _ _ _ _ us hl => match us, hl with | [_, _, _], _ => rfl
theorem b_l_edge (T : Top w K mg) : Binds K (fdOf K ("_law_edge", none)) ["deal", "least", "greatest"] [] := T.f_l_edge.bindsN fun _ _ _ _ _ _ us hl => match us, hl with | [_, _, _], _ => rfl
theorem b_l_pick (T : Top w K mg) : Binds K (fdOf K ("_law_pick", none)) ["deal", "row"] [] := T.f_l_pick.bindsN fun _ _ _ _ _ _ us hl => match us, hl with | [_, _], _ => rfl
theorem b_l_huge (T : Top w K mg) : Binds K (fdOf K ("_law_huge", none)) ["deal"] [] := T.f_l_huge.bindsN fun _ _ _ _ _ _ us hl => match us, hl with | [_], _ => rfl
theorem b_l_prefix_size (T : Top w K mg) : Binds K (fdOf K ("_law_prefix_size", none)) ["deal"] [] := T.f_l_prefix_size.bindsN fun _ _ _ _ _ _ us hl => match us, hl with | [_], _ => rfl
theorem b_l_letter_text (T : Top w K mg) : Binds K (fdOf K ("_law_letter_text", none)) ["deal", "marks", "size"] [] := T.f_l_letter_text.bindsN fun _ _ _ _ _ _ us hl => match us, hl with | [_, _, _], _ => rfl
theorem b_l_turn_pair (T : Top w K mg) : Binds K (fdOf K ("_law_turn_pair", none)) ["deal", "evenly"] [] := T.f_l_turn_pair.bindsN fun _ _ _ _ _ _ us hl => match us, hl with | [_, _], _ => rfl
theorem b_l_good_pair (T : Top w K mg) : Binds K (fdOf K ("_law_good_pair", none)) ["head", "cycle"] [] := T.f_l_good_pair.bindsN fun _ _ _ _ _ _ us hl => match us, hl with | [_, _], _ => rfl
theorem b_l_pair_text (T : Top w K mg) : Binds K (fdOf K ("_law_pair_text", none)) ["pair"] [] := T.f_l_pair_text.bindsN fun _ _ _ _ _ _ us hl => match us, hl with | [_], _ => rfl
theorem b_l_split (T : Top w K mg) : Binds K (fdOf K ("_law_split", none)) ["word_text"] [] := T.f_l_split.bindsN fun _ _ _ _ _ _ us hl => match us, hl with | [_], _ => rfl
theorem b_l_same_text (T : Top w K mg) : Binds K (fdOf K ("_law_same_text", none)) ["deal", "word_text"] [] := T.f_l_same_text.bindsN fun _ _ _ _ _ _ us hl => match us, hl with | [_, _], _ => rfl
theorem b_l_good_word (T : Top w K mg) : Binds K (fdOf K ("_law_good_word", none)) ["deal"] [] := T.f_l_good_word.bindsN fun _ _ _ _ _ _ us hl => match us, hl with | [_], _ => rfl
theorem b_l_thrifty_word (T : Top w K mg) : Binds K (fdOf K ("_law_thrifty_word", none)) ["deal"] [] := T.f_l_thrifty_word.bindsN fun _ _ _ _ _ _ us hl => match us, hl with | [_], _ => rfl
theorem b_l_filled (T : Top w K mg) : Binds K (fdOf K ("_law_filled", none)) ["cycle"] [] := T.f_l_filled.bindsN fun _ _ _ _ _ _ us hl => match us, hl with | [_], _ => rfl
theorem b_l_ringing_word (T : Top w K mg) : Binds K (fdOf K ("_law_ringing_word", none)) ["deal"] [] := T.f_l_ringing_word.bindsN fun _ _ _ _ _ _ us hl => match us, hl with | [_], _ => rfl
theorem b_l_full_word (T : Top w K mg) : Binds K (fdOf K ("_law_full_word", none)) ["deal"] [] := T.f_l_full_word.bindsN fun _ _ _ _ _ _ us hl => match us, hl with | [_], _ => rfl
theorem b_l_starving_word (T : Top w K mg) : Binds K (fdOf K ("_law_starving_word", none)) ["deal"] [] := T.f_l_starving_word.bindsN fun _ _ _ _ _ _ us hl => match us, hl with | [_], _ => rfl
theorem b_l_free_word (T : Top w K mg) : Binds K (fdOf K ("_law_free_word", none)) ["deal"] [] := T.f_l_free_word.bindsN fun _ _ _ _ _ _ us hl => match us, hl with | [_], _ => rfl
theorem b_l_word_of (T : Top w K mg) : Binds K (fdOf K ("_law_word_of", none)) ["deal", "wanted"] [] := T.f_l_word_of.bindsN fun _ _ _ _ _ _ us hl => match us, hl with | [_, _], _ => rfl
theorem b_l_two_words (T : Top w K mg) : Binds K (fdOf K ("_law_two_words", none)) ["deal", "wanted"] [] := T.f_l_two_words.bindsN fun _ _ _ _ _ _ us hl => match us, hl with | [_, _], _ => rfl
theorem b_l_bad_word (T : Top w K mg) : Binds K (fdOf K ("_law_bad_word", none)) ["deal"] [] := T.f_l_bad_word.bindsN fun _ _ _ _ _ _ us hl => match us, hl with | [_], _ => rfl
theorem b_l_mark_at (T : Top w K mg) : Binds K (fdOf K ("_law_mark_at", none)) ["pair", "k"] [] := T.f_l_mark_at.bindsN fun _ _ _ _ _ _ us hl => match us, hl with | [_, _], _ => rfl
theorem b_l_first_marks (T : Top w K mg) : Binds K (fdOf K ("_law_first_marks", none)) ["word_text", "size"] [] := T.f_l_first_marks.bindsN fun _ _ _ _ _ _ us hl => match us, hl with | [_, _], _ => rfl
theorem b_l_parting (T : Top w K mg) : Binds K (fdOf K ("_law_parting", none)) ["one", "other"] [] := T.f_l_parting.bindsN fun _ _ _ _ _ _ us hl => match us, hl with | [_, _], _ => rfl
theorem b_l_is_number (T : Top w K mg) : Binds K (fdOf K ("_law_is_number", none)) ["answer"] [] := T.f_l_is_number.bindsN fun _ _ _ _ _ _ us hl => match us, hl with | [_], _ => rfl
theorem b_l_equal (T : Top w K mg) : Binds K (fdOf K ("_law_equal", none)) ["answer", "due"] [] := T.f_l_equal.bindsN fun _ _ _ _ _ _ us hl => match us, hl with | [_, _], _ => rfl
theorem b_l_told (T : Top w K mg) : Binds K (fdOf K ("_law_told", none)) ["one", "two"] [] := T.f_l_told.bindsN fun _ _ _ _ _ _ us hl => match us, hl with | [_, _], _ => rfl
theorem b_l_refused (T : Top w K mg) : Binds K (fdOf K ("_law_refused", none)) ["told"] [] := T.f_l_refused.bindsN fun _ _ _ _ _ _ us hl => match us, hl with | [_], _ => rfl
theorem b_l_late_pair (T : Top w K mg) : Binds K (fdOf K ("_law_late_pair", none)) ["deal"] [] := T.f_l_late_pair.bindsN fun _ _ _ _ _ _ us hl => match us, hl with | [_], _ => rfl
theorem b_l_pair_holds (T : Top w K mg) : Binds K (fdOf K ("_law_pair_holds", none)) ["deal", "one", "other"] [] := T.f_l_pair_holds.bindsN fun _ _ _ _ _ _ us hl => match us, hl with | [_, _, _], _ => rfl
theorem b_law (T : Top w K mg) : Binds K (fdOf K ("law", none)) ["script"] [] := T.f_law.bindsN fun _ _ _ _ _ _ us hl => match us, hl with | [_], _ => rfl
end
end W
namespace W
open PySem PySem.Spec PyProof.Rows L2 TL G M
section
variable {w : World} {K : PySem.W.Frag} {mg : Str → Option Value}
theorem allC_of {c : String} (h : c ∈ allS) : Str.ofString c ∈ allC := List.mem_map_of_mem (f := Str.ofString) h
theorem xtab (T : Top w K mg) : XTab K raisedS allS := by
  refine ⟨?_, ?_, ?_, ?_⟩
  · intro c hc
    simp only [raisedS, List.mem_cons, List.not_mem_nil, or_false] at hc
    rcases hc with rfl | rfl
    · exact T.D_NumberError
    · exact T.D_WordError
  · intro c hc c' hc'
    simp only [raisedS, List.mem_cons, List.not_mem_nil, or_false] at hc
    rcases hc with rfl | rfl
    · rw [T.q_NumberError _ (allC_of hc')]; exact congrArg some (decS_eq c' "NumberError")
    · rw [T.q_WordError _ (allC_of hc')]; exact congrArg some (decS_eq c' "WordError")
  · intro c hc
    simp only [raisedS, List.mem_cons, List.not_mem_nil, or_false] at hc
    rcases hc with rfl | rfl
    · exact T.v_NumberError
    · exact T.v_WordError
  · intro c hc
    simp only [raisedS, List.mem_cons, List.not_mem_nil, or_false] at hc
    rcases hc with rfl | rfl
    · exact T.l_NumberError
    · exact T.l_WordError
end
end W
namespace W
open PySem PySem.Spec PyProof.Rows L2 TL G M
def d_p_fresh : He.DefD := ⟨("fresh", none), "fresh", "fresh", defArgs s_p_fresh, defBody s_p_fresh, defScope s_p_fresh, [.int 8], []⟩
def d_m_NumberError_init : He.DefD := ⟨("NumberError", some "__init__"), "__init__", "NumberError.__init__", defArgs s_m_NumberError_init, defBody s_m_NumberError_init, defScope s_m_NumberError_init, [], []⟩
def d_p_check_number : He.DefD := ⟨("check_number", none), "check_number", "check_number", defArgs s_p_check_number, defBody s_p_check_number, defScope s_p_check_number, [.non], []⟩
def d_p_made_of : He.DefD := ⟨("made_of", none), "made_of", "made_of", defArgs s_p_made_of, defBody s_p_made_of, defScope s_p_made_of, [], []⟩
def d_p_are_parts : He.DefD := ⟨("are_parts", none), "are_parts", "are_parts", defArgs s_p_are_parts, defBody s_p_are_parts, defScope s_p_are_parts, [], []⟩
def d_p_text_parts : He.DefD := ⟨("text_parts", none), "text_parts", "text_parts", defArgs s_p_text_parts, defBody s_p_text_parts, defScope s_p_text_parts, [], []⟩
def d_p_joined_text : He.DefD := ⟨("joined_text", none), "joined_text", "joined_text", defArgs s_p_joined_text, defBody s_p_joined_text, defScope s_p_joined_text, [], []⟩
def d_p_shortest_root : He.DefD := ⟨("shortest_root", none), "shortest_root", "shortest_root", defArgs s_p_shortest_root, defBody s_p_shortest_root, defScope s_p_shortest_root, [], []⟩
def d_p_plain_parts : He.DefD := ⟨("plain_parts", none), "plain_parts", "plain_parts", defArgs s_p_plain_parts, defBody s_p_plain_parts, defScope s_p_plain_parts, [], []⟩
def d_p_plain_text : He.DefD := ⟨("plain_text", none), "plain_text", "plain_text", defArgs s_p_plain_text, defBody s_p_plain_text, defScope s_p_plain_text, [], []⟩
def d_p_read_word : He.DefD := ⟨("read_word", none), "read_word", "read_word", defArgs s_p_read_word, defBody s_p_read_word, defScope s_p_read_word, [], []⟩
def d_p_plain : He.DefD := ⟨("plain", none), "plain", "plain", defArgs s_p_plain, defBody s_p_plain, defScope s_p_plain, [], []⟩
def d_p_same_word : He.DefD := ⟨("same_word", none), "same_word", "same_word", defArgs s_p_same_word, defBody s_p_same_word, defScope s_p_same_word, [], []⟩
def d_p_letter : He.DefD := ⟨("letter", none), "letter", "letter", defArgs s_p_letter, defBody s_p_letter, defScope s_p_letter, [], []⟩
def d_p_first_letters : He.DefD := ⟨("first_letters", none), "first_letters", "first_letters", defArgs s_p_first_letters, defBody s_p_first_letters, defScope s_p_first_letters, [], []⟩
def d_p_rest : He.DefD := ⟨("rest", none), "rest", "rest", defArgs s_p_rest, defBody s_p_rest, defScope s_p_rest, [], []⟩
def d_p_first_unlike : He.DefD := ⟨("first_unlike", none), "first_unlike", "first_unlike", defArgs s_p_first_unlike, defBody s_p_first_unlike, defScope s_p_first_unlike, [], []⟩
def d_p_mirror : He.DefD := ⟨("mirror", none), "mirror", "mirror", defArgs s_p_mirror, defBody s_p_mirror, defScope s_p_mirror, [], []⟩
def d_l_store : He.DefD := ⟨("_law_store", none), "_law_store", "_law_store", defArgs s_l_store, defBody s_l_store, defScope s_l_store, [], []⟩
def d_l_take : He.DefD := ⟨("_law_take", none), "_law_take", "_law_take", defArgs s_l_take, defBody s_l_take, defScope s_l_take, [], []⟩
def d_l_within : He.DefD := ⟨("_law_within", none), "_law_within", "_law_within", defArgs s_l_within, defBody s_l_within, defScope s_l_within, [], []⟩
def d_l_edge : He.DefD := ⟨("_law_edge", none), "_law_edge", "_law_edge", defArgs s_l_edge, defBody s_l_edge, defScope s_l_edge, [], []⟩
def d_l_pick : He.DefD := ⟨("_law_pick", none), "_law_pick", "_law_pick", defArgs s_l_pick, defBody s_l_pick, defScope s_l_pick, [], []⟩
def d_l_huge : He.DefD := ⟨("_law_huge", none), "_law_huge", "_law_huge", defArgs s_l_huge, defBody s_l_huge, defScope s_l_huge, [], []⟩
def d_l_prefix_size : He.DefD := ⟨("_law_prefix_size", none), "_law_prefix_size", "_law_prefix_size", defArgs s_l_prefix_size, defBody s_l_prefix_size, defScope s_l_prefix_size, [], []⟩
def d_l_letter_text : He.DefD := ⟨("_law_letter_text", none), "_law_letter_text", "_law_letter_text", defArgs s_l_letter_text, defBody s_l_letter_text, defScope s_l_letter_text, [], []⟩
def d_l_turn_pair : He.DefD := ⟨("_law_turn_pair", none), "_law_turn_pair", "_law_turn_pair", defArgs s_l_turn_pair, defBody s_l_turn_pair, defScope s_l_turn_pair, [], []⟩
def d_l_good_pair : He.DefD := ⟨("_law_good_pair", none), "_law_good_pair", "_law_good_pair", defArgs s_l_good_pair, defBody s_l_good_pair, defScope s_l_good_pair, [], []⟩
def d_l_pair_text : He.DefD := ⟨("_law_pair_text", none), "_law_pair_text", "_law_pair_text", defArgs s_l_pair_text, defBody s_l_pair_text, defScope s_l_pair_text, [], []⟩
def d_l_split : He.DefD := ⟨("_law_split", none), "_law_split", "_law_split", defArgs s_l_split, defBody s_l_split, defScope s_l_split, [], []⟩
def d_l_same_text : He.DefD := ⟨("_law_same_text", none), "_law_same_text", "_law_same_text", defArgs s_l_same_text, defBody s_l_same_text, defScope s_l_same_text, [], []⟩
def d_l_good_word : He.DefD := ⟨("_law_good_word", none), "_law_good_word", "_law_good_word", defArgs s_l_good_word, defBody s_l_good_word, defScope s_l_good_word, [], []⟩
def d_l_thrifty_word : He.DefD := ⟨("_law_thrifty_word", none), "_law_thrifty_word", "_law_thrifty_word", defArgs s_l_thrifty_word, defBody s_l_thrifty_word, defScope s_l_thrifty_word, [], []⟩
def d_l_filled : He.DefD := ⟨("_law_filled", none), "_law_filled", "_law_filled", defArgs s_l_filled, defBody s_l_filled, defScope s_l_filled, [], []⟩
def d_l_ringing_word : He.DefD := ⟨("_law_ringing_word", none), "_law_ringing_word", "_law_ringing_word", defArgs s_l_ringing_word, defBody s_l_ringing_word, defScope s_l_ringing_word, [], []⟩
def d_l_full_word : He.DefD := ⟨("_law_full_word", none), "_law_full_word", "_law_full_word", defArgs s_l_full_word, defBody s_l_full_word, defScope s_l_full_word, [], []⟩
def d_l_starving_word : He.DefD := ⟨("_law_starving_word", none), "_law_starving_word", "_law_starving_word", defArgs s_l_starving_word, defBody s_l_starving_word, defScope s_l_starving_word, [], []⟩
def d_l_free_word : He.DefD := ⟨("_law_free_word", none), "_law_free_word", "_law_free_word", defArgs s_l_free_word, defBody s_l_free_word, defScope s_l_free_word, [], []⟩
def d_l_word_of : He.DefD := ⟨("_law_word_of", none), "_law_word_of", "_law_word_of", defArgs s_l_word_of, defBody s_l_word_of, defScope s_l_word_of, [], []⟩
def d_l_two_words : He.DefD := ⟨("_law_two_words", none), "_law_two_words", "_law_two_words", defArgs s_l_two_words, defBody s_l_two_words, defScope s_l_two_words, [], []⟩
def d_l_bad_word : He.DefD := ⟨("_law_bad_word", none), "_law_bad_word", "_law_bad_word", defArgs s_l_bad_word, defBody s_l_bad_word, defScope s_l_bad_word, [], []⟩
def d_l_mark_at : He.DefD := ⟨("_law_mark_at", none), "_law_mark_at", "_law_mark_at", defArgs s_l_mark_at, defBody s_l_mark_at, defScope s_l_mark_at, [], []⟩
def d_l_first_marks : He.DefD := ⟨("_law_first_marks", none), "_law_first_marks", "_law_first_marks", defArgs s_l_first_marks, defBody s_l_first_marks, defScope s_l_first_marks, [], []⟩
def d_l_parting : He.DefD := ⟨("_law_parting", none), "_law_parting", "_law_parting", defArgs s_l_parting, defBody s_l_parting, defScope s_l_parting, [], []⟩
def d_l_is_number : He.DefD := ⟨("_law_is_number", none), "_law_is_number", "_law_is_number", defArgs s_l_is_number, defBody s_l_is_number, defScope s_l_is_number, [], []⟩
def d_l_equal : He.DefD := ⟨("_law_equal", none), "_law_equal", "_law_equal", defArgs s_l_equal, defBody s_l_equal, defScope s_l_equal, [], []⟩
def d_l_told : He.DefD := ⟨("_law_told", none), "_law_told", "_law_told", defArgs s_l_told, defBody s_l_told, defScope s_l_told, [], []⟩
def d_l_refused : He.DefD := ⟨("_law_refused", none), "_law_refused", "_law_refused", defArgs s_l_refused, defBody s_l_refused, defScope s_l_refused, [], []⟩
def d_l_late_pair : He.DefD := ⟨("_law_late_pair", none), "_law_late_pair", "_law_late_pair", defArgs s_l_late_pair, defBody s_l_late_pair, defScope s_l_late_pair, [], []⟩
def d_l_pair_holds : He.DefD := ⟨("_law_pair_holds", none), "_law_pair_holds", "_law_pair_holds", defArgs s_l_pair_holds, defBody s_l_pair_holds, defScope s_l_pair_holds, [], []⟩
def d_law : He.DefD := ⟨("law", none), "law", "law", defArgs s_law, defBody s_law, defScope s_law, [], []⟩
def fn0 : List He.DefD := [d_p_fresh, d_m_NumberError_init, d_p_check_number, d_p_made_of, d_p_are_parts, d_p_text_parts, d_p_joined_text, d_p_shortest_root, d_p_plain_parts, d_p_plain_text, d_p_read_word, d_p_plain, d_p_same_word, d_p_letter, d_p_first_letters, d_p_rest, d_p_first_unlike, d_p_mirror, d_l_store, d_l_take, d_l_within, d_l_edge, d_l_pick, d_l_huge, d_l_prefix_size, d_l_letter_text, d_l_turn_pair, d_l_good_pair, d_l_pair_text, d_l_split]
def fn1 : List He.DefD := [d_l_same_text, d_l_good_word, d_l_thrifty_word, d_l_filled, d_l_ringing_word, d_l_full_word, d_l_starving_word, d_l_free_word, d_l_word_of, d_l_two_words, d_l_bad_word, d_l_mark_at, d_l_first_marks, d_l_parting, d_l_is_number, d_l_equal, d_l_told, d_l_refused, d_l_late_pair, d_l_pair_holds, d_law]
def fn : List He.DefD := fn0 ++ fn1
def fa0 : List He.Fa := [.free "ValueError", .free "all", .free "bool", .free "int", .free "isinstance", .free "len", .free "list", .free "range", .free "str", .free "tuple", .glo "fresh", .glo "check_number", .glo "made_of", .glo "are_parts", .glo "text_parts", .glo "joined_text", .glo "shortest_root", .glo "plain_parts", .glo "plain_text", .glo "read_word", .glo "plain", .glo "same_word", .glo "letter", .glo "first_letters", .glo "rest", .glo "first_unlike", .glo "mirror", .glo "_law_store", .glo "_law_take", .glo "_law_within"]
def fa1 : List He.Fa := [.glo "_law_edge", .glo "_law_pick", .glo "_law_huge", .glo "_law_prefix_size", .glo "_law_letter_text", .glo "_law_turn_pair", .glo "_law_good_pair", .glo "_law_pair_text", .glo "_law_split", .glo "_law_same_text", .glo "_law_good_word", .glo "_law_thrifty_word", .glo "_law_filled", .glo "_law_ringing_word", .glo "_law_full_word", .glo "_law_starving_word", .glo "_law_free_word", .glo "_law_word_of", .glo "_law_two_words", .glo "_law_bad_word", .glo "_law_mark_at", .glo "_law_first_marks", .glo "_law_parting", .glo "_law_is_number", .glo "_law_equal", .glo "_law_told", .glo "_law_refused", .glo "_law_late_pair", .glo "_law_pair_holds", .glo "law"]
def fa2 : List He.Fa := [.glo "LeadsError", .glo "NumberError", .glo "OptionError", .glo "PlaceError", .glo "BookError", .glo "HasHome", .glo "NoHome", .glo "NotFull", .glo "NotGood", .glo "CountError", .glo "NotASink", .glo "NotFree", .glo "RowError", .glo "PostError", .glo "RingStands", .glo "TooMany", .glo "TooLong", .glo "LineError", .glo "WebError", .glo "ArrowsError", .glo "WordError", .glo "MachineError", .glo "ChangeError", .glo "PaperError", .int "MOST_DEEP" 8, .str "LETTERS" "BIO", .int "LONGEST_PREFIX" 12, .int "LONGEST_CYCLE" 4, .int "MOST_LETTERS" 400, .int "COMPARED" 24]
def fa3 : List He.Fa := [.glo "MIRRORED", .exc "WordError"]
def fa : List He.Fa := fa0 ++ fa1 ++ fa2 ++ fa3
def bf_0 : BF := fun K => tabB K (He.ga K "MIRRORED") [([66], S [66]), ([73], S [79]), ([79], S [73])]
def bf_1 : BF := fun K => oexC K (He.ga K "NumberError")
def bf_2 : BF := fun K => eqOV (PySem.W.findIn K (.ref (He.ga K "NumberError")) "__init__") (some (some (.ref (He.fAd K ("NumberError", some "__init__")))))
def bf_3 : BF := fun K => decide (PySem.W.typeIn K (.ref (He.fAd K ("NumberError", some "__init__"))) = some (.type "function"))
def bf_4 : BF := fun K => eqOV (PySem.W.findIn K (.ref (He.ga K "NumberError")) "at_number") (some none)
def bf_5 : BF := fun K => xfB K (He.ga K "NumberError")
def bf_6 : BF := fun K => excD K (He.ga K "NumberError")
def bf_7 : BF := fun K => kitsB K (He.ga K "NumberError") "NumberError"
def bf_8 : BF := fun K => decide (PySem.W.kitOne K (.ref (He.ga K "NumberError")) (.type "ValueError") = some true)
def bf_9 : BF := fun K => decide (PySem.W.exmOne K (.ref (He.ga K "NumberError")) (.ref (He.ga K "LeadsError")) = some true)
def bf_10 : BF := fun K => excD K (He.ga K "WordError")
def bf_11 : BF := fun K => kitsB K (He.ga K "WordError") "WordError"
def bf_12 : BF := fun K => decide (PySem.W.kitOne K (.ref (He.ga K "WordError")) (.type "ValueError") = some true)
def bf_13 : BF := fun K => decide (PySem.W.exmOne K (.ref (He.ga K "WordError")) (.ref (He.ga K "LeadsError")) = some true)
def bfs0 : List BF := [bf_0, bf_1, bf_2, bf_3, bf_4, bf_5, bf_6, bf_7, bf_8, bf_9, bf_10, bf_11, bf_12, bf_13]
def bfs : List BF := bfs0
def loose0 : List PySem.Str := ["MOST_DEEP", "fresh", "LeadsError", "NumberError", "OptionError", "PlaceError", "BookError", "HasHome", "NoHome", "NotFull", "NotGood", "CountError", "NotASink", "NotFree", "RowError", "PostError", "RingStands", "TooMany", "TooLong", "LineError", "WebError", "ArrowsError", "WordError", "MachineError", "ChangeError", "PaperError", "LETTERS", "LONGEST_PREFIX", "LONGEST_CYCLE", "MOST_LETTERS"]
def loose1 : List PySem.Str := ["COMPARED", "MIRRORED", "check_number", "made_of", "are_parts", "text_parts", "joined_text", "shortest_root", "plain_parts", "plain_text", "read_word", "plain", "same_word", "letter", "first_letters", "rest", "first_unlike", "mirror", "_law_store", "_law_take", "_law_within", "_law_edge", "_law_pick", "_law_huge", "_law_prefix_size", "_law_letter_text", "_law_turn_pair", "_law_good_pair", "_law_pair_text", "_law_split"]
def loose2 : List PySem.Str := ["_law_same_text", "_law_good_word", "_law_thrifty_word", "_law_filled", "_law_ringing_word", "_law_full_word", "_law_starving_word", "_law_free_word", "_law_word_of", "_law_two_words", "_law_bad_word", "_law_mark_at", "_law_first_marks", "_law_parting", "_law_is_number", "_law_equal", "_law_told", "_law_refused", "_law_late_pair", "_law_pair_holds"]
def loose : List PySem.Str := loose0 ++ loose1 ++ loose2
def ts : List He.Tab := [(fun K => He.ga K "MIRRORED", ["B", "I", "O"])]
abbrev R : PySem.W.OpenRow := PySem.W.OpenLaw.row PySem.Challenge.rw_leadshome_k09_first_unlike_letter_is_tol
abbrev hk : PySem.W.Hook := He.hookX 6 fa fn ts [] (allB bfs)
def ob (s : PySem.W.SharedT) : He.AlX := He.obsX 6 fa fn ts [] (allB bfs) (HandSHeadRun.getT s)
theorem ob_eq (s : PySem.W.SharedT) : ob s = hk.obs s.abs := He.obsX_eq (HandSHeadRun.getT_eq s)
theorem run0 (w : World) : HandSHeadRun.RunEq R (PySem.W.view R.prog [83]) hk ob 14000 loose (w.withFollow "special-get-raises" false) := by
  intro os
  kernel_rfl
theorem run1 (w : World) : HandSHeadRun.RunEq R (PySem.W.view R.prog [83]) hk ob 14000 loose (w.withFollow "special-get-raises" true) := by
  intro os
  kernel_rfl
theorem run (w : World) : HandSHeadRun.RunEq R (PySem.W.view R.prog [83]) hk ob 14000 loose w := PySem.W.byRow2 "special-get-raises" run0 run1 w
theorem top_of {w : World} {K : PySem.W.Frag} {h : Heap} {mg : Str → Option Value} (X : K.In h) (G : h.Ns mainGlobals mg) (c : He.SaysX fa fn ts [] (allB bfs) w h K) : Top w K mg := {
  f_p_fresh := by
    obtain ⟨fd, F⟩ := c.t.d.def_ 0 (d := d_p_fresh) rfl
    exact fd_eq F
  f_m_NumberError_init := by
    obtain ⟨fd, F⟩ := c.t.d.def_ 1 (d := d_m_NumberError_init) rfl
    exact fd_eq F
  f_p_check_number := by
    obtain ⟨fd, F⟩ := c.t.d.def_ 2 (d := d_p_check_number) rfl
    exact fd_eq F
  f_p_made_of := by
    obtain ⟨fd, F⟩ := c.t.d.def_ 3 (d := d_p_made_of) rfl
    exact fd_eq F
  f_p_are_parts := by
    obtain ⟨fd, F⟩ := c.t.d.def_ 4 (d := d_p_are_parts) rfl
    exact fd_eq F
  f_p_text_parts := by
    obtain ⟨fd, F⟩ := c.t.d.def_ 5 (d := d_p_text_parts) rfl
    exact fd_eq F
  f_p_joined_text := by
    obtain ⟨fd, F⟩ := c.t.d.def_ 6 (d := d_p_joined_text) rfl
    exact fd_eq F
  f_p_shortest_root := by
    obtain ⟨fd, F⟩ := c.t.d.def_ 7 (d := d_p_shortest_root) rfl
    exact fd_eq F
  f_p_plain_parts := by
    obtain ⟨fd, F⟩ := c.t.d.def_ 8 (d := d_p_plain_parts) rfl
    exact fd_eq F
  f_p_plain_text := by
    obtain ⟨fd, F⟩ := c.t.d.def_ 9 (d := d_p_plain_text) rfl
    exact fd_eq F
  f_p_read_word := by
    obtain ⟨fd, F⟩ := c.t.d.def_ 10 (d := d_p_read_word) rfl
    exact fd_eq F
  f_p_plain := by
    obtain ⟨fd, F⟩ := c.t.d.def_ 11 (d := d_p_plain) rfl
    exact fd_eq F
  f_p_same_word := by
    obtain ⟨fd, F⟩ := c.t.d.def_ 12 (d := d_p_same_word) rfl
    exact fd_eq F
  f_p_letter := by
    obtain ⟨fd, F⟩ := c.t.d.def_ 13 (d := d_p_letter) rfl
    exact fd_eq F
  f_p_first_letters := by
    obtain ⟨fd, F⟩ := c.t.d.def_ 14 (d := d_p_first_letters) rfl
    exact fd_eq F
  f_p_rest := by
    obtain ⟨fd, F⟩ := c.t.d.def_ 15 (d := d_p_rest) rfl
    exact fd_eq F
  f_p_first_unlike := by
    obtain ⟨fd, F⟩ := c.t.d.def_ 16 (d := d_p_first_unlike) rfl
    exact fd_eq F
  f_p_mirror := by
    obtain ⟨fd, F⟩ := c.t.d.def_ 17 (d := d_p_mirror) rfl
    exact fd_eq F
  f_l_store := by
    obtain ⟨fd, F⟩ := c.t.d.def_ 18 (d := d_l_store) rfl
    exact fd_eq F
  f_l_take := by
    obtain ⟨fd, F⟩ := c.t.d.def_ 19 (d := d_l_take) rfl
    exact fd_eq F
  f_l_within := by
    obtain ⟨fd, F⟩ := c.t.d.def_ 20 (d := d_l_within) rfl
    exact fd_eq F
  f_l_edge := by
    obtain ⟨fd, F⟩ := c.t.d.def_ 21 (d := d_l_edge) rfl
    exact fd_eq F
  f_l_pick := by
    obtain ⟨fd, F⟩ := c.t.d.def_ 22 (d := d_l_pick) rfl
    exact fd_eq F
  f_l_huge := by
    obtain ⟨fd, F⟩ := c.t.d.def_ 23 (d := d_l_huge) rfl
    exact fd_eq F
  f_l_prefix_size := by
    obtain ⟨fd, F⟩ := c.t.d.def_ 24 (d := d_l_prefix_size) rfl
    exact fd_eq F
  f_l_letter_text := by
    obtain ⟨fd, F⟩ := c.t.d.def_ 25 (d := d_l_letter_text) rfl
    exact fd_eq F
  f_l_turn_pair := by
    obtain ⟨fd, F⟩ := c.t.d.def_ 26 (d := d_l_turn_pair) rfl
    exact fd_eq F
  f_l_good_pair := by
    obtain ⟨fd, F⟩ := c.t.d.def_ 27 (d := d_l_good_pair) rfl
    exact fd_eq F
  f_l_pair_text := by
    obtain ⟨fd, F⟩ := c.t.d.def_ 28 (d := d_l_pair_text) rfl
    exact fd_eq F
  f_l_split := by
    obtain ⟨fd, F⟩ := c.t.d.def_ 29 (d := d_l_split) rfl
    exact fd_eq F
  f_l_same_text := by
    obtain ⟨fd, F⟩ := c.t.d.def_ 30 (d := d_l_same_text) rfl
    exact fd_eq F
  f_l_good_word := by
    obtain ⟨fd, F⟩ := c.t.d.def_ 31 (d := d_l_good_word) rfl
    exact fd_eq F
  f_l_thrifty_word := by
    obtain ⟨fd, F⟩ := c.t.d.def_ 32 (d := d_l_thrifty_word) rfl
    exact fd_eq F
  f_l_filled := by
    obtain ⟨fd, F⟩ := c.t.d.def_ 33 (d := d_l_filled) rfl
    exact fd_eq F
  f_l_ringing_word := by
    obtain ⟨fd, F⟩ := c.t.d.def_ 34 (d := d_l_ringing_word) rfl
    exact fd_eq F
  f_l_full_word := by
    obtain ⟨fd, F⟩ := c.t.d.def_ 35 (d := d_l_full_word) rfl
    exact fd_eq F
  f_l_starving_word := by
    obtain ⟨fd, F⟩ := c.t.d.def_ 36 (d := d_l_starving_word) rfl
    exact fd_eq F
  f_l_free_word := by
    obtain ⟨fd, F⟩ := c.t.d.def_ 37 (d := d_l_free_word) rfl
    exact fd_eq F
  f_l_word_of := by
    obtain ⟨fd, F⟩ := c.t.d.def_ 38 (d := d_l_word_of) rfl
    exact fd_eq F
  f_l_two_words := by
    obtain ⟨fd, F⟩ := c.t.d.def_ 39 (d := d_l_two_words) rfl
    exact fd_eq F
  f_l_bad_word := by
    obtain ⟨fd, F⟩ := c.t.d.def_ 40 (d := d_l_bad_word) rfl
    exact fd_eq F
  f_l_mark_at := by
    obtain ⟨fd, F⟩ := c.t.d.def_ 41 (d := d_l_mark_at) rfl
    exact fd_eq F
  f_l_first_marks := by
    obtain ⟨fd, F⟩ := c.t.d.def_ 42 (d := d_l_first_marks) rfl
    exact fd_eq F
  f_l_parting := by
    obtain ⟨fd, F⟩ := c.t.d.def_ 43 (d := d_l_parting) rfl
    exact fd_eq F
  f_l_is_number := by
    obtain ⟨fd, F⟩ := c.t.d.def_ 44 (d := d_l_is_number) rfl
    exact fd_eq F
  f_l_equal := by
    obtain ⟨fd, F⟩ := c.t.d.def_ 45 (d := d_l_equal) rfl
    exact fd_eq F
  f_l_told := by
    obtain ⟨fd, F⟩ := c.t.d.def_ 46 (d := d_l_told) rfl
    exact fd_eq F
  f_l_refused := by
    obtain ⟨fd, F⟩ := c.t.d.def_ 47 (d := d_l_refused) rfl
    exact fd_eq F
  f_l_late_pair := by
    obtain ⟨fd, F⟩ := c.t.d.def_ 48 (d := d_l_late_pair) rfl
    exact fd_eq F
  f_l_pair_holds := by
    obtain ⟨fd, F⟩ := c.t.d.def_ 49 (d := d_l_pair_holds) rfl
    exact fd_eq F
  f_law := by
    obtain ⟨fd, F⟩ := c.t.d.def_ 50 (d := d_law) rfl
    exact fd_eq F
  z_ValueError := He.free_ok X G (c.t.d.fact 0 (f := .free "ValueError") rfl)
  z_all := He.free_ok X G (c.t.d.fact 1 (f := .free "all") rfl)
  z_bool := He.free_ok X G (c.t.d.fact 2 (f := .free "bool") rfl)
  z_int := He.free_ok X G (c.t.d.fact 3 (f := .free "int") rfl)
  z_isinstance := He.free_ok X G (c.t.d.fact 4 (f := .free "isinstance") rfl)
  z_len := He.free_ok X G (c.t.d.fact 5 (f := .free "len") rfl)
  z_list := He.free_ok X G (c.t.d.fact 6 (f := .free "list") rfl)
  z_range := He.free_ok X G (c.t.d.fact 7 (f := .free "range") rfl)
  z_str := He.free_ok X G (c.t.d.fact 8 (f := .free "str") rfl)
  z_tuple := He.free_ok X G (c.t.d.fact 9 (f := .free "tuple") rfl)
  g_p_fresh := He.glo_ok X G (c.t.d.fact 10 (f := .glo "fresh") rfl)
  g_p_check_number := He.glo_ok X G (c.t.d.fact 11 (f := .glo "check_number") rfl)
  g_p_made_of := He.glo_ok X G (c.t.d.fact 12 (f := .glo "made_of") rfl)
  g_p_are_parts := He.glo_ok X G (c.t.d.fact 13 (f := .glo "are_parts") rfl)
  g_p_text_parts := He.glo_ok X G (c.t.d.fact 14 (f := .glo "text_parts") rfl)
  g_p_joined_text := He.glo_ok X G (c.t.d.fact 15 (f := .glo "joined_text") rfl)
  g_p_shortest_root := He.glo_ok X G (c.t.d.fact 16 (f := .glo "shortest_root") rfl)
  g_p_plain_parts := He.glo_ok X G (c.t.d.fact 17 (f := .glo "plain_parts") rfl)
  g_p_plain_text := He.glo_ok X G (c.t.d.fact 18 (f := .glo "plain_text") rfl)
  g_p_read_word := He.glo_ok X G (c.t.d.fact 19 (f := .glo "read_word") rfl)
  g_p_plain := He.glo_ok X G (c.t.d.fact 20 (f := .glo "plain") rfl)
  g_p_same_word := He.glo_ok X G (c.t.d.fact 21 (f := .glo "same_word") rfl)
  g_p_letter := He.glo_ok X G (c.t.d.fact 22 (f := .glo "letter") rfl)
  g_p_first_letters := He.glo_ok X G (c.t.d.fact 23 (f := .glo "first_letters") rfl)
  g_p_rest := He.glo_ok X G (c.t.d.fact 24 (f := .glo "rest") rfl)
  g_p_first_unlike := He.glo_ok X G (c.t.d.fact 25 (f := .glo "first_unlike") rfl)
  g_p_mirror := He.glo_ok X G (c.t.d.fact 26 (f := .glo "mirror") rfl)
  g_l_store := He.glo_ok X G (c.t.d.fact 27 (f := .glo "_law_store") rfl)
  g_l_take := He.glo_ok X G (c.t.d.fact 28 (f := .glo "_law_take") rfl)
  g_l_within := He.glo_ok X G (c.t.d.fact 29 (f := .glo "_law_within") rfl)
  g_l_edge := He.glo_ok X G (c.t.d.fact 30 (f := .glo "_law_edge") rfl)
  g_l_pick := He.glo_ok X G (c.t.d.fact 31 (f := .glo "_law_pick") rfl)
  g_l_huge := He.glo_ok X G (c.t.d.fact 32 (f := .glo "_law_huge") rfl)
  g_l_prefix_size := He.glo_ok X G (c.t.d.fact 33 (f := .glo "_law_prefix_size") rfl)
  g_l_letter_text := He.glo_ok X G (c.t.d.fact 34 (f := .glo "_law_letter_text") rfl)
  g_l_turn_pair := He.glo_ok X G (c.t.d.fact 35 (f := .glo "_law_turn_pair") rfl)
  g_l_good_pair := He.glo_ok X G (c.t.d.fact 36 (f := .glo "_law_good_pair") rfl)
  g_l_pair_text := He.glo_ok X G (c.t.d.fact 37 (f := .glo "_law_pair_text") rfl)
  g_l_split := He.glo_ok X G (c.t.d.fact 38 (f := .glo "_law_split") rfl)
  g_l_same_text := He.glo_ok X G (c.t.d.fact 39 (f := .glo "_law_same_text") rfl)
  g_l_good_word := He.glo_ok X G (c.t.d.fact 40 (f := .glo "_law_good_word") rfl)
  g_l_thrifty_word := He.glo_ok X G (c.t.d.fact 41 (f := .glo "_law_thrifty_word") rfl)
  g_l_filled := He.glo_ok X G (c.t.d.fact 42 (f := .glo "_law_filled") rfl)
  g_l_ringing_word := He.glo_ok X G (c.t.d.fact 43 (f := .glo "_law_ringing_word") rfl)
  g_l_full_word := He.glo_ok X G (c.t.d.fact 44 (f := .glo "_law_full_word") rfl)
  g_l_starving_word := He.glo_ok X G (c.t.d.fact 45 (f := .glo "_law_starving_word") rfl)
  g_l_free_word := He.glo_ok X G (c.t.d.fact 46 (f := .glo "_law_free_word") rfl)
  g_l_word_of := He.glo_ok X G (c.t.d.fact 47 (f := .glo "_law_word_of") rfl)
  g_l_two_words := He.glo_ok X G (c.t.d.fact 48 (f := .glo "_law_two_words") rfl)
  g_l_bad_word := He.glo_ok X G (c.t.d.fact 49 (f := .glo "_law_bad_word") rfl)
  g_l_mark_at := He.glo_ok X G (c.t.d.fact 50 (f := .glo "_law_mark_at") rfl)
  g_l_first_marks := He.glo_ok X G (c.t.d.fact 51 (f := .glo "_law_first_marks") rfl)
  g_l_parting := He.glo_ok X G (c.t.d.fact 52 (f := .glo "_law_parting") rfl)
  g_l_is_number := He.glo_ok X G (c.t.d.fact 53 (f := .glo "_law_is_number") rfl)
  g_l_equal := He.glo_ok X G (c.t.d.fact 54 (f := .glo "_law_equal") rfl)
  g_l_told := He.glo_ok X G (c.t.d.fact 55 (f := .glo "_law_told") rfl)
  g_l_refused := He.glo_ok X G (c.t.d.fact 56 (f := .glo "_law_refused") rfl)
  g_l_late_pair := He.glo_ok X G (c.t.d.fact 57 (f := .glo "_law_late_pair") rfl)
  g_l_pair_holds := He.glo_ok X G (c.t.d.fact 58 (f := .glo "_law_pair_holds") rfl)
  g_law := He.glo_ok X G (c.t.d.fact 59 (f := .glo "law") rfl)
  g_LeadsError := He.glo_ok X G (c.t.d.fact 60 (f := .glo "LeadsError") rfl)
  g_NumberError := He.glo_ok X G (c.t.d.fact 61 (f := .glo "NumberError") rfl)
  g_OptionError := He.glo_ok X G (c.t.d.fact 62 (f := .glo "OptionError") rfl)
  g_PlaceError := He.glo_ok X G (c.t.d.fact 63 (f := .glo "PlaceError") rfl)
  g_BookError := He.glo_ok X G (c.t.d.fact 64 (f := .glo "BookError") rfl)
  g_HasHome := He.glo_ok X G (c.t.d.fact 65 (f := .glo "HasHome") rfl)
  g_NoHome := He.glo_ok X G (c.t.d.fact 66 (f := .glo "NoHome") rfl)
  g_NotFull := He.glo_ok X G (c.t.d.fact 67 (f := .glo "NotFull") rfl)
  g_NotGood := He.glo_ok X G (c.t.d.fact 68 (f := .glo "NotGood") rfl)
  g_CountError := He.glo_ok X G (c.t.d.fact 69 (f := .glo "CountError") rfl)
  g_NotASink := He.glo_ok X G (c.t.d.fact 70 (f := .glo "NotASink") rfl)
  g_NotFree := He.glo_ok X G (c.t.d.fact 71 (f := .glo "NotFree") rfl)
  g_RowError := He.glo_ok X G (c.t.d.fact 72 (f := .glo "RowError") rfl)
  g_PostError := He.glo_ok X G (c.t.d.fact 73 (f := .glo "PostError") rfl)
  g_RingStands := He.glo_ok X G (c.t.d.fact 74 (f := .glo "RingStands") rfl)
  g_TooMany := He.glo_ok X G (c.t.d.fact 75 (f := .glo "TooMany") rfl)
  g_TooLong := He.glo_ok X G (c.t.d.fact 76 (f := .glo "TooLong") rfl)
  g_LineError := He.glo_ok X G (c.t.d.fact 77 (f := .glo "LineError") rfl)
  g_WebError := He.glo_ok X G (c.t.d.fact 78 (f := .glo "WebError") rfl)
  g_ArrowsError := He.glo_ok X G (c.t.d.fact 79 (f := .glo "ArrowsError") rfl)
  g_WordError := He.glo_ok X G (c.t.d.fact 80 (f := .glo "WordError") rfl)
  g_MachineError := He.glo_ok X G (c.t.d.fact 81 (f := .glo "MachineError") rfl)
  g_ChangeError := He.glo_ok X G (c.t.d.fact 82 (f := .glo "ChangeError") rfl)
  g_PaperError := He.glo_ok X G (c.t.d.fact 83 (f := .glo "PaperError") rfl)
  k_MOST_DEEP := int_tok (He.int_ok X G (c.t.d.fact 84 (f := .int "MOST_DEEP" 8) rfl))
  k_LETTERS := str_tok (He.str_ok X G (c.t.d.fact 85 (f := .str "LETTERS" "BIO") rfl)) (by decide +kernel)
  k_LONGEST_PREFIX := int_tok (He.int_ok X G (c.t.d.fact 86 (f := .int "LONGEST_PREFIX" 12) rfl))
  k_LONGEST_CYCLE := int_tok (He.int_ok X G (c.t.d.fact 87 (f := .int "LONGEST_CYCLE" 4) rfl))
  k_MOST_LETTERS := int_tok (He.int_ok X G (c.t.d.fact 88 (f := .int "MOST_LETTERS" 400) rfl))
  k_COMPARED := int_tok (He.int_ok X G (c.t.d.fact 89 (f := .int "COMPARED" 24) rfl))
  g_MIRRORED := He.glo_ok X G (c.t.d.fact 90 (f := .glo "MIRRORED") rfl)
  e_WordError := He.exc_ok (c.t.d.fact 91 (f := .exc "WordError") rfl)
  d_MIRRORED := tabD_of c.t 0 [([66], S [66]), ([73], S [79]), ([79], S [73])] rfl (by decide +kernel) (tabB_ok (allB_at c.more 0 (b := bf_0) rfl))
  o_NumberError := oexC_ok (allB_at c.more 1 (b := bf_1) rfl)
  i_NumberError := of_decide_eq_true (allB_at c.more 2 (b := bf_2) rfl)
  y_NumberError := of_decide_eq_true (allB_at c.more 3 (b := bf_3) rfl)
  n_NumberError_at_number := of_decide_eq_true (allB_at c.more 4 (b := bf_4) rfl)
  x_NumberError := xfB_ok (allB_at c.more 5 (b := bf_5) rfl)
  D_NumberError := excD_ok (allB_at c.more 6 (b := bf_6) rfl)
  q_NumberError := fun _ hc => kitsB_ok (allB_at c.more 7 (b := bf_7) rfl) hc
  v_NumberError := of_decide_eq_true (allB_at c.more 8 (b := bf_8) rfl)
  l_NumberError := of_decide_eq_true (allB_at c.more 9 (b := bf_9) rfl)
  D_WordError := excD_ok (allB_at c.more 10 (b := bf_10) rfl)
  q_WordError := fun _ hc => kitsB_ok (allB_at c.more 11 (b := bf_11) rfl) hc
  v_WordError := of_decide_eq_true (allB_at c.more 12 (b := bf_12) rfl)
  l_WordError := of_decide_eq_true (allB_at c.more 13 (b := bf_13) rfl)
}
end W
local macro_rules | `(tactic| walk_at "sq") => `(tactic| first | assumption | exact G.sq_of (by assumption) | exact G.st_of (by assumption))
local macro_rules | `(tactic| walk_at "g") => `(tactic| (repeat (refine G.Go.go ?_)))
local macro_rules | `(tactic| walk_at "k") => `(tactic| (try dsimp only [G.cx_K]))
local macro_rules | `(tactic| walk_at "d") => `(tactic| (dsimp only))
local macro_rules | `(tactic| walk_at "s") => `(tactic| (repeat (first
  | refine G.Go.go ?_
  | refine G.go_ixl (by walk_at "sq") rfl ?_
  | refine G.go_ixt (by walk_at "sq") rfl ?_
  | refine G.go_mod (by omega) ?_
  | refine G.go_set (by assumption) rfl ?_
  | refine G.go_lenl (by walk_at "sq") ?_
  | refine G.go_lent (by walk_at "sq") ?_
  | refine G.go_lens (by first | assumption | omega | simp) ?_)))

local macro_rules | `(tactic| walk_at "m") => `(tactic| (repeat (refine M.gm ?_)); (try dsimp only [List.nil_append]))
local macro_rules | `(tactic| walk_at "mm") => `(tactic| (repeat (first
  | refine M.gm ?_
  | (with_reducible refine And.intro ?_ ?_; focus (first | decide | assumption | omega | (refine M.smr ?_; omega) | (refine And.intro (M.smr ?_) (M.smr ?_) <;> omega) | (simp; done) | (simp; omega))))); (try dsimp only [List.nil_append]))
namespace W
open PySem PySem.Spec PyProof.Rows L2 TL G M
abbrev l_take_M : List D → M D := takeM
def l_pick_B : MS := (sRet (eOp dIx (eVar 1) (eCall 2 l_take_M (aCons (eVar 0) (aCons (eFn dLen (aCons (eVar 1) aNil)) aNil)))))
def l_pick_M : List D → M D := mFnN 0 l_pick_B
instance : MonoS l_pick_B := by unfold l_pick_B; infer_instance
instance : MonoF l_pick_M := by unfold l_pick_M; infer_instance
def l_bad_word_B : MS := (sSeq (sSet 1 (eFn dLst (aCons (eC .non) (aCons (eC (.bl true)) (aCons (eC (.int 0)) (aCons (eFn dLst (aCons (eC (.str [40, 66, 41])) aNil)) (aCons (eFn dTup (aCons (eC (.str [66])) (aCons (eC (.str [73])) aNil))) (aCons (eC (.str [])) (aCons (eC (.str [40, 41])) (aCons (eC (.str [66])) (aCons (eC (.str [40, 66])) (aCons (eC (.str [66, 41])) (aCons (eC (.str [40, 66, 66, 66, 66, 66, 41])) (aCons (eC (.str [66, 66, 66, 66, 66, 66, 66, 66, 66, 66, 66, 66, 66, 40, 66, 41])) (aCons (eC (.str [40, 98, 41])) (aCons (eC (.str [40, 66, 41, 32])) aNil))))))))))))))))
  (sSeq (sSet 1 (eOp dAdd (eVar 1) (eFn dLst (aCons (eC (.str [32, 40, 66, 41])) (aCons (eC (.str [40, 66, 41, 66])) (aCons (eC (.str [40, 40, 66, 41, 41])) (aCons (eC (.str [66, 40, 41])) (aCons (eC (.str [40, 66, 41, 40, 66, 41])) (aCons (eC (.str [66, 88, 40, 66, 41])) (aCons (eC (.str [66, 32, 40, 66, 41])) (aCons (eC (.str [40, 66, 66, 44, 66, 41])) (aCons (eC (.str [41, 66, 40])) (aCons (eC (.str [40, 84, 41])) aNil)))))))))))))
  (sRet (eFn dLst (aCons (eCall 2 l_pick_M (aCons (eVar 0) (aCons (eVar 1) aNil))) aNil)))))
def l_bad_word_M : List D → M D := mFnN 1 l_bad_word_B
instance : MonoS l_bad_word_B := by unfold l_bad_word_B; infer_instance
instance : MonoF l_bad_word_M := by unfold l_bad_word_M; infer_instance
def l_is_number_B : MS := (sRet (eAnd (eFn dIsi (aCons (eVar 0) (aCons (eC (.ty "int")) aNil))) (eNot (eFn dIsi (aCons (eVar 0) (aCons (eC (.ty "bool")) aNil))))))
def l_is_number_M : List D → M D := mFnN 0 l_is_number_B
instance : MonoS l_is_number_B := by unfold l_is_number_B; infer_instance
instance : MonoF l_is_number_M := by unfold l_is_number_M; infer_instance
def l_equal_M : Nat → List D → M D
  | 0 => fun _ => stuck
  | n + 1 => mFnN 1 ((sSeq (sIf (cTest (eOp dIs (eVar 1) (eC .non))) (sRet (eOp dIs (eVar 0) (eC .non))) sNext)
  (sSeq (sIf (cTest (eOp dIs (eVar 1) (eC (.bl true)))) (sRet (eOp dIs (eVar 0) (eC (.bl true)))) sNext)
  (sSeq (sIf (cTest (eOp dIs (eVar 1) (eC (.bl false)))) (sRet (eOp dIs (eVar 0) (eC (.bl false)))) sNext)
  (sSeq (sIf (cTest (eFn dIsi (aCons (eVar 1) (aCons (eC (.ty "str")) aNil)))) (sRet (eAnd (eFn dIsi (aCons (eVar 0) (aCons (eC (.ty "str")) aNil))) (eOp dEq (eVar 0) (eVar 1)))) sNext)
  (sSeq (sIf (cTest (eFn dIsi (aCons (eVar 1) (aCons (eC (.ty "int")) aNil)))) (sRet (eAnd (eCall 1 l_is_number_M (aCons (eVar 0) aNil)) (eOp dEq (eVar 0) (eVar 1)))) sNext)
  (sSeq (sIf (cAnd (cTest (eFn dIsi (aCons (eVar 1) (aCons (eC (.ty "list")) aNil)))) (cNot (cTest (eFn dIsi (aCons (eVar 0) (aCons (eC (.ty "list")) aNil)))))) (sRet (eC (.bl false))) sNext)
  (sSeq (sIf (cAnd (cTest (eFn dIsi (aCons (eVar 1) (aCons (eC (.ty "tuple")) aNil)))) (cNot (cTest (eFn dIsi (aCons (eVar 0) (aCons (eC (.ty "tuple")) aNil)))))) (sRet (eC (.bl false))) sNext)
  (sSeq (sIf (cTest (eOp dNe (eFn dLen (aCons (eVar 0) aNil)) (eFn dLen (aCons (eVar 1) aNil)))) (sRet (eC (.bl false))) sNext)
  (sSeq (sFor (iFn dRng1 (aCons (eFn dLen (aCons (eVar 1) aNil)) aNil)) (tgName 2) (sIf (cNot (cTest (eCall 2 (l_equal_M n) (aCons (eOp dIx (eVar 0) (eVar 2)) (aCons (eOp dIx (eVar 1) (eVar 2)) aNil))))) (sRet (eC (.bl false))) sNext))
  (sRet (eC (.bl true)))))))))))))
instance l_equal_mono : ∀ n, MonoF (l_equal_M n)
  | 0 => ⟨fun _ _ _ _ _ _ _ m => m⟩
  | n + 1 => by
    have := l_equal_mono n
    unfold l_equal_M
    infer_instance
def l_within_B : MS := (sRet (eOp dAdd (eVar 1) (eCall 2 l_take_M (aCons (eVar 0) (aCons (eOp dAdd (eOp dSub (eVar 2) (eVar 1)) (eC (.int 1))) aNil)))))
def l_within_M : List D → M D := mFnN 0 l_within_B
instance : MonoS l_within_B := by unfold l_within_B; infer_instance
instance : MonoF l_within_M := by unfold l_within_M; infer_instance
def l_edge_B : MS := (sSeq (sSet 3 (eCall 2 l_take_M (aCons (eVar 0) (aCons (eC (.int 6)) aNil))))
  (sSeq (sIf (cOr (cTest (eOp dEq (eVar 3) (eC (.int 0)))) (cTest (eOp dLe (eVar 2) (eVar 1)))) (sRet (eVar 1)) sNext)
  (sSeq (sIf (cTest (eOp dEq (eVar 3) (eC (.int 1)))) (sRet (eVar 2)) sNext)
  (sRet (eCall 3 l_within_M (aCons (eVar 0) (aCons (eVar 1) (aCons (eVar 2) aNil))))))))
def l_edge_M : List D → M D := mFnN 1 l_edge_B
instance : MonoS l_edge_B := by unfold l_edge_B; infer_instance
instance : MonoF l_edge_M := by unfold l_edge_M; infer_instance
def l_mark_at_B : MS := (sSeq (sIf (cTest (eOp dLt (eVar 1) (eFn dLen (aCons (eOp dIx (eVar 0) (eC (.int 0))) aNil)))) (sRet (eOp dIx (eOp dIx (eVar 0) (eC (.int 0))) (eVar 1))) sNext)
  (sRet (eOp dIx (eOp dIx (eVar 0) (eC (.int 1))) (eOp dMod (eFn dInt (aCons (eOp dSub (eVar 1) (eFn dLen (aCons (eOp dIx (eVar 0) (eC (.int 0))) aNil))) aNil)) (eFn dLen (aCons (eOp dIx (eVar 0) (eC (.int 1))) aNil))))))
def l_mark_at_M : List D → M D := mFnN 0 l_mark_at_B
instance : MonoS l_mark_at_B := by unfold l_mark_at_B; infer_instance
instance : MonoF l_mark_at_M := by unfold l_mark_at_M; infer_instance
def l_split_B : MS := (sSeq (sSet 1 (eMt isStrD dIdxS (eVar 0) (aCons (eC (.str [40])) aNil)))
  (sRet (eFn dLst (aCons (eSl dSl (eVar 0) pNo (pEx (eVar 1))) (aCons (eSl dSl (eVar 0) (pEx (eOp dAdd (eVar 1) (eC (.int 1)))) (pEx (eOp dSub (eFn dLen (aCons (eVar 0) aNil)) (eC (.int 1))))) aNil)))))
def l_split_M : List D → M D := mFnN 1 l_split_B
instance : MonoS l_split_B := by unfold l_split_B; infer_instance
instance : MonoF l_split_M := by unfold l_split_M; infer_instance
def l_first_marks_B : MS := (sSeq (sSet 2 (eCall 1 l_split_M (aCons (eVar 0) aNil)))
  (sRet (eMt isStrD dJoin (eC (.str [])) (aCons (eLc [3] (iFn dRng1 (aCons (eVar 1) aNil)) (tgName 3) cYes (eCall 2 l_mark_at_M (aCons (eVar 2) (aCons (eVar 3) aNil)))) aNil))))
def l_first_marks_M : List D → M D := mFnN 2 l_first_marks_B
instance : MonoS l_first_marks_B := by unfold l_first_marks_B; infer_instance
instance : MonoF l_first_marks_M := by unfold l_first_marks_M; infer_instance
def l_letter_text_B : MS := (sRet (eMt isStrD dJoin (eC (.str [])) (aCons (eLc [3] (iFn dRng1 (aCons (eVar 2) aNil)) (tgName 3) cYes (eCall 2 l_pick_M (aCons (eVar 0) (aCons (eVar 1) aNil)))) aNil)))
def l_letter_text_M : List D → M D := mFnN 1 l_letter_text_B
instance : MonoS l_letter_text_B := by unfold l_letter_text_B; infer_instance
instance : MonoF l_letter_text_M := by unfold l_letter_text_M; infer_instance
def l_prefix_size_B : MS := (sSeq (sSet 1 (eCall 2 l_take_M (aCons (eVar 0) (aCons (eC (.int 3)) aNil))))
  (sSeq (sIf (cTest (eOp dEq (eVar 1) (eC (.int 0)))) (sRet (eC (.int 0))) sNext)
  (sSeq (sIf (cTest (eOp dEq (eVar 1) (eC (.int 1)))) (sRet (eCall 2 l_take_M (aCons (eVar 0) (aCons (eC (.int 5)) aNil)))) sNext)
  (sRet (eCall 3 l_edge_M (aCons (eVar 0) (aCons (eC (.int 0)) (aCons (eC (.int 12)) aNil))))))))
def l_prefix_size_M : List D → M D := mFnN 1 l_prefix_size_B
instance : MonoS l_prefix_size_B := by unfold l_prefix_size_B; infer_instance
instance : MonoF l_prefix_size_M := by unfold l_prefix_size_M; infer_instance
def l_free_word_B : MS := (sSeq (sSet 1 (eCall 3 l_letter_text_M (aCons (eVar 0) (aCons (eC (.str [66, 73, 79])) (aCons (eCall 1 l_prefix_size_M (aCons (eVar 0) aNil)) aNil)))))
  (sRet (eOp dAdd (eOp dAdd (eOp dAdd (eVar 1) (eC (.str [40]))) (eCall 3 l_letter_text_M (aCons (eVar 0) (aCons (eC (.str [66, 73, 79])) (aCons (eCall 3 l_within_M (aCons (eVar 0) (aCons (eC (.int 1)) (aCons (eC (.int 4)) aNil)))) aNil))))) (eC (.str [41])))))
def l_free_word_M : List D → M D := mFnN 1 l_free_word_B
instance : MonoS l_free_word_B := by unfold l_free_word_B; infer_instance
instance : MonoF l_free_word_M := by unfold l_free_word_M; infer_instance
def l_filled_B : MS := (sSeq (sSet 1 (eOr (eOp (dInB false) (eC (.str [73])) (eVar 0)) (eOp (dInB false) (eC (.str [66])) (eVar 0))))
  (sSeq (sSet 2 (eOr (eOp (dInB false) (eC (.str [79])) (eVar 0)) (eOp (dInB false) (eC (.str [66])) (eVar 0))))
  (sSeq (sIf (cAnd (cTest (eVar 1)) (cTest (eVar 2))) (sRet (eVar 0)) sNext)
  (sRet (eOp dAdd (eC (.str [66])) (eSl dSl (eVar 0) (pEx (eC (.int 1))) pNo))))))
def l_filled_M : List D → M D := mFnN 2 l_filled_B
instance : MonoS l_filled_B := by unfold l_filled_B; infer_instance
instance : MonoF l_filled_M := by unfold l_filled_M; infer_instance
def l_good_pair_B : MS := (sSeq (sIf (cTest (eOp dEq (eOp dMod (eFn dInt (aCons (eMt isStrD dCntS (eVar 1) (aCons (eC (.str [84])) aNil)) aNil)) (eC (.int 2))) (eC (.int 1)))) (sSet 1 (eOp dAdd (eVar 1) (eVar 1))) sNext)
  (sSeq (sSet 2 (eC (.str [])))
  (sSeq (sSet 3 (eC (.bl true)))
  (sSeq (sFor (iItems (eOp dAdd (eVar 0) (eVar 1))) (tgName 4) (sIf (cTest (eOp dEq (eVar 4) (eC (.str [66])))) (sSet 2 (eOp dAdd (eVar 2) (eC (.str [66])))) (sIf (cTest (eVar 3)) (sSeq (sSet 2 (eOp dAdd (eVar 2) (eC (.str [73]))))
  (sSet 3 (eC (.bl false)))) (sSeq (sSet 2 (eOp dAdd (eVar 2) (eC (.str [79]))))
  (sSet 3 (eC (.bl true)))))))
  (sRet (eFn dLst (aCons (eSl dSl (eVar 2) pNo (pEx (eFn dLen (aCons (eVar 0) aNil)))) (aCons (eSl dSl (eVar 2) (pEx (eFn dLen (aCons (eVar 0) aNil))) pNo) aNil))))))))
def l_good_pair_M : List D → M D := mFnN 3 l_good_pair_B
instance : MonoS l_good_pair_B := by unfold l_good_pair_B; infer_instance
instance : MonoF l_good_pair_M := by unfold l_good_pair_M; infer_instance
def l_pair_text_B : MS := (sRet (eOp dAdd (eOp dAdd (eOp dAdd (eOp dIx (eVar 0) (eC (.int 0))) (eC (.str [40]))) (eOp dIx (eVar 0) (eC (.int 1)))) (eC (.str [41]))))
def l_pair_text_M : List D → M D := mFnN 0 l_pair_text_B
instance : MonoS l_pair_text_B := by unfold l_pair_text_B; infer_instance
instance : MonoF l_pair_text_M := by unfold l_pair_text_M; infer_instance
def l_turn_pair_B : MS := (sSeq (sSet 2 (eCall 3 l_letter_text_M (aCons (eVar 0) (aCons (eC (.str [66, 84])) (aCons (eCall 1 l_prefix_size_M (aCons (eVar 0) aNil)) aNil)))))
  (sSeq (sSet 3 (eCall 3 l_letter_text_M (aCons (eVar 0) (aCons (eC (.str [66, 84])) (aCons (eCall 3 l_within_M (aCons (eVar 0) (aCons (eC (.int 1)) (aCons (eC (.int 4)) aNil)))) aNil)))))
  (sSeq (sIf (cAnd (cTest (eVar 1)) (cTest (eOp dEq (eOp dMod (eFn dInt (aCons (eMt isStrD dCntS (eVar 3) (aCons (eC (.str [84])) aNil)) aNil)) (eC (.int 2))) (eC (.int 1))))) (sIf (cTest (eOp dEq (eOp dIx (eVar 3) (eC (.int 0))) (eC (.str [84])))) (sSet 3 (eOp dAdd (eC (.str [66])) (eSl dSl (eVar 3) (pEx (eC (.int 1))) pNo))) (sSet 3 (eOp dAdd (eC (.str [84])) (eSl dSl (eVar 3) (pEx (eC (.int 1))) pNo)))) sNext)
  (sRet (eFn dLst (aCons (eVar 2) (aCons (eVar 3) aNil)))))))
def l_turn_pair_M : List D → M D := mFnN 2 l_turn_pair_B
instance : MonoS l_turn_pair_B := by unfold l_turn_pair_B; infer_instance
instance : MonoF l_turn_pair_M := by unfold l_turn_pair_M; infer_instance
def l_good_word_B : MS := (sSeq (sSet 1 (eCall 2 l_turn_pair_M (aCons (eVar 0) (aCons (eC (.bl true)) aNil))))
  (sRet (eCall 1 l_pair_text_M (aCons (eCall 2 l_good_pair_M (aCons (eOp dIx (eVar 1) (eC (.int 0))) (aCons (eOp dIx (eVar 1) (eC (.int 1))) aNil))) aNil))))
def l_good_word_M : List D → M D := mFnN 1 l_good_word_B
instance : MonoS l_good_word_B := by unfold l_good_word_B; infer_instance
instance : MonoF l_good_word_M := by unfold l_good_word_M; infer_instance
def l_ringing_word_B : MS := (sSeq (sSet 1 (eCall 1 l_split_M (aCons (eCall 1 l_good_word_M (aCons (eVar 0) aNil)) aNil)))
  (sSeq (sSet 2 (eOp dAdd (eOp dIx (eVar 1) (eC (.int 0))) (eOp dMul (eOp dIx (eVar 1) (eC (.int 1))) (eC (.int 12)))))
  (sSeq (sSet 3 (eCall 1 l_filled_M (aCons (eCall 3 l_letter_text_M (aCons (eVar 0) (aCons (eC (.str [66, 73, 79])) (aCons (eCall 3 l_within_M (aCons (eVar 0) (aCons (eC (.int 1)) (aCons (eC (.int 4)) aNil)))) aNil)))) aNil)))
  (sSeq (sIf (cTest (eOp dEq (eCall 2 l_take_M (aCons (eVar 0) (aCons (eC (.int 3)) aNil))) (eC (.int 0)))) (sSeq (sIf (cTest (eOp dEq (eMt isStrD dCntS (eVar 3) (aCons (eC (.str [73])) aNil)) (eMt isStrD dCntS (eVar 3) (aCons (eC (.str [79])) aNil)))) (sSet 3 (eCall 2 l_pick_M (aCons (eVar 0) (aCons (eFn dLst (aCons (eC (.str [79, 66])) (aCons (eC (.str [73, 66])) (aCons (eC (.str [66, 79])) (aCons (eC (.str [66, 73])) (aCons (eC (.str [66, 66, 79])) (aCons (eC (.str [73, 73, 79])) (aCons (eC (.str [79, 73, 79])) (aCons (eC (.str [66, 66, 66, 73])) (aCons (eC (.str [79, 66, 73, 79])) (aCons (eC (.str [66, 73, 79, 73])) aNil))))))))))) aNil)))) sNext)
  (sRet (eOp dAdd (eOp dAdd (eOp dAdd (eSl dSl (eVar 2) pNo (pEx (eCall 1 l_prefix_size_M (aCons (eVar 0) aNil)))) (eC (.str [40]))) (eVar 3)) (eC (.str [41]))))) sNext)
  (sSeq (sSet 4 (eSl dSl (eVar 2) pNo (pEx (eCall 3 l_edge_M (aCons (eVar 0) (aCons (eC (.int 0)) (aCons (eC (.int 11)) aNil)))))))
  (sSeq (sIf (cTest (eOp dEq (eMt isStrD dCntS (eVar 4) (aCons (eC (.str [73])) aNil)) (eMt isStrD dCntS (eVar 4) (aCons (eC (.str [79])) aNil)))) (sSet 4 (eOp dAdd (eVar 4) (eC (.str [79])))) (sSet 4 (eOp dAdd (eVar 4) (eC (.str [73])))))
  (sSeq (sSet 4 (eOp dAdd (eVar 4) (eCall 3 l_letter_text_M (aCons (eVar 0) (aCons (eC (.str [66, 73, 79])) (aCons (eCall 2 l_take_M (aCons (eVar 0) (aCons (eOp dSub (eC (.int 13)) (eFn dLen (aCons (eVar 4) aNil))) aNil))) aNil))))))
  (sRet (eOp dAdd (eOp dAdd (eOp dAdd (eVar 4) (eC (.str [40]))) (eVar 3)) (eC (.str [41])))))))))))
def l_ringing_word_M : List D → M D := mFnN 4 l_ringing_word_B
instance : MonoS l_ringing_word_B := by unfold l_ringing_word_B; infer_instance
instance : MonoF l_ringing_word_M := by unfold l_ringing_word_M; infer_instance
def l_full_word_B : MS := (sSeq (sSet 1 (eCall 2 l_take_M (aCons (eVar 0) (aCons (eC (.int 3)) aNil))))
  (sSeq (sIf (cTest (eOp dEq (eVar 1) (eC (.int 0)))) (sRet (eCall 1 l_good_word_M (aCons (eVar 0) aNil))) sNext)
  (sSeq (sIf (cTest (eOp dEq (eVar 1) (eC (.int 1)))) (sRet (eCall 1 l_ringing_word_M (aCons (eVar 0) aNil))) sNext)
  (sSeq (sSet 2 (eCall 3 l_letter_text_M (aCons (eVar 0) (aCons (eC (.str [66, 73, 79])) (aCons (eCall 1 l_prefix_size_M (aCons (eVar 0) aNil)) aNil)))))
  (sRet (eOp dAdd (eOp dAdd (eOp dAdd (eVar 2) (eC (.str [40]))) (eCall 1 l_filled_M (aCons (eCall 3 l_letter_text_M (aCons (eVar 0) (aCons (eC (.str [66, 73, 79])) (aCons (eCall 3 l_within_M (aCons (eVar 0) (aCons (eC (.int 1)) (aCons (eC (.int 4)) aNil)))) aNil)))) aNil))) (eC (.str [41]))))))))
def l_full_word_M : List D → M D := mFnN 2 l_full_word_B
instance : MonoS l_full_word_B := by unfold l_full_word_B; infer_instance
instance : MonoF l_full_word_M := by unfold l_full_word_M; infer_instance
def l_starving_word_B : MS := (sSeq (sSet 1 (eCall 3 l_letter_text_M (aCons (eVar 0) (aCons (eC (.str [66, 73, 79])) (aCons (eCall 1 l_prefix_size_M (aCons (eVar 0) aNil)) aNil)))))
  (sRet (eOp dAdd (eOp dAdd (eOp dAdd (eVar 1) (eC (.str [40]))) (eOp dMul (eCall 2 l_pick_M (aCons (eVar 0) (aCons (eC (.str [73, 79])) aNil))) (eCall 3 l_within_M (aCons (eVar 0) (aCons (eC (.int 1)) (aCons (eC (.int 4)) aNil)))))) (eC (.str [41])))))
def l_starving_word_M : List D → M D := mFnN 1 l_starving_word_B
instance : MonoS l_starving_word_B := by unfold l_starving_word_B; infer_instance
instance : MonoF l_starving_word_M := by unfold l_starving_word_M; infer_instance
def l_same_text_B : MS := (sSeq (sSet 2 (eCall 1 l_split_M (aCons (eVar 1) aNil)))
  (sSeq (sSet 3 (eOp dIx (eVar 2) (eC (.int 0))))
  (sSeq (sSet 4 (eOp dIx (eVar 2) (eC (.int 1))))
  (sSeq (sIf (cTest (eOp dEq (eFn dLen (aCons (eVar 4) aNil)) (eC (.int 1)))) (sSet 4 (eOp dMul (eVar 4) (eCall 3 l_within_M (aCons (eVar 0) (aCons (eC (.int 1)) (aCons (eC (.int 4)) aNil)))))) (sIf (cTest (eOp dEq (eFn dLen (aCons (eVar 4) aNil)) (eC (.int 2)))) (sSet 4 (eOp dMul (eVar 4) (eCall 3 l_within_M (aCons (eVar 0) (aCons (eC (.int 1)) (aCons (eC (.int 2)) aNil)))))) sNext))
  (sSeq (sFor (iFn dRng1 (aCons (eCall 2 l_take_M (aCons (eVar 0) (aCons (eC (.int 4)) aNil))) aNil)) (tgName 5) (sIf (cTest (eOp dLt (eFn dLen (aCons (eVar 3) aNil)) (eC (.int 12)))) (sSeq (sSet 3 (eOp dAdd (eVar 3) (eOp dIx (eVar 4) (eC (.int 0)))))
  (sSet 4 (eOp dAdd (eSl dSl (eVar 4) (pEx (eC (.int 1))) pNo) (eOp dIx (eVar 4) (eC (.int 0)))))) sNext))
  (sSeq (sFor (iFn dRng1 (aCons (eCall 2 l_take_M (aCons (eVar 0) (aCons (eC (.int 3)) aNil))) aNil)) (tgName 5) (sIf (cAnd (cTest (eOp dNe (eVar 3) (eC (.str [])))) (cTest (eOp dEq (eOp dIx (eVar 3) (eUn dNeg (eC (.int 1)))) (eOp dIx (eVar 4) (eUn dNeg (eC (.int 1))))))) (sSeq (sSet 3 (eSl dSl (eVar 3) pNo (pEx (eUn dNeg (eC (.int 1))))))
  (sSet 4 (eOp dAdd (eOp dIx (eVar 4) (eUn dNeg (eC (.int 1)))) (eSl dSl (eVar 4) pNo (pEx (eUn dNeg (eC (.int 1)))))))) sNext))
  (sRet (eCall 1 l_pair_text_M (aCons (eFn dLst (aCons (eVar 3) (aCons (eVar 4) aNil))) aNil)))))))))
def l_same_text_M : List D → M D := mFnN 4 l_same_text_B
instance : MonoS l_same_text_B := by unfold l_same_text_B; infer_instance
instance : MonoF l_same_text_M := by unfold l_same_text_M; infer_instance
def l_thrifty_word_B : MS := (sSeq (sSet 1 (eC (.str [])))
  (sSeq (sFor (iFn dRng1 (aCons (eCall 1 l_prefix_size_M (aCons (eVar 0) aNil)) aNil)) (tgName 2) (sSeq (sSet 3 (eCall 2 l_pick_M (aCons (eVar 0) (aCons (eFn dLst (aCons (eC (.str [66])) (aCons (eC (.str [73, 79])) aNil))) aNil))))
  (sIf (cTest (eOp dLe (eOp dAdd (eFn dLen (aCons (eVar 1) aNil)) (eFn dLen (aCons (eVar 3) aNil))) (eC (.int 12)))) (sSet 1 (eOp dAdd (eVar 1) (eVar 3))) sNext)))
  (sSeq (sSet 4 (eFn dLst (aCons (eC (.str [66])) (aCons (eC (.str [73, 79])) (aCons (eC (.str [66, 66])) (aCons (eC (.str [66, 73, 79])) (aCons (eC (.str [73, 79, 66])) (aCons (eC (.str [66, 66, 66])) (aCons (eC (.str [66, 66, 73, 79])) (aCons (eC (.str [66, 73, 79, 66])) (aCons (eC (.str [73, 79, 66, 66])) (aCons (eC (.str [66, 66, 66, 66])) (aCons (eC (.str [73, 79, 73, 79])) aNil)))))))))))))
  (sSeq (sSet 5 (eOp dAdd (eOp dAdd (eOp dAdd (eVar 1) (eC (.str [40]))) (eCall 2 l_pick_M (aCons (eVar 0) (aCons (eVar 4) aNil)))) (eC (.str [41]))))
  (sSeq (sIf (cTest (eOp dEq (eCall 2 l_take_M (aCons (eVar 0) (aCons (eC (.int 3)) aNil))) (eC (.int 0)))) (sRet (eCall 2 l_same_text_M (aCons (eVar 0) (aCons (eVar 5) aNil)))) sNext)
  (sRet (eVar 5)))))))
def l_thrifty_word_M : List D → M D := mFnN 5 l_thrifty_word_B
instance : MonoS l_thrifty_word_B := by unfold l_thrifty_word_B; infer_instance
instance : MonoF l_thrifty_word_M := by unfold l_thrifty_word_M; infer_instance
def l_word_of_B : MS := (sSeq (sSet 2 (eCall 2 l_take_M (aCons (eVar 0) (aCons (eC (.int 6)) aNil))))
  (sSeq (sIf (cTest (eOp dEq (eVar 1) (eC (.str [114, 105, 110, 103, 105, 110, 103])))) (sRet (eCall 1 l_ringing_word_M (aCons (eVar 0) aNil))) sNext)
  (sSeq (sIf (cTest (eOp dEq (eVar 1) (eC (.str [115, 116, 97, 114, 118, 105, 110, 103])))) (sRet (eCall 1 l_starving_word_M (aCons (eVar 0) aNil))) sNext)
  (sSeq (sIf (cOr (cTest (eOp dEq (eVar 1) (eC (.str [116, 104, 114, 105, 102, 116, 121])))) (cOr (cTest (eOp dEq (eVar 2) (eC (.int 0)))) (cAnd (cTest (eOp dEq (eVar 1) (eC (.str [97, 110, 121])))) (cTest (eOp dEq (eVar 2) (eC (.int 1))))))) (sRet (eCall 1 l_thrifty_word_M (aCons (eVar 0) aNil))) sNext)
  (sSeq (sIf (cTest (eOp dEq (eVar 2) (eC (.int 1)))) (sRet (eC (.str [40, 66, 41]))) sNext)
  (sSeq (sIf (cOr (cTest (eOp dEq (eVar 1) (eC (.str [103, 111, 111, 100])))) (cTest (eOp dLt (eVar 2) (eC (.int 4))))) (sRet (eCall 1 l_good_word_M (aCons (eVar 0) aNil))) sNext)
  (sSeq (sIf (cTest (eOp dEq (eVar 1) (eC (.str [102, 117, 108, 108])))) (sRet (eCall 1 l_full_word_M (aCons (eVar 0) aNil))) sNext)
  (sSeq (sIf (cTest (eOp dEq (eVar 2) (eC (.int 4)))) (sRet (eCall 1 l_free_word_M (aCons (eVar 0) aNil))) sNext)
  (sRet (eCall 2 l_pick_M (aCons (eVar 0) (aCons (eFn dLst (aCons (eCall 1 l_starving_word_M (aCons (eVar 0) aNil)) (aCons (eCall 1 l_ringing_word_M (aCons (eVar 0) aNil)) aNil))) aNil))))))))))))
def l_word_of_M : List D → M D := mFnN 1 l_word_of_B
instance : MonoS l_word_of_B := by unfold l_word_of_B; infer_instance
instance : MonoF l_word_of_M := by unfold l_word_of_M; infer_instance
def l_late_pair_B : MS := (sSeq (sSet 1 (eCall 2 l_word_of_M (aCons (eVar 0) (aCons (eC (.str [97, 110, 121])) aNil))))
  (sSeq (sSet 2 (eCall 3 l_edge_M (aCons (eVar 0) (aCons (eC (.int 0)) (aCons (eC (.int 12)) aNil)))))
  (sSeq (sSet 3 (eOp dIx (eCall 1 l_split_M (aCons (eVar 1) aNil)) (eC (.int 1))))
  (sSeq (sIf (cTest (eOp dEq (eCall 2 l_take_M (aCons (eVar 0) (aCons (eC (.int 2)) aNil))) (eC (.int 0)))) (sSet 3 (eCall 3 l_letter_text_M (aCons (eVar 0) (aCons (eC (.str [66, 73, 79])) (aCons (eCall 3 l_within_M (aCons (eVar 0) (aCons (eC (.int 1)) (aCons (eC (.int 4)) aNil)))) aNil))))) (sSeq (sSet 4 (eCall 2 l_take_M (aCons (eVar 0) (aCons (eFn dLen (aCons (eVar 3) aNil)) aNil))))
  (sSet 3 (eOp dAdd (eOp dAdd (eSl dSl (eVar 3) pNo (pEx (eVar 4))) (eCall 2 l_pick_M (aCons (eVar 0) (aCons (eC (.str [66, 73, 79])) aNil)))) (eSl dSl (eVar 3) (pEx (eOp dAdd (eVar 4) (eC (.int 1)))) pNo)))))
  (sRet (eFn dLst (aCons (eVar 1) (aCons (eOp dAdd (eOp dAdd (eOp dAdd (eCall 2 l_first_marks_M (aCons (eVar 1) (aCons (eVar 2) aNil))) (eC (.str [40]))) (eVar 3)) (eC (.str [41]))) aNil))))))))
def l_late_pair_M : List D → M D := mFnN 4 l_late_pair_B
instance : MonoS l_late_pair_B := by unfold l_late_pair_B; infer_instance
instance : MonoF l_late_pair_M := by unfold l_late_pair_M; infer_instance
def l_huge_B : MS := (sSeq (sSet 1 (eCall 2 l_take_M (aCons (eVar 0) (aCons (eC (.int 6)) aNil))))
  (sSeq (sIf (cTest (eOp dLt (eVar 1) (eC (.int 2)))) (sRet (eCall 2 l_take_M (aCons (eVar 0) (aCons (eC (.int 21)) aNil)))) sNext)
  (sSeq (sIf (cTest (eOp dEq (eVar 1) (eC (.int 2)))) (sRet (eCall 2 l_take_M (aCons (eVar 0) (aCons (eC (.int 1000000)) aNil)))) sNext)
  (sSeq (sIf (cTest (eOp dEq (eVar 1) (eC (.int 3)))) (sRet (eCall 2 l_pick_M (aCons (eVar 0) (aCons (eFn dLst (aCons (eC (.int 0)) (aCons (eC (.int 1)) (aCons (eC (.int 2)) (aCons (eC (.int 3)) (aCons (eC (.int 1000000000000000000)) (aCons (eC (.int 1000000000000000000000000000000000000000)) (aCons (eOp dSub (eC (.int 10000000000000000000000000000000000000000)) (eC (.int 2))) (aCons (eOp dSub (eC (.int 10000000000000000000000000000000000000000)) (eC (.int 1))) aNil))))))))) aNil)))) sNext)
  (sSeq (sSet 2 (eC (.int 5)))
  (sSeq (sIf (cTest (eOp dEq (eVar 1) (eC (.int 4)))) (sSet 2 (eCall 3 l_within_M (aCons (eVar 0) (aCons (eC (.int 1)) (aCons (eC (.int 4)) aNil))))) sNext)
  (sSeq (sSet 3 (eC (.int 0)))
  (sSeq (sFor (iFn dRng1 (aCons (eVar 2) aNil)) (tgName 4) (sSet 3 (eOp dAdd (eOp dMul (eVar 3) (eC (.int 100000000))) (eCall 2 l_take_M (aCons (eVar 0) (aCons (eC (.int 100000000)) aNil))))))
  (sRet (eVar 3))))))))))
def l_huge_M : List D → M D := mFnN 4 l_huge_B
instance : MonoS l_huge_B := by unfold l_huge_B; infer_instance
instance : MonoF l_huge_M := by unfold l_huge_M; infer_instance
def l_parting_B : MS := (sSeq (sSet 2 (eCall 1 l_split_M (aCons (eVar 0) aNil)))
  (sSeq (sSet 3 (eCall 1 l_split_M (aCons (eVar 1) aNil)))
  (sSeq (sFor (iFn dRng1 (aCons (eC (.int 60)) aNil)) (tgName 4) (sIf (cTest (eOp dNe (eCall 2 l_mark_at_M (aCons (eVar 2) (aCons (eVar 4) aNil))) (eCall 2 l_mark_at_M (aCons (eVar 3) (aCons (eVar 4) aNil))))) (sRet (eVar 4)) sNext))
  (sRet (eC .non)))))
def l_parting_M : List D → M D := mFnN 3 l_parting_B
instance : MonoS l_parting_B := by unfold l_parting_B; infer_instance
instance : MonoF l_parting_M := by unfold l_parting_M; infer_instance
def p_fresh_M : Nat → List D → M D
  | 0 => fun _ => stuck
  | n + 1 => mFnN 1 ((sSeq (sIf (cTest (eOp dEq (eVar 1) (eC (.int 0)))) (sRet (eVar 0)) sNext)
  (sSeq (sIf (cTest (eFn dIsi (aCons (eVar 0) (aCons (eC (.ty "list")) aNil)))) (sRet (eLc [2] (iItems (eVar 0)) (tgName 2) cYes (eCall 2 (p_fresh_M n) (aCons (eVar 2) (aCons (eOp dSub (eVar 1) (eC (.int 1))) aNil))))) sNext)
  (sSeq (sIf (cTest (eFn dIsi (aCons (eVar 0) (aCons (eC (.ty "tuple")) aNil)))) (sRet (eFn dTuple (aCons (eLc [2] (iItems (eVar 0)) (tgName 2) cYes (eCall 2 (p_fresh_M n) (aCons (eVar 2) (aCons (eOp dSub (eVar 1) (eC (.int 1))) aNil)))) aNil))) sNext)
  (sRet (eVar 0))))))
instance p_fresh_mono : ∀ n, MonoF (p_fresh_M n)
  | 0 => ⟨fun _ _ _ _ _ _ _ m => m⟩
  | n + 1 => by
    have := p_fresh_mono n
    unfold p_fresh_M
    infer_instance
def m_NumberError_init_M : D → M D := fun d => ((eCallD 2 (p_fresh_M 10) [.int 8] (aCons (eVar 1) aNil))) [none, some d]
instance : MonoF m_NumberError_init_M := ⟨fun d Q Q' E E' h k m => MonoE.h (e := ((eCallD 2 (p_fresh_M 10) [.int 8] (aCons (eVar 1) aNil)))) [none, some d] _ _ _ _ h k m⟩
def p_check_number_B : MS := (sSeq (sIf (cOr (cTest (eFn dIsi (aCons (eVar 0) (aCons (eC (.ty "bool")) aNil)))) (cNot (cTest (eFn dIsi (aCons (eVar 0) (aCons (eC (.ty "int")) aNil)))))) (sRaise1 "NumberError" "at_number" m_NumberError_init_M (aCons (eVar 0) aNil)) sNext)
  (sIf (cOr (cTest (eOp dLt (eVar 0) (eVar 1))) (cAnd (cTest (eOp dIsn (eVar 2) (eC .non))) (cTest (eOp dGt (eVar 0) (eVar 2))))) (sRaise1 "NumberError" "at_number" m_NumberError_init_M (aCons (eVar 0) aNil)) sNext))
def p_check_number_M : List D → M D := mFnX 0 p_check_number_B
instance : MonoS p_check_number_B := by unfold p_check_number_B; infer_instance
instance : MonoF p_check_number_M := by unfold p_check_number_M; infer_instance
def p_made_of_B : MS := (sSeq (sIf (cOr (cNot (cTest (eFn dIsi (aCons (eVar 0) (aCons (eC (.ty "str")) aNil))))) (cOr (cTest (eOp dLt (eFn dLen (aCons (eVar 0) aNil)) (eVar 2))) (cTest (eOp dGt (eFn dLen (aCons (eVar 0) aNil)) (eVar 3))))) (sRet (eC (.bl false))) sNext)
  (sRet (eFn dAll (aCons (eLc [4] (iItems (eVar 0)) (tgName 4) cYes (eOp (dInB false) (eVar 4) (eVar 1))) aNil))))
def p_made_of_M : List D → M D := mFnN 1 p_made_of_B
instance : MonoS p_made_of_B := by unfold p_made_of_B; infer_instance
instance : MonoF p_made_of_M := by unfold p_made_of_M; infer_instance
def p_are_parts_B : MS := (sSeq (sIf (cNot (cTest (eCall 4 p_made_of_M (aCons (eVar 0) (aCons (eVar 2) (aCons (eC (.int 0)) (aCons (eC (.int 12)) aNil))))))) (sRet (eC (.bl false))) sNext)
  (sRet (eCall 4 p_made_of_M (aCons (eVar 1) (aCons (eVar 2) (aCons (eC (.int 1)) (aCons (eC (.int 4)) aNil)))))))
def p_are_parts_M : List D → M D := mFnN 0 p_are_parts_B
instance : MonoS p_are_parts_B := by unfold p_are_parts_B; infer_instance
instance : MonoF p_are_parts_M := by unfold p_are_parts_M; infer_instance
def p_text_parts_B : MS := (sSeq (sIf (cOr (cNot (cTest (eFn dIsi (aCons (eVar 0) (aCons (eC (.ty "str")) aNil))))) (cNot (cTest (eMt isStrD dEnds (eVar 0) (aCons (eC (.str [41])) aNil))))) (sRaise0 "WordError") sNext)
  (sSeq (sAsg (eMt isStrD dPart (eVar 0) (aCons (eC (.str [40])) aNil)) (tgTup 3 (tgsCons (tgName 2) (tgsCons (tgName 3) (tgsCons (tgName 4) tgsNil)))))
  (sSeq (sSet 5 (eSl dSl (eVar 4) pNo (pEx (eUn dNeg (eC (.int 1))))))
  (sSeq (sIf (cOr (cTest (eOp dEq (eVar 3) (eC (.str [])))) (cNot (cTest (eCall 3 p_are_parts_M (aCons (eVar 2) (aCons (eVar 5) (aCons (eVar 1) aNil))))))) (sRaise0 "WordError") sNext)
  (sRet (eFn dTup (aCons (eVar 2) (aCons (eVar 5) aNil))))))))
def p_text_parts_M : List D → M D := mFnX 4 p_text_parts_B
instance : MonoS p_text_parts_B := by unfold p_text_parts_B; infer_instance
instance : MonoF p_text_parts_M := by unfold p_text_parts_M; infer_instance
def p_read_word_B : MS := (sRet (eCall 2 p_text_parts_M (aCons (eVar 0) (aCons (eC (.str [66, 73, 79])) aNil))))
def p_read_word_M : List D → M D := mFnX 0 p_read_word_B
instance : MonoS p_read_word_B := by unfold p_read_word_B; infer_instance
instance : MonoF p_read_word_M := by unfold p_read_word_M; infer_instance
def p_first_letters_B : MS := (sSeq (sDo (eCall 3 p_check_number_M (aCons (eVar 1) (aCons (eC (.int 0)) (aCons (eC (.int 400)) aNil)))))
  (sSeq (sAsg (eCall 1 p_read_word_M (aCons (eVar 0) aNil)) (tgTup 2 (tgsCons (tgName 2) (tgsCons (tgName 3) tgsNil))))
  (sSeq (sSet 4 (eOp dAdd (eVar 2) (eOp dMul (eVar 3) (eVar 1))))
  (sRet (eSl dSl (eVar 4) pNo (pEx (eVar 1)))))))
def p_first_letters_M : List D → M D := mFnX 3 p_first_letters_B
instance : MonoS p_first_letters_B := by unfold p_first_letters_B; infer_instance
instance : MonoF p_first_letters_M := by unfold p_first_letters_M; infer_instance
def p_first_unlike_B : MS := (sSeq (sSet 2 (eCall 2 p_first_letters_M (aCons (eVar 0) (aCons (eC (.int 24)) aNil))))
  (sSeq (sSet 3 (eCall 2 p_first_letters_M (aCons (eVar 1) (aCons (eC (.int 24)) aNil))))
  (sSeq (sFor (iFn dRng1 (aCons (eC (.int 24)) aNil)) (tgName 4) (sIf (cTest (eOp dNe (eOp dIx (eVar 2) (eVar 4)) (eOp dIx (eVar 3) (eVar 4)))) (sRet (eVar 4)) sNext))
  (sRet (eC .non)))))
def p_first_unlike_M : List D → M D := mFnX 3 p_first_unlike_B
instance : MonoS p_first_unlike_B := by unfold p_first_unlike_B; infer_instance
instance : MonoF p_first_unlike_M := by unfold p_first_unlike_M; infer_instance
def p_letter_B : MS := (sSeq (sDo (eCallD 3 p_check_number_M [.non] (aCons (eVar 1) (aCons (eC (.int 0)) aNil))))
  (sSeq (sAsg (eCall 1 p_read_word_M (aCons (eVar 0) aNil)) (tgTup 2 (tgsCons (tgName 2) (tgsCons (tgName 3) tgsNil))))
  (sSeq (sIf (cTest (eOp dLt (eVar 1) (eFn dLen (aCons (eVar 2) aNil)))) (sRet (eOp dIx (eVar 2) (eVar 1))) sNext)
  (sRet (eOp dIx (eVar 3) (eOp dMod (eOp dSub (eVar 1) (eFn dLen (aCons (eVar 2) aNil))) (eFn dLen (aCons (eVar 3) aNil))))))))
def p_letter_M : List D → M D := mFnX 2 p_letter_B
instance : MonoS p_letter_B := by unfold p_letter_B; infer_instance
instance : MonoF p_letter_M := by unfold p_letter_M; infer_instance
def p_joined_text_B : MS := (sRet (eJs (jsCons fmtD (eVar 0) (jsCons txtD (eC (.str [40])) (jsCons fmtD (eVar 1) (jsCons txtD (eC (.str [41])) jsNil))))))
def p_joined_text_M : List D → M D := mFnN 0 p_joined_text_B
instance : MonoS p_joined_text_B := by unfold p_joined_text_B; infer_instance
instance : MonoF p_joined_text_M := by unfold p_joined_text_M; infer_instance
def p_shortest_root_B : MS := (sSeq (sSet 1 (eFn dLen (aCons (eVar 0) aNil)))
  (sSeq (sFor (iFn dRng2 (aCons (eC (.int 1)) (aCons (eVar 1) aNil))) (tgName 2) (sSeq (sSet 3 (eSl dSl (eVar 0) pNo (pEx (eVar 2))))
  (sIf (cAnd (cTest (eOp dEq (eOp dMod (eVar 1) (eVar 2)) (eC (.int 0)))) (cTest (eOp dEq (eOp dMul (eVar 3) (eOp dDiv (eVar 1) (eVar 2))) (eVar 0)))) (sRet (eVar 3)) sNext)))
  (sRet (eVar 0))))
def p_shortest_root_M : List D → M D := mFnN 3 p_shortest_root_B
instance : MonoS p_shortest_root_B := by unfold p_shortest_root_B; infer_instance
instance : MonoF p_shortest_root_M := by unfold p_shortest_root_M; infer_instance
def p_plain_parts_B : MS := (sSeq (sSet 1 (eCall 1 p_shortest_root_M (aCons (eVar 1) aNil)))
  (sSeq (sWhile (cAnd (cTest (eOp dNe (eVar 0) (eC (.str [])))) (cTest (eOp dEq (eOp dIx (eVar 0) (eUn dNeg (eC (.int 1)))) (eOp dIx (eVar 1) (eUn dNeg (eC (.int 1))))))) (sSeq (sSet 0 (eSl dSl (eVar 0) pNo (pEx (eUn dNeg (eC (.int 1))))))
  (sSet 1 (eOp dAdd (eOp dIx (eVar 1) (eUn dNeg (eC (.int 1)))) (eSl dSl (eVar 1) pNo (pEx (eUn dNeg (eC (.int 1)))))))))
  (sRet (eFn dTup (aCons (eVar 0) (aCons (eVar 1) aNil))))))
def p_plain_parts_M : List D → M D := mFnN 0 p_plain_parts_B
instance : MonoS p_plain_parts_B := by unfold p_plain_parts_B; infer_instance
instance : MonoF p_plain_parts_M := by unfold p_plain_parts_M; infer_instance
def p_plain_text_B : MS := (sSeq (sAsg (eCall 2 p_plain_parts_M (aCons (eVar 0) (aCons (eVar 1) aNil))) (tgTup 2 (tgsCons (tgName 2) (tgsCons (tgName 3) tgsNil))))
  (sRet (eCall 2 p_joined_text_M (aCons (eVar 2) (aCons (eVar 3) aNil)))))
def p_plain_text_M : List D → M D := mFnN 2 p_plain_text_B
instance : MonoS p_plain_text_B := by unfold p_plain_text_B; infer_instance
instance : MonoF p_plain_text_M := by unfold p_plain_text_M; infer_instance
def p_mirror_B : MS := (sSeq (sAsg (eCall 1 p_read_word_M (aCons (eVar 0) aNil)) (tgTup 2 (tgsCons (tgName 1) (tgsCons (tgName 2) tgsNil))))
  (sSeq (sSet 3 (eMt isStrD dJoin (eC (.str [])) (aCons (eLc [5] (iItems (eVar 1)) (tgName 5) cYes (eTab tb_MIRRORED (eVar 5))) aNil)))
  (sSeq (sSet 4 (eMt isStrD dJoin (eC (.str [])) (aCons (eLc [5] (iItems (eVar 2)) (tgName 5) cYes (eTab tb_MIRRORED (eVar 5))) aNil)))
  (sRet (eCall 2 p_plain_text_M (aCons (eVar 3) (aCons (eVar 4) aNil)))))))
def p_mirror_M : List D → M D := mFnX 5 p_mirror_B
instance : MonoS p_mirror_B := by unfold p_mirror_B; infer_instance
instance : MonoF p_mirror_M := by unfold p_mirror_M; infer_instance
def p_rest_B : MS := (sSeq (sDo (eCallD 3 p_check_number_M [.non] (aCons (eVar 1) (aCons (eC (.int 0)) aNil))))
  (sSeq (sAsg (eCall 1 p_read_word_M (aCons (eVar 0) aNil)) (tgTup 2 (tgsCons (tgName 2) (tgsCons (tgName 3) tgsNil))))
  (sSeq (sIf (cTest (eOp dLe (eVar 1) (eFn dLen (aCons (eVar 2) aNil)))) (sRet (eCall 2 p_plain_text_M (aCons (eSl dSl (eVar 2) (pEx (eVar 1)) pNo) (aCons (eVar 3) aNil)))) sNext)
  (sSeq (sSet 4 (eOp dMod (eOp dSub (eVar 1) (eFn dLen (aCons (eVar 2) aNil))) (eFn dLen (aCons (eVar 3) aNil))))
  (sRet (eCall 2 p_plain_text_M (aCons (eC (.str [])) (aCons (eOp dAdd (eSl dSl (eVar 3) (pEx (eVar 4)) pNo) (eSl dSl (eVar 3) pNo (pEx (eVar 4)))) aNil))))))))
def p_rest_M : List D → M D := mFnX 3 p_rest_B
instance : MonoS p_rest_B := by unfold p_rest_B; infer_instance
instance : MonoF p_rest_M := by unfold p_rest_M; infer_instance
def p_plain_B : MS := (sSeq (sAsg (eCall 1 p_read_word_M (aCons (eVar 0) aNil)) (tgTup 2 (tgsCons (tgName 1) (tgsCons (tgName 2) tgsNil))))
  (sRet (eCall 2 p_plain_text_M (aCons (eVar 1) (aCons (eVar 2) aNil)))))
def p_plain_M : List D → M D := mFnX 2 p_plain_B
instance : MonoS p_plain_B := by unfold p_plain_B; infer_instance
instance : MonoF p_plain_M := by unfold p_plain_M; infer_instance
def p_same_word_B : MS := (sSeq (sSet 2 (eCall 1 p_plain_M (aCons (eVar 0) aNil)))
  (sSeq (sSet 3 (eCall 1 p_plain_M (aCons (eVar 1) aNil)))
  (sRet (eOp dEq (eVar 2) (eVar 3)))))
def p_same_word_M : List D → M D := mFnX 2 p_same_word_B
instance : MonoS p_same_word_B := by unfold p_same_word_B; infer_instance
instance : MonoF p_same_word_M := by unfold p_same_word_M; infer_instance
def l_pair_holds_B : MS := (sSeq (sSet 3 (eCall 2 l_parting_M (aCons (eVar 1) (aCons (eVar 2) aNil))))
  (sSeq (sFor (iFn dRng1 (aCons (eC (.int 2)) aNil)) (tgName 4) (sIf (cOr (cNot (cTest (eCall 2 (l_equal_M 10) (aCons (eCall 2 p_first_unlike_M (aCons (eVar 1) (aCons (eVar 2) aNil))) (aCons (eVar 3) aNil))))) (cNot (cTest (eCall 2 (l_equal_M 10) (aCons (eCall 2 p_first_unlike_M (aCons (eVar 2) (aCons (eVar 1) aNil))) (aCons (eVar 3) aNil)))))) (sRet (eC (.bl false))) sNext))
  (sSeq (sIf (cNot (cTest (eCall 2 (l_equal_M 10) (aCons (eCallR 2 p_first_unlike_M (aCons (eCall 1 p_mirror_M (aCons (eVar 1) aNil)) (aCons (eCall 1 p_mirror_M (aCons (eVar 2) aNil)) aNil))) (aCons (eVar 3) aNil))))) (sRet (eC (.bl false))) sNext)
  (sSeq (sSet 5 (eCall 2 l_take_M (aCons (eVar 0) (aCons (eC (.int 20)) aNil))))
  (sSeq (sIf (cTest (eOp dIs (eVar 3) (eC .non))) (sSeq (sSet 5 (eCall 1 l_huge_M (aCons (eVar 0) aNil)))
  (sSeq (sIf (cNot (cTest (eCall 2 (l_equal_M 10) (aCons (eCall 2 p_first_unlike_M (aCons (eCall 2 p_rest_M (aCons (eVar 1) (aCons (eVar 5) aNil))) (aCons (eCall 2 p_rest_M (aCons (eVar 2) (aCons (eVar 5) aNil))) aNil))) (aCons (eC .non) aNil))))) (sRet (eC (.bl false))) sNext)
  (sRet (eAnd (eCall 2 (l_equal_M 10) (aCons (eCall 2 p_letter_M (aCons (eVar 1) (aCons (eVar 5) aNil))) (aCons (eCall 2 p_letter_M (aCons (eVar 2) (aCons (eVar 5) aNil))) aNil))) (eCall 2 (l_equal_M 10) (aCons (eCall 2 p_same_word_M (aCons (eVar 1) (aCons (eVar 2) aNil))) (aCons (eC (.bl true)) aNil))))))) sNext)
  (sSeq (sIf (cAnd (cTest (eOp dLe (eVar 5) (eVar 3))) (cNot (cTest (eCall 2 (l_equal_M 10) (aCons (eCall 2 p_first_unlike_M (aCons (eCall 2 p_rest_M (aCons (eVar 1) (aCons (eVar 5) aNil))) (aCons (eCall 2 p_rest_M (aCons (eVar 2) (aCons (eVar 5) aNil))) aNil))) (aCons (eOp dSub (eVar 3) (eVar 5)) aNil)))))) (sRet (eC (.bl false))) sNext)
  (sSeq (sIf (cOr (cTest (eOp dEq (eCall 2 p_letter_M (aCons (eVar 1) (aCons (eVar 3) aNil))) (eCall 2 p_letter_M (aCons (eVar 2) (aCons (eVar 3) aNil))))) (cNot (cTest (eCall 2 (l_equal_M 10) (aCons (eCall 2 p_same_word_M (aCons (eVar 2) (aCons (eVar 1) aNil))) (aCons (eC (.bl false)) aNil)))))) (sRet (eC (.bl false))) sNext)
  (sRet (eOp dEq (eCall 2 p_first_letters_M (aCons (eVar 1) (aCons (eVar 3) aNil))) (eCall 2 p_first_letters_M (aCons (eVar 2) (aCons (eVar 3) aNil))))))))))))
def l_pair_holds_M : List D → M D := mFnN 3 l_pair_holds_B
instance : MonoS l_pair_holds_B := by unfold l_pair_holds_B; infer_instance
instance : MonoF l_pair_holds_M := by unfold l_pair_holds_M; infer_instance
def l_refused_B : MS := (sRet (eAnd (eOp dEq (eOp dIx (eVar 0) (eC (.int 0))) (eC (.str [114, 101, 102, 117, 115, 101, 100]))) (eOp dEq (eOp dIx (eVar 0) (eC (.int 1))) (eC (.str [87, 111, 114, 100, 69, 114, 114, 111, 114])))))
def l_refused_M : List D → M D := mFnN 0 l_refused_B
instance : MonoS l_refused_B := by unfold l_refused_B; infer_instance
instance : MonoF l_refused_M := by unfold l_refused_M; infer_instance
def l_told_B : MS := (sTry 2 raisedS (sRet (eFn dLst (aCons (eC (.str [116, 111, 108, 100])) (aCons (eCall 2 p_first_unlike_M (aCons (eVar 0) (aCons (eVar 1) aNil))) aNil)))) (sSeq (sSet 3 (eFn dLst (aCons (eFn (dIsx raisedS allS) (aCons (eVar 2) (aCons (eC (.cls "NumberError")) aNil))) (aCons (eFn (dIsx raisedS allS) (aCons (eVar 2) (aCons (eC (.cls "OptionError")) aNil))) (aCons (eFn (dIsx raisedS allS) (aCons (eVar 2) (aCons (eC (.cls "PlaceError")) aNil))) (aCons (eFn (dIsx raisedS allS) (aCons (eVar 2) (aCons (eC (.cls "BookError")) aNil))) (aCons (eFn (dIsx raisedS allS) (aCons (eVar 2) (aCons (eC (.cls "HasHome")) aNil))) (aCons (eFn (dIsx raisedS allS) (aCons (eVar 2) (aCons (eC (.cls "NoHome")) aNil))) (aCons (eFn (dIsx raisedS allS) (aCons (eVar 2) (aCons (eC (.cls "NotFull")) aNil))) (aCons (eFn (dIsx raisedS allS) (aCons (eVar 2) (aCons (eC (.cls "NotGood")) aNil))) (aCons (eFn (dIsx raisedS allS) (aCons (eVar 2) (aCons (eC (.cls "CountError")) aNil))) (aCons (eFn (dIsx raisedS allS) (aCons (eVar 2) (aCons (eC (.cls "NotASink")) aNil))) (aCons (eFn (dIsx raisedS allS) (aCons (eVar 2) (aCons (eC (.cls "NotFree")) aNil))) (aCons (eFn (dIsx raisedS allS) (aCons (eVar 2) (aCons (eC (.cls "RowError")) aNil))) (aCons (eFn (dIsx raisedS allS) (aCons (eVar 2) (aCons (eC (.cls "PostError")) aNil))) (aCons (eFn (dIsx raisedS allS) (aCons (eVar 2) (aCons (eC (.cls "RingStands")) aNil))) (aCons (eFn (dIsx raisedS allS) (aCons (eVar 2) (aCons (eC (.cls "TooMany")) aNil))) (aCons (eFn (dIsx raisedS allS) (aCons (eVar 2) (aCons (eC (.cls "TooLong")) aNil))) (aCons (eFn (dIsx raisedS allS) (aCons (eVar 2) (aCons (eC (.cls "LineError")) aNil))) (aCons (eFn (dIsx raisedS allS) (aCons (eVar 2) (aCons (eC (.cls "WebError")) aNil))) (aCons (eFn (dIsx raisedS allS) (aCons (eVar 2) (aCons (eC (.cls "ArrowsError")) aNil))) (aCons (eFn (dIsx raisedS allS) (aCons (eVar 2) (aCons (eC (.cls "WordError")) aNil))) (aCons (eFn (dIsx raisedS allS) (aCons (eVar 2) (aCons (eC (.cls "MachineError")) aNil))) (aCons (eFn (dIsx raisedS allS) (aCons (eVar 2) (aCons (eC (.cls "ChangeError")) aNil))) (aCons (eFn (dIsx raisedS allS) (aCons (eVar 2) (aCons (eC (.cls "PaperError")) aNil))) aNil)))))))))))))))))))))))))
  (sSeq (sIf (cOr (cTest (eOp dNe (eMt isLstD dCntL (eVar 3) (aCons (eC (.bl true)) aNil)) (eC (.int 1)))) (cNot (cTest (eFn (dIsx raisedS allS) (aCons (eVar 2) (aCons (eC (.ty "ValueError")) aNil)))))) (sRet (eFn dLst (aCons (eC (.str [114, 101, 102, 117, 115, 101, 100])) (aCons (eC (.str [111, 102, 32, 116, 119, 111, 32, 107, 105, 110, 100, 115])) (aCons (eC (.int 0)) aNil))))) sNext)
  (sSeq (sIf (cTest (eFn (dIsx raisedS allS) (aCons (eVar 2) (aCons (eC (.cls "WordError")) aNil)))) (sRet (eFn dLst (aCons (eC (.str [114, 101, 102, 117, 115, 101, 100])) (aCons (eC (.str [87, 111, 114, 100, 69, 114, 114, 111, 114])) (aCons (eC (.int 0)) aNil))))) sNext)
  (sRet (eFn dLst (aCons (eC (.str [114, 101, 102, 117, 115, 101, 100])) (aCons (eC (.str [111, 102, 32, 97, 110, 111, 116, 104, 101, 114, 32, 107, 105, 110, 100])) (aCons (eC (.int 0)) aNil)))))))))
def l_told_M : List D → M D := mFnN 2 l_told_B
instance : MonoS l_told_B := by unfold l_told_B; infer_instance
instance : MonoF l_told_M := by unfold l_told_M; infer_instance
def l_two_words_B : MS := (sSeq (sSet 2 (eCall 2 l_word_of_M (aCons (eVar 0) (aCons (eVar 1) aNil))))
  (sSeq (sSet 3 (eCall 2 l_take_M (aCons (eVar 0) (aCons (eC (.int 3)) aNil))))
  (sSeq (sIf (cTest (eOp dEq (eVar 3) (eC (.int 0)))) (sRet (eFn dLst (aCons (eVar 2) (aCons (eCall 2 l_same_text_M (aCons (eVar 0) (aCons (eVar 2) aNil))) aNil)))) sNext)
  (sSeq (sIf (cAnd (cTest (eOp dEq (eVar 3) (eC (.int 1)))) (cTest (eOp dEq (eVar 1) (eC (.str [97, 110, 121]))))) (sSeq (sSet 4 (eCall 1 l_split_M (aCons (eCall 2 l_same_text_M (aCons (eVar 0) (aCons (eVar 2) aNil))) aNil)))
  (sSeq (sSet 5 (eOp dAdd (eOp dIx (eVar 4) (eC (.int 0))) (eOp dIx (eVar 4) (eC (.int 1)))))
  (sSeq (sSet 6 (eCall 3 l_edge_M (aCons (eVar 0) (aCons (eC (.int 0)) (aCons (eOp dSub (eFn dLen (aCons (eVar 5) aNil)) (eC (.int 1))) aNil)))))
  (sSeq (sSet 5 (eOp dAdd (eOp dAdd (eSl dSl (eVar 5) pNo (pEx (eVar 6))) (eCall 2 l_pick_M (aCons (eVar 0) (aCons (eC (.str [66, 73, 79])) aNil)))) (eSl dSl (eVar 5) (pEx (eOp dAdd (eVar 6) (eC (.int 1)))) pNo)))
  (sRet (eFn dLst (aCons (eVar 2) (aCons (eOp dAdd (eOp dAdd (eOp dAdd (eSl dSl (eVar 5) pNo (pEx (eFn dLen (aCons (eOp dIx (eVar 4) (eC (.int 0))) aNil)))) (eC (.str [40]))) (eSl dSl (eVar 5) (pEx (eFn dLen (aCons (eOp dIx (eVar 4) (eC (.int 0))) aNil))) pNo)) (eC (.str [41]))) aNil)))))))) sNext)
  (sRet (eFn dLst (aCons (eVar 2) (aCons (eCall 2 l_word_of_M (aCons (eVar 0) (aCons (eVar 1) aNil))) aNil))))))))
def l_two_words_M : List D → M D := mFnN 5 l_two_words_B
instance : MonoS l_two_words_B := by unfold l_two_words_B; infer_instance
instance : MonoF l_two_words_M := by unfold l_two_words_M; infer_instance
def law_B : MS := (sSeq (sSet 2 (eFn dLst (aCons (eCall 1 l_late_pair_M (aCons (eVar 1) aNil)) (aCons (eCall 2 l_two_words_M (aCons (eVar 1) (aCons (eC (.str [97, 110, 121])) aNil))) (aCons (eCall 1 l_late_pair_M (aCons (eVar 1) aNil)) aNil)))))
  (sSeq (sFor (iItems (eOp dAdd (eVar 2) (eSl dSl (eVar 2) pNo (pEx (eC (.int 1)))))) (tgName 3) (sIf (cNot (cTest (eCall 3 l_pair_holds_M (aCons (eVar 1) (aCons (eOp dIx (eVar 3) (eC (.int 0))) (aCons (eOp dIx (eVar 3) (eC (.int 1))) aNil)))))) (sRet (eC (.bl false))) sNext))
  (sSeq (sSet 4 (eOp dIx (eOp dIx (eVar 2) (eC (.int 0))) (eC (.int 0))))
  (sSeq (sIf (cNot (cTest (eCall 2 (l_equal_M 10) (aCons (eCall 2 p_first_unlike_M (aCons (eVar 4) (aCons (eCall 2 l_same_text_M (aCons (eVar 1) (aCons (eVar 4) aNil))) aNil))) (aCons (eC .non) aNil))))) (sRet (eC (.bl false))) sNext)
  (sSeq (sIf (cNot (cTest (eCall 3 l_pair_holds_M (aCons (eVar 1) (aCons (eVar 4) (aCons (eOp dIx (eOp dIx (eVar 2) (eC (.int 2))) (eC (.int 1))) aNil)))))) (sRet (eC (.bl false))) sNext)
  (sSeq (sSet 5 (eOp dIx (eCall 1 l_bad_word_M (aCons (eVar 1) aNil)) (eC (.int 0))))
  (sSeq (sFor (iItems (eFn dLst (aCons (eFn dLst (aCons (eVar 5) (aCons (eVar 4) aNil))) (aCons (eFn dLst (aCons (eVar 4) (aCons (eVar 5) aNil))) (aCons (eFn dLst (aCons (eVar 5) (aCons (eVar 5) aNil))) aNil))))) (tgName 6) (sIf (cNot (cTest (eCall 1 l_refused_M (aCons (eCall 2 l_told_M (aCons (eOp dIx (eVar 6) (eC (.int 0))) (aCons (eOp dIx (eVar 6) (eC (.int 1))) aNil))) aNil)))) (sRet (eC (.bl false))) sNext))
  (sRet (eCall 2 (l_equal_M 10) (aCons (eCall 2 l_told_M (aCons (eVar 4) (aCons (eVar 4) aNil))) (aCons (eFn dLst (aCons (eC (.str [116, 111, 108, 100])) (aCons (eC .non) aNil))) aNil)))))))))))
end W

namespace W
open PySem PySem.Spec PyProof.Rows L2 TL G M
theorem l_pick_l {ds : List D} {Q : D → Prop} {E : Er → Prop} (h1 : 1 ≤ ds.length) (h2 : ds.length ≤ 1000000) (q : ∀ d ∈ ds, Q d) : l_pick_M [.deal, .lst ds] Q E := by
  unfold l_pick_M l_pick_B
  walk_at "m"
  refine take_p (by omega) fun r r0 r1 r2 => ?_
  have hr : r.toNat < ds.length := by
    by_cases h : 2 ≤ (ds.length : Int)
    · have := r1 h
      omega
    · have := r2 (by omega)
      omega
  exact ix_l r0 (List.getElem?_eq_getElem hr) (q _ (List.getElem_mem hr))
theorem l_pick_s {l : List Nat} {Q : D → Prop} {E : Er → Prop} (h1 : 1 ≤ l.length) (h2 : l.length ≤ 1000000) (q : ∀ c ∈ l, Q (.str [c])) : l_pick_M [.deal, .str l] Q E := by
  unfold l_pick_M l_pick_B
  walk_at "mm"
  refine take_p (by omega) fun r r0 r1 r2 => ?_
  have hr : r.toNat < l.length := by
    by_cases h : 2 ≤ (l.length : Int)
    · have := r1 h
      omega
    · have := r2 (by omega)
      omega
  exact ix_s h2 r0 (List.getElem?_eq_getElem hr) (q _ (List.getElem_mem hr))
end W
namespace W
open PySem PySem.Spec PyProof.Rows L2 TL G M
theorem l_bad_word_p {Q : D → Prop} {E : Er → Prop} (q : ∀ d, BadD BIO d → datN 2 d = true → Q (.lst [d])) : l_bad_word_M [.deal] Q E := by
  unfold l_bad_word_M l_bad_word_B
  walk_at "mm"
  refine l_pick_l (by simp) (by simp) fun d hd => ?_
  walk_at "m"
  simp only [List.mem_append, List.mem_cons, List.not_mem_nil, or_false] at hd
  have h : BadD BIO d ∧ datN 2 d = true := by
    rcases hd with (rfl | rfl | rfl | rfl | rfl | rfl | rfl | rfl | rfl | rfl | rfl | rfl | rfl | rfl) | rfl | rfl | rfl | rfl | rfl | rfl | rfl | rfl | rfl | rfl <;>
      first
        | exact ⟨.ns inferInstance, by decide +kernel⟩
        | exact ⟨badD_txt (by decide) (by decide) (by decide +kernel), rfl⟩
  exact q d h.1 h.2
end W
namespace W
open PySem PySem.Spec PyProof.Rows L2 TL G M
theorem l_is_number_p {m : Nat} {d : D} {Q : D → Prop} {E : Er → Prop} (hd : datN m d = true) (q : Q (.bl (match d with | .int _ => true | _ => false))) : l_is_number_M [d] Q E := by
  unfold l_is_number_M l_is_number_B
  cases datK hd <;> (walk_at "m"; exact q)
end W
namespace W
open PySem PySem.Spec PyProof.Rows L2 TL G M
theorem l_equal_s {n m : Nat} {a d : D} {Q : D → Prop} {E : Er → Prop} (ha : datN m a = true) (hd : scal d = true) (q : Q (.bl (isD a d))) : l_equal_M (n + 1) [a, d] Q E := by
  unfold l_equal_M
  cases d with
  | non =>
    walk_at "m"
    cases datK ha <;> (walk_at "m"; exact q)
  | bl b =>
    cases b
    · walk_at "m"
      cases datK ha <;> (walk_at "m"; exact q)
    · walk_at "m"
      cases datK ha <;> (walk_at "m"; exact q)
  | int i =>
    walk_at "m"
    refine l_is_number_p ha ?_
    cases datK ha <;> (walk_at "m"; exact q)
  | str l =>
    walk_at "m"
    cases datK ha <;> (walk_at "m"; exact q)
  | _ => cases hd
theorem l_equal_e {n : Nat} {d : D} {Q : D → Prop} {E : Er → Prop} (hd : scal d = true) (q : Q (.bl true)) : l_equal_M (n + 1) [d, d] Q E :=
  l_equal_s (m := 0) (by cases d <;> first | rfl | cases hd) hd (by rw [isD_refl hd]; exact q)
theorem l_equal_r : ∀ (n m : Nat) {d : D} {Q : D → Prop} {E : Er → Prop}, m < n → datN m d = true → Q (.bl true) → l_equal_M n [d, d] Q E
  | 0, m, d, Q, E, h, _, _ => by omega
  | n + 1, m, d, Q, E, h, hd, q => by
    have sc : scal d = true → l_equal_M (n + 1) [d, d] Q E := fun hs => l_equal_s hd hs (by rw [isD_refl hs]; exact q)
    cases d with
    | lst ds =>
      obtain ⟨m', rfl, hl, hm⟩ := datN_lst hd
      unfold l_equal_M
      walk_at "mm"
      refine iteN (fun h => absurd rfl h) fun _ => ?_
      walk_at "mm"
      refine loop_rng (fun i ρ => ∃ y, ρ = [some (.lst ds), some (.lst ds), y]) ⟨_, rfl⟩ ?_ ?_
      · rintro i ρ hi ⟨y, rfl⟩
        rw [Int.zero_add]
        have hi' : i < ds.length := by omega
        walk_at "m"
        refine ix_l (by omega) (by rw [Int.toNat_natCast, List.getElem?_eq_getElem hi']) ?_
        walk_at "m"
        refine ix_l (by omega) (by rw [Int.toNat_natCast, List.getElem?_eq_getElem hi']) ?_
        walk_at "m"
        refine l_equal_r n m' (by omega) (hm _ (List.getElem_mem hi')) ?_
        walk_at "m"
        exact ⟨_, rfl⟩
      · rintro ρ ⟨y, rfl⟩
        walk_at "m"
        exact q
    | tup ds =>
      obtain ⟨m', rfl, hl, hm⟩ := datN_tup hd
      unfold l_equal_M
      walk_at "mm"
      refine iteN (fun h => absurd rfl h) fun _ => ?_
      walk_at "mm"
      refine loop_rng (fun i ρ => ∃ y, ρ = [some (.tup ds), some (.tup ds), y]) ⟨_, rfl⟩ ?_ ?_
      · rintro i ρ hi ⟨y, rfl⟩
        rw [Int.zero_add]
        have hi' : i < ds.length := by omega
        walk_at "m"
        refine ix_t (by omega) (by rw [Int.toNat_natCast, List.getElem?_eq_getElem hi']) ?_
        walk_at "m"
        refine ix_t (by omega) (by rw [Int.toNat_natCast, List.getElem?_eq_getElem hi']) ?_
        walk_at "m"
        refine l_equal_r n m' (by omega) (hm _ (List.getElem_mem hi')) ?_
        walk_at "m"
        exact ⟨_, rfl⟩
      · rintro ρ ⟨y, rfl⟩
        walk_at "m"
        exact q
    | non => exact sc rfl
    | bl b => exact sc rfl
    | int i => exact sc rfl
    | str l => exact sc rfl
    | _ => cases m <;> simp [datN] at hd
end W
namespace W
open PySem PySem.Spec PyProof.Rows L2 TL G M
theorem l_within_p {a b : Int} {Q : D → Prop} {E : Er → Prop} (h : a ≤ b) (hb : b - a < 1000000000) (q : ∀ r : Int, a ≤ r → r ≤ b → Q (.int r)) : l_within_M [.deal, .int a, .int b] Q E := by
  unfold l_within_M l_within_B
  walk_at "m"
  refine take_p (by omega) fun r r0 r1 r2 => ?_
  walk_at "m"
  refine q _ (by omega) ?_
  by_cases h2 : 2 ≤ b - a + 1
  · have := r1 h2
    omega
  · have := r2 (by omega)
    omega
end W
namespace W
open PySem PySem.Spec PyProof.Rows L2 TL G M
theorem l_edge_p {a b : Int} {Q : D → Prop} {E : Er → Prop} (h : a ≤ b) (hb : b - a < 1000000000) (q : ∀ r : Int, a ≤ r → r ≤ b → Q (.int r)) : l_edge_M [.deal, .int a, .int b] Q E := by
  unfold l_edge_M l_edge_B
  walk_at "m"
  refine take_p (by decide) fun r r0 r1 r2 => ?_
  walk_at "m"
  refine iteDM (fun _ => ?_) (fun _ => ?_)
  · walk_at "m"
    exact q _ (by omega) h
  walk_at "m"
  refine iteD (fun _ => ?_) (fun _ => ?_)
  · walk_at "m"
    exact q _ (by omega) h
  walk_at "m"
  refine iteD (fun _ => ?_) (fun _ => ?_)
  · walk_at "m"
    exact q _ h (by omega)
  walk_at "m"
  exact l_within_p h hb q
end W
namespace W
open PySem PySem.Spec PyProof.Rows L2 TL G M
theorem l_mark_at_p {p c : List Nat} {k : Int} {Q : D → Prop} {E : Er → Prop} (hk : 0 ≤ k) (hp : p.length ≤ 1000) (c1 : 1 ≤ c.length) (hc : c.length ≤ 1000) (q : Q (.str [lat p c k])) : l_mark_at_M [.lst [.str p, .str c], .int k] Q E := by
  unfold l_mark_at_M l_mark_at_B
  walk_at "mm"
  unfold lat at q
  refine iteD (fun h3 => ?_) (fun h3 => ?_)
  · rw [if_pos h3, List.getD_eq_getElem?_getD, List.getElem?_eq_getElem (by omega)] at q
    walk_at "mm"
    exact ix_s (by omega) hk (List.getElem?_eq_getElem (by omega)) q
  · have h4 : 0 ≤ (k - p.length) % c.length := Int.emod_nonneg _ (by omega)
    have h5 : (k - p.length) % c.length < c.length := Int.emod_lt_of_pos _ (by omega)
    rw [if_neg h3, List.getD_eq_getElem?_getD, List.getElem?_eq_getElem (by omega)] at q
    walk_at "mm"
    exact ix_s (by omega) h4 (List.getElem?_eq_getElem (by omega)) q
end W
namespace W
open PySem PySem.Spec PyProof.Rows L2 TL G M
theorem l_split_p {p c : List Nat} {Q : D → Prop} {E : Er → Prop} (h : 40 ∉ p) (hp : p.length ≤ 1000) (hc : c.length ≤ 1000) (q : Q (.lst [.str p, .str c])) : l_split_M [.str (wt p c)] Q E := by
  have hl : (wt p c).length = p.length + c.length + 2 := wt_len
  have e0 : wt p c = p ++ 40 :: (c ++ [41]) := rfl
  unfold l_split_M l_split_B
  walk_at "m"
  rw [show cutAt 40 (wt p c) = some (p, c ++ [41]) from cutAt_of h]
  walk_at "mm"
  rw [cutD_to _ _ (by omega), Int.toNat_natCast, wt_take]
  walk_at "mm"
  rw [cutD_mid _ _ _ (by omega) (by omega), show ((wt p c).length - 1 : Int).toNat = (wt p c).length - 1 by omega, show ((p.length : Int) + 1).toNat = p.length + 1 by omega, wt_cut]
  walk_at "mm"
  exact q
end W
namespace W
open PySem PySem.Spec PyProof.Rows L2 TL G M
theorem l_first_marks_p {p c : List Nat} {n : Int} {Q : D → Prop} {E : Er → Prop} (h : 40 ∉ p) (hp : p.length ≤ 1000) (c1 : 1 ≤ c.length) (hc : c.length ≤ 1000) (n0 : 0 ≤ n) (n1 : n ≤ 1000) (q : Q (.str ((List.range n.toNat).map (latN p c)))) : l_first_marks_M [.str (wt p c), .int n] Q E := by
  unfold l_first_marks_M l_first_marks_B
  walk_at "mm"
  refine l_split_p h hp hc ?_
  walk_at "mm"
  refine ⟨by rw [rngD_len]; omega, ?_⟩
  refine lc_rng (F := fun i => .str [latN p c i]) (fun i hi Q' q' => ?_) ?_
  · rw [Int.zero_add]
    walk_at "m"
    refine l_mark_at_p (by omega) hp c1 hc ?_
    rw [lat_N]
    exact q'
  · rw [List.nil_append]
    walk_at "m"
    rw [strsD_of]
    have e1 : ((List.range n.toNat).map fun c_1 => [latN p c c_1]) = ((List.range n.toNat).map (latN p c)).map fun c => [c] := by rw [List.map_map]; rfl
    rw [e1]
    refine ⟨by rw [flat1]; simp; omega, ?_⟩
    rw [flat1]
    exact q
end W
namespace W
open PySem PySem.Spec PyProof.Rows L2 TL G M
theorem l_letter_text_p {ms : List Nat} {n : Int} {Q : D → Prop} {E : Er → Prop} (h1 : 1 ≤ ms.length) (h2 : ms.length ≤ 1000) (n0 : 0 ≤ n) (n1 : n ≤ 1000) (q : ∀ l : List Nat, (l.length : Int) = n → (∀ c ∈ l, c ∈ ms) → Q (.str l)) : l_letter_text_M [.deal, .str ms, .int n] Q E := by
  unfold l_letter_text_M l_letter_text_B
  walk_at "mm"
  refine ⟨by rw [rngD_len]; omega, ?_⟩
  refine lc_draw (P := fun _ d => ∃ c ∈ ms, d = .str [c]) (fun x hx Q' q' => ?_) fun ds hds => ?_
  · walk_at "m"
    exact l_pick_s h1 (by omega) fun c hc => q' _ ⟨c, hc, rfl⟩
  · obtain ⟨l, e1, e2, rfl⟩ := hds.signs
    rw [rngD_len] at e1
    rw [List.nil_append]
    walk_at "m"
    rw [strsD_of]
    refine ⟨by rw [flat1, List.length_map]; omega, ?_⟩
    rw [flat1]
    exact q l (by omega) e2
end W
namespace W
open PySem PySem.Spec PyProof.Rows L2 TL G M
theorem l_prefix_size_p {Q : D → Prop} {E : Er → Prop} (q : ∀ r : Int, 0 ≤ r → r ≤ 12 → Q (.int r)) : l_prefix_size_M [.deal] Q E := by
  unfold l_prefix_size_M l_prefix_size_B
  walk_at "m"
  refine take_p (by decide) fun r r0 r1 r2 => ?_
  walk_at "m"
  refine iteD (fun _ => ?_) (fun _ => ?_)
  · walk_at "m"
    exact q _ (by decide) (by decide)
  walk_at "m"
  refine iteD (fun _ => ?_) (fun _ => ?_)
  · walk_at "m"
    refine take_p (by decide) fun r r0 r1 r2 => q r r0 ?_
    have := r1 (by decide)
    omega
  walk_at "m"
  exact l_edge_p (by decide) (by decide) q
end W
namespace W
open PySem PySem.Spec PyProof.Rows L2 TL G M
theorem l_free_word_p {Q : D → Prop} {E : Er → Prop} (q : ∀ p c, Lw BIO p c → Q (.str (wt p c))) : l_free_word_M [.deal] Q E := by
  unfold l_free_word_M l_free_word_B
  walk_at "m"
  refine l_prefix_size_p fun n n0 n1 => ?_
  walk_at "m"
  refine l_letter_text_p (by decide) (by decide) n0 (by omega) fun p hp1 hp2 => ?_
  walk_at "mm"
  refine l_within_p (by decide) (by decide) fun m m0 m1 => ?_
  walk_at "m"
  refine l_letter_text_p (by decide) (by decide) (by omega) (by omega) fun c hc1 hc2 => ?_
  walk_at "mm"
  rw [wt_eq]
  exact q p c (lw_of (by omega) (by omega) (by omega) hp2 hc2)
end W
namespace W
open PySem PySem.Spec PyProof.Rows L2 TL G M
theorem l_filled_p {c : List Nat} {Q : D → Prop} {E : Er → Prop} (c1 : 1 ≤ c.length) (c4 : c.length ≤ 1000) (h : ∀ x ∈ c, x ∈ BIO) (q : ∀ e : List Nat, e.length = c.length → (∀ x ∈ e, x ∈ BIO) → Q (.str e)) : l_filled_M [.str c] Q E := by
  have fin : Q (.str ([66] ++ c.drop 1)) := q _ (by simp; omega) fun x hx => by
    rcases List.mem_append.mp hx with z | z
    · rw [List.mem_singleton.mp z]
      decide
    · exact h x (List.mem_of_mem_drop z)
  unfold l_filled_M l_filled_B
  cases hB : decide (66 ∈ c) <;> cases hI : decide (73 ∈ c) <;> cases hO : decide (79 ∈ c) <;>
    (repeat (first
      | exact q c rfl h
      | (walk_at "mm"; rw [cutD_from _ _ (by decide)]; exact ⟨by simp; omega, fin⟩)
      | refine M.gm ?_
      | rw [hB]
      | rw [hI]
      | rw [hO]))
end W
namespace W
open PySem PySem.Spec PyProof.Rows L2 TL G M
theorem l_good_pair_p {p c : List Nat} {Q : D → Prop} {E : Er → Prop} (hp : p.length ≤ 1000) (hc : c.length ≤ 1000) (he : c.count 84 % 2 = 0) (q : ∀ p' c' : List Nat, p'.length = p.length → c'.length = c.length → (∀ x ∈ p', x ∈ BIO) → (∀ x ∈ c', x ∈ BIO) → Q (.lst [.str p', .str c'])) : l_good_pair_M [.str p, .str c] Q E := by
  unfold l_good_pair_M l_good_pair_B
  walk_at "mm"
  refine iteD (fun h => by omega) (fun h => ?_)
  walk_at "mm"
  refine loop_it (fun i ρ => ∃ (l : List Nat) (b : Bool) (y : Option D), l.length = i ∧ (∀ x ∈ l, x ∈ BIO) ∧ ρ = [some (.str p), some (.str c), some (.str l), some (.bl b), y]) ⟨[], true, _, rfl, (fun _ z => by cases z), rfl⟩ ?_ ?_
  · rintro i x ρ hx ⟨l, b, y, hl, hm, rfl⟩
    have hi : i < (p ++ c).length := by
      have := (List.getElem?_eq_some_iff.mp hx).1
      rw [List.length_map] at this
      exact this
    rw [List.length_append] at hi
    rw [List.getElem?_map] at hx
    obtain ⟨a, ha, rfl⟩ := Option.map_eq_some_iff.mp hx
    have add : ∀ z, z ∈ BIO → ∀ x ∈ l ++ [z], x ∈ BIO := fun z hz x hx => by
      rcases List.mem_append.mp hx with w | w
      · exact hm x w
      · rw [List.mem_singleton.mp w]
        exact hz
    walk_at "m"
    refine iteD (fun _ => ?_) (fun _ => ?_)
    · walk_at "m"
      refine ⟨by simp; omega, l ++ [66], b, _, by simp [hl], add 66 (by decide), rfl⟩
    · walk_at "m"
      refine iteB (fun _ => ?_) (fun _ => ?_)
      · walk_at "m"
        refine ⟨by simp; omega, ?_⟩
        walk_at "m"
        exact ⟨l ++ [73], false, _, by simp [hl], add 73 (by decide), rfl⟩
      · walk_at "m"
        refine ⟨by simp; omega, ?_⟩
        walk_at "m"
        exact ⟨l ++ [79], true, _, by simp [hl], add 79 (by decide), rfl⟩
  · rintro ρ ⟨l, b, y, hl, hm, rfl⟩
    rw [List.length_map, List.length_append] at hl
    walk_at "mm"
    rw [cutD_to _ _ (by omega), Int.toNat_natCast]
    walk_at "mm"
    rw [cutD_from _ _ (by omega), Int.toNat_natCast]
    walk_at "mm"
    exact q _ _ (by rw [List.length_take]; omega) (by rw [List.length_drop]; omega) (fun x hx => hm x (List.mem_of_mem_take hx)) fun x hx => hm x (List.mem_of_mem_drop hx)
end W
namespace W
open PySem PySem.Spec PyProof.Rows L2 TL G M
theorem l_pair_text_p {p c : List Nat} {Q : D → Prop} {E : Er → Prop} (hp : p.length ≤ 1000) (hc : c.length ≤ 1000) (q : Q (.str (wt p c))) : l_pair_text_M [.lst [.str p, .str c]] Q E := by
  unfold l_pair_text_M l_pair_text_B
  walk_at "mm"
  rw [wt_eq]
  exact q
end W
namespace W
open PySem PySem.Spec PyProof.Rows L2 TL G M
abbrev BT : List Nat := [66, 84]
theorem bt_count {c : List Nat} (h : ∀ x ∈ c, x ∈ BT) (n : Nat) (hn : c = n :: c.tail) (c1 : c.count 84 % 2 = 1) : ((if n = 84 then 66 else 84) :: c.tail).count 84 % 2 = 0 := by
  rw [hn, List.count_cons] at c1
  rw [List.count_cons]
  by_cases h84 : n = 84
  · subst h84
    simp at c1 ⊢
    omega
  · have : (n == 84) = false := by simpa using h84
    rw [this] at c1
    rw [if_neg h84]
    simp at c1 ⊢
    omega
theorem l_turn_pair_p {ev : Bool} {Q : D → Prop} {E : Er → Prop} (q : ∀ p c : List Nat, p.length ≤ 12 → 1 ≤ c.length → c.length ≤ 4 → (∀ x ∈ p, x ∈ BT) → (∀ x ∈ c, x ∈ BT) → (ev = true → c.count 84 % 2 = 0) → Q (.lst [.str p, .str c])) : l_turn_pair_M [.deal, .bl ev] Q E := by
  unfold l_turn_pair_M l_turn_pair_B
  walk_at "m"
  refine l_prefix_size_p fun n n0 n1 => ?_
  walk_at "m"
  refine l_letter_text_p (by decide) (by decide) n0 (by omega) fun p hp1 hp2 => ?_
  walk_at "m"
  refine l_within_p (by decide) (by decide) fun m m0 m1 => ?_
  walk_at "m"
  refine l_letter_text_p (by decide) (by decide) (by omega) (by omega) fun c hc1 hc2 => ?_
  walk_at "m"
  refine iteBM (fun hev => ?_) (fun hev => ?_)
  · subst hev
    walk_at "mm"
    refine iteD (fun h => ?_) (fun h => ?_)
    · have hodd : c.count 84 % 2 = 1 := by omega
      obtain ⟨a, t, rfl⟩ : ∃ a t, c = a :: t := by
        cases c with
        | nil => simp at hc1; omega
        | cons a t => exact ⟨a, t, rfl⟩
      have hlen : (a :: t).length = t.length + 1 := rfl
      walk_at "mm"
      refine ix_s (c := a) (by omega) (by decide) rfl ?_
      walk_at "mm"
      refine iteD (fun h => ?_) (fun h => ?_)
      · injection h with h
        subst h
        walk_at "mm"
        rw [cutD_from _ _ (by decide)]
        show _ ∧ _
        refine ⟨by simp; omega, ?_⟩
        walk_at "m"
        refine q _ _ (by omega) (by simp) (by simp; omega) hp2 (fun x hx => ?_) fun _ => ?_
        · rcases List.mem_append.mp hx with z | z
          · rw [List.mem_singleton.mp z]
            decide
          · exact hc2 x (List.mem_of_mem_drop z)
        · have := bt_count hc2 84 rfl hodd
          exact this
      · have ha : a ≠ 84 := fun z => h (by rw [z])
        walk_at "mm"
        rw [cutD_from _ _ (by decide)]
        show _ ∧ _
        refine ⟨by simp; omega, ?_⟩
        walk_at "m"
        refine q _ _ (by omega) (by simp) (by simp; omega) hp2 (fun x hx => ?_) fun _ => ?_
        · rcases List.mem_append.mp hx with z | z
          · rw [List.mem_singleton.mp z]
            decide
          · exact hc2 x (List.mem_of_mem_drop z)
        · have := bt_count hc2 a rfl hodd
          rw [if_neg ha] at this
          exact this
    · walk_at "m"
      exact q p c (by omega) (by omega) (by omega) hp2 hc2 fun _ => by omega
  · subst hev
    walk_at "m"
    exact q p c (by omega) (by omega) (by omega) hp2 hc2 fun z => by cases z
end W
namespace W
open PySem PySem.Spec PyProof.Rows L2 TL G M
theorem l_good_word_p {Q : D → Prop} {E : Er → Prop} (q : ∀ p c, Lw BIO p c → Q (.str (wt p c))) : l_good_word_M [.deal] Q E := by
  unfold l_good_word_M l_good_word_B
  walk_at "m"
  refine l_turn_pair_p fun p c h1 h2 h3 h4 h5 h6 => ?_
  walk_at "m"
  refine l_good_pair_p (by omega) (by omega) (h6 rfl) fun p' c' e1 e2 e3 e4 => ?_
  walk_at "m"
  exact l_pair_text_p (by omega) (by omega) (q p' c' (lw_of (by omega) (by omega) (by omega) e3 e4))
end W
namespace W
open PySem PySem.Spec PyProof.Rows L2 TL G M
theorem l_ringing_word_p {Q : D → Prop} {E : Er → Prop} (q : ∀ p c, Lw BIO p c → Q (.str (wt p c))) : l_ringing_word_M [.deal] Q E := by
  unfold l_ringing_word_M l_ringing_word_B
  walk_at "m"
  refine l_good_word_p fun p c hw => ?_
  have p12 := hw.p12
  have c4 := hw.c4
  walk_at "m"
  refine l_split_p (hw.no40 (by decide)) (by omega) (by omega) ?_
  walk_at "m"
  refine ⟨⟨by decide, by decide, by omega⟩, ?_⟩
  have hr : (rep c (12 : Int).toNat).length = 12 * c.length := rep_len c 12
  obtain ⟨L, hL⟩ : ∃ L, L = p ++ rep c (12 : Int).toNat := ⟨_, rfl⟩
  have hLl : L.length ≤ 60 := by rw [hL, List.length_append]; omega
  have hLm : ∀ x ∈ L, x ∈ BIO := fun x hx => by
    rw [hL] at hx
    rcases List.mem_append.mp hx with z | z
    · exact hw.pl x z
    · exact rep_mem hw.cl _ x z
  walk_at "m"
  refine ⟨by omega, ?_⟩
  rw [← hL]
  walk_at "m"
  refine l_within_p (by decide) (by decide) fun m m0 m1 => ?_
  walk_at "m"
  refine l_letter_text_p (by decide) (by decide) (by omega) (by omega) fun c2 hc1 hc2 => ?_
  walk_at "m"
  refine l_filled_p (by omega) (by omega) hc2 fun e he1 he2 => ?_
  walk_at "m"
  refine take_p (by decide) fun r r0 r1 r2 => ?_
  walk_at "m"
  have fin : ∀ e : List Nat, 1 ≤ e.length → e.length ≤ 4 → (∀ x ∈ e, x ∈ BIO) → ∀ n : Int, 0 ≤ n → n ≤ 12 → (L.take n.toNat).length + 1 ≤ 1000000 ∧ Q (.str (wt (L.take n.toNat) e)) := fun e e1 e4 em n n0 n1 =>
    ⟨by rw [List.length_take]; omega, q _ e (lw_of (by rw [List.length_take]; omega) e1 e4 (fun x hx => hLm x (List.mem_of_mem_take hx)) em)⟩
  refine iteD (fun _ => ?_) (fun _ => ?_)
  · walk_at "m"
    refine iteD (fun _ => ?_) (fun _ => ?_)
    · walk_at "m"
      refine l_pick_l (by simp) (by simp) fun d hd => ?_
      have hd2 : ∃ e : List Nat, d = .str e ∧ 1 ≤ e.length ∧ e.length ≤ 4 ∧ ∀ x ∈ e, x ∈ BIO := by
        simp only [List.mem_cons, List.not_mem_nil, or_false] at hd
        rcases hd with rfl | rfl | rfl | rfl | rfl | rfl | rfl | rfl | rfl | rfl <;> exact ⟨_, rfl, by decide, by decide, by decide⟩
      obtain ⟨e, rfl, e1, e4, em⟩ := hd2
      walk_at "m"
      refine l_prefix_size_p fun n n0 n1 => ?_
      walk_at "mm"
      rw [cutD_to _ _ n0]
      have hl : (L.take n.toNat).length ≤ 60 := by rw [List.length_take]; omega
      walk_at "mm"
      rw [wt_eq]
      exact (fin e e1 e4 em n n0 n1).2
    · walk_at "m"
      refine l_prefix_size_p fun n n0 n1 => ?_
      walk_at "mm"
      rw [cutD_to _ _ n0]
      have hl : (L.take n.toNat).length ≤ 60 := by rw [List.length_take]; omega
      walk_at "mm"
      rw [wt_eq]
      exact (fin e (by omega) (by omega) he2 n n0 n1).2
  walk_at "m"
  refine l_edge_p (by decide) (by decide) fun n n0 n1 => ?_
  walk_at "mm"
  rw [cutD_to _ _ n0]
  obtain ⟨h, hh⟩ : ∃ h, h = L.take n.toNat := ⟨_, rfl⟩
  have hhl : h.length ≤ 11 := by rw [hh, List.length_take]; omega
  have hhm : ∀ x ∈ h, x ∈ BIO := fun x hx => hLm x (List.mem_of_mem_take (by rw [← hh]; exact hx))
  rw [← hh]
  have add : ∀ z, z ∈ BIO → ∀ x ∈ h ++ [z], x ∈ BIO := fun z hz x hx => by
    rcases List.mem_append.mp hx with w | w
    · exact hhm x w
    · rw [List.mem_singleton.mp w]
      exact hz
  walk_at "m"
  refine iteD (fun _ => ?_) (fun _ => ?_)
  · have hl : (h ++ [79]).length = h.length + 1 := by simp
    walk_at "mm"
    refine take_p (by omega) fun r r0 r1 r2 => ?_
    have hr2 : r + (h ++ [79]).length ≤ 12 := by
      by_cases h2 : 2 ≤ (13 : Int) - (h ++ [79]).length
      · have := r1 h2
        omega
      · have := r2 (by omega)
        omega
    walk_at "m"
    refine l_letter_text_p (by decide) (by decide) r0 (by omega) fun t ht1 ht2 => ?_
    have hl2 : (h ++ [79] ++ t).length ≤ 12 := by rw [List.length_append]; omega
    walk_at "m"
    refine ⟨by omega, ?_⟩
    walk_at "mm"
    rw [wt_eq]
    refine q _ e (lw_of hl2 (by omega) (by omega) (fun x hx => ?_) he2)
    rcases List.mem_append.mp hx with w | w
    · exact add 79 (by decide) x w
    · exact ht2 x w
  · have hl : (h ++ [73]).length = h.length + 1 := by simp
    walk_at "mm"
    refine take_p (by omega) fun r r0 r1 r2 => ?_
    have hr2 : r + (h ++ [73]).length ≤ 12 := by
      by_cases h2 : 2 ≤ (13 : Int) - (h ++ [73]).length
      · have := r1 h2
        omega
      · have := r2 (by omega)
        omega
    walk_at "m"
    refine l_letter_text_p (by decide) (by decide) r0 (by omega) fun t ht1 ht2 => ?_
    have hl2 : (h ++ [73] ++ t).length ≤ 12 := by rw [List.length_append]; omega
    walk_at "m"
    refine ⟨by omega, ?_⟩
    walk_at "mm"
    rw [wt_eq]
    refine q _ e (lw_of hl2 (by omega) (by omega) (fun x hx => ?_) he2)
    rcases List.mem_append.mp hx with w | w
    · exact add 73 (by decide) x w
    · exact ht2 x w
end W
namespace W
open PySem PySem.Spec PyProof.Rows L2 TL G M
theorem l_full_word_p {Q : D → Prop} {E : Er → Prop} (q : ∀ p c, Lw BIO p c → Q (.str (wt p c))) : l_full_word_M [.deal] Q E := by
  unfold l_full_word_M l_full_word_B
  walk_at "m"
  refine take_p (by decide) fun r r0 r1 r2 => ?_
  walk_at "m"
  refine iteD (fun _ => ?_) (fun _ => ?_)
  · walk_at "m"
    exact l_good_word_p q
  walk_at "m"
  refine iteD (fun _ => ?_) (fun _ => ?_)
  · walk_at "m"
    exact l_ringing_word_p q
  walk_at "m"
  refine l_prefix_size_p fun n n0 n1 => ?_
  walk_at "m"
  refine l_letter_text_p (by decide) (by decide) n0 (by omega) fun p hp1 hp2 => ?_
  walk_at "mm"
  refine l_within_p (by decide) (by decide) fun m m0 m1 => ?_
  walk_at "m"
  refine l_letter_text_p (by decide) (by decide) (by omega) (by omega) fun c hc1 hc2 => ?_
  walk_at "m"
  refine l_filled_p (by omega) (by omega) hc2 fun e he1 he2 => ?_
  walk_at "mm"
  rw [wt_eq]
  exact q p e (lw_of (by omega) (by omega) (by omega) hp2 he2)
end W
namespace W
open PySem PySem.Spec PyProof.Rows L2 TL G M
theorem l_starving_word_p {Q : D → Prop} {E : Er → Prop} (q : ∀ p c, Lw BIO p c → Q (.str (wt p c))) : l_starving_word_M [.deal] Q E := by
  unfold l_starving_word_M l_starving_word_B
  walk_at "m"
  refine l_prefix_size_p fun n n0 n1 => ?_
  walk_at "m"
  refine l_letter_text_p (by decide) (by decide) n0 (by omega) fun p hp1 hp2 => ?_
  walk_at "mm"
  refine l_pick_s (by decide) (by decide) fun x hx => ?_
  walk_at "m"
  refine l_within_p (by decide) (by decide) fun m m0 m1 => ?_
  have hr : (rep [x] m.toNat).length = m.toNat := by rw [rep_len]; simp
  walk_at "mm"
  rw [wt_eq]
  refine q p _ (lw_of (by omega) (by omega) (by omega) hp2 ?_)
  refine rep_mem (fun y hy => ?_) _
  rw [List.mem_singleton.mp hy]
  revert hx
  simp
  omega
end W
namespace W
open PySem PySem.Spec PyProof.Rows L2 TL G M
theorem same_loop1 {De : Ms} {p c w : List Nat} {d2 : Option D} {n : Nat} {q e : List Nat} {y0 : Option D} (hw : Lw BIO q e) (hs : ∀ k, latN q e k = latN p c k)
    (h : ∀ (q' e' : List Nat) (y : Option D), Lw BIO q' e' → (∀ k, latN q' e' k = latN p c k) → De.nx [some .deal, some (.str w), d2, some (.str q'), some (.str e'), y]) :
    loop (tgName 5) (sIf (cTest (eOp dLt (eFn dLen (aCons (eVar 3) aNil)) (eC (.int 12)))) (sSeq (sSet 3 (eOp dAdd (eVar 3) (eOp dIx (eVar 4) (eC (.int 0))))) (sSet 4 (eOp dAdd (eSl dSl (eVar 4) (pEx (eC (.int 1))) pNo) (eOp dIx (eVar 4) (eC (.int 0)))))) sNext) De (rngD 0 n) [some .deal, some (.str w), d2, some (.str q), some (.str e), y0] := by
  refine loop_rng (fun i ρ => ∃ q e y, Lw BIO q e ∧ (∀ k, latN q e k = latN p c k) ∧ ρ = [some .deal, some (.str w), d2, some (.str q), some (.str e), y]) ⟨q, e, _, hw, hs, rfl⟩ ?_ ?_
  · rintro i ρ hi ⟨q, e, y, hw, hs, rfl⟩
    have p12 := hw.p12
    have c4 := hw.c4
    obtain ⟨a, t, rfl⟩ : ∃ a t, e = a :: t := by
      cases e with
      | nil => exact absurd hw.c1 (by decide)
      | cons a t => exact ⟨a, t, rfl⟩
    have hl : (a :: t).length = t.length + 1 := rfl
    walk_at "mm"
    refine iteD (fun h12 => ?_) (fun h12 => ?_)
    · walk_at "mm"
      refine ix_s (c := a) (by omega) (by decide) rfl ?_
      walk_at "mm"
      rw [cutD_from _ _ (by decide)]
      walk_at "mm"
      refine ix_s (c := a) (by omega) (by decide) rfl ?_
      walk_at "m"
      show _ ∧ _
      refine ⟨by simp; omega, q ++ [a], t ++ [a], _, lw_of (by simp; omega) (by simp) (by simp; omega) (fun x hx => ?_) (fun x hx => ?_), fun k => ?_, rfl⟩
      · rcases List.mem_append.mp hx with z | z
        · exact hw.pl x z
        · rw [List.mem_singleton.mp z]
          exact hw.cl a List.mem_cons_self
      · rcases List.mem_append.mp hx with z | z
        · exact hw.cl x (List.mem_cons_of_mem _ z)
        · rw [List.mem_singleton.mp z]
          exact hw.cl a List.mem_cons_self
      · rw [← latN_rot]
        exact hs k
    · walk_at "m"
      exact ⟨q, a :: t, _, hw, hs, rfl⟩
  · rintro ρ ⟨q, e, y, hw, hs, rfl⟩
    exact h q e y hw hs
theorem same_loop2 {De : Ms} {p c w : List Nat} {d2 : Option D} {n : Nat} {q e : List Nat} {y0 : Option D} (hw : Lw BIO q e) (hs : ∀ k, latN q e k = latN p c k)
    (h : ∀ (q' e' : List Nat) (y : Option D), Lw BIO q' e' → (∀ k, latN q' e' k = latN p c k) → De.nx [some .deal, some (.str w), d2, some (.str q'), some (.str e'), y]) :
    loop (tgName 5) (sIf (cAnd (cTest (eOp dNe (eVar 3) (eC (.str [])))) (cTest (eOp dEq (eOp dIx (eVar 3) (eUn dNeg (eC (.int 1)))) (eOp dIx (eVar 4) (eUn dNeg (eC (.int 1))))))) (sSeq (sSet 3 (eSl dSl (eVar 3) pNo (pEx (eUn dNeg (eC (.int 1)))))) (sSet 4 (eOp dAdd (eOp dIx (eVar 4) (eUn dNeg (eC (.int 1)))) (eSl dSl (eVar 4) pNo (pEx (eUn dNeg (eC (.int 1)))))))) sNext) De (rngD 0 n) [some .deal, some (.str w), d2, some (.str q), some (.str e), y0] := by
  refine loop_rng (fun i ρ => ∃ q e y, Lw BIO q e ∧ (∀ k, latN q e k = latN p c k) ∧ ρ = [some .deal, some (.str w), d2, some (.str q), some (.str e), y]) ⟨q, e, _, hw, hs, rfl⟩ ?_ ?_
  · rintro i ρ hi ⟨q, e, y, hw, hs, rfl⟩
    have p12 := hw.p12
    have c4 := hw.c4
    have c1 := hw.c1
    rcases List.eq_nil_or_concat q with rfl | ⟨q0, a, rfl⟩
    · walk_at "m"
      refine iteNM (fun h => absurd rfl h) fun _ => ?_
      walk_at "m"
      exact ⟨[], e, _, hw, hs, rfl⟩
    · rw [List.concat_eq_append] at *
      have hql : (q0 ++ [a]).length = q0.length + 1 := by simp
      obtain ⟨e0, b, rfl⟩ : ∃ e0 b, e = e0 ++ [b] := by
        rcases List.eq_nil_or_concat e with rfl | ⟨e0, b, rfl⟩
        · cases c1
        · exact ⟨e0, b, by rw [List.concat_eq_append]⟩
      have hel : (e0 ++ [b]).length = e0.length + 1 := by simp
      walk_at "m"
      refine iteNM (fun _ => ?_) fun h => absurd h (by simp)
      walk_at "m"
      refine ix_last (by omega) hql (c := a) (by simp) ?_
      walk_at "m"
      refine ix_last (by omega) hel (c := b) (by simp) ?_
      walk_at "m"
      refine iteD (fun hab => ?_) (fun hab => ?_)
      · injection hab with hab
        subst hab
        walk_at "mm"
        rw [cutD_butlast, List.dropLast_concat]
        walk_at "mm"
        refine ix_last (by omega) hel (c := a) (by simp) ?_
        walk_at "mm"
        rw [cutD_butlast, List.dropLast_concat]
        walk_at "m"
        show _ ∧ _
        refine ⟨by simp; omega, q0, a :: e0, _, lw_of (by omega) (by simp) (by simp; omega) (fun x hx => hw.pl x (List.mem_append_left _ hx)) (fun x hx => ?_), fun k => ?_, rfl⟩
        · rcases List.mem_cons.mp hx with rfl | z
          · exact hw.cl _ (List.mem_append_right _ List.mem_cons_self)
          · exact hw.cl x (List.mem_append_left _ z)
        · rw [latN_rot]
          exact hs k
      · walk_at "m"
        exact ⟨_, _, _, hw, hs, rfl⟩
  · rintro ρ ⟨q, e, y, hw, hs, rfl⟩
    exact h q e y hw hs
theorem l_same_text_p {p c : List Nat} {Q : D → Prop} {E : Er → Prop} (hw : Lw BIO p c) (q : ∀ q e, Lw BIO q e → (∀ k, latN q e k = latN p c k) → Q (.str (wt q e))) : l_same_text_M [.deal, .str (wt p c)] Q E := by
  have p12 := hw.p12
  have c1 := hw.c1
  have c4 := hw.c4
  unfold l_same_text_M l_same_text_B
  walk_at "m"
  refine l_split_p (hw.no40 (by decide)) (by omega) (by omega) ?_
  walk_at "mm"
  refine iteD (fun h1 => ?_) (fun h1 => ?_)
  · walk_at "m"
    refine l_within_p (by decide) (by decide) fun n n0 n1 => ?_
    have hr : (rep c n.toNat).length = n.toNat * c.length := rep_len c _
    have hc : c.length = 1 := by omega
    rw [hc, Nat.mul_one] at hr
    walk_at "m"
    refine ⟨⟨by omega, by omega, by rw [hc]; omega⟩, ?_⟩
    have hwe : Lw BIO p (rep c n.toNat) := lw_of p12 (by omega) (by omega) hw.pl (rep_mem hw.cl _)
    have hs : ∀ k, latN p (rep c n.toNat) k = latN p c k := rep_lat p c (by omega) c1
    generalize rep c n.toNat = e at hwe hs
    walk_at "m"
    refine take_p (by decide) fun r r0 r1 r2 => ?_
    have := r1 (by decide)
    walk_at "m"
    refine ⟨smr (by omega), same_loop1 hwe hs fun q' e' y hw' hs' => ?_⟩
    walk_at "m"
    refine take_p (by decide) fun r r0 r1 r2 => ?_
    have := r1 (by decide)
    walk_at "m"
    refine ⟨smr (by omega), same_loop2 hw' hs' fun q' e' y hw' hs' => ?_⟩
    walk_at "m"
    have := hw'.p12
    have := hw'.c4
    exact l_pair_text_p (by omega) (by omega) (q q' e' hw' hs')
  walk_at "mm"
  refine iteD (fun h2 => ?_) (fun h2 => ?_)
  · walk_at "m"
    refine l_within_p (by decide) (by decide) fun n n0 n1 => ?_
    have hr : (rep c n.toNat).length = n.toNat * c.length := rep_len c _
    have hc : c.length = 2 := by omega
    rw [hc] at hr
    walk_at "m"
    refine ⟨⟨by omega, by omega, by rw [hc]; omega⟩, ?_⟩
    have hwe : Lw BIO p (rep c n.toNat) := lw_of p12 (by omega) (by omega) hw.pl (rep_mem hw.cl _)
    have hs : ∀ k, latN p (rep c n.toNat) k = latN p c k := rep_lat p c (by omega) c1
    generalize rep c n.toNat = e at hwe hs
    walk_at "m"
    refine take_p (by decide) fun r r0 r1 r2 => ?_
    have := r1 (by decide)
    walk_at "m"
    refine ⟨smr (by omega), same_loop1 hwe hs fun q' e' y hw' hs' => ?_⟩
    walk_at "m"
    refine take_p (by decide) fun r r0 r1 r2 => ?_
    have := r1 (by decide)
    walk_at "m"
    refine ⟨smr (by omega), same_loop2 hw' hs' fun q' e' y hw' hs' => ?_⟩
    walk_at "m"
    have := hw'.p12
    have := hw'.c4
    exact l_pair_text_p (by omega) (by omega) (q q' e' hw' hs')
  · walk_at "m"
    refine take_p (by decide) fun r r0 r1 r2 => ?_
    have := r1 (by decide)
    walk_at "m"
    refine ⟨smr (by omega), same_loop1 hw (fun _ => rfl) fun q' e' y hw' hs' => ?_⟩
    walk_at "m"
    refine take_p (by decide) fun r r0 r1 r2 => ?_
    have := r1 (by decide)
    walk_at "m"
    refine ⟨smr (by omega), same_loop2 hw' hs' fun q' e' y hw' hs' => ?_⟩
    walk_at "m"
    have := hw'.p12
    have := hw'.c4
    exact l_pair_text_p (by omega) (by omega) (q q' e' hw' hs')
end W
namespace W
open PySem PySem.Spec PyProof.Rows L2 TL G M
theorem thrifty_loop {De : Ms} {n : Nat} (h : ∀ (p : List Nat) (y z : Option D), p.length ≤ 12 → (∀ x ∈ p, x ∈ BIO) → De.nx [some .deal, some (.str p), y, z, none, none]) :
    loop (tgName 2) (sSeq (sSet 3 (eCall 2 l_pick_M (aCons (eVar 0) (aCons (eFn dLst (aCons (eC (.str [66])) (aCons (eC (.str [73, 79])) aNil))) aNil)))) (sIf (cTest (eOp dLe (eOp dAdd (eFn dLen (aCons (eVar 1) aNil)) (eFn dLen (aCons (eVar 3) aNil))) (eC (.int 12)))) (sSet 1 (eOp dAdd (eVar 1) (eVar 3))) sNext)) De (rngD 0 n) [some .deal, some (.str []), none, none, none, none] := by
  refine loop_rng (fun i ρ => ∃ (p : List Nat) (y z : Option D), p.length ≤ 12 ∧ (∀ x ∈ p, x ∈ BIO) ∧ ρ = [some .deal, some (.str p), y, z, none, none]) ⟨[], _, _, by decide, (fun _ z => by cases z), rfl⟩ ?_ ?_
  · rintro i ρ hi ⟨p, y, z, hp, hm, rfl⟩
    walk_at "m"
    refine l_pick_l (by simp) (by simp) fun d hd => ?_
    have hd2 : ∃ e : List Nat, d = .str e ∧ e.length ≤ 2 ∧ ∀ x ∈ e, x ∈ BIO := by
      simp only [List.mem_cons, List.not_mem_nil, or_false] at hd
      rcases hd with rfl | rfl <;> exact ⟨_, rfl, by decide, by decide⟩
    obtain ⟨e, rfl, e4, em⟩ := hd2
    walk_at "mm"
    refine iteD (fun h12 => ?_) (fun h12 => ?_)
    · walk_at "m"
      refine ⟨by omega, ?_⟩
      walk_at "m"
      refine ⟨p ++ e, _, _, by rw [List.length_append]; omega, fun x hx => ?_, rfl⟩
      rcases List.mem_append.mp hx with w | w
      · exact hm x w
      · exact em x w
    · walk_at "m"
      exact ⟨p, _, _, hp, hm, rfl⟩
  · rintro ρ ⟨p, y, z, hp, hm, rfl⟩
    exact h p y z hp hm
theorem l_thrifty_word_p {Q : D → Prop} {E : Er → Prop} (q : ∀ p c, Lw BIO p c → Q (.str (wt p c))) : l_thrifty_word_M [.deal] Q E := by
  unfold l_thrifty_word_M l_thrifty_word_B
  walk_at "m"
  refine l_prefix_size_p fun n n0 n1 => ?_
  walk_at "m"
  refine ⟨smr (by omega), thrifty_loop fun p y z hp hm => ?_⟩
  walk_at "mm"
  refine l_pick_l (by simp) (by simp) fun d hd => ?_
  have hd2 : ∃ e : List Nat, d = .str e ∧ 1 ≤ e.length ∧ e.length ≤ 4 ∧ ∀ x ∈ e, x ∈ BIO := by
    simp only [List.mem_cons, List.not_mem_nil, or_false] at hd
    rcases hd with rfl | rfl | rfl | rfl | rfl | rfl | rfl | rfl | rfl | rfl | rfl <;> exact ⟨_, rfl, by decide, by decide, by decide⟩
  obtain ⟨e, rfl, e1, e4, em⟩ := hd2
  have hw : Lw BIO p e := lw_of hp e1 e4 hm em
  walk_at "mm"
  rw [wt_eq]
  refine take_p (by decide) fun r r0 r1 r2 => ?_
  walk_at "m"
  refine iteD (fun _ => ?_) (fun _ => ?_)
  · walk_at "m"
    exact l_same_text_p hw fun q' e' h _ => q q' e' h
  · walk_at "m"
    exact q p e hw
end W
namespace W
open PySem PySem.Spec PyProof.Rows L2 TL G M
theorem l_word_of_p {w : List Nat} {Q : D → Prop} {E : Er → Prop} (q : ∀ p c, Lw BIO p c → Q (.str (wt p c))) : l_word_of_M [.deal, .str w] Q E := by
  have q1 : Q (.str [40, 66, 41]) := q [] [66] (lw_of (by decide) (by decide) (by decide) (by decide) (by decide))
  unfold l_word_of_M l_word_of_B
  walk_at "m"
  refine take_p (by decide) fun r r0 r1 r2 => ?_
  repeat' (first
    | exact q1
    | with_reducible exact q _ _ (by assumption)
    | with_reducible exact l_ringing_word_p q
    | with_reducible exact l_starving_word_p q
    | with_reducible exact l_thrifty_word_p q
    | with_reducible exact l_good_word_p q
    | with_reducible exact l_full_word_p q
    | with_reducible exact l_free_word_p q
    | refine M.gm ?_
    | with_reducible refine iteD (fun _ => ?_) (fun _ => ?_)
    | with_reducible refine iteDM (fun _ => ?_) (fun _ => ?_)
    | with_reducible refine l_starving_word_p fun _ _ _ => ?_
    | with_reducible refine l_ringing_word_p fun _ _ _ => ?_)
  all_goals
    refine l_pick_l (by simp) (by simp) fun d hd => ?_
    simp only [List.mem_cons, List.not_mem_nil, or_false] at hd
    rcases hd with rfl | rfl <;> exact q _ _ (by assumption)
end W
namespace W
open PySem PySem.Spec PyProof.Rows L2 TL G M
theorem lw_set {p c : List Nat} {x : Nat} {i : Nat} (h : Lw BIO p c) (hx : x ∈ BIO) (hi : i < c.length) : Lw BIO p (c.take i ++ [x] ++ c.drop (i + 1)) := by
  have hl : (c.take i ++ [x] ++ c.drop (i + 1)).length = c.length := by
    rw [List.length_append, List.length_append, List.length_take, List.length_drop]
    show min i c.length + 1 + (c.length - (i + 1)) = c.length
    omega
  refine lw_of h.p12 (by rw [hl]; exact h.c1) (by rw [hl]; exact h.c4) h.pl fun y hy => ?_
  rcases List.mem_append.mp hy with z | z
  · rcases List.mem_append.mp z with z | z
    · exact h.cl y (List.mem_of_mem_take z)
    · rw [List.mem_singleton.mp z]
      exact hx
  · exact h.cl y (List.mem_of_mem_drop z)
theorem firsts_mem {p c : List Nat} {n : Nat} (h : Lw BIO p c) : ∀ x ∈ (List.range n).map (latN p c), x ∈ BIO := fun x hx => by
  obtain ⟨k, _, rfl⟩ := List.mem_map.mp hx
  exact latN_mem h k
theorem l_late_pair_p {Q : D → Prop} {E : Er → Prop} (q : ∀ p c p2 c2, Lw BIO p c → Lw BIO p2 c2 → Q (.lst [.str (wt p c), .str (wt p2 c2)])) : l_late_pair_M [.deal] Q E := by
  unfold l_late_pair_M l_late_pair_B
  walk_at "m"
  refine l_word_of_p fun p c hw => ?_
  have p12 := hw.p12
  have c1 := hw.c1
  have c4 := hw.c4
  walk_at "m"
  refine l_edge_p (by decide) (by decide) fun n n0 n1 => ?_
  walk_at "m"
  refine l_split_p (hw.no40 (by decide)) (by omega) (by omega) ?_
  walk_at "m"
  refine take_p (by decide) fun r r0 r1 r2 => ?_
  walk_at "m"
  have fl : ((List.range n.toNat).map (latN p c)).length ≤ 12 := by rw [List.length_map, List.length_range]; omega
  refine iteD (fun _ => ?_) (fun _ => ?_)
  · walk_at "m"
    refine l_within_p (by decide) (by decide) fun m m0 m1 => ?_
    walk_at "m"
    refine l_letter_text_p (by decide) (by decide) (by omega) (by omega) fun e he1 he2 => ?_
    walk_at "m"
    refine l_first_marks_p (hw.no40 (by decide)) (by omega) c1 (by omega) n0 (by omega) ?_
    walk_at "mm"
    rw [wt_eq]
    exact q p c _ e hw (lw_of fl (by omega) (by omega) (firsts_mem hw) he2)
  · walk_at "mm"
    refine take_p (by omega) fun i i0 i1 i2 => ?_
    have hi : i.toNat < c.length := by
      by_cases h : 2 ≤ (c.length : Int)
      · have := i1 h
        omega
      · have := i2 (by omega)
        omega
    walk_at "mm"
    rw [cutD_to _ _ i0]
    refine l_pick_s (by decide) (by decide) fun x hx => ?_
    walk_at "m"
    refine ⟨by rw [List.length_take]; show min _ _ + 1 ≤ _; omega, ?_⟩
    walk_at "mm"
    rw [cutD_from _ _ (by omega), show (i + 1).toNat = i.toNat + 1 by omega]
    have hw2 := lw_set hw hx hi
    have := hw2.c4
    refine ⟨by rw [← List.length_append]; omega, ?_⟩
    walk_at "m"
    refine l_first_marks_p (hw.no40 (by decide)) (by omega) c1 (by omega) n0 (by omega) ?_
    walk_at "mm"
    rw [wt_eq]
    exact q p c _ _ hw (lw_of fl hw2.c1 hw2.c4 (firsts_mem hw) hw2.cl)
end W
namespace W
open PySem PySem.Spec PyProof.Rows L2 TL G M
theorem huge_loop {De : Ms} {n r : Int} (h : ∀ (x : Int) (y : Option D), 0 ≤ x → De.nx [some .deal, some (.int r), some (.int n), some (.int x), y]) : loop (tgName 4) (sSet 3 (eOp dAdd (eOp dMul (eVar 3) (eC (.int 100000000))) (eCall 2 l_take_M (aCons (eVar 0) (aCons (eC (.int 100000000)) aNil))))) De (rngD 0 n.toNat) [some D.deal, some (.int r), some (.int n), some (.int 0), none] := by
  refine loop_rng (fun i ρ => ∃ (x : Int) (y : Option D), 0 ≤ x ∧ ρ = [some .deal, some (.int r), some (.int n), some (.int x), y]) ⟨_, _, by decide, rfl⟩ ?_ ?_
  · rintro i ρ hi ⟨x, y, x0, rfl⟩
    walk_at "m"
    refine ⟨.inr (smi (by decide)), ?_⟩
    walk_at "m"
    refine take_p (by decide) fun r r0 r1 r2 => ?_
    walk_at "m"
    exact ⟨_, _, by omega, rfl⟩
  · rintro ρ ⟨x, y, x0, rfl⟩
    exact h x y x0
theorem l_huge_p {Q : D → Prop} {E : Er → Prop} (q : ∀ r : Int, 0 ≤ r → Q (.int r)) : l_huge_M [.deal] Q E := by
  unfold l_huge_M l_huge_B
  walk_at "m"
  refine take_p (by decide) fun r r0 r1 r2 => ?_
  walk_at "m"
  refine iteD (fun _ => ?_) (fun _ => ?_)
  · walk_at "m"
    exact take_p (by decide) fun r r0 r1 r2 => q r r0
  walk_at "m"
  refine iteD (fun _ => ?_) (fun _ => ?_)
  · walk_at "m"
    exact take_p (by decide) fun r r0 r1 r2 => q r r0
  walk_at "m"
  refine iteD (fun _ => ?_) (fun _ => ?_)
  · walk_at "m"
    refine l_pick_l (by simp) (by simp) fun d hd => ?_
    simp only [List.mem_cons, List.not_mem_nil, or_false] at hd
    rcases hd with rfl | rfl | rfl | rfl | rfl | rfl | rfl | rfl <;> exact q _ (by omega)
  walk_at "m"
  refine iteD (fun _ => ?_) (fun _ => ?_)
  · walk_at "m"
    refine l_within_p (by decide) (by decide) fun n n0 n1 => ?_
    walk_at "m"
    refine ⟨smr (by omega), huge_loop fun x y hx => ?_⟩
    walk_at "m"
    exact q _ hx
  · walk_at "m"
    refine ⟨smr (by omega), huge_loop fun x y hx => ?_⟩
    walk_at "m"
    exact q _ hx
end W
namespace W
open PySem PySem.Spec PyProof.Rows L2 TL G M
theorem l_parting_p {p c p2 c2 : List Nat} {Q : D → Prop} {E : Er → Prop} (hw : Lw BIO p c) (hw2 : Lw BIO p2 c2) (q : ∀ u, DiffD p c p2 c2 u → Q u) : l_parting_M [.str (wt p c), .str (wt p2 c2)] Q E := by
  have a1 := hw.p12
  have a2 := hw.c1
  have a3 := hw.c4
  have b1 := hw2.p12
  have b2 := hw2.c1
  have b3 := hw2.c4
  unfold l_parting_M l_parting_B
  walk_at "m"
  refine l_split_p (hw.no40 (by decide)) (by omega) (by omega) ?_
  walk_at "m"
  refine l_split_p (hw2.no40 (by decide)) (by omega) (by omega) ?_
  walk_at "mm"
  refine loop_rng (fun i ρ => (∃ y, ρ = [some (.str (wt p c)), some (.str (wt p2 c2)), some (.lst [.str p, .str c]), some (.lst [.str p2, .str c2]), y]) ∧ ∀ k, k < i → latN p c k = latN p2 c2 k) ⟨⟨_, rfl⟩, fun k h => by omega⟩ ?_ ?_
  · rintro i ρ hi ⟨⟨y, rfl⟩, no⟩
    rw [Int.zero_add]
    walk_at "m"
    refine l_mark_at_p (by omega) (by omega) a2 (by omega) ?_
    rw [lat_N]
    walk_at "m"
    refine l_mark_at_p (by omega) (by omega) b2 (by omega) ?_
    rw [lat_N]
    walk_at "m"
    refine iteN (fun h3 => ?_) (fun h3 => ?_)
    · walk_at "m"
      have hne : latN p c i ≠ latN p2 c2 i := fun z => h3 (by rw [z])
      refine q _ (.inr ⟨i, rfl, ?_, no, hne⟩)
      by_cases h24 : i < 24
      · exact h24
      · exact absurd (eq24 a1 b1 a2 a3 b2 b3 (fun k hk => no k (by omega)) i) hne
    · walk_at "m"
      refine ⟨⟨_, rfl⟩, fun k hk => ?_⟩
      by_cases hki : k < i
      · exact no k hki
      · have : k = i := by omega
        subst this
        exact (List.cons.inj h3).1
  · rintro ρ ⟨⟨y, rfl⟩, no⟩
    walk_at "m"
    have no' : ∀ k, k < 60 → latN p c k = latN p2 c2 k := no
    exact q _ (.inl ⟨rfl, eq24 a1 b1 a2 a3 b2 b3 fun k hk => no' k (by omega)⟩)
end W
namespace W
open PySem PySem.Spec PyProof.Rows L2 TL G M
theorem p_fresh_p : ∀ (n m : Nat) {d : D} {k : Int} {Q : D → Prop} {E : Er → Prop}, 0 ≤ k → k < n → datN m d = true → Q d → p_fresh_M n [d, .int k] Q E
  | 0, _, d, k, Q, E, h0, h1, _, _ => by omega
  | n + 1, m, d, k, Q, E, h0, h1, hd, q => by
    unfold p_fresh_M
    walk_at "m"
    refine iteD (fun h => ?_) (fun h => ?_)
    · walk_at "m"
      exact q
    cases d with
    | lst ds =>
      obtain ⟨m', rfl, hl, hm⟩ := datN_lst hd
      walk_at "mm"
      refine lc_map (f := id) (fun x hx Q' q' => ?_) ?_
      · walk_at "m"
        exact p_fresh_p n m' (by omega) (by omega) (hm x hx) q'
      · rw [List.map_id]
        exact q
    | tup ds =>
      obtain ⟨m', rfl, hl, hm⟩ := datN_tup hd
      walk_at "mm"
      refine lc_map (f := id) (fun x hx Q' q' => ?_) ?_
      · walk_at "m"
        exact p_fresh_p n m' (by omega) (by omega) (hm x hx) q'
      · rw [List.map_id]
        walk_at "m"
        exact q
    | non => walk_at "m"; exact q
    | bl b => walk_at "m"; exact q
    | int i => walk_at "m"; exact q
    | str l => walk_at "m"; exact q
    | _ => cases m <;> simp [datN] at hd
end W
namespace W
open PySem PySem.Spec PyProof.Rows L2 TL G M
theorem m_NumberError_init_p {m : Nat} {d : D} {Q : D → Prop} {E : Er → Prop} (hd : datN m d = true) (q : Q d) : m_NumberError_init_M d Q E := by
  unfold m_NumberError_init_M
  walk_at "m"
  exact p_fresh_p 10 m (by decide) (by decide) hd q
end W
namespace W
open PySem PySem.Spec PyProof.Rows L2 TL G M
theorem p_check_number_p {n least : Int} {mo : D} {Q : D → Prop} {E : Er → Prop} (hm : mo = .non ∨ ∃ M, mo = .int M ∧ n ≤ M) (h : least ≤ n) (q : Q .non) : p_check_number_M [.int n, .int least, mo] Q E := by
  unfold p_check_number_M p_check_number_B
  walk_at "m"
  refine iteDM (fun h3 => by omega) (fun _ => ?_)
  rcases hm with rfl | ⟨M, rfl, hM⟩
  · walk_at "m"
    exact q
  · walk_at "m"
    refine iteD (fun h3 => by omega) (fun _ => ?_)
    walk_at "m"
    exact q
theorem p_check_number_b {m : Nat} {d : D} {least : Int} {mo : D} {Q : D → Prop} {E : Er → Prop} (hm : mo = .non ∨ ∃ M, mo = .int M) (hd : datN m d = true) (hb : badND d least mo) (q : E (.e1 "NumberError" "at_number" d)) : p_check_number_M [d, .int least, mo] Q E := by
  unfold p_check_number_M p_check_number_B
  cases d with
  | int n =>
    walk_at "m"
    rcases hb with hb | ⟨M, rfl, hb⟩
    · refine iteDM (fun _ => ?_) (fun h3 => absurd hb h3)
      walk_at "m"
      exact m_NumberError_init_p hd q
    · refine iteDM (fun _ => ?_) (fun _ => ?_)
      · walk_at "m"
        exact m_NumberError_init_p hd q
      · walk_at "m"
        refine iteD (fun _ => ?_) (fun h3 => absurd hb h3)
        walk_at "m"
        exact m_NumberError_init_p hd q
  | non => walk_at "m"; exact m_NumberError_init_p hd q
  | bl b => walk_at "m"; exact m_NumberError_init_p hd q
  | str l => walk_at "m"; exact m_NumberError_init_p hd q
  | lst l => walk_at "m"; exact m_NumberError_init_p hd q
  | tup l => walk_at "m"; exact m_NumberError_init_p hd q
  | _ => cases m <;> simp [datN] at hd
end W
namespace W
open PySem PySem.Spec PyProof.Rows L2 TL G M
theorem p_made_of_p {t ls : List Nat} {a b : Int} {Q : D → Prop} {E : Er → Prop} (ht : t.length ≤ 1000000) (q : ∀ r : Bool, (r = true ↔ (a ≤ t.length ∧ (t.length : Int) ≤ b ∧ ∀ c ∈ t, c ∈ ls)) → Q (.bl r)) : p_made_of_M [.str t, .str ls, .int a, .int b] Q E := by
  unfold p_made_of_M p_made_of_B
  walk_at "mm"
  refine iteDM (fun h3 => ?_) (fun h3 => ?_)
  · walk_at "mm"
    exact q _ ⟨(fun z => by cases z), fun z => by omega⟩
  walk_at "mm"
  refine iteD (fun h4 => ?_) (fun h4 => ?_)
  · walk_at "mm"
    exact q _ ⟨(fun z => by cases z), fun z => by omega⟩
  walk_at "mm"
  refine lc_of (F := fun c => .bl (decide (c ∈ ls))) (fun c hc Q' q' => ?_) ?_
  · walk_at "m"
    exact q'
  walk_at "mm"
  rw [blsD_of]
  walk_at "m"
  refine q _ ?_
  rw [List.all_map, List.all_eq_true]
  constructor
  · exact fun hh => ⟨by omega, by omega, fun c hc => of_decide_eq_true (hh c hc)⟩
  · exact fun ⟨_, _, hh⟩ c hc => decide_eq_true (hh c hc)
end W
namespace W
open PySem PySem.Spec PyProof.Rows L2 TL G M
theorem p_are_parts_p {p c ls : List Nat} {Q : D → Prop} {E : Er → Prop} (hp : p.length ≤ 1000000) (hc : c.length ≤ 1000000) (q : ∀ r : Bool, (r = true ↔ Lw ls p c) → Q (.bl r)) : p_are_parts_M [.str p, .str c, .str ls] Q E := by
  unfold p_are_parts_M p_are_parts_B
  walk_at "mm"
  refine p_made_of_p hp fun r h1 => ?_
  walk_at "mm"
  refine iteBN (fun h3 => ?_) (fun h3 => ?_)
  · walk_at "m"
    refine q _ ⟨(fun z => by cases z), fun z => ?_⟩
    have : r = true := h1.mpr ⟨by omega, by have := z.p12; omega, z.pl⟩
    rw [this] at h3
    cases h3
  · walk_at "m"
    refine p_made_of_p hc fun r2 h2 => ?_
    refine q _ ?_
    obtain ⟨a1, a2, a3⟩ := h1.mp h3
    constructor
    · intro z
      obtain ⟨b1, b2, b3⟩ := h2.mp z
      exact ⟨by omega, by omega, by omega, a3, b3⟩
    · intro z
      exact h2.mpr ⟨by have := z.c1; omega, by have := z.c4; omega, z.cl⟩
end W
namespace W
open PySem PySem.Spec PyProof.Rows L2 TL G M
theorem p_text_parts_p {p c ls : List Nat} {Q : D → Prop} {E : Er → Prop} (h40 : 40 ∉ ls) (hw : Lw ls p c) (q : Q (.tup [.str p, .str c])) : p_text_parts_M [.str (wt p c), .str ls] Q E := by
  unfold p_text_parts_M p_text_parts_B
  walk_at "mm"
  have hl : (wt p c).length ≤ 1000000 := by rw [wt_len]; have := hw.p12; have := hw.c4; omega
  have he : (wt p c).getLast? = some 41 := by
    have e : wt p c = (p ++ 40 :: c) ++ [41] := by unfold wt; simp
    rw [e, List.getLast?_append]
    rfl
  rw [decide_eq_true he]
  walk_at "mm"
  have e0 : wt p c = p ++ 40 :: (c ++ [41]) := rfl
  have hcl : (c ++ [41]).length ≤ 1000000 := by simp; have := hw.c4; omega
  rw [e0, cutAt_of (hw.no40 h40)]
  walk_at "mm"
  rw [cutD_butlast, List.dropLast_concat]
  walk_at "mm"
  refine iteDM (fun h3 => by cases h3) (fun h3 => ?_)
  walk_at "mm"
  refine p_are_parts_p (by have := hw.p12; omega) (by have := hw.c4; omega) fun r hr => ?_
  rw [hr.mpr hw]
  walk_at "mm"
  exact q
theorem p_text_parts_b {v : D} {ls : List Nat} {Q : D → Prop} {E : Er → Prop} (h40 : 40 ∉ ls) (hb : BadD ls v) (q : E (.e0 "WordError")) : p_text_parts_M [v, .str ls] Q E := by
  unfold p_text_parts_M p_text_parts_B
  cases hb with
  | ns h =>
    walk_at "mm"
    exact q
  | @txt l hl hb =>
    walk_at "mm"
    refine iteBN (fun h3 => ?_) (fun h3 => ?_)
    · walk_at "mm"
      exact q
    have h3 : l.getLast? = some 41 := of_decide_eq_true h3
    walk_at "mm"
    by_cases h4 : 40 ∈ l
    · obtain ⟨p, r, e, hp, e2⟩ := cutAt_ex h4
      rw [e2]
      have hlr : l.length = p.length + r.length + 1 := by rw [e]; simp; omega
      walk_at "mm"
      rw [cutD_butlast]
      walk_at "mm"
      refine iteDM (fun h5 => by cases h5) (fun h5 => ?_)
      walk_at "mm"
      refine p_are_parts_p (by omega) (by rw [List.length_dropLast]; omega) fun b hr => ?_
      have : b = false := by
        cases b with
        | false => rfl
        | true =>
          have hw := hr.mp rfl
          refine absurd ?_ (hb p r.dropLast hw)
          rw [e]
          unfold wt
          congr 2
          rcases List.eq_nil_or_concat r with rfl | ⟨r0, b, rfl⟩
          · rw [e, List.getLast?_append] at h3
            simp at h3
          · rw [List.concat_eq_append] at e ⊢
            have e' : l = (p ++ 40 :: r0) ++ [b] := by rw [e]; simp
            rw [e', List.getLast?_append] at h3
            have h7 : b = 41 := by simpa using h3
            rw [List.dropLast_concat, h7]
      subst this
      walk_at "mm"
      exact q
    · rw [cutAt_no h4]
      walk_at "mm"
      rw [cutD_butlast]
      walk_at "mm"
      refine iteDM (fun _ => ?_) (fun h5 => absurd rfl h5)
      walk_at "mm"
      exact q
end W
namespace W
open PySem PySem.Spec PyProof.Rows L2 TL G M
theorem p_read_word_p {p c : List Nat} {Q : D → Prop} {E : Er → Prop} (hw : Lw BIO p c) (q : Q (.tup [.str p, .str c])) : p_read_word_M [.str (wt p c)] Q E := by
  unfold p_read_word_M p_read_word_B
  walk_at "mm"
  exact p_text_parts_p (by decide) hw q
theorem p_read_word_b {v : D} {Q : D → Prop} {E : Er → Prop} (hb : BadD BIO v) (q : E (.e0 "WordError")) : p_read_word_M [v] Q E := by
  unfold p_read_word_M p_read_word_B
  walk_at "mm"
  exact p_text_parts_b (by decide) hb q
end W
namespace W
open PySem PySem.Spec PyProof.Rows L2 TL G M
theorem firsts (p c : List Nat) (n : Nat) (c1 : 1 ≤ c.length) : (p ++ rep c n).take n = (List.range n).map (latN p c) := by
  have hl : n ≤ (rep c n).length := by
    rw [rep_len]
    have : n * 1 ≤ n * c.length := Nat.mul_le_mul_left _ c1
    omega
  apply List.ext_getElem
  · rw [List.length_take, List.length_append, List.length_map, List.length_range]
    omega
  · intro i h1 h2
    have hi : i < n := by simpa using h2
    rw [List.getElem_take, List.getElem_map, List.getElem_range]
    by_cases hp : i < p.length
    · rw [latN_pre hp, List.getElem_append_left hp, List.getD_eq_getElem?_getD, List.getElem?_eq_getElem hp]
      rfl
    · have hr : i - p.length < n * c.length := by
        have : n * 1 ≤ n * c.length := Nat.mul_le_mul_left _ c1
        omega
      rw [latN_cyc (by omega), List.getElem_append_right (by omega), ← rep_getD c n _ hr, List.getD_eq_getElem?_getD, List.getElem?_eq_getElem (by rw [rep_len]; exact hr)]
      rfl
theorem p_first_letters_p {p c : List Nat} {n : Int} {Q : D → Prop} {E : Er → Prop} (hw : Lw BIO p c) (h0 : 0 ≤ n) (h4 : n ≤ 400) (q : Q (.str ((List.range n.toNat).map (latN p c)))) : p_first_letters_M [.str (wt p c), .int n] Q E := by
  have p12 := hw.p12
  have c1 := hw.c1
  have c4 := hw.c4
  unfold p_first_letters_M p_first_letters_B
  walk_at "mm"
  refine p_check_number_p (.inr ⟨_, rfl, h4⟩) h0 ?_
  walk_at "mm"
  refine p_read_word_p hw ?_
  have hnc : n * (c.length : Int) ≤ 400 * 4 := Int.mul_le_mul h4 (by omega) (by omega) (by decide)
  walk_at "mm"
  have hrl : (rep c n.toNat).length = n.toNat * c.length := rep_len c n.toNat
  have hrl2 : ((n.toNat * c.length : Nat) : Int) = n * c.length := by rw [Int.natCast_mul, Int.toNat_of_nonneg h0]
  refine ⟨by omega, ?_⟩
  walk_at "mm"
  rw [cutD_to _ _ h0, firsts p c _ c1]
  exact q
theorem p_first_letters_b1 {m : Nat} {v k : D} {Q : D → Prop} {E : Er → Prop} (hk : datN m k = true) (hb : badND k 0 (.int 400)) (q : E (.e1 "NumberError" "at_number" k)) : p_first_letters_M [v, k] Q E := by
  unfold p_first_letters_M p_first_letters_B
  cases k <;> (walk_at "mm"; exact p_check_number_b (.inr ⟨_, rfl⟩) hk hb q)
theorem p_first_letters_b2 {v : D} {n : Int} {Q : D → Prop} {E : Er → Prop} (h0 : 0 ≤ n) (h4 : n ≤ 400) (hb : BadD BIO v) (q : E (.e0 "WordError")) : p_first_letters_M [v, .int n] Q E := by
  unfold p_first_letters_M p_first_letters_B
  walk_at "mm"
  refine p_check_number_p (.inr ⟨_, rfl, h4⟩) h0 ?_
  walk_at "mm"
  exact p_read_word_b hb q
end W
namespace W
open PySem PySem.Spec PyProof.Rows L2 TL G M
theorem first24 (f : Nat → Nat) (i : Nat) (hi : i < 24) : ((List.range (24 : Int).toNat).map f)[((i : Nat) : Int).toNat]? = some (f i) := by
  rw [Int.toNat_natCast, List.getElem?_map, List.getElem?_range (show i < (24 : Int).toNat from hi)]
  rfl
theorem p_first_unlike_p {p c p2 c2 : List Nat} {Q : D → Prop} {E : Er → Prop} (hw : Lw BIO p c) (hw2 : Lw BIO p2 c2) (q : ∀ u, DiffD p c p2 c2 u → Q u) : p_first_unlike_M [.str (wt p c), .str (wt p2 c2)] Q E := by
  unfold p_first_unlike_M p_first_unlike_B
  walk_at "mm"
  refine p_first_letters_p hw (by decide) (by decide) ?_
  walk_at "mm"
  refine p_first_letters_p hw2 (by decide) (by decide) ?_
  walk_at "mm"
  refine loop_rng (fun i ρ => (∃ y, ρ = [some (.str (wt p c)), some (.str (wt p2 c2)), some (.str ((List.range (24 : Int).toNat).map (latN p c))), some (.str ((List.range (24 : Int).toNat).map (latN p2 c2))), y]) ∧ ∀ k, k < i → latN p c k = latN p2 c2 k) ⟨⟨_, rfl⟩, fun k h => by omega⟩ ?_ ?_
  · rintro i ρ hi ⟨⟨y, rfl⟩, no⟩
    have hi' : i < 24 := hi
    rw [Int.zero_add]
    walk_at "m"
    refine ix_s (by simp) (by omega) (first24 _ i hi') ?_
    walk_at "m"
    refine ix_s (by simp) (by omega) (first24 _ i hi') ?_
    walk_at "m"
    refine iteN (fun h3 => ?_) (fun h3 => ?_)
    · walk_at "m"
      exact q _ (.inr ⟨i, rfl, hi', no, fun z => h3 (by rw [z])⟩)
    · walk_at "m"
      refine ⟨⟨_, rfl⟩, fun k hk => ?_⟩
      by_cases hki : k < i
      · exact no k hki
      · have : k = i := by omega
        subst this
        exact (List.cons.inj h3).1
  · rintro ρ ⟨⟨y, rfl⟩, no⟩
    walk_at "m"
    exact q _ (.inl ⟨rfl, eq24 hw.p12 hw2.p12 hw.c1 hw.c4 hw2.c1 hw2.c4 fun k hk => no k hk⟩)
theorem p_first_unlike_b1 {v w : D} {Q : D → Prop} {E : Er → Prop} (hb : BadD BIO v) (q : E (.e0 "WordError")) : p_first_unlike_M [v, w] Q E := by
  unfold p_first_unlike_M p_first_unlike_B
  walk_at "mm"
  exact p_first_letters_b2 (by decide) (by decide) hb q
theorem p_first_unlike_b2 {p c : List Nat} {w : D} {Q : D → Prop} {E : Er → Prop} (hw : Lw BIO p c) (hb : BadD BIO w) (q : E (.e0 "WordError")) : p_first_unlike_M [.str (wt p c), w] Q E := by
  unfold p_first_unlike_M p_first_unlike_B
  walk_at "mm"
  refine p_first_letters_p hw (by decide) (by decide) ?_
  walk_at "mm"
  exact p_first_letters_b2 (by decide) (by decide) hb q
end W
namespace W
open PySem PySem.Spec PyProof.Rows L2 TL G M
theorem p_letter_p {p c : List Nat} {n : Int} {Q : D → Prop} {E : Er → Prop} (hw : Lw BIO p c) (hn : 0 ≤ n) (q : Q (.str [lat p c n])) : p_letter_M [.str (wt p c), .int n] Q E := by
  have p12 := hw.p12
  have c1 := hw.c1
  have c4 := hw.c4
  unfold p_letter_M p_letter_B
  walk_at "mm"
  refine p_check_number_p (.inl rfl) hn ?_
  walk_at "mm"
  refine p_read_word_p hw ?_
  walk_at "mm"
  unfold lat at q
  refine iteD (fun h3 => ?_) (fun h3 => ?_)
  · rw [if_pos h3, List.getD_eq_getElem?_getD, List.getElem?_eq_getElem (by omega)] at q
    walk_at "mm"
    exact ix_s (by omega) hn (List.getElem?_eq_getElem (by omega)) q
  · have h4 : 0 ≤ (n - p.length) % c.length := Int.emod_nonneg _ (by omega)
    have h5 : (n - p.length) % c.length < c.length := Int.emod_lt_of_pos _ (by omega)
    rw [if_neg h3, List.getD_eq_getElem?_getD, List.getElem?_eq_getElem (by omega)] at q
    walk_at "mm"
    exact ix_s (by omega) h4 (List.getElem?_eq_getElem (by omega)) q
theorem p_letter_b1 {m : Nat} {v k : D} {Q : D → Prop} {E : Er → Prop} (hk : datN m k = true) (hb : badND k 0 .non) (q : E (.e1 "NumberError" "at_number" k)) : p_letter_M [v, k] Q E := by
  unfold p_letter_M p_letter_B
  cases k <;> (walk_at "mm"; exact p_check_number_b (.inl rfl) hk hb q)
theorem p_letter_b2 {v : D} {n : Int} {Q : D → Prop} {E : Er → Prop} (hn : 0 ≤ n) (hb : BadD BIO v) (q : E (.e0 "WordError")) : p_letter_M [v, .int n] Q E := by
  unfold p_letter_M p_letter_B
  walk_at "mm"
  refine p_check_number_p (.inl rfl) hn ?_
  walk_at "mm"
  exact p_read_word_b hb q
end W
namespace W
open PySem PySem.Spec PyProof.Rows L2 TL G M
theorem p_joined_text_p {p c : List Nat} {Q : D → Prop} {E : Er → Prop} (hp : p.length ≤ 100000) (hc : c.length ≤ 100000) (q : Q (.str (wt p c))) : p_joined_text_M [.str p, .str c] Q E := by
  unfold p_joined_text_M p_joined_text_B
  walk_at "mm"
  have e : p ++ [40] ++ c ++ [41] = wt p c := by unfold wt; simp
  rw [e]
  exact q
end W
namespace W
open PySem PySem.Spec PyProof.Rows L2 TL G M
theorem p_shortest_root_p {c : List Nat} {Q : D → Prop} {E : Er → Prop} (h1 : 1 ≤ c.length) (h4 : c.length ≤ 1000) (q : ∀ r, IsRoot c r → Q (.str r)) : p_shortest_root_M [.str c] Q E := by
  unfold p_shortest_root_M p_shortest_root_B
  walk_at "mm"
  refine loop_rng (fun i ρ => (∃ y z, ρ = [some (.str c), some (.int c.length), y, z]) ∧ ∀ j, 1 ≤ j → j < i + 1 → ¬ (c.length % j = 0 ∧ rep (c.take j) (c.length / j) = c)) ⟨⟨_, _, rfl⟩, fun j a b => by omega⟩ ?_ ?_
  · rintro i ρ hi ⟨⟨y, z, rfl⟩, no⟩
    rw [show (1 : Int) + (i : Int) = ((i + 1 : Nat) : Int) by omega]
    have hL : i + 1 < c.length := by omega
    walk_at "mm"
    rw [cutD_to _ _ (by omega), Int.toNat_natCast]
    walk_at "mm"
    have em : ((c.length : Int) % ((i + 1 : Nat) : Int)) = ((c.length % (i + 1) : Nat) : Int) := (Int.natCast_emod _ _).symm
    rw [em]
    refine iteDM (fun h2 => ?_) (fun h2 => ?_)
    · have hm : c.length % (i + 1) = 0 := by omega
      walk_at "mm"
      obtain ⟨w, hw⟩ : ∃ w, w = c.length / (i + 1) := ⟨_, rfl⟩
      have ed : ((c.length : Int) / ((i + 1 : Nat) : Int)) = (w : Int) := by rw [hw]; exact (Int.natCast_ediv _ _).symm
      rw [ed]
      have hdiv : w * (i + 1) = c.length := by rw [hw]; exact Nat.div_mul_cancel (Nat.dvd_of_mod_eq_zero hm)
      have htl : (c.take (i + 1)).length = i + 1 := by rw [List.length_take]; omega
      have hle : w ≤ c.length := by rw [hw]; exact Nat.div_le_self _ _
      have hwm : (w : Int) * ((i + 1 : Nat) : Int) = ((w * (i + 1) : Nat) : Int) := (Int.natCast_mul _ _).symm
      refine ⟨⟨by omega, by omega, by rw [htl, hwm, hdiv]; omega⟩, ?_⟩
      rw [Int.toNat_natCast]
      walk_at "mm"
      refine iteD (fun h3 => ?_) (fun h3 => ?_)
      · walk_at "mm"
        exact q _ ⟨i + 1, by omega, by omega, rfl, hm, by rw [← hw]; exact h3, fun j a b => no j a b⟩
      · walk_at "m"
        refine ⟨⟨_, _, rfl⟩, fun j a b => ?_⟩
        by_cases hj : j < i + 1
        · exact no j a hj
        · have : j = i + 1 := by omega
          subst this
          exact fun z => h3 (by rw [hw]; exact z.2)
    · walk_at "m"
      refine ⟨⟨_, _, rfl⟩, fun j a b => ?_⟩
      by_cases hj : j < i + 1
      · exact no j a hj
      · have : j = i + 1 := by omega
        subst this
        exact fun z => h2 (by omega)
  · rintro ρ ⟨⟨y, z, rfl⟩, no⟩
    walk_at "m"
    refine q _ ⟨c.length, h1, Nat.le_refl _, (List.take_length).symm, Nat.mod_self _, ?_, fun j a b => no j a (by omega)⟩
    rw [Nat.div_self (by omega), rep_succ, rep_zero, List.append_nil]
end W
namespace W
open PySem PySem.Spec PyProof.Rows L2 TL G M
theorem p_plain_parts_p {p c : List Nat} {Q : D → Prop} {E : Er → Prop} (hp : p.length ≤ 100000) (c1 : 1 ≤ c.length) (c4 : c.length ≤ 4) (q : ∀ q e, PlainOf p c q e → Q (.tup [.str q, .str e])) : p_plain_parts_M [.str p, .str c] Q E := by
  unfold p_plain_parts_M p_plain_parts_B
  walk_at "mm"
  refine p_shortest_root_p c1 (by omega) fun r hr => ?_
  walk_at "mm"
  have rl : 1 ≤ r.length ∧ r.length ≤ c.length := by
    obtain ⟨L, l1, l2, er, _⟩ := hr
    rw [er, List.length_take]
    omega
  refine while_it (fun m ρ => ∃ q e, m = q.length ∧ ρ = [some (.str q), some (.str e)] ∧ q.length ≤ p.length ∧ e.length = r.length ∧ (∀ x ∈ q, x ∈ p) ∧ (∀ x ∈ e, x ∈ c) ∧ (∀ k, latN q e k = latN p c k) ∧ Prim e) p.length ⟨p, r, rfl, rfl, Nat.le_refl _, rfl, fun _ h => h, fun x hx => ?_, fun k => root_lat hr p k, root_prim c1 c4 hr⟩ ?_
  · obtain ⟨L, l1, l2, er, _⟩ := hr
    rw [er] at hx
    exact List.mem_of_mem_take hx
  · rintro m ρ ⟨q', e, rfl, rfl, h1, h2, h3, h4, h5, h6⟩
    obtain ⟨n, hn⟩ : ∃ n, e.length = n + 1 := ⟨e.length - 1, by omega⟩
    rcases List.eq_nil_or_concat q' with rfl | ⟨q0, a, rfl⟩
    · walk_at "m"
      refine iteNM (fun h => absurd rfl h) fun _ => ?_
      walk_at "m"
      exact q [] e ⟨h1, by omega, by omega, h3, h4, h5, h6, .inl rfl⟩
    · rw [List.concat_eq_append] at h1 h3 h5 ⊢
      have hql : (q0 ++ [a]).length = q0.length + 1 := by simp
      walk_at "m"
      refine iteNM (fun _ => ?_) fun h => absurd h (by simp)
      walk_at "m"
      refine ix_last (by omega) hql (c := a) (by simp) ?_
      walk_at "m"
      obtain ⟨e0, b, rfl⟩ : ∃ e0 b, e = e0 ++ [b] := by
        rcases List.eq_nil_or_concat e with rfl | ⟨e0, b, rfl⟩
        · cases hn
        · exact ⟨e0, b, by rw [List.concat_eq_append]⟩
      have hel : e0.length = n := by simpa using hn
      refine ix_last (by omega) hn (c := b) (by rw [← hel]; simp) ?_
      walk_at "m"
      refine iteD (fun hab => ?_) (fun hab => ?_)
      · injection hab with hab
        subst hab
        walk_at "mm"
        rw [cutD_butlast, List.dropLast_concat]
        walk_at "mm"
        refine ix_last (by omega) hn (c := a) (by rw [← hel]; simp) ?_
        walk_at "mm"
        rw [cutD_butlast, List.dropLast_concat]
        walk_at "mm"
        have hl : (a :: e0).length = (e0 ++ [a]).length := by simp
        refine ⟨q0.length, by omega, q0, a :: e0, rfl, rfl, by omega, by omega, fun x hx => h3 x (List.mem_append_left _ hx), fun x hx => ?_, fun k => ?_, prim_rot h6⟩
        · rcases List.mem_cons.mp hx with rfl | hx
          · exact h4 _ (List.mem_append_right _ List.mem_cons_self)
          · exact h4 x (List.mem_append_left _ hx)
        · rw [latN_rot]
          exact h5 k
      · walk_at "m"
        refine q _ _ ⟨h1, by omega, by omega, h3, h4, h5, h6, .inr ?_⟩
        rw [List.getLast?_append, List.getLast?_append]
        exact fun z => hab (by
          injection z with z
          have z1 : a = b := z
          rw [z1])
end W
namespace W
open PySem PySem.Spec PyProof.Rows L2 TL G M
theorem p_plain_text_p {p c : List Nat} {Q : D → Prop} {E : Er → Prop} (hp : p.length ≤ 1000) (c1 : 1 ≤ c.length) (c4 : c.length ≤ 4) (q : ∀ q e, PlainOf p c q e → Q (.str (wt q e))) : p_plain_text_M [.str p, .str c] Q E := by
  unfold p_plain_text_M p_plain_text_B
  walk_at "mm"
  refine p_plain_parts_p (by omega) c1 c4 fun q' e h => ?_
  have := h.ql
  have := h.el
  walk_at "mm"
  exact p_joined_text_p (by omega) (by omega) (q q' e h)
end W
namespace W
open PySem PySem.Spec PyProof.Rows L2 TL G M
/-- the mirrored letter -/
def mir (c : Nat) : Nat := if c = 73 then 79 else if c = 79 then 73 else c
theorem mir_mem {c : Nat} (h : c ∈ BIO) : mir c ∈ BIO := by
  simp only [List.mem_cons, List.not_mem_nil, or_false] at h
  rcases h with rfl | rfl | rfl <;> decide
theorem mir_inj {a b : Nat} (ha : a ∈ BIO) (hb : b ∈ BIO) (h : mir a = mir b) : a = b := by
  simp only [List.mem_cons, List.not_mem_nil, or_false] at ha hb
  rcases ha with rfl | rfl | rfl <;> rcases hb with rfl | rfl | rfl <;> first | rfl | (revert h; decide)
theorem mir_tab {c : Nat} {Q : D → Prop} {E : Er → Prop} (h : c ∈ BIO) (q : Q (.str [mir c])) : dTabM (tb_MIRRORED.find? fun kv => decide (kv.1 = [c])) Q E := by
  simp only [List.mem_cons, List.not_mem_nil, or_false] at h
  rcases h with rfl | rfl | rfl <;> exact q
theorem lw_mir {p c : List Nat} (h : Lw BIO p c) : Lw BIO (p.map mir) (c.map mir) := by
  refine ⟨by rw [List.length_map]; exact h.p12, by rw [List.length_map]; exact h.c1, by rw [List.length_map]; exact h.c4, fun x hx => ?_, fun x hx => ?_⟩
  · obtain ⟨y, hy, rfl⟩ := List.mem_map.mp hx
    exact mir_mem (h.pl y hy)
  · obtain ⟨y, hy, rfl⟩ := List.mem_map.mp hx
    exact mir_mem (h.cl y hy)
theorem latN_mir (p c : List Nat) (k : Nat) (h1 : 1 ≤ c.length) : latN (p.map mir) (c.map mir) k = mir (latN p c k) := by
  by_cases hk : k < p.length
  · rw [latN_pre (by rw [List.length_map]; exact hk), latN_pre hk, List.getD_eq_getElem?_getD, List.getElem?_map, List.getElem?_eq_getElem hk, List.getD_eq_getElem?_getD, List.getElem?_eq_getElem hk]
    rfl
  · have hm : (k - p.length) % c.length < c.length := Nat.mod_lt _ (by omega)
    rw [latN_cyc (by rw [List.length_map]; omega), latN_cyc (by omega), List.length_map, List.length_map, List.getD_eq_getElem?_getD, List.getElem?_map, List.getElem?_eq_getElem hm, List.getD_eq_getElem?_getD, List.getElem?_eq_getElem hm]
    rfl
theorem flatF (F : Nat → Nat) (l : List Nat) : (l.map fun c => [F c]).flatten = l.map F := by
  have e : (l.map fun c => [F c]) = (l.map F).map fun c => [c] := by rw [List.map_map]; rfl
  rw [e, flat1]
theorem p_mirror_p {p c : List Nat} {Q : D → Prop} {E : Er → Prop} (hw : Lw BIO p c) (q : ∀ q e, PlainOf (p.map mir) (c.map mir) q e → Q (.str (wt q e))) : p_mirror_M [.str (wt p c)] Q E := by
  have p12 := hw.p12
  have c1 := hw.c1
  have c4 := hw.c4
  unfold p_mirror_M p_mirror_B
  walk_at "mm"
  refine p_read_word_p hw ?_
  walk_at "mm"
  refine lc_of (F := fun c => .str [mir c]) (fun x hx Q' q' => ?_) ?_
  · walk_at "m"
    exact mir_tab (hw.pl x hx) q'
  walk_at "m"
  rw [strsD_of]
  refine ⟨by rw [flatF, List.length_map, List.length_map]; omega, ?_⟩
  rw [flatF]
  walk_at "mm"
  refine lc_of (F := fun c => .str [mir c]) (fun x hx Q' q' => ?_) ?_
  · walk_at "m"
    exact mir_tab (hw.cl x hx) q'
  walk_at "m"
  rw [strsD_of]
  refine ⟨by rw [flatF, List.length_map, List.length_map]; omega, ?_⟩
  rw [flatF]
  walk_at "mm"
  exact p_plain_text_p (by rw [List.length_map]; omega) (by rw [List.length_map]; omega) (by rw [List.length_map]; omega) q
theorem p_mirror_b {v : D} {Q : D → Prop} {E : Er → Prop} (hb : BadD BIO v) (q : E (.e0 "WordError")) : p_mirror_M [v] Q E := by
  unfold p_mirror_M p_mirror_B
  walk_at "mm"
  exact p_read_word_b hb q
end W
namespace W
open PySem PySem.Spec PyProof.Rows L2 TL G M
theorem latN_drop (p c : List Nat) (n j : Nat) (h : n ≤ p.length) : latN (p.drop n) c j = latN p c (n + j) := by
  by_cases hj : n + j < p.length
  · rw [latN_pre (by rw [List.length_drop]; omega), latN_pre hj, List.getD_eq_getElem?_getD, List.getElem?_drop, List.getD_eq_getElem?_getD]
  · rw [latN_cyc (by rw [List.length_drop]; omega), latN_cyc (by omega), List.length_drop, show j - (p.length - n) = n + j - p.length by omega]
theorem latN_turn (p c : List Nat) (s j : Nat) (h : s < c.length) : latN [] (c.drop s ++ c.take s) j = latN p c (p.length + s + j) := by
  have hl : (c.drop s ++ c.take s).length = c.length := by rw [List.length_append, List.length_drop, List.length_take]; omega
  rw [latN_cyc (Nat.zero_le _), hl, show j - ([] : List Nat).length = j from rfl, Nat.add_assoc, latN_at]
  have hm : j % c.length < c.length := Nat.mod_lt _ (by omega)
  have e : (s + j) % c.length = (s + j % c.length) % c.length := (Nat.add_mod_mod _ _ _).symm
  rw [e]
  generalize j % c.length = m at hm
  by_cases h2 : m < c.length - s
  · rw [Nat.mod_eq_of_lt (by omega), List.getD_eq_getElem?_getD, List.getElem?_append_left (by rw [List.length_drop]; exact h2), List.getElem?_drop, List.getD_eq_getElem?_getD]
  · rw [show (s + m) % c.length = s + m - c.length by rw [Nat.mod_eq_sub_mod (by omega), Nat.mod_eq_of_lt (by omega)], List.getD_eq_getElem?_getD, List.getElem?_append_right (by rw [List.length_drop]; omega), List.length_drop, List.getElem?_take, if_pos (by omega), List.getD_eq_getElem?_getD, show m - (c.length - s) = s + m - c.length by omega]
theorem lw_turn {ls p c : List Nat} (s : Nat) (h : Lw ls p c) : Lw ls [] (c.drop s ++ c.take s) := by
  have hl : (c.drop s ++ c.take s).length = c.length := by rw [List.length_append, List.length_drop, List.length_take]; omega
  refine ⟨by simp, by rw [hl]; exact h.c1, by rw [hl]; exact h.c4, by simp, fun x hx => h.cl x ?_⟩
  rcases List.mem_append.mp hx with z | z
  · exact List.mem_of_mem_drop z
  · exact List.mem_of_mem_take z
theorem lw_drop {ls p c : List Nat} (n : Nat) (h : Lw ls p c) : Lw ls (p.drop n) c := ⟨by rw [List.length_drop]; have := h.p12; omega, h.c1, h.c4, fun x hx => h.pl x (List.mem_of_mem_drop hx), h.cl⟩
theorem p_rest_p {p c : List Nat} {n : Int} {Q : D → Prop} {E : Er → Prop} (hw : Lw BIO p c) (hn : 0 ≤ n) (q : ∀ q e, Lw BIO q e → (∀ j, latN q e j = latN p c (n.toNat + j)) → PlainF q e → Q (.str (wt q e))) : p_rest_M [.str (wt p c), .int n] Q E := by
  have p12 := hw.p12
  have c1 := hw.c1
  have c4 := hw.c4
  unfold p_rest_M p_rest_B
  walk_at "mm"
  refine p_check_number_p (.inl rfl) hn ?_
  walk_at "mm"
  refine p_read_word_p hw ?_
  walk_at "mm"
  refine iteD (fun h3 => ?_) (fun h3 => ?_)
  · walk_at "mm"
    rw [cutD_from _ _ hn]
    walk_at "mm"
    refine p_plain_text_p (by rw [List.length_drop]; omega) c1 c4 fun q' e h2 => ?_
    exact q q' e (h2.lw (lw_drop n.toNat hw)) (fun j => by rw [h2.same, latN_drop _ _ _ _ (by omega)]) h2.plain
  · have m0 : 0 ≤ (n - p.length) % c.length := Int.emod_nonneg _ (by omega)
    have m1 : (n - p.length) % c.length < c.length := Int.emod_lt_of_pos _ (by omega)
    walk_at "mm"
    obtain ⟨w, hw2⟩ : ∃ w : Nat, (w : Int) = (n - p.length) % c.length := ⟨((n - p.length) % c.length).toNat, Int.toNat_of_nonneg m0⟩
    rw [← hw2] at m0 m1 ⊢
    rw [cutD_from _ _ m0, Int.toNat_natCast]
    walk_at "mm"
    rw [cutD_to _ _ m0, Int.toNat_natCast]
    walk_at "mm"
    have hl : (c.drop w ++ c.take w).length = c.length := by rw [List.length_append, List.length_drop, List.length_take]; omega
    refine p_plain_text_p (by simp) (by omega) (by omega) fun q' e h2 => ?_
    refine q q' e (h2.lw (lw_turn w hw)) (fun j => ?_) h2.plain
    rw [h2.same, latN_turn p c w j (by omega)]
    have hd := Int.emod_add_mul_ediv (n - p.length) c.length
    rw [← hw2] at hd
    obtain ⟨z, hz⟩ : ∃ z : Nat, (z : Int) = (n - p.length) / c.length := ⟨((n - p.length) / c.length).toNat, Int.toNat_of_nonneg (Int.ediv_nonneg (by omega) (by omega))⟩
    rw [← hz] at hd
    have hd2 : n.toNat = p.length + w + z * c.length := by
      have : ((z * c.length : Nat) : Int) = (c.length : Int) * z := by rw [Int.natCast_mul, Int.mul_comm]
      omega
    rw [hd2, show p.length + w + z * c.length + j = (p.length + w + j) + z * c.length by omega, latN_per (by omega)]
theorem p_rest_b1 {m : Nat} {v k : D} {Q : D → Prop} {E : Er → Prop} (hk : datN m k = true) (hb : badND k 0 .non) (q : E (.e1 "NumberError" "at_number" k)) : p_rest_M [v, k] Q E := by
  unfold p_rest_M p_rest_B
  cases k <;> (walk_at "mm"; exact p_check_number_b (.inl rfl) hk hb q)
theorem p_rest_b2 {v : D} {n : Int} {Q : D → Prop} {E : Er → Prop} (hn : 0 ≤ n) (hb : BadD BIO v) (q : E (.e0 "WordError")) : p_rest_M [v, .int n] Q E := by
  unfold p_rest_M p_rest_B
  walk_at "mm"
  refine p_check_number_p (.inl rfl) hn ?_
  walk_at "mm"
  exact p_read_word_b hb q
end W
namespace W
open PySem PySem.Spec PyProof.Rows L2 TL G M
theorem p_plain_p {p c : List Nat} {Q : D → Prop} {E : Er → Prop} (hw : Lw BIO p c) (q : ∀ q e, PlainOf p c q e → Q (.str (wt q e))) : p_plain_M [.str (wt p c)] Q E := by
  unfold p_plain_M p_plain_B
  walk_at "mm"
  refine p_read_word_p hw ?_
  walk_at "mm"
  exact p_plain_text_p (by have := hw.p12; omega) hw.c1 hw.c4 q
theorem p_plain_b {v : D} {Q : D → Prop} {E : Er → Prop} (hb : BadD BIO v) (q : E (.e0 "WordError")) : p_plain_M [v] Q E := by
  unfold p_plain_M p_plain_B
  walk_at "mm"
  exact p_read_word_b hb q
end W
namespace W
open PySem PySem.Spec PyProof.Rows L2 TL G M
theorem p_same_word_p {p c p2 c2 : List Nat} {Q : D → Prop} {E : Er → Prop} (hw : Lw BIO p c) (hw2 : Lw BIO p2 c2) (q : ∀ b : Bool, (b = true ↔ ∀ k, latN p c k = latN p2 c2 k) → Q (.bl b)) : p_same_word_M [.str (wt p c), .str (wt p2 c2)] Q E := by
  unfold p_same_word_M p_same_word_B
  walk_at "mm"
  refine p_plain_p hw fun q1 e1 h1 => ?_
  walk_at "mm"
  refine p_plain_p hw2 fun q2 e2 h2 => ?_
  walk_at "mm"
  refine q _ ?_
  have w1 := h1.lw hw
  have w2 := h2.lw hw2
  rw [decide_eq_true_iff]
  constructor
  · intro z k
    obtain ⟨z1, z2⟩ := wt_inj (by decide) w1 (w2.no40 (by decide)) z
    rw [← h1.same, ← h2.same, z1, z2]
  · intro z
    obtain ⟨z1, z2⟩ := plain_one h1.plain h2.plain w1.c1 w1.c4 w2.c1 w2.c4 fun k => by rw [h1.same, h2.same, z]
    rw [z1, z2]
theorem p_same_word_b1 {v w : D} {Q : D → Prop} {E : Er → Prop} (hb : BadD BIO v) (q : E (.e0 "WordError")) : p_same_word_M [v, w] Q E := by
  unfold p_same_word_M p_same_word_B
  walk_at "mm"
  exact p_plain_b hb q
theorem p_same_word_b2 {p c : List Nat} {w : D} {Q : D → Prop} {E : Er → Prop} (hw : Lw BIO p c) (hb : BadD BIO w) (q : E (.e0 "WordError")) : p_same_word_M [.str (wt p c), w] Q E := by
  unfold p_same_word_M p_same_word_B
  walk_at "mm"
  refine p_plain_p hw fun q1 e1 h1 => ?_
  walk_at "mm"
  exact p_plain_b hb q
end W
namespace W
open PySem PySem.Spec PyProof.Rows L2 TL G M
theorem dat_scal {d : D} (h : scal d = true) : datN 0 d = true := by cases d <;> first | rfl | cases h
theorem l_pair_holds_p {p c p2 c2 : List Nat} {Q : D → Prop} {E : Er → Prop} (hw : Lw BIO p c) (hw2 : Lw BIO p2 c2) (q : Q (.bl true)) : l_pair_holds_M [.deal, .str (wt p c), .str (wt p2 c2)] Q E := by
  have same : ∀ {p c p2 c2 : List Nat} {u v : D} {Q : D → Prop} {E : Er → Prop}, DiffD p c p2 c2 u → DiffD p c p2 c2 v → Q (.bl true) → l_equal_M 10 [u, v] Q E := fun hu hv q => l_equal_s (dat_scal hu.scal) hv.scal (by rw [hu.one hv, isD_refl hv.scal]; exact q)
  unfold l_pair_holds_M l_pair_holds_B
  walk_at "m"
  refine l_parting_p hw hw2 fun due hd => ?_
  have hds := hd.scal
  walk_at "m"
  refine ⟨smr (by decide), ?_⟩
  refine loop_rng (fun i ρ => ∃ y, ρ = [some .deal, some (.str (wt p c)), some (.str (wt p2 c2)), some due, y, none]) ⟨_, rfl⟩ ?_ ?_
  · rintro i ρ hi ⟨y, rfl⟩
    walk_at "m"
    refine p_first_unlike_p hw hw2 fun u hu => ?_
    walk_at "m"
    refine same hu hd ?_
    walk_at "m"
    refine p_first_unlike_p hw2 hw fun u hu => ?_
    walk_at "m"
    refine same hu.swap hd ?_
    walk_at "m"
    exact ⟨_, rfl⟩
  rintro ρ ⟨y, rfl⟩
  walk_at "m"
  refine p_mirror_p hw fun q1 e1 h1 => ?_
  walk_at "m"
  refine p_mirror_p hw2 fun q2 e2 h2 => ?_
  walk_at "m"
  have l1 := h1.lw (lw_mir hw)
  have l2 := h2.lw (lw_mir hw2)
  refine p_first_unlike_p l2 l1 fun u hu => ?_
  have hu2 : DiffD p c p2 c2 u := by
    have ev : ∀ k, latN q1 e1 k = mir (latN p c k) := fun k => by rw [h1.same, latN_mir _ _ _ hw.c1]
    have ev2 : ∀ k, latN q2 e2 k = mir (latN p2 c2 k) := fun k => by rw [h2.same, latN_mir _ _ _ hw2.c1]
    have eq : ∀ k, latN q2 e2 k = latN q1 e1 k ↔ latN p c k = latN p2 c2 k := fun k => by
      rw [ev, ev2]
      exact ⟨fun z => (mir_inj (latN_mem hw2 k) (latN_mem hw k) z).symm, fun z => by rw [z]⟩
    rcases hu with ⟨rfl, a⟩ | ⟨n, rfl, a0, a1, a2⟩
    · exact .inl ⟨rfl, fun k => (eq k).mp (a k)⟩
    · exact .inr ⟨n, rfl, a0, fun k h => (eq k).mp (a1 k h), fun z => a2 ((eq n).mpr z)⟩
  walk_at "m"
  refine same hu2 hd ?_
  walk_at "m"
  refine take_p (by decide) fun k k0 k1 k2 => ?_
  walk_at "m"
  have rests : ∀ (q1 e1 q2 e2 : List Nat) (k : Int), 0 ≤ k → (∀ j, latN q1 e1 j = latN p c (k.toNat + j)) → (∀ j, latN q2 e2 j = latN p2 c2 (k.toNat + j)) → ∀ u, DiffD q1 e1 q2 e2 u → (∀ n : Nat, due = .int n → k ≤ n → u = .int (n - k)) ∧ (due = .non → u = .non) := by
    intro q1 e1 q2 e2 k k0 s1 s2 u hu
    constructor
    · intro n hn hk
      subst hn
      rcases hd with ⟨z, _⟩ | ⟨m, z, d0, d1, d2⟩
      · cases z
      · have hmn : m = n := by injection z with z; omega
        subst hmn
        have hu' : DiffD q1 e1 q2 e2 (.int ((m - k.toNat : Nat) : Int)) := .inr ⟨m - k.toNat, rfl, by omega, fun j hj => by rw [s1, s2]; exact d1 _ (by omega), by rw [s1, s2, show k.toNat + (m - k.toNat) = m by omega]; exact d2⟩
        rw [hu.one hu']
        congr 1
        omega
    · intro hn
      subst hn
      rcases hd with ⟨_, d⟩ | ⟨m, z, _⟩
      · exact hu.one (.inl ⟨rfl, fun j => by rw [s1, s2]; exact d _⟩)
      · cases z
  rcases hd with ⟨rfl, hd⟩ | ⟨n, rfl, d0, d1, d2⟩
  · walk_at "m"
    refine l_huge_p fun k k0 => ?_
    walk_at "m"
    refine p_rest_p hw k0 fun q1 e1 w1 s1 _ => ?_
    walk_at "m"
    refine p_rest_p hw2 k0 fun q2 e2 w2 s2 _ => ?_
    walk_at "m"
    refine p_first_unlike_p w1 w2 fun u hu => ?_
    rw [(rests q1 e1 q2 e2 k k0 s1 s2 u hu).2 rfl]
    walk_at "m"
    refine l_equal_e rfl ?_
    walk_at "m"
    refine p_letter_p hw k0 ?_
    walk_at "m"
    refine p_letter_p hw2 k0 ?_
    walk_at "m"
    rw [lat_I _ _ k0, lat_I _ _ k0, hd]
    refine l_equal_e rfl ?_
    walk_at "m"
    refine p_same_word_p hw hw2 fun b hb => ?_
    rw [hb.mpr hd]
    walk_at "m"
    exact l_equal_e rfl q
  · walk_at "m"
    have hn0 : (0 : Int) ≤ (n : Int) := by omega
    have fl : ∀ (f g : Nat → Nat), (∀ k, k < n → f k = g k) → (List.range ((n : Int)).toNat).map f = (List.range ((n : Int)).toNat).map g := fun f g h => by
      rw [Int.toNat_natCast]
      exact List.map_congr_left fun k hk => h k (List.mem_range.mp hk)
    refine iteDM (fun hk => ?_) (fun hk => ?_)
    · walk_at "m"
      refine p_rest_p hw k0 fun q1 e1 w1 s1 _ => ?_
      walk_at "m"
      refine p_rest_p hw2 k0 fun q2 e2 w2 s2 _ => ?_
      walk_at "m"
      refine p_first_unlike_p w1 w2 fun u hu => ?_
      rw [(rests q1 e1 q2 e2 k k0 s1 s2 u hu).1 n rfl hk]
      walk_at "m"
      refine l_equal_e rfl ?_
      walk_at "m"
      refine p_letter_p hw hn0 ?_
      walk_at "m"
      refine p_letter_p hw2 hn0 ?_
      walk_at "m"
      rw [lat_N, lat_N]
      refine iteDM (fun h => absurd (List.cons.inj h).1 d2) fun _ => ?_
      walk_at "m"
      refine p_same_word_p hw2 hw fun b hb => ?_
      have hbf : b = false := by
        cases b with
        | false => rfl
        | true => exact absurd (hb.mp rfl n).symm d2
      subst hbf
      walk_at "m"
      refine l_equal_e rfl ?_
      walk_at "m"
      refine p_first_letters_p hw hn0 (by omega) ?_
      walk_at "m"
      refine p_first_letters_p hw2 hn0 (by omega) ?_
      rw [fl _ _ d1]
      walk_at "m"
      rw [decide_eq_true rfl]
      exact q
    · walk_at "m"
      refine p_letter_p hw hn0 ?_
      walk_at "m"
      refine p_letter_p hw2 hn0 ?_
      walk_at "m"
      rw [lat_N, lat_N]
      refine iteDM (fun h => absurd (List.cons.inj h).1 d2) fun _ => ?_
      walk_at "m"
      refine p_same_word_p hw2 hw fun b hb => ?_
      have hbf : b = false := by
        cases b with
        | false => rfl
        | true => exact absurd (hb.mp rfl n).symm d2
      subst hbf
      walk_at "m"
      refine l_equal_e rfl ?_
      walk_at "m"
      refine p_first_letters_p hw hn0 (by omega) ?_
      walk_at "m"
      refine p_first_letters_p hw2 hn0 (by omega) ?_
      rw [fl _ _ d1]
      walk_at "m"
      rw [decide_eq_true rfl]
      exact q
end W
namespace W
open PySem PySem.Spec PyProof.Rows L2 TL G M
theorem l_refused_t {a : D} {Q : D → Prop} {E : Er → Prop} (q : Q (.bl true)) : l_refused_M [.lst [.str [114, 101, 102, 117, 115, 101, 100], .str [87, 111, 114, 100, 69, 114, 114, 111, 114], a]] Q E := by
  unfold l_refused_M l_refused_B
  walk_at "m"
  refine iteDM (fun _ => ?_) (fun h => absurd rfl h)
  walk_at "m"
  rw [decide_eq_true rfl]
  exact q
end W
namespace W
open PySem PySem.Spec PyProof.Rows L2 TL G M
theorem l_told_g {p c p2 c2 : List Nat} {Q : D → Prop} {E : Er → Prop} (hw : Lw BIO p c) (hw2 : Lw BIO p2 c2) (q : ∀ u, DiffD p c p2 c2 u → Q (.lst [.str [116, 111, 108, 100], u])) : l_told_M [.str (wt p c), .str (wt p2 c2)] Q E := by
  unfold l_told_M l_told_B
  walk_at "m"
  refine p_first_unlike_p hw hw2 fun u hu => ?_
  walk_at "m"
  exact q u hu
theorem l_told_b {a b : D} {Q : D → Prop} {E : Er → Prop} (h : BadD BIO a ∨ ∃ p c, a = .str (wt p c) ∧ Lw BIO p c ∧ BadD BIO b) (q : Q (.lst [.str [114, 101, 102, 117, 115, 101, 100], .str [87, 111, 114, 100, 69, 114, 114, 111, 114], .int 0])) : l_told_M [a, b] Q E := by
  have key : ∀ {Q2 : D → Prop} {E2 : Er → Prop}, E2 (.e0 "WordError") → p_first_unlike_M [a, b] Q2 E2 := fun k => by
    rcases h with h | ⟨p, c, rfl, hw, hb⟩
    · exact p_first_unlike_b1 h k
    · exact p_first_unlike_b2 hw hb k
  unfold l_told_M l_told_B
  walk_at "m"
  refine key ⟨by decide +kernel, ?_⟩
  dsimp only [List.set, Er.d]
  repeat (first
    | refine M.gm ?_
    | (with_reducible refine And.intro ?_ ?_; focus (decide +kernel)))
  generalize hds : ([_, _, _, _, _, _, _, _, _, _, _, _, _, _, _, _, _, _, _, _, _, _, _] : List D) = ds
  have hc : List.countP (fun z => dEqB z (D.bl true)) ds = 1 := by
    subst hds
    decide +kernel
  rw [hc]
  refine iteNM (fun h => absurd rfl h) fun _ => ?_
  repeat (first
    | refine M.gm ?_
    | (with_reducible refine And.intro ?_ ?_; focus (decide +kernel)))
  refine iteD (fun _ => ?_) (fun h => absurd (.inl rfl) h)
  walk_at "m"
  exact ⟨rfl, q⟩
end W
namespace W
open PySem PySem.Spec PyProof.Rows L2 TL G M
theorem l_two_words_p {w : List Nat} {Q : D → Prop} {E : Er → Prop} (q : ∀ p c p2 c2, Lw BIO p c → Lw BIO p2 c2 → Q (.lst [.str (wt p c), .str (wt p2 c2)])) : l_two_words_M [.deal, .str w] Q E := by
  unfold l_two_words_M l_two_words_B
  walk_at "m"
  refine l_word_of_p fun p c hw => ?_
  have p12 := hw.p12
  have c1 := hw.c1
  have c4 := hw.c4
  walk_at "m"
  refine take_p (by decide) fun r r0 r1 r2 => ?_
  walk_at "m"
  refine iteD (fun _ => ?_) (fun _ => ?_)
  · walk_at "m"
    refine l_same_text_p hw fun p2 c2 hw2 _ => ?_
    walk_at "m"
    exact q p c p2 c2 hw hw2
  walk_at "m"
  have last : l_word_of_M [.deal, .str w] (fun d => Q (.lst [.str (wt p c), d])) (fun _ => False) := l_word_of_p fun p2 c2 hw2 => q p c p2 c2 hw hw2
  refine iteDM (fun _ => ?_) (fun _ => ?_)
  · walk_at "m"
    refine iteD (fun _ => ?_) (fun _ => ?_)
    · walk_at "m"
      refine l_same_text_p hw fun p2 c2 hw2 _ => ?_
      have b1 := hw2.p12
      have b2 := hw2.c1
      have b3 := hw2.c4
      walk_at "m"
      refine l_split_p (hw2.no40 (by decide)) (by omega) (by omega) ?_
      walk_at "mm"
      obtain ⟨L, hL⟩ : ∃ L, L = p2 ++ c2 := ⟨_, rfl⟩
      have hLl : L.length = p2.length + c2.length := by rw [hL, List.length_append]
      have hLm : ∀ x ∈ L, x ∈ BIO := fun x hx => by
        rw [hL] at hx
        rcases List.mem_append.mp hx with z | z
        · exact hw2.pl x z
        · exact hw2.cl x z
      rw [← hL]
      walk_at "mm"
      refine l_edge_p (by omega) (by omega) fun i i0 i1 => ?_
      walk_at "mm"
      rw [cutD_to _ _ i0]
      refine l_pick_s (by decide) (by decide) fun x hx => ?_
      walk_at "m"
      refine ⟨by rw [List.length_take]; show min _ _ + 1 ≤ _; omega, ?_⟩
      walk_at "mm"
      rw [cutD_from _ _ (by omega), show (i + 1).toNat = i.toNat + 1 by omega]
      obtain ⟨M, hM⟩ : ∃ M, M = L.take i.toNat ++ [x] ++ L.drop (i.toNat + 1) := ⟨_, rfl⟩
      have hMl : M.length = L.length := by
        rw [hM, List.length_append, List.length_append, List.length_take, List.length_drop]
        show min i.toNat L.length + 1 + (L.length - (i.toNat + 1)) = L.length
        omega
      have hMm : ∀ y ∈ M, y ∈ BIO := fun y hy => by
        rw [hM] at hy
        rcases List.mem_append.mp hy with z | z
        · rcases List.mem_append.mp z with z | z
          · exact hLm y (List.mem_of_mem_take z)
          · rw [List.mem_singleton.mp z]
            exact hx
        · exact hLm y (List.mem_of_mem_drop z)
      refine ⟨by rw [← List.length_append, ← hM]; omega, ?_⟩
      rw [← hM]
      walk_at "mm"
      rw [cutD_to _ _ (by omega), Int.toNat_natCast]
      have ht : (M.take p2.length).length = p2.length := by rw [List.length_take]; omega
      walk_at "mm"
      rw [cutD_from _ _ (by omega), Int.toNat_natCast]
      have hd : (M.drop p2.length).length = c2.length := by rw [List.length_drop]; omega
      walk_at "mm"
      rw [wt_eq]
      exact q p c _ _ hw (lw_of (by omega) (by omega) (by omega) (fun y hy => hMm y (List.mem_of_mem_take hy)) fun y hy => hMm y (List.mem_of_mem_drop hy))
    · walk_at "m"
      refine l_word_of_p fun p2 c2 hw2 => ?_
      walk_at "m"
      exact q p c p2 c2 hw hw2
  · walk_at "m"
    refine l_word_of_p fun p2 c2 hw2 => ?_
    walk_at "m"
    exact q p c p2 c2 hw hw2
end W
namespace W
open PySem PySem.Spec PyProof.Rows L2 TL G M
theorem law_holds : lawM 5 law_B := by
  show law_B [none, some .deal, none, none, none, none, none] ⟨fun _ => False, fun d => d = .bl true, fun _ => False, fun _ => False, fun _ _ => False⟩
  unfold law_B
  walk_at "m"
  refine l_late_pair_p fun a1 b1 a2 b2 w1 w2 => ?_
  walk_at "m"
  refine l_two_words_p fun a3 b3 a4 b4 w3 w4 => ?_
  walk_at "m"
  refine l_late_pair_p fun a5 b5 a6 b6 w5 w6 => ?_
  walk_at "m"
  rw [cutD_to _ _ (by decide)]
  refine ⟨by simp, ?_⟩
  walk_at "m"
  obtain ⟨ds, hds⟩ : ∃ ds : List D, ds = [.lst [.str (wt a1 b1), .str (wt a2 b2)], .lst [.str (wt a3 b3), .str (wt a4 b4)], .lst [.str (wt a5 b5), .str (wt a6 b6)]] := ⟨_, rfl⟩
  refine loop_all (fun ρ => ∃ y, ρ = [none, some .deal, some (.lst [.lst [.str (wt a1 b1), .str (wt a2 b2)], .lst [.str (wt a3 b3), .str (wt a4 b4)], .lst [.str (wt a5 b5), .str (wt a6 b6)]]), y, none, none, none]) ⟨_, rfl⟩ ?_ ?_
  · rintro x hx ρ ⟨y, rfl⟩
    have hx2 : ∃ p c q e, x = .lst [.str (wt p c), .str (wt q e)] ∧ Lw BIO p c ∧ Lw BIO q e := by
      have hx3 : x = .lst [.str (wt a1 b1), .str (wt a2 b2)] ∨ x = .lst [.str (wt a3 b3), .str (wt a4 b4)] ∨ x = .lst [.str (wt a5 b5), .str (wt a6 b6)] := by
        rcases List.mem_append.mp hx with z | z
        · simpa using z
        · have := List.mem_of_mem_take z
          simpa using this
      rcases hx3 with rfl | rfl | rfl
      · exact ⟨_, _, _, _, rfl, w1, w2⟩
      · exact ⟨_, _, _, _, rfl, w3, w4⟩
      · exact ⟨_, _, _, _, rfl, w5, w6⟩
    obtain ⟨p, c, q, e, rfl, h1, h2⟩ := hx2
    walk_at "m"
    refine l_pair_holds_p h1 h2 ?_
    walk_at "m"
    exact ⟨_, rfl⟩
  rintro ρ ⟨y, rfl⟩
  walk_at "m"
  refine l_same_text_p w1 fun q e hw hs => ?_
  walk_at "m"
  refine p_first_unlike_p w1 hw fun u hu => ?_
  have : u = .non := hu.one (.inl ⟨rfl, fun k => (hs k).symm⟩)
  subst this
  walk_at "m"
  refine l_equal_e rfl ?_
  walk_at "m"
  refine l_pair_holds_p w1 w6 ?_
  walk_at "m"
  refine l_bad_word_p fun d hb hd => ?_
  walk_at "m"
  refine l_told_b (.inl hb) ?_
  walk_at "m"
  refine l_refused_t ?_
  walk_at "m"
  refine l_told_b (.inr ⟨_, _, rfl, w1, hb⟩) ?_
  walk_at "m"
  refine l_refused_t ?_
  walk_at "m"
  refine l_told_b (.inl hb) ?_
  walk_at "m"
  refine l_refused_t ?_
  walk_at "m"
  refine l_told_g w1 w1 fun u hu => ?_
  have : u = .non := hu.one (.inl ⟨rfl, fun _ => rfl⟩)
  subst this
  walk_at "m"
  exact l_equal_r 10 1 (by decide) (by decide +kernel) rfl
end W
namespace W
open PySem PySem.Spec PyProof.Rows L2 TL G M
section
variable {P : Program} {w : World} {K : PySem.W.Frag} {mg : Str → Option Value} {base : Heap}
structure DrJ (d : DA) (H H' : Hp) : Prop where
  deal : DealJ d H'
  same : ∀ b, b ≠ d.a → H' b = H b
theorem DrJ.refl {d : DA} {H : Hp} (h : DealJ d H) : DrJ d H H := ⟨h, fun _ _ => rfl⟩
theorem DrJ.trans {d : DA} {H H1 H2 : Hp} (h : DrJ d H H1) (h' : DrJ d H1 H2) : DrJ d H H2 := ⟨h'.deal, fun b n => (h'.same b n).trans (h.same b n)⟩
theorem drJ_upd {d : DA} {H : Hp} {i r l m : Int} (hc : H d.c = some (.lst (d.cells.map V.int))) (hn : d.c ≠ d.a) (v : DealV d i r l m) : DrJ d H (upd H d.a (.lst [.ref d.c, .int i, .int r, .int l, .int m])) := ⟨dealJ_upd hc hn v, fun b n => upd_ne n⟩
theorem take_ofJ {K : PySem.W.Frag} {vs : List V} {H : Hp} {Q : VK} {E : XK} (h : SpM K false 2 takeM vs H Q E) : ∃ (d : DA) (n : Int), vs = [.ref d.a, .int n] ∧ DealJ d H ∧ n < 1073741824 ∧
    ∀ (r : Int) (H' : Hp), DrJ d H H' → 0 ≤ r → (2 ≤ n → r < n) → (n < 2 → r = 0) → Q (.int r) H' := by
  obtain ⟨d, n, e, j, hn, q⟩ := take_of h
  exact ⟨d, n, e, j, hn, fun r H' x => q r H' x.same x.deal⟩
theorem cdiv_of {a b : Int} (h : 0 < b) (h2 : b < 18446744073709551616) : CDivW a b := wide_div h (b := 64) (by
  have e : (b.natAbs : Int) = b := by omega
  have h3 : (b.natAbs : Int) < ((2 ^ 64 : Nat) : Int) := by rw [e]; exact h2
  exact Int.ofNat_lt.mp h3) (by decide) (by decide)
theorem ok_l_take (T : Top w K mg) : Ok P w K mg base 1 ("_law_take", none) ["deal", "options"] (SpM K false 2 takeM) := by
  refine T.f_l_take.ok sc_l_take (fun vs H Q E h => ?_) (fun cdv A outer s H vs Q E hr h => ?_)
  · exact SpM.len h
  · refine ⟨_, PSs.nox (pss_cons (ps_ifU (pt_c op_ltU (pv 1) pe_int (nomark _)) (pss_one (ps_ret pe_int)) pss_nil)
      (Evl.pss_cut (ps_ifU (pw_andU (pt_c (op_eqK K rfl hr.units) (pe_ix (ix_K K rfl) (pv 0) pe_int (fun _ _ => rfl)) pe_int (nomark _)) (pw_andU (pt_c (op_eqK K rfl hr.units) (pe_ix (ix_K K rfl) (pv 0) pe_int (fun _ _ => rfl)) pe_int (nomark _)) (pw_and1 (pt_c op_ltU (pe_ix (ix_K K rfl) (pv 0) pe_int (fun _ _ => rfl)) (pe_callB (call_lenK K rfl) (by rfl) T.z_len (by decide +kernel) (pa_cons (pe_ix (ix_K K rfl) (pv 0) pe_int (fun _ _ => rfl)) pa_nil)) (nomark _))))).pt (pss_cons (ps_set (i := 2) sc_l_take.nd rfl (.inl rfl) (pe_ix (ix_K K rfl) (pe_ix (ix_K K rfl) (pv 0) pe_int (fun _ _ => rfl)) (pe_ix (ix_K K rfl) (pv 0) pe_int (fun _ _ => rfl)) (fun _ _ => rfl)))
      (pss_cons (ps_asg (pe_op op_addU (pe_ix (ix_K K rfl) (pv 0) pe_int (fun _ _ => rfl)) pe_int) (pg_sub (pv 0) pe_int set_list))
      (pss_cons (ps_asg (pe_op op_modU (pe_callTy call_intU (by rfl) T.z_int (by decide +kernel) (pa_cons (pe_op op_addU (pe_op op_addU (pe_op op_mulU (pe_ix (ix_K K rfl) (pv 0) pe_int (fun _ _ => rfl)) pe_int) (pe_op op_mulU (pv 2) pe_int)) pe_int) pa_nil)) (pe_powC 18446744073709551616 pe_int pe_int)) (pg_sub (pv 0) pe_int set_list))
      (pss_one (ps_ifU (pt_c op_geU (pv 2) (pe_powC 1000000000000000000 pe_int pe_int) (nomark _)) (pss_one (ps_asg (pv 2) (pg_sub (pv 0) pe_int set_list))) (pss_one (ps_asg pe_int (pg_sub (pv 0) pe_int set_list)))))))) pss_nil)
      (pss_cons (ps_ifU (pt_c op_gtU (pe_ix (ix_K K rfl) (pv 0) pe_int (fun _ _ => rfl)) pe_int (nomark _)) (pss_cons (ps_set (i := 3) sc_l_take.nd rfl (.inl rfl) (pe_op op_modU (pe_callTy call_intU (by rfl) T.z_int (by decide +kernel) (pa_cons (pe_ix (ix_K K rfl) (pv 0) pe_int (fun _ _ => rfl)) pa_nil)) (pv 1)))
      (pss_cons (ps_asg (pe_op op_divU (pe_ix (ix_K K rfl) (pv 0) pe_int (fun _ _ => rfl)) (pv 1)) (pg_sub (pv 0) pe_int set_list))
      (pss_one (ps_ret (pv 3))))) pss_nil)
      (Evl.pss_cut (ps_ifU (pt_c op_gtU (pe_ix (ix_K K rfl) (pv 0) pe_int (fun _ _ => rfl)) pe_int (nomark _)) (pss_one (ps_asg (pe_op op_subU (pe_ix (ix_K K rfl) (pv 0) pe_int (fun _ _ => rfl)) pe_int) (pg_sub (pv 0) pe_int set_list))) pss_nil)
      (pss_cons (ps_asg (pe_op op_modU (pe_callTy call_intU (by rfl) T.z_int (by decide +kernel) (pa_cons (pe_op op_addU (pe_op op_mulU (pe_ix (ix_K K rfl) (pv 0) pe_int (fun _ _ => rfl)) pe_int) pe_int) pa_nil)) (pe_powC 18446744073709551616 pe_int pe_int)) (pg_sub (pv 0) pe_int set_list))
      (pss_cons (ps_set (i := 4) sc_l_take.nd rfl (.inl rfl) (pe_op op_divU (pe_ix (ix_K K rfl) (pv 0) pe_int (fun _ _ => rfl)) (pe_powC 1048576 pe_int pe_int)))
      (pss_cons (ps_set (i := 4) sc_l_take.nd rfl (.inl rfl) (pe_op op_modU (pe_callTy call_intU (by rfl) T.z_int (by decide +kernel) (pa_cons (pe_op op_addU (pe_op op_mulU (pv 4) pe_int) (pe_op op_divU (pe_ix (ix_K K rfl) (pv 0) pe_int (fun _ _ => rfl)) (pe_powC 2199023255552 pe_int pe_int))) pa_nil)) pe_int))
      (pss_one (ps_ret (pe_op op_modU (pe_callTy call_intU (by rfl) T.z_int (by decide +kernel) (pa_cons (pe_op op_divU (pv 4) (pe_powC 8192 pe_int pe_int)) pa_nil)) (pv 1))))))))))), ?_⟩
    obtain ⟨d, n, rfl, hd, hn, q⟩ := take_ofJ h
    show tSeq _ _ _ [some (.ref d.a), some (.int n), none, none, none] H
    walk_at "k"
    walk_at "g"
    refine go_iteD (fun h2 => ?_) (fun h2 => ?_)
    · walk_at "g"
      exact q 0 H (DrJ.refl hd) (by omega) (by omega) (by omega)
    walk_at "g"
    have h2' : 2 ≤ n := by omega
    refine go_cut (fun σ' H' => ∃ y, σ' = [some (.ref d.a), some (.int n), y, none, none] ∧ DrJ d H H') ?_ ?_
    · walk_at "g"
      have hdr := DrJ.refl hd
      obtain ⟨i, r, l, m, e, hc, hne, v⟩ := hd
      walk_at "s"
      refine go_iteD (fun h3 => ?_) (fun h3 => ⟨_, rfl, hdr⟩)
      walk_at "s"
      refine go_iteD (fun h4 => ?_) (fun h4 => ⟨_, rfl, hdr⟩)
      walk_at "s"
      have hc' : SqL K H d.c (d.cells.map V.int) := sq_of hc
      walk_at "s"
      refine go_iteD (fun h5 => ?_) (fun h5 => ⟨_, rfl, hdr⟩)
      walk_at "s"
      have hi : i.toNat < d.cells.length := by have := v.i0; rw [List.length_map] at h5; omega
      have hcell := v.cs d.cells[i.toNat] (List.getElem_mem hi)
      refine go_ixl hc' (atI_at v.i0 (by rw [List.getElem?_map, List.getElem?_eq_getElem hi]; rfl)) ?_
      generalize d.cells[i.toNat] = x at hcell
      obtain ⟨hx0, hx1⟩ := hcell
      walk_at "s"
      have hu1 : ∀ b o, upd H d.a o b = if b = d.a then some o else H b := fun _ _ => rfl
      have up1 : ∀ o, upd H d.a o d.a = some o := fun _ => upd_same
      try dsimp only [List.set]
      refine go_ixl (sq_of upd_same) rfl ?_
      walk_at "s"
      refine go_mul (.inl (.inr (by decide))) ?_
      walk_at "s"
      refine go_mul (.inl (.inr (by decide))) ?_
      walk_at "s"
      refine go_set upd_same rfl ?_
      rw [upd_upd]
      try dsimp only [List.set]
      walk_at "s"
      have hm0 : 0 ≤ (m * 6364136223846793005 + x * 2862933555777941757 + 7046029254386353131) % 18446744073709551616 := Int.emod_nonneg _ (by decide)
      have hm1 : (m * 6364136223846793005 + x * 2862933555777941757 + 7046029254386353131) % 18446744073709551616 < 2 ^ 64 := Int.emod_lt_of_pos _ (by decide)
      generalize (m * 6364136223846793005 + x * 2862933555777941757 + 7046029254386353131) % 18446744073709551616 = m' at hm0 hm1
      have i0 := v.i0
      refine go_iteD (fun h6 => ?_) (fun h6 => ?_)
      · walk_at "s"
        refine go_set upd_same rfl ?_
        rw [upd_upd]
        try dsimp only [List.set]
        exact ⟨_, rfl, drJ_upd hc hne ⟨v.len, by omega, v.cs, hx0, hx1, v.l0, hm0, hm1⟩⟩
      · walk_at "s"
        refine go_set upd_same rfl ?_
        rw [upd_upd]
        try dsimp only [List.set]
        exact ⟨_, rfl, drJ_upd hc hne ⟨v.len, by omega, v.cs, v.r0, v.r1, by decide, hm0, hm1⟩⟩
    · rintro σ1 H1 ⟨y, rfl, hd1⟩
      walk_at "g"
      have hde := hd1.deal
      obtain ⟨i, r, l, m, e, hc, hne, v⟩ := hde
      walk_at "s"
      refine go_iteD (fun h3 => ?_) (fun h3 => ?_)
      · walk_at "s"
        refine go_div (cdiv_of (by omega) (by omega)) ?_
        walk_at "s"
        try dsimp only [List.set]
        have h0 : 0 ≤ r % n := Int.emod_nonneg _ (by omega)
        have h1 : r % n < n := Int.emod_lt_of_pos _ (by omega)
        have h4 : 0 ≤ r / n := Int.ediv_nonneg (by omega) (by omega)
        have h5 : r / n ≤ r := Int.ediv_le_self _ (by omega)
        refine q _ _ (hd1.trans (drJ_upd hc hne ⟨v.len, v.i0, v.cs, h4, Nat.lt_of_le_of_lt (by omega) v.r1, v.l0, v.m0, v.m1⟩)) h0 (fun _ => h1) (by omega)
      · walk_at "s"
        refine go_cut (fun σ' H' => σ' = [some (.ref d.a), some (.int n), y, none, none] ∧ DrJ d H1 H') ?_ ?_
        · walk_at "s"
          refine go_iteD (fun h4 => ?_) (fun h4 => ⟨rfl, DrJ.refl hd1.deal⟩)
          walk_at "s"
          try dsimp only [List.set]
          exact ⟨rfl, drJ_upd hc hne ⟨v.len, v.i0, v.cs, v.r0, v.r1, by omega, v.m0, v.m1⟩⟩
        · rintro σ2 H2 ⟨rfl, hd2⟩
          clear e hc hne v
          obtain ⟨i, r, l, m, e, hc, hne, v⟩ := hd2.deal
          walk_at "s"
          refine go_mul (.inl (.inr (by decide))) ?_
          walk_at "s"
          try dsimp only [List.set]
          have hm0 : 0 ≤ (m * 6364136223846793005 + 1442695040888963407) % 18446744073709551616 := Int.emod_nonneg _ (by decide)
          have hm1 : (m * 6364136223846793005 + 1442695040888963407) % 18446744073709551616 < 2 ^ 64 := Int.emod_lt_of_pos _ (by decide)
          generalize (m * 6364136223846793005 + 1442695040888963407) % 18446744073709551616 = m' at hm0 hm1
          have hd3 := (hd1.trans hd2).trans (drJ_upd hc hne ⟨v.len, v.i0, v.cs, v.r0, v.r1, v.l0, hm0, hm1⟩)
          refine go_ixl (sq_of upd_same) rfl ?_
          walk_at "s"
          refine go_div (cdiv_of (by omega) (by omega)) ?_
          walk_at "s"
          refine go_mul (.inl (.inr (by decide))) ?_
          walk_at "s"
          refine go_ixl (sq_of upd_same) rfl ?_
          walk_at "s"
          refine go_div (cdiv_of (by omega) (by omega)) ?_
          walk_at "s"
          refine go_div (cdiv_of (by omega) (by omega)) ?_
          walk_at "s"
          exact q _ _ hd3 (Int.emod_nonneg _ (by omega)) (fun _ => Int.emod_lt_of_pos _ (by omega)) (by omega)
theorem ok_l_pick (T : Top w K mg) : Ok P w K mg base 2 ("_law_pick", none) ["deal", "row"] (SpM K false 2 l_pick_M) := by
  have G_l_take := ok_l_take (P := P) (w := w) (base := base) T
  refine T.f_l_pick.ok sc_l_pick (fun _ _ _ _ h => SpM.len h) (fun cdv A outer s H vs Q E hr h => ?_)
  have xtab := xtab T
  refine viaN (n := 2) (k := 0) (ob := []) (o' := []) (a := l_pick_B) (PSs.nox (pss_one (ps_ret (pe_ix (ix_K K rfl) (pv 1) (by exact pe_callU (E := fun _ => E0) G_l_take (hr.mono (by first | decide | exact Nat.le_add_right _ _ | (simp only [Nat.add_eq]; omega))) rfl T.g_l_take T.f_l_take.kp (b_l_take T) pass_n (pa_cons (pv 0) (pa_cons (pe_callB (call_lenK K rfl) (by rfl) T.z_len (by decide +kernel) (pa_cons (pv 1) pa_nil)) pa_nil))) (fun _ _ => rfl))))) (fun W hx => ?_) rfl h
  exact show SS K W _ false [] [false, false] [] _ _ from (ss_ret (se_op (se_var rfl) (se_call hx (sa_cons (se_var rfl) (sa_cons (se_cb (sa_cons (se_var rfl) sa_nil) cs_len) sa_nil))) os_ix))
theorem ok_l_bad_word (T : Top w K mg) : Ok P w K mg base 3 ("_law_bad_word", none) ["deal"] (SpM K false 1 l_bad_word_M) := by
  have G_l_pick := ok_l_pick (P := P) (w := w) (base := base) T
  refine T.f_l_bad_word.ok sc_l_bad_word (fun _ _ _ _ h => SpM.len h) (fun cdv A outer s H vs Q E hr h => ?_)
  have xtab := xtab T
  refine viaN (n := 1) (k := 1) (ob := []) (o' := []) (a := l_bad_word_B) (PSs.nox (pss_cons (ps_set (i := 1) sc_l_bad_word.nd rfl (.inl rfl) (pe_lst (pa_cons pe_non (pa_cons pe_bl (pa_cons pe_int (pa_cons (pe_lst (pa_cons (pe_s [40, 66, 41]) pa_nil)) (pa_cons (pe_tup (pa_cons (pe_s [66]) (pa_cons (pe_s [73]) pa_nil))) (pa_cons (pe_s []) (pa_cons (pe_s [40, 41]) (pa_cons (pe_s [66]) (pa_cons (pe_s [40, 66]) (pa_cons (pe_s [66, 41]) (pa_cons (pe_s [40, 66, 66, 66, 66, 66, 41]) (pa_cons (pe_s [66, 66, 66, 66, 66, 66, 66, 66, 66, 66, 66, 66, 66, 40, 66, 41]) (pa_cons (pe_s [40, 98, 41]) (pa_cons (pe_s [40, 66, 41, 32]) pa_nil))))))))))))))))
      (pss_cons (ps_set (i := 1) sc_l_bad_word.nd rfl (.inl rfl) (pe_op (op_addA K rfl) (pv 1) (pe_lst (pa_cons (pe_s [32, 40, 66, 41]) (pa_cons (pe_s [40, 66, 41, 66]) (pa_cons (pe_s [40, 40, 66, 41, 41]) (pa_cons (pe_s [66, 40, 41]) (pa_cons (pe_s [40, 66, 41, 40, 66, 41]) (pa_cons (pe_s [66, 88, 40, 66, 41]) (pa_cons (pe_s [66, 32, 40, 66, 41]) (pa_cons (pe_s [40, 66, 66, 44, 66, 41]) (pa_cons (pe_s [41, 66, 40]) (pa_cons (pe_s [40, 84, 41]) pa_nil)))))))))))))
      (pss_one (ps_ret (pe_lst (pa_cons (by exact pe_callU (E := fun _ => E0) G_l_pick (hr.mono (by first | decide | exact Nat.le_add_right _ _ | (simp only [Nat.add_eq]; omega))) rfl T.g_l_pick T.f_l_pick.kp (b_l_pick T) pass_n (pa_cons (pv 0) (pa_cons (pv 1) pa_nil))) pa_nil))))))) (fun W hx => ?_) rfl h
  exact show SS K W _ false [] [false, false] [] _ _ from (ss_seq (ss_set (se_frz (se_lst (sa_cons (se_c (d := .non) fun _ => Rep.non.mpr rfl) (sa_cons (se_c (d := .bl true) fun _ => blR) (sa_cons (se_c (d := .int 0) fun _ => intR) (sa_cons (se_frz (se_lst (sa_cons (se_c (d := .str [40, 66, 41]) fun _ => strR) sa_nil))) (sa_cons (se_tup (sa_cons (se_c (d := .str [66]) fun _ => strR) (sa_cons (se_c (d := .str [73]) fun _ => strR) sa_nil))) (sa_cons (se_c (d := .str []) fun _ => strR) (sa_cons (se_c (d := .str [40, 41]) fun _ => strR) (sa_cons (se_c (d := .str [66]) fun _ => strR) (sa_cons (se_c (d := .str [40, 66]) fun _ => strR) (sa_cons (se_c (d := .str [66, 41]) fun _ => strR) (sa_cons (se_c (d := .str [40, 66, 66, 66, 66, 66, 41]) fun _ => strR) (sa_cons (se_c (d := .str [66, 66, 66, 66, 66, 66, 66, 66, 66, 66, 66, 66, 66, 40, 66, 41]) fun _ => strR) (sa_cons (se_c (d := .str [40, 98, 41]) fun _ => strR) (sa_cons (se_c (d := .str [40, 66, 41, 32]) fun _ => strR) sa_nil)))))))))))))))) rfl)
      (ss_seq (ss_set (se_op (se_var rfl) (se_frz (se_lst (sa_cons (se_c (d := .str [32, 40, 66, 41]) fun _ => strR) (sa_cons (se_c (d := .str [40, 66, 41, 66]) fun _ => strR) (sa_cons (se_c (d := .str [40, 40, 66, 41, 41]) fun _ => strR) (sa_cons (se_c (d := .str [66, 40, 41]) fun _ => strR) (sa_cons (se_c (d := .str [40, 66, 41, 40, 66, 41]) fun _ => strR) (sa_cons (se_c (d := .str [66, 88, 40, 66, 41]) fun _ => strR) (sa_cons (se_c (d := .str [66, 32, 40, 66, 41]) fun _ => strR) (sa_cons (se_c (d := .str [40, 66, 66, 44, 66, 41]) fun _ => strR) (sa_cons (se_c (d := .str [41, 66, 40]) fun _ => strR) (sa_cons (se_c (d := .str [40, 84, 41]) fun _ => strR) sa_nil)))))))))))) os_add) rfl)
      (ss_ret (se_frz (se_lst (sa_cons (se_call hx (sa_cons (se_var rfl) (sa_cons (se_var rfl) sa_nil))) sa_nil))))))
theorem ok_l_is_number (T : Top w K mg) : Ok P w K mg base 1 ("_law_is_number", none) ["answer"] (SpM K false 1 l_is_number_M) := by
  refine T.f_l_is_number.ok sc_l_is_number (fun _ _ _ _ h => SpM.len h) (fun cdv A outer s H vs Q E hr h => ?_)
  have xtab := xtab T
  refine viaN (n := 1) (k := 0) (ob := []) (o' := []) (a := l_is_number_B) (PSs.nox (pss_one (ps_ret (pe_andU (pe_callB (call_isiK K rfl) (by rfl) T.z_isinstance (by decide +kernel) (pa_cons (pv 0) (pa_cons (pe_bltn (v := .ty "int") (by rfl) T.z_int (by decide +kernel) rfl) pa_nil))) (pe_one (pe_notU (pe_callB (call_isiK K rfl) (by rfl) T.z_isinstance (by decide +kernel) (pa_cons (pv 0) (pa_cons (pe_bltn (v := .ty "bool") (by rfl) T.z_bool (by decide +kernel) rfl) pa_nil))))))))) (fun W hx => ?_) rfl h
  exact show SS K W _ false [] [false] [] _ _ from (ss_ret (se_and (se_cb (sa_cons (se_var rfl) (sa_cons (se_c (d := .ty "int") fun _ => Rep.ty.mpr rfl) sa_nil)) cs_isi) (se_not (se_cb (sa_cons (se_var rfl) (sa_cons (se_c (d := .ty "bool") fun _ => Rep.ty.mpr rfl) sa_nil)) cs_isi))))
theorem ok_l_equal (T : Top w K mg) : ∀ n, Ok P w K mg base (1 + n) ("_law_equal", none) ["answer", "due"] (SpM K false 2 (l_equal_M n)) := by
  intro n
  induction n with
  | zero => exact ⟨fun _ _ _ _ h => SpM.len h, fun _ _ _ _ _ _ _ _ _ _ _ _ _ h => (SpM.no h).elim⟩
  | succ n G_l_equal =>
    have G_l_is_number := ok_l_is_number (P := P) (w := w) (base := base) T
    refine T.f_l_equal.ok sc_l_equal (fun _ _ _ _ h => SpM.len h) (fun cdv A outer s H vs Q E hr h => ?_)
    have xtab := xtab T
    refine viaN (n := 2) (k := 1) (ob := []) (o' := []) (PSs.nox (pss_cons (ps_ifU (pt_c op_isU (pv 1) pe_non (nomark _)) (pss_one (ps_ret (pe_cmpR op_isU (pv 0) pe_non (nomark _)))) pss_nil)
      (pss_cons (ps_ifU (pt_c op_isU (pv 1) pe_bl (nomark _)) (pss_one (ps_ret (pe_cmpR op_isU (pv 0) pe_bl (nomark _)))) pss_nil)
      (pss_cons (ps_ifU (pt_c op_isU (pv 1) pe_bl (nomark _)) (pss_one (ps_ret (pe_cmpR op_isU (pv 0) pe_bl (nomark _)))) pss_nil)
      (pss_cons (ps_ifU (pt_t (pe_callB (call_isiK K rfl) (by rfl) T.z_isinstance (by decide +kernel) (pa_cons (pv 1) (pa_cons (pe_bltn (v := .ty "str") (by rfl) T.z_str (by decide +kernel) rfl) pa_nil)))) (pss_one (ps_ret (pe_andU (pe_callB (call_isiK K rfl) (by rfl) T.z_isinstance (by decide +kernel) (pa_cons (pv 0) (pa_cons (pe_bltn (v := .ty "str") (by rfl) T.z_str (by decide +kernel) rfl) pa_nil))) (pe_one (pe_cmpR (op_eqK K rfl hr.units) (pv 0) (pv 1) (nomark _)))))) pss_nil)
      (pss_cons (ps_ifU (pt_t (pe_callB (call_isiK K rfl) (by rfl) T.z_isinstance (by decide +kernel) (pa_cons (pv 1) (pa_cons (pe_bltn (v := .ty "int") (by rfl) T.z_int (by decide +kernel) rfl) pa_nil)))) (pss_one (ps_ret (pe_andU (by exact pe_callU (E := fun _ => E0) G_l_is_number (hr.mono (by first | decide | exact Nat.le_add_right _ _ | (simp only [Nat.add_eq]; omega))) rfl T.g_l_is_number T.f_l_is_number.kp (b_l_is_number T) pass_n (pa_cons (pv 0) pa_nil)) (pe_one (pe_cmpR (op_eqK K rfl hr.units) (pv 0) (pv 1) (nomark _)))))) pss_nil)
      (pss_cons (ps_ifU (pw_andU (pt_t (pe_callB (call_isiK K rfl) (by rfl) T.z_isinstance (by decide +kernel) (pa_cons (pv 1) (pa_cons (pe_bltn (v := .ty "list") (by rfl) T.z_list (by decide +kernel) rfl) pa_nil)))) (pw_and1 (pt_not (pt_t (pe_callB (call_isiK K rfl) (by rfl) T.z_isinstance (by decide +kernel) (pa_cons (pv 0) (pa_cons (pe_bltn (v := .ty "list") (by rfl) T.z_list (by decide +kernel) rfl) pa_nil))))))).pt (pss_one (ps_ret pe_bl)) pss_nil)
      (pss_cons (ps_ifU (pw_andU (pt_t (pe_callB (call_isiK K rfl) (by rfl) T.z_isinstance (by decide +kernel) (pa_cons (pv 1) (pa_cons (pe_bltn (v := .ty "tuple") (by rfl) T.z_tuple (by decide +kernel) rfl) pa_nil)))) (pw_and1 (pt_not (pt_t (pe_callB (call_isiK K rfl) (by rfl) T.z_isinstance (by decide +kernel) (pa_cons (pv 0) (pa_cons (pe_bltn (v := .ty "tuple") (by rfl) T.z_tuple (by decide +kernel) rfl) pa_nil))))))).pt (pss_one (ps_ret pe_bl)) pss_nil)
      (pss_cons (ps_ifU (pt_c (op_neK K rfl hr.units) (pe_callB (call_lenK K rfl) (by rfl) T.z_len (by decide +kernel) (pa_cons (pv 0) pa_nil)) (pe_callB (call_lenK K rfl) (by rfl) T.z_len (by decide +kernel) (pa_cons (pv 1) pa_nil)) (nomark _)) (pss_one (ps_ret pe_bl)) pss_nil)
      (pss_cons (ps_for PassesOwn.never rfl (pi_range1 (by rfl) T.z_range (pa_cons (pe_callB (call_lenK K rfl) (by rfl) T.z_len (by decide +kernel) (pa_cons (pv 1) pa_nil)) pa_nil)) (pg_name (i := 2) sc_l_equal.nd rfl (Or.inl rfl)) (pss_one (ps_ifU (pt_not (pt_t (by exact pe_callU (E := fun _ => E0) G_l_equal hr rfl T.g_l_equal T.f_l_equal.kp (b_l_equal T) pass_n (pa_cons (pe_ix (ix_K K rfl) (pv 0) (pv 2) (fun _ _ => rfl)) (pa_cons (pe_ix (ix_K K rfl) (pv 1) (pv 2) (fun _ _ => rfl)) pa_nil))))) (pss_one (ps_ret pe_bl)) pss_nil)))
      (pss_one (ps_ret pe_bl)))))))))))) (fun W hx => ?_) rfl h
    exact show SS K W _ false [] [false, false, false] [] _ _ from (ss_seq (ss_if (st_test (se_op (se_var rfl) (se_c (d := .non) fun _ => Rep.non.mpr rfl) os_is)) (ss_ret (se_op (se_var rfl) (se_c (d := .non) fun _ => Rep.non.mpr rfl) os_is)) ss_next)
      (ss_seq (ss_if (st_test (se_op (se_var rfl) (se_c (d := .bl true) fun _ => blR) os_is)) (ss_ret (se_op (se_var rfl) (se_c (d := .bl true) fun _ => blR) os_is)) ss_next)
      (ss_seq (ss_if (st_test (se_op (se_var rfl) (se_c (d := .bl false) fun _ => blR) os_is)) (ss_ret (se_op (se_var rfl) (se_c (d := .bl false) fun _ => blR) os_is)) ss_next)
      (ss_seq (ss_if (st_test (se_cb (sa_cons (se_var rfl) (sa_cons (se_c (d := .ty "str") fun _ => Rep.ty.mpr rfl) sa_nil)) cs_isi)) (ss_ret (se_and (se_cb (sa_cons (se_var rfl) (sa_cons (se_c (d := .ty "str") fun _ => Rep.ty.mpr rfl) sa_nil)) cs_isi) (se_op (se_var rfl) (se_var rfl) os_eq))) ss_next)
      (ss_seq (ss_if (st_test (se_cb (sa_cons (se_var rfl) (sa_cons (se_c (d := .ty "int") fun _ => Rep.ty.mpr rfl) sa_nil)) cs_isi)) (ss_ret (se_and (se_call hx (sa_cons (se_var rfl) sa_nil)) (se_op (se_var rfl) (se_var rfl) os_eq))) ss_next)
      (ss_seq (ss_if (st_and (st_test (se_cb (sa_cons (se_var rfl) (sa_cons (se_c (d := .ty "list") fun _ => Rep.ty.mpr rfl) sa_nil)) cs_isi)) (st_not (st_test (se_cb (sa_cons (se_var rfl) (sa_cons (se_c (d := .ty "list") fun _ => Rep.ty.mpr rfl) sa_nil)) cs_isi)))) (ss_ret (se_c (d := .bl false) fun _ => blR)) ss_next)
      (ss_seq (ss_if (st_and (st_test (se_cb (sa_cons (se_var rfl) (sa_cons (se_c (d := .ty "tuple") fun _ => Rep.ty.mpr rfl) sa_nil)) cs_isi)) (st_not (st_test (se_cb (sa_cons (se_var rfl) (sa_cons (se_c (d := .ty "tuple") fun _ => Rep.ty.mpr rfl) sa_nil)) cs_isi)))) (ss_ret (se_c (d := .bl false) fun _ => blR)) ss_next)
      (ss_seq (ss_if (st_test (se_op (se_cb (sa_cons (se_var rfl) sa_nil) cs_len) (se_cb (sa_cons (se_var rfl) sa_nil) cs_len) os_ne)) (ss_ret (se_c (d := .bl false) fun _ => blR)) ss_next)
      (ss_seq (ss_for (si_rng1 (sa_cons (se_cb (sa_cons (se_var rfl) sa_nil) cs_len) sa_nil)) (st_name (i := 2)) rfl (ss_if (st_not (st_test (se_call hx (sa_cons (se_op (se_var rfl) (se_var rfl) os_ix) (sa_cons (se_op (se_var rfl) (se_var rfl) os_ix) sa_nil))))) (ss_ret (se_c (d := .bl false) fun _ => blR)) ss_next))
      (ss_ret (se_c (d := .bl true) fun _ => blR)))))))))))
theorem ok_l_within (T : Top w K mg) : Ok P w K mg base 2 ("_law_within", none) ["deal", "least", "greatest"] (SpM K false 3 l_within_M) := by
  have G_l_take := ok_l_take (P := P) (w := w) (base := base) T
  refine T.f_l_within.ok sc_l_within (fun _ _ _ _ h => SpM.len h) (fun cdv A outer s H vs Q E hr h => ?_)
  have xtab := xtab T
  refine viaN (n := 3) (k := 0) (ob := []) (o' := []) (a := l_within_B) (PSs.nox (pss_one (ps_ret (pe_op (op_addA K rfl) (pv 1) (by exact pe_callU (E := fun _ => E0) G_l_take (hr.mono (by first | decide | exact Nat.le_add_right _ _ | (simp only [Nat.add_eq]; omega))) rfl T.g_l_take T.f_l_take.kp (b_l_take T) pass_n (pa_cons (pv 0) (pa_cons (pe_op (op_addA K rfl) (pe_op op_subU (pv 2) (pv 1)) pe_int) pa_nil))))))) (fun W hx => ?_) rfl h
  exact show SS K W _ false [] [false, false, false] [] _ _ from (ss_ret (se_op (se_var rfl) (se_call hx (sa_cons (se_var rfl) (sa_cons (se_op (se_op (se_var rfl) (se_var rfl) os_sub) (se_c (d := .int 1) fun _ => intR) os_add) sa_nil))) os_add))
theorem ok_l_edge (T : Top w K mg) : Ok P w K mg base 3 ("_law_edge", none) ["deal", "least", "greatest"] (SpM K false 3 l_edge_M) := by
  have G_l_take := ok_l_take (P := P) (w := w) (base := base) T
  have G_l_within := ok_l_within (P := P) (w := w) (base := base) T
  refine T.f_l_edge.ok sc_l_edge (fun _ _ _ _ h => SpM.len h) (fun cdv A outer s H vs Q E hr h => ?_)
  have xtab := xtab T
  refine viaN (n := 3) (k := 1) (ob := []) (o' := []) (a := l_edge_B) (PSs.nox (pss_cons (ps_set (i := 3) sc_l_edge.nd rfl (.inl rfl) (by exact pe_callU (E := fun _ => E0) G_l_take (hr.mono (by first | decide | exact Nat.le_add_right _ _ | (simp only [Nat.add_eq]; omega))) rfl T.g_l_take T.f_l_take.kp (b_l_take T) pass_n (pa_cons (pv 0) (pa_cons pe_int pa_nil))))
      (pss_cons (ps_ifU (pw_orU (pt_c (op_eqK K rfl hr.units) (pv 3) pe_int (nomark _)) (pw_or1 (pt_c op_leA (pv 2) (pv 1) (nomark _)))).pt (pss_one (ps_ret (pv 1))) pss_nil)
      (pss_cons (ps_ifU (pt_c (op_eqK K rfl hr.units) (pv 3) pe_int (nomark _)) (pss_one (ps_ret (pv 2))) pss_nil)
      (pss_one (ps_ret (by exact pe_callU (E := fun _ => E0) G_l_within (hr.mono (by first | decide | exact Nat.le_add_right _ _ | (simp only [Nat.add_eq]; omega))) rfl T.g_l_within T.f_l_within.kp (b_l_within T) pass_n (pa_cons (pv 0) (pa_cons (pv 1) (pa_cons (pv 2) pa_nil)))))))))) (fun W hx => ?_) rfl h
  exact show SS K W _ false [] [false, false, false, false] [] _ _ from (ss_seq (ss_set (se_call hx (sa_cons (se_var rfl) (sa_cons (se_c (d := .int 6) fun _ => intR) sa_nil))) rfl)
      (ss_seq (ss_if (st_or (st_test (se_op (se_var rfl) (se_c (d := .int 0) fun _ => intR) os_eq)) (st_test (se_op (se_var rfl) (se_var rfl) os_cmp))) (ss_ret (se_var rfl)) ss_next)
      (ss_seq (ss_if (st_test (se_op (se_var rfl) (se_c (d := .int 1) fun _ => intR) os_eq)) (ss_ret (se_var rfl)) ss_next)
      (ss_ret (se_call hx (sa_cons (se_var rfl) (sa_cons (se_var rfl) (sa_cons (se_var rfl) sa_nil))))))))
theorem ok_l_mark_at (T : Top w K mg) : Ok P w K mg base 1 ("_law_mark_at", none) ["pair", "k"] (SpM K false 2 l_mark_at_M) := by
  refine T.f_l_mark_at.ok sc_l_mark_at (fun _ _ _ _ h => SpM.len h) (fun cdv A outer s H vs Q E hr h => ?_)
  have xtab := xtab T
  refine viaN (n := 2) (k := 0) (ob := []) (o' := []) (a := l_mark_at_B) (PSs.nox (pss_cons (ps_ifU (pt_c op_ltA (pv 1) (pe_callB (call_lenK K rfl) (by rfl) T.z_len (by decide +kernel) (pa_cons (pe_ix (ix_K K rfl) (pv 0) pe_int (fun _ _ => rfl)) pa_nil)) (nomark _)) (pss_one (ps_ret (pe_ix (ix_K K rfl) (pe_ix (ix_K K rfl) (pv 0) pe_int (fun _ _ => rfl)) (pv 1) (fun _ _ => rfl)))) pss_nil)
      (pss_one (ps_ret (pe_ix (ix_K K rfl) (pe_ix (ix_K K rfl) (pv 0) pe_int (fun _ _ => rfl)) (pe_op op_modU (pe_callTy call_intA (by rfl) T.z_int (by decide +kernel) (pa_cons (pe_op op_subU (pv 1) (pe_callB (call_lenK K rfl) (by rfl) T.z_len (by decide +kernel) (pa_cons (pe_ix (ix_K K rfl) (pv 0) pe_int (fun _ _ => rfl)) pa_nil))) pa_nil)) (pe_callB (call_lenK K rfl) (by rfl) T.z_len (by decide +kernel) (pa_cons (pe_ix (ix_K K rfl) (pv 0) pe_int (fun _ _ => rfl)) pa_nil))) (fun _ _ => rfl)))))) (fun W hx => ?_) rfl h
  exact show SS K W _ false [] [false, false] [] _ _ from (ss_seq (ss_if (st_test (se_op (se_var rfl) (se_cb (sa_cons (se_op (se_var rfl) (se_c (d := .int 0) fun _ => intR) os_ix) sa_nil) cs_len) os_cmp)) (ss_ret (se_op (se_op (se_var rfl) (se_c (d := .int 0) fun _ => intR) os_ix) (se_var rfl) os_ix)) ss_next)
      (ss_ret (se_op (se_op (se_var rfl) (se_c (d := .int 1) fun _ => intR) os_ix) (se_op (se_cb (sa_cons (se_op (se_var rfl) (se_cb (sa_cons (se_op (se_var rfl) (se_c (d := .int 0) fun _ => intR) os_ix) sa_nil) cs_len) os_sub) sa_nil) cs_int) (se_cb (sa_cons (se_op (se_var rfl) (se_c (d := .int 1) fun _ => intR) os_ix) sa_nil) cs_len) os_mod) os_ix)))
theorem ok_l_split (T : Top w K mg) : Ok P w K mg base 1 ("_law_split", none) ["word_text"] (SpM K false 1 l_split_M) := by
  refine T.f_l_split.ok sc_l_split (fun _ _ _ _ h => SpM.len h) (fun cdv A outer s H vs Q E hr h => ?_)
  have xtab := xtab T
  refine viaN (n := 1) (k := 1) (ob := []) (o' := []) (a := l_split_B) (PSs.nox (pss_cons (ps_set (i := 1) sc_l_split.nd rfl (.inl rfl) (pe_bmK K rfl PySem.F.plainAttrs_str PySem.F.slot_str_index PySem.F.type_str_index mt_idxS (pv 0) (pa_cons (pe_s [40]) pa_nil)))
      (pss_one (ps_ret (pe_lst (pa_cons (pe_slice (sl_K K rfl) (pv 0) po_none (po_some (pv 1))) (pa_cons (pe_slice (sl_K K rfl) (pv 0) (po_some (pe_op (op_addA K rfl) (pv 1) pe_int)) (po_some (pe_op op_subU (pe_callB (call_lenK K rfl) (by rfl) T.z_len (by decide +kernel) (pa_cons (pv 0) pa_nil)) pe_int))) pa_nil))))))) (fun W hx => ?_) rfl h
  exact show SS K W _ false [] [false, false] [] _ _ from (ss_seq (ss_set (se_mtS (se_var rfl) (sa_cons (se_c (d := .str [40]) fun _ => strR) sa_nil) ms_idxS) rfl)
      (ss_ret (se_frz (se_lst (sa_cons (se_sl (se_var rfl) sp_no (sp_ex (se_var rfl)) ss_sl) (sa_cons (se_sl (se_var rfl) (sp_ex (se_op (se_var rfl) (se_c (d := .int 1) fun _ => intR) os_add)) (sp_ex (se_op (se_cb (sa_cons (se_var rfl) sa_nil) cs_len) (se_c (d := .int 1) fun _ => intR) os_sub)) ss_sl) sa_nil))))))
theorem ok_l_first_marks (T : Top w K mg) : Ok P w K mg base 2 ("_law_first_marks", none) ["word_text", "size"] (SpM K false 2 l_first_marks_M) := by
  have G_l_mark_at := ok_l_mark_at (P := P) (w := w) (base := base) T
  have G_l_split := ok_l_split (P := P) (w := w) (base := base) T
  refine T.f_l_first_marks.ok sc_l_first_marks (fun _ _ _ _ h => SpM.len h) (fun cdv A outer s H vs Q E hr h => ?_)
  have xtab := xtab T
  refine viaN (n := 2) (k := 2) (ob := []) (o' := []) (a := l_first_marks_B) (PSs.nox (pss_cons (ps_set (i := 2) sc_l_first_marks.nd rfl (.inr rfl) (by exact pe_callU (E := fun _ => E0) G_l_split (hr.mono (by first | decide | exact Nat.le_add_right _ _ | (simp only [Nat.add_eq]; omega))) rfl T.g_l_split T.f_l_split.kp (b_l_split T) pass_n (pa_cons (pv 0) pa_nil)))
      (pss_one (ps_ret (pe_bmK K rfl PySem.F.plainAttrs_str PySem.F.slot_str_join PySem.F.type_str_join (mt_joinK K rfl) (pe_s []) (pa_cons (pe_lc (own := [("k", 3)]) (by rfl) sc_l_first_marks.nd (pi_range1 (by rfl) T.z_range (pa_cons (pv 1) pa_nil)) (blkOk_by (own := [("k", 3)]) (N := N_l_first_marks) (sc := defScope s_l_first_marks) (by decide +kernel)) (fun _ _ _ _ _ => (pg_name (i := 3) sc_l_first_marks.nd rfl (Or.inl rfl))) (fun _ _ _ _ _ => pts_nil) (fun _ _ _ _ _ => (by exact pe_callU (E := fun _ => E0) G_l_mark_at (hr.mono (by first | decide | exact Nat.le_add_right _ _ | (simp only [Nat.add_eq]; omega))) rfl T.g_l_mark_at T.f_l_mark_at.kp (b_l_mark_at T) pass_n (pa_cons (pv 2) (pa_cons (pv 3) pa_nil))))) pa_nil)))))) (fun W hx => ?_) rfl h
  exact show SS K W _ false [] [false, false, false, false] [] _ _ from (ss_seq (ss_set (se_call hx (sa_cons (se_var rfl) sa_nil)) rfl)
      (ss_ret (se_mtS (se_c (d := .str []) fun _ => strR) (sa_cons (se_frz (se_lc rfl (si_rng1 (sa_cons (se_var rfl) sa_nil)) (st_name (i := 3)) (by decide) st_yes (se_call hx (sa_cons (se_var rfl) (sa_cons (se_var rfl) sa_nil))))) sa_nil) ms_join)))
theorem ok_l_letter_text (T : Top w K mg) : Ok P w K mg base 3 ("_law_letter_text", none) ["deal", "marks", "size"] (SpM K false 3 l_letter_text_M) := by
  have G_l_pick := ok_l_pick (P := P) (w := w) (base := base) T
  refine T.f_l_letter_text.ok sc_l_letter_text (fun _ _ _ _ h => SpM.len h) (fun cdv A outer s H vs Q E hr h => ?_)
  have xtab := xtab T
  refine viaN (n := 3) (k := 1) (ob := []) (o' := []) (a := l_letter_text_B) (PSs.nox (pss_one (ps_ret (pe_bmK K rfl PySem.F.plainAttrs_str PySem.F.slot_str_join PySem.F.type_str_join (mt_joinK K rfl) (pe_s []) (pa_cons (pe_lc (own := [("k", 3)]) (by rfl) sc_l_letter_text.nd (pi_range1 (by rfl) T.z_range (pa_cons (pv 2) pa_nil)) (blkOk_by (own := [("k", 3)]) (N := N_l_letter_text) (sc := defScope s_l_letter_text) (by decide +kernel)) (fun _ _ _ _ _ => (pg_name (i := 3) sc_l_letter_text.nd rfl (Or.inl rfl))) (fun _ _ _ _ _ => pts_nil) (fun _ _ _ _ _ => (by exact pe_callU (E := fun _ => E0) G_l_pick (hr.mono (by first | decide | exact Nat.le_add_right _ _ | (simp only [Nat.add_eq]; omega))) rfl T.g_l_pick T.f_l_pick.kp (b_l_pick T) pass_n (pa_cons (pv 0) (pa_cons (pv 1) pa_nil))))) pa_nil))))) (fun W hx => ?_) rfl h
  exact show SS K W _ false [] [false, false, false, false] [] _ _ from (ss_ret (se_mtS (se_c (d := .str []) fun _ => strR) (sa_cons (se_frz (se_lc rfl (si_rng1 (sa_cons (se_var rfl) sa_nil)) (st_name (i := 3)) (by decide) st_yes (se_call hx (sa_cons (se_var rfl) (sa_cons (se_var rfl) sa_nil))))) sa_nil) ms_join))
theorem ok_l_prefix_size (T : Top w K mg) : Ok P w K mg base 4 ("_law_prefix_size", none) ["deal"] (SpM K false 1 l_prefix_size_M) := by
  have G_l_edge := ok_l_edge (P := P) (w := w) (base := base) T
  have G_l_take := ok_l_take (P := P) (w := w) (base := base) T
  refine T.f_l_prefix_size.ok sc_l_prefix_size (fun _ _ _ _ h => SpM.len h) (fun cdv A outer s H vs Q E hr h => ?_)
  have xtab := xtab T
  refine viaN (n := 1) (k := 1) (ob := []) (o' := []) (a := l_prefix_size_B) (PSs.nox (pss_cons (ps_set (i := 1) sc_l_prefix_size.nd rfl (.inl rfl) (by exact pe_callU (E := fun _ => E0) G_l_take (hr.mono (by first | decide | exact Nat.le_add_right _ _ | (simp only [Nat.add_eq]; omega))) rfl T.g_l_take T.f_l_take.kp (b_l_take T) pass_n (pa_cons (pv 0) (pa_cons pe_int pa_nil))))
      (pss_cons (ps_ifU (pt_c (op_eqK K rfl hr.units) (pv 1) pe_int (nomark _)) (pss_one (ps_ret pe_int)) pss_nil)
      (pss_cons (ps_ifU (pt_c (op_eqK K rfl hr.units) (pv 1) pe_int (nomark _)) (pss_one (ps_ret (by exact pe_callU (E := fun _ => E0) G_l_take (hr.mono (by first | decide | exact Nat.le_add_right _ _ | (simp only [Nat.add_eq]; omega))) rfl T.g_l_take T.f_l_take.kp (b_l_take T) pass_n (pa_cons (pv 0) (pa_cons pe_int pa_nil))))) pss_nil)
      (pss_one (ps_ret (by exact pe_callU (E := fun _ => E0) G_l_edge (hr.mono (by first | decide | exact Nat.le_add_right _ _ | (simp only [Nat.add_eq]; omega))) rfl T.g_l_edge T.f_l_edge.kp (b_l_edge T) pass_n (pa_cons (pv 0) (pa_cons pe_int (pa_cons pe_int pa_nil)))))))))) (fun W hx => ?_) rfl h
  exact show SS K W _ false [] [false, false] [] _ _ from (ss_seq (ss_set (se_call hx (sa_cons (se_var rfl) (sa_cons (se_c (d := .int 3) fun _ => intR) sa_nil))) rfl)
      (ss_seq (ss_if (st_test (se_op (se_var rfl) (se_c (d := .int 0) fun _ => intR) os_eq)) (ss_ret (se_c (d := .int 0) fun _ => intR)) ss_next)
      (ss_seq (ss_if (st_test (se_op (se_var rfl) (se_c (d := .int 1) fun _ => intR) os_eq)) (ss_ret (se_call hx (sa_cons (se_var rfl) (sa_cons (se_c (d := .int 5) fun _ => intR) sa_nil)))) ss_next)
      (ss_ret (se_call hx (sa_cons (se_var rfl) (sa_cons (se_c (d := .int 0) fun _ => intR) (sa_cons (se_c (d := .int 12) fun _ => intR) sa_nil))))))))
theorem ok_l_free_word (T : Top w K mg) : Ok P w K mg base 5 ("_law_free_word", none) ["deal"] (SpM K false 1 l_free_word_M) := by
  have G_l_letter_text := ok_l_letter_text (P := P) (w := w) (base := base) T
  have G_l_prefix_size := ok_l_prefix_size (P := P) (w := w) (base := base) T
  have G_l_within := ok_l_within (P := P) (w := w) (base := base) T
  refine T.f_l_free_word.ok sc_l_free_word (fun _ _ _ _ h => SpM.len h) (fun cdv A outer s H vs Q E hr h => ?_)
  have xtab := xtab T
  refine viaN (n := 1) (k := 1) (ob := []) (o' := []) (a := l_free_word_B) (PSs.nox (pss_cons (ps_set (i := 1) sc_l_free_word.nd rfl (.inl rfl) (by exact pe_callU (E := fun _ => E0) G_l_letter_text (hr.mono (by first | decide | exact Nat.le_add_right _ _ | (simp only [Nat.add_eq]; omega))) rfl T.g_l_letter_text T.f_l_letter_text.kp (b_l_letter_text T) pass_n (pa_cons (pv 0) (pa_cons (pe_s [66, 73, 79]) (pa_cons (by exact pe_callU (E := fun _ => E0) G_l_prefix_size (hr.mono (by first | decide | exact Nat.le_add_right _ _ | (simp only [Nat.add_eq]; omega))) rfl T.g_l_prefix_size T.f_l_prefix_size.kp (b_l_prefix_size T) pass_n (pa_cons (pv 0) pa_nil)) pa_nil)))))
      (pss_one (ps_ret (pe_op (op_addA K rfl) (pe_op (op_addA K rfl) (pe_op (op_addA K rfl) (pv 1) (pe_s [40])) (by exact pe_callU (E := fun _ => E0) G_l_letter_text (hr.mono (by first | decide | exact Nat.le_add_right _ _ | (simp only [Nat.add_eq]; omega))) rfl T.g_l_letter_text T.f_l_letter_text.kp (b_l_letter_text T) pass_n (pa_cons (pv 0) (pa_cons (pe_s [66, 73, 79]) (pa_cons (by exact pe_callU (E := fun _ => E0) G_l_within (hr.mono (by first | decide | exact Nat.le_add_right _ _ | (simp only [Nat.add_eq]; omega))) rfl T.g_l_within T.f_l_within.kp (b_l_within T) pass_n (pa_cons (pv 0) (pa_cons pe_int (pa_cons pe_int pa_nil)))) pa_nil))))) (pe_s [41])))))) (fun W hx => ?_) rfl h
  exact show SS K W _ false [] [false, false] [] _ _ from (ss_seq (ss_set (se_call hx (sa_cons (se_var rfl) (sa_cons (se_c (d := .str [66, 73, 79]) fun _ => strR) (sa_cons (se_call hx (sa_cons (se_var rfl) sa_nil)) sa_nil)))) rfl)
      (ss_ret (se_op (se_op (se_op (se_var rfl) (se_c (d := .str [40]) fun _ => strR) os_add) (se_call hx (sa_cons (se_var rfl) (sa_cons (se_c (d := .str [66, 73, 79]) fun _ => strR) (sa_cons (se_call hx (sa_cons (se_var rfl) (sa_cons (se_c (d := .int 1) fun _ => intR) (sa_cons (se_c (d := .int 4) fun _ => intR) sa_nil)))) sa_nil)))) os_add) (se_c (d := .str [41]) fun _ => strR) os_add)))
theorem ok_l_filled (T : Top w K mg) : Ok P w K mg base 1 ("_law_filled", none) ["cycle"] (SpM K false 1 l_filled_M) := by
  refine T.f_l_filled.ok sc_l_filled (fun _ _ _ _ h => SpM.len h) (fun cdv A outer s H vs Q E hr h => ?_)
  have xtab := xtab T
  refine viaN (n := 1) (k := 2) (ob := []) (o' := []) (a := l_filled_B) (PSs.nox (pss_cons (ps_set (i := 1) sc_l_filled.nd rfl (.inl rfl) (pe_orU (pe_cmpR (op_inA K rfl (hu65 hr)) (pe_s [73]) (pv 0) (by rfl)) (pe_one (pe_cmpR (op_inA K rfl (hu65 hr)) (pe_s [66]) (pv 0) (by rfl)))))
      (pss_cons (ps_set (i := 2) sc_l_filled.nd rfl (.inl rfl) (pe_orU (pe_cmpR (op_inA K rfl (hu65 hr)) (pe_s [79]) (pv 0) (by rfl)) (pe_one (pe_cmpR (op_inA K rfl (hu65 hr)) (pe_s [66]) (pv 0) (by rfl)))))
      (pss_cons (ps_ifU (pw_andU (pt_t (pv 1)) (pw_and1 (pt_t (pv 2)))).pt (pss_one (ps_ret (pv 0))) pss_nil)
      (pss_one (ps_ret (pe_op (op_addA K rfl) (pe_s [66]) (pe_slice (sl_K K rfl) (pv 0) (po_some pe_int) po_none)))))))) (fun W hx => ?_) rfl h
  exact show SS K W _ false [] [false, false, false] [] _ _ from (ss_seq (ss_set (se_or (se_op (se_c (d := .str [73]) fun _ => strR) (se_var rfl) (os_in false)) (se_op (se_c (d := .str [66]) fun _ => strR) (se_var rfl) (os_in false))) rfl)
      (ss_seq (ss_set (se_or (se_op (se_c (d := .str [79]) fun _ => strR) (se_var rfl) (os_in false)) (se_op (se_c (d := .str [66]) fun _ => strR) (se_var rfl) (os_in false))) rfl)
      (ss_seq (ss_if (st_and (st_test (se_var rfl)) (st_test (se_var rfl))) (ss_ret (se_var rfl)) ss_next)
      (ss_ret (se_op (se_c (d := .str [66]) fun _ => strR) (se_sl (se_var rfl) (sp_ex (se_c (d := .int 1) fun _ => intR)) sp_no ss_sl) os_add)))))
theorem ok_l_good_pair (T : Top w K mg) : Ok P w K mg base 1 ("_law_good_pair", none) ["head", "cycle"] (SpM K false 2 l_good_pair_M) := by
  refine T.f_l_good_pair.ok sc_l_good_pair (fun _ _ _ _ h => SpM.len h) (fun cdv A outer s H vs Q E hr h => ?_)
  have xtab := xtab T
  refine viaN (n := 2) (k := 3) (ob := []) (o' := []) (a := l_good_pair_B) (PSs.nox (pss_cons (ps_ifU (pt_c (op_eqK K rfl hr.units) (pe_op op_modU (pe_callTy call_intA (by rfl) T.z_int (by decide +kernel) (pa_cons (pe_bmK K rfl PySem.F.plainAttrs_str PySem.F.slot_str_count PySem.F.type_str_count mt_cntS (pv 1) (pa_cons (pe_s [84]) pa_nil)) pa_nil)) pe_int) pe_int (nomark _)) (pss_one (ps_set (i := 1) sc_l_good_pair.nd rfl (.inl rfl) (pe_op (op_addA K rfl) (pv 1) (pv 1)))) pss_nil)
      (pss_cons (ps_set (i := 2) sc_l_good_pair.nd rfl (.inl rfl) (pe_s []))
      (pss_cons (ps_set (i := 3) sc_l_good_pair.nd rfl (.inl rfl) pe_bl)
      (pss_cons (ps_for PassesOwn.never rfl (pi_any K rfl (pe_op (op_addA K rfl) (pv 0) (pv 1))) (pg_name (i := 4) sc_l_good_pair.nd rfl (Or.inl rfl)) (pss_one (ps_ifU (pt_c (op_eqK K rfl hr.units) (pv 4) (pe_s [66]) (nomark _)) (pss_one (ps_set (i := 2) sc_l_good_pair.nd rfl (.inl rfl) (pe_op (op_addA K rfl) (pv 2) (pe_s [66])))) (pss_one (ps_ifU (pt_t (pv 3)) (pss_cons (ps_set (i := 2) sc_l_good_pair.nd rfl (.inl rfl) (pe_op (op_addA K rfl) (pv 2) (pe_s [73])))
      (pss_one (ps_set (i := 3) sc_l_good_pair.nd rfl (.inl rfl) pe_bl))) (pss_cons (ps_set (i := 2) sc_l_good_pair.nd rfl (.inl rfl) (pe_op (op_addA K rfl) (pv 2) (pe_s [79])))
      (pss_one (ps_set (i := 3) sc_l_good_pair.nd rfl (.inl rfl) pe_bl))))))))
      (pss_one (ps_ret (pe_lst (pa_cons (pe_slice (sl_K K rfl) (pv 2) po_none (po_some (pe_callB (call_lenK K rfl) (by rfl) T.z_len (by decide +kernel) (pa_cons (pv 0) pa_nil)))) (pa_cons (pe_slice (sl_K K rfl) (pv 2) (po_some (pe_callB (call_lenK K rfl) (by rfl) T.z_len (by decide +kernel) (pa_cons (pv 0) pa_nil))) po_none) pa_nil)))))))))) (fun W hx => ?_) rfl h
  exact show SS K W _ false [] [false, false, false, false, false] [] _ _ from (ss_seq (ss_if (st_test (se_op (se_op (se_cb (sa_cons (se_mtS (se_var rfl) (sa_cons (se_c (d := .str [84]) fun _ => strR) sa_nil) ms_cntS) sa_nil) cs_int) (se_c (d := .int 2) fun _ => intR) os_mod) (se_c (d := .int 1) fun _ => intR) os_eq)) (ss_set (se_op (se_var rfl) (se_var rfl) os_add) rfl) ss_next)
      (ss_seq (ss_set (se_c (d := .str []) fun _ => strR) rfl)
      (ss_seq (ss_set (se_c (d := .bl true) fun _ => blR) rfl)
      (ss_seq (ss_for (si_any (se_op (se_var rfl) (se_var rfl) os_add)) (st_name (i := 4)) rfl (ss_if (st_test (se_op (se_var rfl) (se_c (d := .str [66]) fun _ => strR) os_eq)) (ss_set (se_op (se_var rfl) (se_c (d := .str [66]) fun _ => strR) os_add) rfl) (ss_if (st_test (se_var rfl)) (ss_seq (ss_set (se_op (se_var rfl) (se_c (d := .str [73]) fun _ => strR) os_add) rfl)
      (ss_set (se_c (d := .bl false) fun _ => blR) rfl)) (ss_seq (ss_set (se_op (se_var rfl) (se_c (d := .str [79]) fun _ => strR) os_add) rfl)
      (ss_set (se_c (d := .bl true) fun _ => blR) rfl)))))
      (ss_ret (se_frz (se_lst (sa_cons (se_sl (se_var rfl) sp_no (sp_ex (se_cb (sa_cons (se_var rfl) sa_nil) cs_len)) ss_sl) (sa_cons (se_sl (se_var rfl) (sp_ex (se_cb (sa_cons (se_var rfl) sa_nil) cs_len)) sp_no ss_sl) sa_nil)))))))))
theorem ok_l_pair_text (T : Top w K mg) : Ok P w K mg base 1 ("_law_pair_text", none) ["pair"] (SpM K false 1 l_pair_text_M) := by
  refine T.f_l_pair_text.ok sc_l_pair_text (fun _ _ _ _ h => SpM.len h) (fun cdv A outer s H vs Q E hr h => ?_)
  have xtab := xtab T
  refine viaN (n := 1) (k := 0) (ob := []) (o' := []) (a := l_pair_text_B) (PSs.nox (pss_one (ps_ret (pe_op (op_addA K rfl) (pe_op (op_addA K rfl) (pe_op (op_addA K rfl) (pe_ix (ix_K K rfl) (pv 0) pe_int (fun _ _ => rfl)) (pe_s [40])) (pe_ix (ix_K K rfl) (pv 0) pe_int (fun _ _ => rfl))) (pe_s [41]))))) (fun W hx => ?_) rfl h
  exact show SS K W _ false [] [false] [] _ _ from (ss_ret (se_op (se_op (se_op (se_op (se_var rfl) (se_c (d := .int 0) fun _ => intR) os_ix) (se_c (d := .str [40]) fun _ => strR) os_add) (se_op (se_var rfl) (se_c (d := .int 1) fun _ => intR) os_ix) os_add) (se_c (d := .str [41]) fun _ => strR) os_add))
theorem ok_l_turn_pair (T : Top w K mg) : Ok P w K mg base 5 ("_law_turn_pair", none) ["deal", "evenly"] (SpM K false 2 l_turn_pair_M) := by
  have G_l_letter_text := ok_l_letter_text (P := P) (w := w) (base := base) T
  have G_l_prefix_size := ok_l_prefix_size (P := P) (w := w) (base := base) T
  have G_l_within := ok_l_within (P := P) (w := w) (base := base) T
  refine T.f_l_turn_pair.ok sc_l_turn_pair (fun _ _ _ _ h => SpM.len h) (fun cdv A outer s H vs Q E hr h => ?_)
  have xtab := xtab T
  refine viaN (n := 2) (k := 2) (ob := []) (o' := []) (a := l_turn_pair_B) (PSs.nox (pss_cons (ps_set (i := 2) sc_l_turn_pair.nd rfl (.inl rfl) (by exact pe_callU (E := fun _ => E0) G_l_letter_text (hr.mono (by first | decide | exact Nat.le_add_right _ _ | (simp only [Nat.add_eq]; omega))) rfl T.g_l_letter_text T.f_l_letter_text.kp (b_l_letter_text T) pass_n (pa_cons (pv 0) (pa_cons (pe_s [66, 84]) (pa_cons (by exact pe_callU (E := fun _ => E0) G_l_prefix_size (hr.mono (by first | decide | exact Nat.le_add_right _ _ | (simp only [Nat.add_eq]; omega))) rfl T.g_l_prefix_size T.f_l_prefix_size.kp (b_l_prefix_size T) pass_n (pa_cons (pv 0) pa_nil)) pa_nil)))))
      (pss_cons (ps_set (i := 3) sc_l_turn_pair.nd rfl (.inl rfl) (by exact pe_callU (E := fun _ => E0) G_l_letter_text (hr.mono (by first | decide | exact Nat.le_add_right _ _ | (simp only [Nat.add_eq]; omega))) rfl T.g_l_letter_text T.f_l_letter_text.kp (b_l_letter_text T) pass_n (pa_cons (pv 0) (pa_cons (pe_s [66, 84]) (pa_cons (by exact pe_callU (E := fun _ => E0) G_l_within (hr.mono (by first | decide | exact Nat.le_add_right _ _ | (simp only [Nat.add_eq]; omega))) rfl T.g_l_within T.f_l_within.kp (b_l_within T) pass_n (pa_cons (pv 0) (pa_cons pe_int (pa_cons pe_int pa_nil)))) pa_nil)))))
      (pss_cons (ps_ifU (pw_andU (pt_t (pv 1)) (pw_and1 (pt_c (op_eqK K rfl hr.units) (pe_op op_modU (pe_callTy call_intA (by rfl) T.z_int (by decide +kernel) (pa_cons (pe_bmK K rfl PySem.F.plainAttrs_str PySem.F.slot_str_count PySem.F.type_str_count mt_cntS (pv 3) (pa_cons (pe_s [84]) pa_nil)) pa_nil)) pe_int) pe_int (nomark _)))).pt (pss_one (ps_ifU (pt_c (op_eqK K rfl hr.units) (pe_ix (ix_K K rfl) (pv 3) pe_int (fun _ _ => rfl)) (pe_s [84]) (nomark _)) (pss_one (ps_set (i := 3) sc_l_turn_pair.nd rfl (.inl rfl) (pe_op (op_addA K rfl) (pe_s [66]) (pe_slice (sl_K K rfl) (pv 3) (po_some pe_int) po_none)))) (pss_one (ps_set (i := 3) sc_l_turn_pair.nd rfl (.inl rfl) (pe_op (op_addA K rfl) (pe_s [84]) (pe_slice (sl_K K rfl) (pv 3) (po_some pe_int) po_none)))))) pss_nil)
      (pss_one (ps_ret (pe_lst (pa_cons (pv 2) (pa_cons (pv 3) pa_nil))))))))) (fun W hx => ?_) rfl h
  exact show SS K W _ false [] [false, false, false, false] [] _ _ from (ss_seq (ss_set (se_call hx (sa_cons (se_var rfl) (sa_cons (se_c (d := .str [66, 84]) fun _ => strR) (sa_cons (se_call hx (sa_cons (se_var rfl) sa_nil)) sa_nil)))) rfl)
      (ss_seq (ss_set (se_call hx (sa_cons (se_var rfl) (sa_cons (se_c (d := .str [66, 84]) fun _ => strR) (sa_cons (se_call hx (sa_cons (se_var rfl) (sa_cons (se_c (d := .int 1) fun _ => intR) (sa_cons (se_c (d := .int 4) fun _ => intR) sa_nil)))) sa_nil)))) rfl)
      (ss_seq (ss_if (st_and (st_test (se_var rfl)) (st_test (se_op (se_op (se_cb (sa_cons (se_mtS (se_var rfl) (sa_cons (se_c (d := .str [84]) fun _ => strR) sa_nil) ms_cntS) sa_nil) cs_int) (se_c (d := .int 2) fun _ => intR) os_mod) (se_c (d := .int 1) fun _ => intR) os_eq))) (ss_if (st_test (se_op (se_op (se_var rfl) (se_c (d := .int 0) fun _ => intR) os_ix) (se_c (d := .str [84]) fun _ => strR) os_eq)) (ss_set (se_op (se_c (d := .str [66]) fun _ => strR) (se_sl (se_var rfl) (sp_ex (se_c (d := .int 1) fun _ => intR)) sp_no ss_sl) os_add) rfl) (ss_set (se_op (se_c (d := .str [84]) fun _ => strR) (se_sl (se_var rfl) (sp_ex (se_c (d := .int 1) fun _ => intR)) sp_no ss_sl) os_add) rfl)) ss_next)
      (ss_ret (se_frz (se_lst (sa_cons (se_var rfl) (sa_cons (se_var rfl) sa_nil))))))))
theorem ok_l_good_word (T : Top w K mg) : Ok P w K mg base 6 ("_law_good_word", none) ["deal"] (SpM K false 1 l_good_word_M) := by
  have G_l_good_pair := ok_l_good_pair (P := P) (w := w) (base := base) T
  have G_l_pair_text := ok_l_pair_text (P := P) (w := w) (base := base) T
  have G_l_turn_pair := ok_l_turn_pair (P := P) (w := w) (base := base) T
  refine T.f_l_good_word.ok sc_l_good_word (fun _ _ _ _ h => SpM.len h) (fun cdv A outer s H vs Q E hr h => ?_)
  have xtab := xtab T
  refine viaN (n := 1) (k := 1) (ob := []) (o' := []) (a := l_good_word_B) (PSs.nox (pss_cons (ps_set (i := 1) sc_l_good_word.nd rfl (.inl rfl) (by exact pe_callU (E := fun _ => E0) G_l_turn_pair (hr.mono (by first | decide | exact Nat.le_add_right _ _ | (simp only [Nat.add_eq]; omega))) rfl T.g_l_turn_pair T.f_l_turn_pair.kp (b_l_turn_pair T) pass_n (pa_cons (pv 0) (pa_cons pe_bl pa_nil))))
      (pss_one (ps_ret (by exact pe_callU (E := fun _ => E0) G_l_pair_text (hr.mono (by first | decide | exact Nat.le_add_right _ _ | (simp only [Nat.add_eq]; omega))) rfl T.g_l_pair_text T.f_l_pair_text.kp (b_l_pair_text T) pass_n (pa_cons (by exact pe_callU (E := fun _ => E0) G_l_good_pair (hr.mono (by first | decide | exact Nat.le_add_right _ _ | (simp only [Nat.add_eq]; omega))) rfl T.g_l_good_pair T.f_l_good_pair.kp (b_l_good_pair T) pass_n (pa_cons (pe_ix (ix_K K rfl) (pv 1) pe_int (fun _ _ => rfl)) (pa_cons (pe_ix (ix_K K rfl) (pv 1) pe_int (fun _ _ => rfl)) pa_nil))) pa_nil)))))) (fun W hx => ?_) rfl h
  exact show SS K W _ false [] [false, false] [] _ _ from (ss_seq (ss_set (se_call hx (sa_cons (se_var rfl) (sa_cons (se_c (d := .bl true) fun _ => blR) sa_nil))) rfl)
      (ss_ret (se_call hx (sa_cons (se_call hx (sa_cons (se_op (se_var rfl) (se_c (d := .int 0) fun _ => intR) os_ix) (sa_cons (se_op (se_var rfl) (se_c (d := .int 1) fun _ => intR) os_ix) sa_nil))) sa_nil))))
theorem ok_l_ringing_word (T : Top w K mg) : Ok P w K mg base 7 ("_law_ringing_word", none) ["deal"] (SpM K false 1 l_ringing_word_M) := by
  have G_l_edge := ok_l_edge (P := P) (w := w) (base := base) T
  have G_l_filled := ok_l_filled (P := P) (w := w) (base := base) T
  have G_l_good_word := ok_l_good_word (P := P) (w := w) (base := base) T
  have G_l_letter_text := ok_l_letter_text (P := P) (w := w) (base := base) T
  have G_l_pick := ok_l_pick (P := P) (w := w) (base := base) T
  have G_l_prefix_size := ok_l_prefix_size (P := P) (w := w) (base := base) T
  have G_l_split := ok_l_split (P := P) (w := w) (base := base) T
  have G_l_take := ok_l_take (P := P) (w := w) (base := base) T
  have G_l_within := ok_l_within (P := P) (w := w) (base := base) T
  refine T.f_l_ringing_word.ok sc_l_ringing_word (fun _ _ _ _ h => SpM.len h) (fun cdv A outer s H vs Q E hr h => ?_)
  have xtab := xtab T
  refine viaN (n := 1) (k := 4) (ob := []) (o' := []) (a := l_ringing_word_B) (PSs.nox (pss_cons (ps_set (i := 1) sc_l_ringing_word.nd rfl (.inl rfl) (by exact pe_callU (E := fun _ => E0) G_l_split (hr.mono (by first | decide | exact Nat.le_add_right _ _ | (simp only [Nat.add_eq]; omega))) rfl T.g_l_split T.f_l_split.kp (b_l_split T) pass_n (pa_cons (by exact pe_callU (E := fun _ => E0) G_l_good_word (hr.mono (by first | decide | exact Nat.le_add_right _ _ | (simp only [Nat.add_eq]; omega))) rfl T.g_l_good_word T.f_l_good_word.kp (b_l_good_word T) pass_n (pa_cons (pv 0) pa_nil)) pa_nil)))
      (pss_cons (ps_set (i := 2) sc_l_ringing_word.nd rfl (.inl rfl) (pe_op (op_addA K rfl) (pe_ix (ix_K K rfl) (pv 1) pe_int (fun _ _ => rfl)) (pe_op op_mulA (pe_ix (ix_K K rfl) (pv 1) pe_int (fun _ _ => rfl)) pe_int)))
      (pss_cons (ps_set (i := 3) sc_l_ringing_word.nd rfl (.inl rfl) (by exact pe_callU (E := fun _ => E0) G_l_filled (hr.mono (by first | decide | exact Nat.le_add_right _ _ | (simp only [Nat.add_eq]; omega))) rfl T.g_l_filled T.f_l_filled.kp (b_l_filled T) pass_n (pa_cons (by exact pe_callU (E := fun _ => E0) G_l_letter_text (hr.mono (by first | decide | exact Nat.le_add_right _ _ | (simp only [Nat.add_eq]; omega))) rfl T.g_l_letter_text T.f_l_letter_text.kp (b_l_letter_text T) pass_n (pa_cons (pv 0) (pa_cons (pe_s [66, 73, 79]) (pa_cons (by exact pe_callU (E := fun _ => E0) G_l_within (hr.mono (by first | decide | exact Nat.le_add_right _ _ | (simp only [Nat.add_eq]; omega))) rfl T.g_l_within T.f_l_within.kp (b_l_within T) pass_n (pa_cons (pv 0) (pa_cons pe_int (pa_cons pe_int pa_nil)))) pa_nil)))) pa_nil)))
      (pss_cons (ps_ifU (pt_c (op_eqK K rfl hr.units) (by exact pe_callU (E := fun _ => E0) G_l_take (hr.mono (by first | decide | exact Nat.le_add_right _ _ | (simp only [Nat.add_eq]; omega))) rfl T.g_l_take T.f_l_take.kp (b_l_take T) pass_n (pa_cons (pv 0) (pa_cons pe_int pa_nil))) pe_int (nomark _)) (pss_cons (ps_ifU (pt_c (op_eqK K rfl hr.units) (pe_bmK K rfl PySem.F.plainAttrs_str PySem.F.slot_str_count PySem.F.type_str_count mt_cntS (pv 3) (pa_cons (pe_s [73]) pa_nil)) (pe_bmK K rfl PySem.F.plainAttrs_str PySem.F.slot_str_count PySem.F.type_str_count mt_cntS (pv 3) (pa_cons (pe_s [79]) pa_nil)) (nomark _)) (pss_one (ps_set (i := 3) sc_l_ringing_word.nd rfl (.inl rfl) (by exact pe_callU (E := fun _ => E0) G_l_pick (hr.mono (by first | decide | exact Nat.le_add_right _ _ | (simp only [Nat.add_eq]; omega))) rfl T.g_l_pick T.f_l_pick.kp (b_l_pick T) pass_n (pa_cons (pv 0) (pa_cons (pe_lst (pa_cons (pe_s [79, 66]) (pa_cons (pe_s [73, 66]) (pa_cons (pe_s [66, 79]) (pa_cons (pe_s [66, 73]) (pa_cons (pe_s [66, 66, 79]) (pa_cons (pe_s [73, 73, 79]) (pa_cons (pe_s [79, 73, 79]) (pa_cons (pe_s [66, 66, 66, 73]) (pa_cons (pe_s [79, 66, 73, 79]) (pa_cons (pe_s [66, 73, 79, 73]) pa_nil))))))))))) pa_nil))))) pss_nil)
      (pss_one (ps_ret (pe_op (op_addA K rfl) (pe_op (op_addA K rfl) (pe_op (op_addA K rfl) (pe_slice (sl_K K rfl) (pv 2) po_none (po_some (by exact pe_callU (E := fun _ => E0) G_l_prefix_size (hr.mono (by first | decide | exact Nat.le_add_right _ _ | (simp only [Nat.add_eq]; omega))) rfl T.g_l_prefix_size T.f_l_prefix_size.kp (b_l_prefix_size T) pass_n (pa_cons (pv 0) pa_nil)))) (pe_s [40])) (pv 3)) (pe_s [41]))))) pss_nil)
      (pss_cons (ps_set (i := 4) sc_l_ringing_word.nd rfl (.inl rfl) (pe_slice (sl_K K rfl) (pv 2) po_none (po_some (by exact pe_callU (E := fun _ => E0) G_l_edge (hr.mono (by first | decide | exact Nat.le_add_right _ _ | (simp only [Nat.add_eq]; omega))) rfl T.g_l_edge T.f_l_edge.kp (b_l_edge T) pass_n (pa_cons (pv 0) (pa_cons pe_int (pa_cons pe_int pa_nil)))))))
      (pss_cons (ps_ifU (pt_c (op_eqK K rfl hr.units) (pe_bmK K rfl PySem.F.plainAttrs_str PySem.F.slot_str_count PySem.F.type_str_count mt_cntS (pv 4) (pa_cons (pe_s [73]) pa_nil)) (pe_bmK K rfl PySem.F.plainAttrs_str PySem.F.slot_str_count PySem.F.type_str_count mt_cntS (pv 4) (pa_cons (pe_s [79]) pa_nil)) (nomark _)) (pss_one (ps_set (i := 4) sc_l_ringing_word.nd rfl (.inl rfl) (pe_op (op_addA K rfl) (pv 4) (pe_s [79])))) (pss_one (ps_set (i := 4) sc_l_ringing_word.nd rfl (.inl rfl) (pe_op (op_addA K rfl) (pv 4) (pe_s [73])))))
      (pss_cons (ps_set (i := 4) sc_l_ringing_word.nd rfl (.inl rfl) (pe_op (op_addA K rfl) (pv 4) (by exact pe_callU (E := fun _ => E0) G_l_letter_text (hr.mono (by first | decide | exact Nat.le_add_right _ _ | (simp only [Nat.add_eq]; omega))) rfl T.g_l_letter_text T.f_l_letter_text.kp (b_l_letter_text T) pass_n (pa_cons (pv 0) (pa_cons (pe_s [66, 73, 79]) (pa_cons (by exact pe_callU (E := fun _ => E0) G_l_take (hr.mono (by first | decide | exact Nat.le_add_right _ _ | (simp only [Nat.add_eq]; omega))) rfl T.g_l_take T.f_l_take.kp (b_l_take T) pass_n (pa_cons (pv 0) (pa_cons (pe_op op_subU pe_int (pe_callB (call_lenK K rfl) (by rfl) T.z_len (by decide +kernel) (pa_cons (pv 4) pa_nil))) pa_nil))) pa_nil))))))
      (pss_one (ps_ret (pe_op (op_addA K rfl) (pe_op (op_addA K rfl) (pe_op (op_addA K rfl) (pv 4) (pe_s [40])) (pv 3)) (pe_s [41])))))))))))) (fun W hx => ?_) rfl h
  exact show SS K W _ false [] [false, false, false, false, false] [] _ _ from (ss_seq (ss_set (se_call hx (sa_cons (se_call hx (sa_cons (se_var rfl) sa_nil)) sa_nil)) rfl)
      (ss_seq (ss_set (se_op (se_op (se_var rfl) (se_c (d := .int 0) fun _ => intR) os_ix) (se_op (se_op (se_var rfl) (se_c (d := .int 1) fun _ => intR) os_ix) (se_c (d := .int 12) fun _ => intR) os_mul) os_add) rfl)
      (ss_seq (ss_set (se_call hx (sa_cons (se_call hx (sa_cons (se_var rfl) (sa_cons (se_c (d := .str [66, 73, 79]) fun _ => strR) (sa_cons (se_call hx (sa_cons (se_var rfl) (sa_cons (se_c (d := .int 1) fun _ => intR) (sa_cons (se_c (d := .int 4) fun _ => intR) sa_nil)))) sa_nil)))) sa_nil)) rfl)
      (ss_seq (ss_if (st_test (se_op (se_call hx (sa_cons (se_var rfl) (sa_cons (se_c (d := .int 3) fun _ => intR) sa_nil))) (se_c (d := .int 0) fun _ => intR) os_eq)) (ss_seq (ss_if (st_test (se_op (se_mtS (se_var rfl) (sa_cons (se_c (d := .str [73]) fun _ => strR) sa_nil) ms_cntS) (se_mtS (se_var rfl) (sa_cons (se_c (d := .str [79]) fun _ => strR) sa_nil) ms_cntS) os_eq)) (ss_set (se_call hx (sa_cons (se_var rfl) (sa_cons (se_frz (se_lst (sa_cons (se_c (d := .str [79, 66]) fun _ => strR) (sa_cons (se_c (d := .str [73, 66]) fun _ => strR) (sa_cons (se_c (d := .str [66, 79]) fun _ => strR) (sa_cons (se_c (d := .str [66, 73]) fun _ => strR) (sa_cons (se_c (d := .str [66, 66, 79]) fun _ => strR) (sa_cons (se_c (d := .str [73, 73, 79]) fun _ => strR) (sa_cons (se_c (d := .str [79, 73, 79]) fun _ => strR) (sa_cons (se_c (d := .str [66, 66, 66, 73]) fun _ => strR) (sa_cons (se_c (d := .str [79, 66, 73, 79]) fun _ => strR) (sa_cons (se_c (d := .str [66, 73, 79, 73]) fun _ => strR) sa_nil)))))))))))) sa_nil))) rfl) ss_next)
      (ss_ret (se_op (se_op (se_op (se_sl (se_var rfl) sp_no (sp_ex (se_call hx (sa_cons (se_var rfl) sa_nil))) ss_sl) (se_c (d := .str [40]) fun _ => strR) os_add) (se_var rfl) os_add) (se_c (d := .str [41]) fun _ => strR) os_add))) ss_next)
      (ss_seq (ss_set (se_sl (se_var rfl) sp_no (sp_ex (se_call hx (sa_cons (se_var rfl) (sa_cons (se_c (d := .int 0) fun _ => intR) (sa_cons (se_c (d := .int 11) fun _ => intR) sa_nil))))) ss_sl) rfl)
      (ss_seq (ss_if (st_test (se_op (se_mtS (se_var rfl) (sa_cons (se_c (d := .str [73]) fun _ => strR) sa_nil) ms_cntS) (se_mtS (se_var rfl) (sa_cons (se_c (d := .str [79]) fun _ => strR) sa_nil) ms_cntS) os_eq)) (ss_set (se_op (se_var rfl) (se_c (d := .str [79]) fun _ => strR) os_add) rfl) (ss_set (se_op (se_var rfl) (se_c (d := .str [73]) fun _ => strR) os_add) rfl))
      (ss_seq (ss_set (se_op (se_var rfl) (se_call hx (sa_cons (se_var rfl) (sa_cons (se_c (d := .str [66, 73, 79]) fun _ => strR) (sa_cons (se_call hx (sa_cons (se_var rfl) (sa_cons (se_op (se_c (d := .int 13) fun _ => intR) (se_cb (sa_cons (se_var rfl) sa_nil) cs_len) os_sub) sa_nil))) sa_nil)))) os_add) rfl)
      (ss_ret (se_op (se_op (se_op (se_var rfl) (se_c (d := .str [40]) fun _ => strR) os_add) (se_var rfl) os_add) (se_c (d := .str [41]) fun _ => strR) os_add)))))))))
theorem ok_l_full_word (T : Top w K mg) : Ok P w K mg base 8 ("_law_full_word", none) ["deal"] (SpM K false 1 l_full_word_M) := by
  have G_l_filled := ok_l_filled (P := P) (w := w) (base := base) T
  have G_l_good_word := ok_l_good_word (P := P) (w := w) (base := base) T
  have G_l_letter_text := ok_l_letter_text (P := P) (w := w) (base := base) T
  have G_l_prefix_size := ok_l_prefix_size (P := P) (w := w) (base := base) T
  have G_l_ringing_word := ok_l_ringing_word (P := P) (w := w) (base := base) T
  have G_l_take := ok_l_take (P := P) (w := w) (base := base) T
  have G_l_within := ok_l_within (P := P) (w := w) (base := base) T
  refine T.f_l_full_word.ok sc_l_full_word (fun _ _ _ _ h => SpM.len h) (fun cdv A outer s H vs Q E hr h => ?_)
  have xtab := xtab T
  refine viaN (n := 1) (k := 2) (ob := []) (o' := []) (a := l_full_word_B) (PSs.nox (pss_cons (ps_set (i := 1) sc_l_full_word.nd rfl (.inl rfl) (by exact pe_callU (E := fun _ => E0) G_l_take (hr.mono (by first | decide | exact Nat.le_add_right _ _ | (simp only [Nat.add_eq]; omega))) rfl T.g_l_take T.f_l_take.kp (b_l_take T) pass_n (pa_cons (pv 0) (pa_cons pe_int pa_nil))))
      (pss_cons (ps_ifU (pt_c (op_eqK K rfl hr.units) (pv 1) pe_int (nomark _)) (pss_one (ps_ret (by exact pe_callU (E := fun _ => E0) G_l_good_word (hr.mono (by first | decide | exact Nat.le_add_right _ _ | (simp only [Nat.add_eq]; omega))) rfl T.g_l_good_word T.f_l_good_word.kp (b_l_good_word T) pass_n (pa_cons (pv 0) pa_nil)))) pss_nil)
      (pss_cons (ps_ifU (pt_c (op_eqK K rfl hr.units) (pv 1) pe_int (nomark _)) (pss_one (ps_ret (by exact pe_callU (E := fun _ => E0) G_l_ringing_word (hr.mono (by first | decide | exact Nat.le_add_right _ _ | (simp only [Nat.add_eq]; omega))) rfl T.g_l_ringing_word T.f_l_ringing_word.kp (b_l_ringing_word T) pass_n (pa_cons (pv 0) pa_nil)))) pss_nil)
      (pss_cons (ps_set (i := 2) sc_l_full_word.nd rfl (.inl rfl) (by exact pe_callU (E := fun _ => E0) G_l_letter_text (hr.mono (by first | decide | exact Nat.le_add_right _ _ | (simp only [Nat.add_eq]; omega))) rfl T.g_l_letter_text T.f_l_letter_text.kp (b_l_letter_text T) pass_n (pa_cons (pv 0) (pa_cons (pe_s [66, 73, 79]) (pa_cons (by exact pe_callU (E := fun _ => E0) G_l_prefix_size (hr.mono (by first | decide | exact Nat.le_add_right _ _ | (simp only [Nat.add_eq]; omega))) rfl T.g_l_prefix_size T.f_l_prefix_size.kp (b_l_prefix_size T) pass_n (pa_cons (pv 0) pa_nil)) pa_nil)))))
      (pss_one (ps_ret (pe_op (op_addA K rfl) (pe_op (op_addA K rfl) (pe_op (op_addA K rfl) (pv 2) (pe_s [40])) (by exact pe_callU (E := fun _ => E0) G_l_filled (hr.mono (by first | decide | exact Nat.le_add_right _ _ | (simp only [Nat.add_eq]; omega))) rfl T.g_l_filled T.f_l_filled.kp (b_l_filled T) pass_n (pa_cons (by exact pe_callU (E := fun _ => E0) G_l_letter_text (hr.mono (by first | decide | exact Nat.le_add_right _ _ | (simp only [Nat.add_eq]; omega))) rfl T.g_l_letter_text T.f_l_letter_text.kp (b_l_letter_text T) pass_n (pa_cons (pv 0) (pa_cons (pe_s [66, 73, 79]) (pa_cons (by exact pe_callU (E := fun _ => E0) G_l_within (hr.mono (by first | decide | exact Nat.le_add_right _ _ | (simp only [Nat.add_eq]; omega))) rfl T.g_l_within T.f_l_within.kp (b_l_within T) pass_n (pa_cons (pv 0) (pa_cons pe_int (pa_cons pe_int pa_nil)))) pa_nil)))) pa_nil))) (pe_s [41]))))))))) (fun W hx => ?_) rfl h
  exact show SS K W _ false [] [false, false, false] [] _ _ from (ss_seq (ss_set (se_call hx (sa_cons (se_var rfl) (sa_cons (se_c (d := .int 3) fun _ => intR) sa_nil))) rfl)
      (ss_seq (ss_if (st_test (se_op (se_var rfl) (se_c (d := .int 0) fun _ => intR) os_eq)) (ss_ret (se_call hx (sa_cons (se_var rfl) sa_nil))) ss_next)
      (ss_seq (ss_if (st_test (se_op (se_var rfl) (se_c (d := .int 1) fun _ => intR) os_eq)) (ss_ret (se_call hx (sa_cons (se_var rfl) sa_nil))) ss_next)
      (ss_seq (ss_set (se_call hx (sa_cons (se_var rfl) (sa_cons (se_c (d := .str [66, 73, 79]) fun _ => strR) (sa_cons (se_call hx (sa_cons (se_var rfl) sa_nil)) sa_nil)))) rfl)
      (ss_ret (se_op (se_op (se_op (se_var rfl) (se_c (d := .str [40]) fun _ => strR) os_add) (se_call hx (sa_cons (se_call hx (sa_cons (se_var rfl) (sa_cons (se_c (d := .str [66, 73, 79]) fun _ => strR) (sa_cons (se_call hx (sa_cons (se_var rfl) (sa_cons (se_c (d := .int 1) fun _ => intR) (sa_cons (se_c (d := .int 4) fun _ => intR) sa_nil)))) sa_nil)))) sa_nil)) os_add) (se_c (d := .str [41]) fun _ => strR) os_add))))))
theorem ok_l_starving_word (T : Top w K mg) : Ok P w K mg base 5 ("_law_starving_word", none) ["deal"] (SpM K false 1 l_starving_word_M) := by
  have G_l_letter_text := ok_l_letter_text (P := P) (w := w) (base := base) T
  have G_l_pick := ok_l_pick (P := P) (w := w) (base := base) T
  have G_l_prefix_size := ok_l_prefix_size (P := P) (w := w) (base := base) T
  have G_l_within := ok_l_within (P := P) (w := w) (base := base) T
  refine T.f_l_starving_word.ok sc_l_starving_word (fun _ _ _ _ h => SpM.len h) (fun cdv A outer s H vs Q E hr h => ?_)
  have xtab := xtab T
  refine viaN (n := 1) (k := 1) (ob := []) (o' := []) (a := l_starving_word_B) (PSs.nox (pss_cons (ps_set (i := 1) sc_l_starving_word.nd rfl (.inl rfl) (by exact pe_callU (E := fun _ => E0) G_l_letter_text (hr.mono (by first | decide | exact Nat.le_add_right _ _ | (simp only [Nat.add_eq]; omega))) rfl T.g_l_letter_text T.f_l_letter_text.kp (b_l_letter_text T) pass_n (pa_cons (pv 0) (pa_cons (pe_s [66, 73, 79]) (pa_cons (by exact pe_callU (E := fun _ => E0) G_l_prefix_size (hr.mono (by first | decide | exact Nat.le_add_right _ _ | (simp only [Nat.add_eq]; omega))) rfl T.g_l_prefix_size T.f_l_prefix_size.kp (b_l_prefix_size T) pass_n (pa_cons (pv 0) pa_nil)) pa_nil)))))
      (pss_one (ps_ret (pe_op (op_addA K rfl) (pe_op (op_addA K rfl) (pe_op (op_addA K rfl) (pv 1) (pe_s [40])) (pe_op op_mulA (by exact pe_callU (E := fun _ => E0) G_l_pick (hr.mono (by first | decide | exact Nat.le_add_right _ _ | (simp only [Nat.add_eq]; omega))) rfl T.g_l_pick T.f_l_pick.kp (b_l_pick T) pass_n (pa_cons (pv 0) (pa_cons (pe_s [73, 79]) pa_nil))) (by exact pe_callU (E := fun _ => E0) G_l_within (hr.mono (by first | decide | exact Nat.le_add_right _ _ | (simp only [Nat.add_eq]; omega))) rfl T.g_l_within T.f_l_within.kp (b_l_within T) pass_n (pa_cons (pv 0) (pa_cons pe_int (pa_cons pe_int pa_nil)))))) (pe_s [41])))))) (fun W hx => ?_) rfl h
  exact show SS K W _ false [] [false, false] [] _ _ from (ss_seq (ss_set (se_call hx (sa_cons (se_var rfl) (sa_cons (se_c (d := .str [66, 73, 79]) fun _ => strR) (sa_cons (se_call hx (sa_cons (se_var rfl) sa_nil)) sa_nil)))) rfl)
      (ss_ret (se_op (se_op (se_op (se_var rfl) (se_c (d := .str [40]) fun _ => strR) os_add) (se_op (se_call hx (sa_cons (se_var rfl) (sa_cons (se_c (d := .str [73, 79]) fun _ => strR) sa_nil))) (se_call hx (sa_cons (se_var rfl) (sa_cons (se_c (d := .int 1) fun _ => intR) (sa_cons (se_c (d := .int 4) fun _ => intR) sa_nil)))) os_mul) os_add) (se_c (d := .str [41]) fun _ => strR) os_add)))
theorem ok_l_same_text (T : Top w K mg) : Ok P w K mg base 3 ("_law_same_text", none) ["deal", "word_text"] (SpM K false 2 l_same_text_M) := by
  have G_l_pair_text := ok_l_pair_text (P := P) (w := w) (base := base) T
  have G_l_split := ok_l_split (P := P) (w := w) (base := base) T
  have G_l_take := ok_l_take (P := P) (w := w) (base := base) T
  have G_l_within := ok_l_within (P := P) (w := w) (base := base) T
  refine T.f_l_same_text.ok sc_l_same_text (fun _ _ _ _ h => SpM.len h) (fun cdv A outer s H vs Q E hr h => ?_)
  have xtab := xtab T
  refine viaN (n := 2) (k := 4) (ob := []) (o' := []) (a := l_same_text_B) (PSs.nox (pss_cons (ps_set (i := 2) sc_l_same_text.nd rfl (.inl rfl) (by exact pe_callU (E := fun _ => E0) G_l_split (hr.mono (by first | decide | exact Nat.le_add_right _ _ | (simp only [Nat.add_eq]; omega))) rfl T.g_l_split T.f_l_split.kp (b_l_split T) pass_n (pa_cons (pv 1) pa_nil)))
      (pss_cons (ps_set (i := 3) sc_l_same_text.nd rfl (.inl rfl) (pe_ix (ix_K K rfl) (pv 2) pe_int (fun _ _ => rfl)))
      (pss_cons (ps_set (i := 4) sc_l_same_text.nd rfl (.inl rfl) (pe_ix (ix_K K rfl) (pv 2) pe_int (fun _ _ => rfl)))
      (pss_cons (ps_ifU (pt_c (op_eqK K rfl hr.units) (pe_callB (call_lenK K rfl) (by rfl) T.z_len (by decide +kernel) (pa_cons (pv 4) pa_nil)) pe_int (nomark _)) (pss_one (ps_set (i := 4) sc_l_same_text.nd rfl (.inl rfl) (pe_op op_mulA (pv 4) (by exact pe_callU (E := fun _ => E0) G_l_within (hr.mono (by first | decide | exact Nat.le_add_right _ _ | (simp only [Nat.add_eq]; omega))) rfl T.g_l_within T.f_l_within.kp (b_l_within T) pass_n (pa_cons (pv 0) (pa_cons pe_int (pa_cons pe_int pa_nil))))))) (pss_one (ps_ifU (pt_c (op_eqK K rfl hr.units) (pe_callB (call_lenK K rfl) (by rfl) T.z_len (by decide +kernel) (pa_cons (pv 4) pa_nil)) pe_int (nomark _)) (pss_one (ps_set (i := 4) sc_l_same_text.nd rfl (.inl rfl) (pe_op op_mulA (pv 4) (by exact pe_callU (E := fun _ => E0) G_l_within (hr.mono (by first | decide | exact Nat.le_add_right _ _ | (simp only [Nat.add_eq]; omega))) rfl T.g_l_within T.f_l_within.kp (b_l_within T) pass_n (pa_cons (pv 0) (pa_cons pe_int (pa_cons pe_int pa_nil))))))) pss_nil)))
      (pss_cons (ps_for PassesOwn.never rfl (pi_range1 (by rfl) T.z_range (pa_cons (by exact pe_callU (E := fun _ => E0) G_l_take (hr.mono (by first | decide | exact Nat.le_add_right _ _ | (simp only [Nat.add_eq]; omega))) rfl T.g_l_take T.f_l_take.kp (b_l_take T) pass_n (pa_cons (pv 0) (pa_cons pe_int pa_nil))) pa_nil)) (pg_name (i := 5) sc_l_same_text.nd rfl (Or.inl rfl)) (pss_one (ps_ifU (pt_c op_ltA (pe_callB (call_lenK K rfl) (by rfl) T.z_len (by decide +kernel) (pa_cons (pv 3) pa_nil)) pe_int (nomark _)) (pss_cons (ps_set (i := 3) sc_l_same_text.nd rfl (.inl rfl) (pe_op (op_addA K rfl) (pv 3) (pe_ix (ix_K K rfl) (pv 4) pe_int (fun _ _ => rfl))))
      (pss_one (ps_set (i := 4) sc_l_same_text.nd rfl (.inl rfl) (pe_op (op_addA K rfl) (pe_slice (sl_K K rfl) (pv 4) (po_some pe_int) po_none) (pe_ix (ix_K K rfl) (pv 4) pe_int (fun _ _ => rfl)))))) pss_nil)))
      (pss_cons (ps_for PassesOwn.never rfl (pi_range1 (by rfl) T.z_range (pa_cons (by exact pe_callU (E := fun _ => E0) G_l_take (hr.mono (by first | decide | exact Nat.le_add_right _ _ | (simp only [Nat.add_eq]; omega))) rfl T.g_l_take T.f_l_take.kp (b_l_take T) pass_n (pa_cons (pv 0) (pa_cons pe_int pa_nil))) pa_nil)) (pg_name (i := 5) sc_l_same_text.nd rfl (Or.inl rfl)) (pss_one (ps_ifU (pw_andU (pt_c (op_neK K rfl hr.units) (pv 3) (pe_s []) (nomark _)) (pw_and1 (pt_c (op_eqK K rfl hr.units) (pe_ix (ix_K K rfl) (pv 3) (pe_un un_neg pe_int) (fun _ _ => rfl)) (pe_ix (ix_K K rfl) (pv 4) (pe_un un_neg pe_int) (fun _ _ => rfl)) (nomark _)))).pt (pss_cons (ps_set (i := 3) sc_l_same_text.nd rfl (.inl rfl) (pe_slice (sl_K K rfl) (pv 3) po_none (po_some (pe_un un_neg pe_int))))
      (pss_one (ps_set (i := 4) sc_l_same_text.nd rfl (.inl rfl) (pe_op (op_addA K rfl) (pe_ix (ix_K K rfl) (pv 4) (pe_un un_neg pe_int) (fun _ _ => rfl)) (pe_slice (sl_K K rfl) (pv 4) po_none (po_some (pe_un un_neg pe_int))))))) pss_nil)))
      (pss_one (ps_ret (by exact pe_callU (E := fun _ => E0) G_l_pair_text (hr.mono (by first | decide | exact Nat.le_add_right _ _ | (simp only [Nat.add_eq]; omega))) rfl T.g_l_pair_text T.f_l_pair_text.kp (b_l_pair_text T) pass_n (pa_cons (pe_lst (pa_cons (pv 3) (pa_cons (pv 4) pa_nil))) pa_nil))))))))))) (fun W hx => ?_) rfl h
  exact show SS K W _ false [] [false, false, false, false, false, false] [] _ _ from (ss_seq (ss_set (se_call hx (sa_cons (se_var rfl) sa_nil)) rfl)
      (ss_seq (ss_set (se_op (se_var rfl) (se_c (d := .int 0) fun _ => intR) os_ix) rfl)
      (ss_seq (ss_set (se_op (se_var rfl) (se_c (d := .int 1) fun _ => intR) os_ix) rfl)
      (ss_seq (ss_if (st_test (se_op (se_cb (sa_cons (se_var rfl) sa_nil) cs_len) (se_c (d := .int 1) fun _ => intR) os_eq)) (ss_set (se_op (se_var rfl) (se_call hx (sa_cons (se_var rfl) (sa_cons (se_c (d := .int 1) fun _ => intR) (sa_cons (se_c (d := .int 4) fun _ => intR) sa_nil)))) os_mul) rfl) (ss_if (st_test (se_op (se_cb (sa_cons (se_var rfl) sa_nil) cs_len) (se_c (d := .int 2) fun _ => intR) os_eq)) (ss_set (se_op (se_var rfl) (se_call hx (sa_cons (se_var rfl) (sa_cons (se_c (d := .int 1) fun _ => intR) (sa_cons (se_c (d := .int 2) fun _ => intR) sa_nil)))) os_mul) rfl) ss_next))
      (ss_seq (ss_for (si_rng1 (sa_cons (se_call hx (sa_cons (se_var rfl) (sa_cons (se_c (d := .int 4) fun _ => intR) sa_nil))) sa_nil)) (st_name (i := 5)) rfl (ss_if (st_test (se_op (se_cb (sa_cons (se_var rfl) sa_nil) cs_len) (se_c (d := .int 12) fun _ => intR) os_cmp)) (ss_seq (ss_set (se_op (se_var rfl) (se_op (se_var rfl) (se_c (d := .int 0) fun _ => intR) os_ix) os_add) rfl)
      (ss_set (se_op (se_sl (se_var rfl) (sp_ex (se_c (d := .int 1) fun _ => intR)) sp_no ss_sl) (se_op (se_var rfl) (se_c (d := .int 0) fun _ => intR) os_ix) os_add) rfl)) ss_next))
      (ss_seq (ss_for (si_rng1 (sa_cons (se_call hx (sa_cons (se_var rfl) (sa_cons (se_c (d := .int 3) fun _ => intR) sa_nil))) sa_nil)) (st_name (i := 5)) rfl (ss_if (st_and (st_test (se_op (se_var rfl) (se_c (d := .str []) fun _ => strR) os_ne)) (st_test (se_op (se_op (se_var rfl) (se_un (se_c (d := .int 1) fun _ => intR) cs_neg) os_ix) (se_op (se_var rfl) (se_un (se_c (d := .int 1) fun _ => intR) cs_neg) os_ix) os_eq))) (ss_seq (ss_set (se_sl (se_var rfl) sp_no (sp_ex (se_un (se_c (d := .int 1) fun _ => intR) cs_neg)) ss_sl) rfl)
      (ss_set (se_op (se_op (se_var rfl) (se_un (se_c (d := .int 1) fun _ => intR) cs_neg) os_ix) (se_sl (se_var rfl) sp_no (sp_ex (se_un (se_c (d := .int 1) fun _ => intR) cs_neg)) ss_sl) os_add) rfl)) ss_next))
      (ss_ret (se_call hx (sa_cons (se_frz (se_lst (sa_cons (se_var rfl) (sa_cons (se_var rfl) sa_nil)))) sa_nil)))))))))
theorem ok_l_thrifty_word (T : Top w K mg) : Ok P w K mg base 5 ("_law_thrifty_word", none) ["deal"] (SpM K false 1 l_thrifty_word_M) := by
  have G_l_pick := ok_l_pick (P := P) (w := w) (base := base) T
  have G_l_prefix_size := ok_l_prefix_size (P := P) (w := w) (base := base) T
  have G_l_same_text := ok_l_same_text (P := P) (w := w) (base := base) T
  have G_l_take := ok_l_take (P := P) (w := w) (base := base) T
  refine T.f_l_thrifty_word.ok sc_l_thrifty_word (fun _ _ _ _ h => SpM.len h) (fun cdv A outer s H vs Q E hr h => ?_)
  have xtab := xtab T
  refine viaN (n := 1) (k := 5) (ob := []) (o' := []) (a := l_thrifty_word_B) (PSs.nox (pss_cons (ps_set (i := 1) sc_l_thrifty_word.nd rfl (.inl rfl) (pe_s []))
      (pss_cons (ps_for PassesOwn.never rfl (pi_range1 (by rfl) T.z_range (pa_cons (by exact pe_callU (E := fun _ => E0) G_l_prefix_size (hr.mono (by first | decide | exact Nat.le_add_right _ _ | (simp only [Nat.add_eq]; omega))) rfl T.g_l_prefix_size T.f_l_prefix_size.kp (b_l_prefix_size T) pass_n (pa_cons (pv 0) pa_nil)) pa_nil)) (pg_name (i := 2) sc_l_thrifty_word.nd rfl (Or.inl rfl)) (pss_cons (ps_set (i := 3) sc_l_thrifty_word.nd rfl (.inl rfl) (by exact pe_callU (E := fun _ => E0) G_l_pick (hr.mono (by first | decide | exact Nat.le_add_right _ _ | (simp only [Nat.add_eq]; omega))) rfl T.g_l_pick T.f_l_pick.kp (b_l_pick T) pass_n (pa_cons (pv 0) (pa_cons (pe_lst (pa_cons (pe_s [66]) (pa_cons (pe_s [73, 79]) pa_nil))) pa_nil))))
      (pss_one (ps_ifU (pt_c op_leA (pe_op (op_addA K rfl) (pe_callB (call_lenK K rfl) (by rfl) T.z_len (by decide +kernel) (pa_cons (pv 1) pa_nil)) (pe_callB (call_lenK K rfl) (by rfl) T.z_len (by decide +kernel) (pa_cons (pv 3) pa_nil))) pe_int (nomark _)) (pss_one (ps_set (i := 1) sc_l_thrifty_word.nd rfl (.inl rfl) (pe_op (op_addA K rfl) (pv 1) (pv 3)))) pss_nil))))
      (pss_cons (ps_set (i := 4) sc_l_thrifty_word.nd rfl (.inl rfl) (pe_lst (pa_cons (pe_s [66]) (pa_cons (pe_s [73, 79]) (pa_cons (pe_s [66, 66]) (pa_cons (pe_s [66, 73, 79]) (pa_cons (pe_s [73, 79, 66]) (pa_cons (pe_s [66, 66, 66]) (pa_cons (pe_s [66, 66, 73, 79]) (pa_cons (pe_s [66, 73, 79, 66]) (pa_cons (pe_s [73, 79, 66, 66]) (pa_cons (pe_s [66, 66, 66, 66]) (pa_cons (pe_s [73, 79, 73, 79]) pa_nil)))))))))))))
      (pss_cons (ps_set (i := 5) sc_l_thrifty_word.nd rfl (.inl rfl) (pe_op (op_addA K rfl) (pe_op (op_addA K rfl) (pe_op (op_addA K rfl) (pv 1) (pe_s [40])) (by exact pe_callU (E := fun _ => E0) G_l_pick (hr.mono (by first | decide | exact Nat.le_add_right _ _ | (simp only [Nat.add_eq]; omega))) rfl T.g_l_pick T.f_l_pick.kp (b_l_pick T) pass_n (pa_cons (pv 0) (pa_cons (pv 4) pa_nil)))) (pe_s [41])))
      (pss_cons (ps_ifU (pt_c (op_eqK K rfl hr.units) (by exact pe_callU (E := fun _ => E0) G_l_take (hr.mono (by first | decide | exact Nat.le_add_right _ _ | (simp only [Nat.add_eq]; omega))) rfl T.g_l_take T.f_l_take.kp (b_l_take T) pass_n (pa_cons (pv 0) (pa_cons pe_int pa_nil))) pe_int (nomark _)) (pss_one (ps_ret (by exact pe_callU (E := fun _ => E0) G_l_same_text (hr.mono (by first | decide | exact Nat.le_add_right _ _ | (simp only [Nat.add_eq]; omega))) rfl T.g_l_same_text T.f_l_same_text.kp (b_l_same_text T) pass_n (pa_cons (pv 0) (pa_cons (pv 5) pa_nil))))) pss_nil)
      (pss_one (ps_ret (pv 5))))))))) (fun W hx => ?_) rfl h
  exact show SS K W _ false [] [false, false, false, false, false, false] [] _ _ from (ss_seq (ss_set (se_c (d := .str []) fun _ => strR) rfl)
      (ss_seq (ss_for (si_rng1 (sa_cons (se_call hx (sa_cons (se_var rfl) sa_nil)) sa_nil)) (st_name (i := 2)) rfl (ss_seq (ss_set (se_call hx (sa_cons (se_var rfl) (sa_cons (se_frz (se_lst (sa_cons (se_c (d := .str [66]) fun _ => strR) (sa_cons (se_c (d := .str [73, 79]) fun _ => strR) sa_nil)))) sa_nil))) rfl)
      (ss_if (st_test (se_op (se_op (se_cb (sa_cons (se_var rfl) sa_nil) cs_len) (se_cb (sa_cons (se_var rfl) sa_nil) cs_len) os_add) (se_c (d := .int 12) fun _ => intR) os_cmp)) (ss_set (se_op (se_var rfl) (se_var rfl) os_add) rfl) ss_next)))
      (ss_seq (ss_set (se_frz (se_lst (sa_cons (se_c (d := .str [66]) fun _ => strR) (sa_cons (se_c (d := .str [73, 79]) fun _ => strR) (sa_cons (se_c (d := .str [66, 66]) fun _ => strR) (sa_cons (se_c (d := .str [66, 73, 79]) fun _ => strR) (sa_cons (se_c (d := .str [73, 79, 66]) fun _ => strR) (sa_cons (se_c (d := .str [66, 66, 66]) fun _ => strR) (sa_cons (se_c (d := .str [66, 66, 73, 79]) fun _ => strR) (sa_cons (se_c (d := .str [66, 73, 79, 66]) fun _ => strR) (sa_cons (se_c (d := .str [73, 79, 66, 66]) fun _ => strR) (sa_cons (se_c (d := .str [66, 66, 66, 66]) fun _ => strR) (sa_cons (se_c (d := .str [73, 79, 73, 79]) fun _ => strR) sa_nil))))))))))))) rfl)
      (ss_seq (ss_set (se_op (se_op (se_op (se_var rfl) (se_c (d := .str [40]) fun _ => strR) os_add) (se_call hx (sa_cons (se_var rfl) (sa_cons (se_var rfl) sa_nil))) os_add) (se_c (d := .str [41]) fun _ => strR) os_add) rfl)
      (ss_seq (ss_if (st_test (se_op (se_call hx (sa_cons (se_var rfl) (sa_cons (se_c (d := .int 3) fun _ => intR) sa_nil))) (se_c (d := .int 0) fun _ => intR) os_eq)) (ss_ret (se_call hx (sa_cons (se_var rfl) (sa_cons (se_var rfl) sa_nil)))) ss_next)
      (ss_ret (se_var rfl)))))))
theorem ok_l_word_of (T : Top w K mg) : Ok P w K mg base 9 ("_law_word_of", none) ["deal", "wanted"] (SpM K false 2 l_word_of_M) := by
  have G_l_free_word := ok_l_free_word (P := P) (w := w) (base := base) T
  have G_l_full_word := ok_l_full_word (P := P) (w := w) (base := base) T
  have G_l_good_word := ok_l_good_word (P := P) (w := w) (base := base) T
  have G_l_pick := ok_l_pick (P := P) (w := w) (base := base) T
  have G_l_ringing_word := ok_l_ringing_word (P := P) (w := w) (base := base) T
  have G_l_starving_word := ok_l_starving_word (P := P) (w := w) (base := base) T
  have G_l_take := ok_l_take (P := P) (w := w) (base := base) T
  have G_l_thrifty_word := ok_l_thrifty_word (P := P) (w := w) (base := base) T
  refine T.f_l_word_of.ok sc_l_word_of (fun _ _ _ _ h => SpM.len h) (fun cdv A outer s H vs Q E hr h => ?_)
  have xtab := xtab T
  refine viaN (n := 2) (k := 1) (ob := []) (o' := []) (a := l_word_of_B) (PSs.nox (pss_cons (ps_set (i := 2) sc_l_word_of.nd rfl (.inl rfl) (by exact pe_callU (E := fun _ => E0) G_l_take (hr.mono (by first | decide | exact Nat.le_add_right _ _ | (simp only [Nat.add_eq]; omega))) rfl T.g_l_take T.f_l_take.kp (b_l_take T) pass_n (pa_cons (pv 0) (pa_cons pe_int pa_nil))))
      (pss_cons (ps_ifU (pt_c (op_eqK K rfl hr.units) (pv 1) (pe_s [114, 105, 110, 103, 105, 110, 103]) (nomark _)) (pss_one (ps_ret (by exact pe_callU (E := fun _ => E0) G_l_ringing_word (hr.mono (by first | decide | exact Nat.le_add_right _ _ | (simp only [Nat.add_eq]; omega))) rfl T.g_l_ringing_word T.f_l_ringing_word.kp (b_l_ringing_word T) pass_n (pa_cons (pv 0) pa_nil)))) pss_nil)
      (pss_cons (ps_ifU (pt_c (op_eqK K rfl hr.units) (pv 1) (pe_s [115, 116, 97, 114, 118, 105, 110, 103]) (nomark _)) (pss_one (ps_ret (by exact pe_callU (E := fun _ => E0) G_l_starving_word (hr.mono (by first | decide | exact Nat.le_add_right _ _ | (simp only [Nat.add_eq]; omega))) rfl T.g_l_starving_word T.f_l_starving_word.kp (b_l_starving_word T) pass_n (pa_cons (pv 0) pa_nil)))) pss_nil)
      (pss_cons (ps_ifU (pw_orU (pt_c (op_eqK K rfl hr.units) (pv 1) (pe_s [116, 104, 114, 105, 102, 116, 121]) (nomark _)) (pw_orU (pt_c (op_eqK K rfl hr.units) (pv 2) pe_int (nomark _)) (pw_or1 (pw_andU (pt_c (op_eqK K rfl hr.units) (pv 1) (pe_s [97, 110, 121]) (nomark _)) (pw_and1 (pt_c (op_eqK K rfl hr.units) (pv 2) pe_int (nomark _)))).pt))).pt (pss_one (ps_ret (by exact pe_callU (E := fun _ => E0) G_l_thrifty_word (hr.mono (by first | decide | exact Nat.le_add_right _ _ | (simp only [Nat.add_eq]; omega))) rfl T.g_l_thrifty_word T.f_l_thrifty_word.kp (b_l_thrifty_word T) pass_n (pa_cons (pv 0) pa_nil)))) pss_nil)
      (pss_cons (ps_ifU (pt_c (op_eqK K rfl hr.units) (pv 2) pe_int (nomark _)) (pss_one (ps_ret (pe_s [40, 66, 41]))) pss_nil)
      (pss_cons (ps_ifU (pw_orU (pt_c (op_eqK K rfl hr.units) (pv 1) (pe_s [103, 111, 111, 100]) (nomark _)) (pw_or1 (pt_c op_ltA (pv 2) pe_int (nomark _)))).pt (pss_one (ps_ret (by exact pe_callU (E := fun _ => E0) G_l_good_word (hr.mono (by first | decide | exact Nat.le_add_right _ _ | (simp only [Nat.add_eq]; omega))) rfl T.g_l_good_word T.f_l_good_word.kp (b_l_good_word T) pass_n (pa_cons (pv 0) pa_nil)))) pss_nil)
      (pss_cons (ps_ifU (pt_c (op_eqK K rfl hr.units) (pv 1) (pe_s [102, 117, 108, 108]) (nomark _)) (pss_one (ps_ret (by exact pe_callU (E := fun _ => E0) G_l_full_word (hr.mono (by first | decide | exact Nat.le_add_right _ _ | (simp only [Nat.add_eq]; omega))) rfl T.g_l_full_word T.f_l_full_word.kp (b_l_full_word T) pass_n (pa_cons (pv 0) pa_nil)))) pss_nil)
      (pss_cons (ps_ifU (pt_c (op_eqK K rfl hr.units) (pv 2) pe_int (nomark _)) (pss_one (ps_ret (by exact pe_callU (E := fun _ => E0) G_l_free_word (hr.mono (by first | decide | exact Nat.le_add_right _ _ | (simp only [Nat.add_eq]; omega))) rfl T.g_l_free_word T.f_l_free_word.kp (b_l_free_word T) pass_n (pa_cons (pv 0) pa_nil)))) pss_nil)
      (pss_one (ps_ret (by exact pe_callU (E := fun _ => E0) G_l_pick (hr.mono (by first | decide | exact Nat.le_add_right _ _ | (simp only [Nat.add_eq]; omega))) rfl T.g_l_pick T.f_l_pick.kp (b_l_pick T) pass_n (pa_cons (pv 0) (pa_cons (pe_lst (pa_cons (by exact pe_callU (E := fun _ => E0) G_l_starving_word (hr.mono (by first | decide | exact Nat.le_add_right _ _ | (simp only [Nat.add_eq]; omega))) rfl T.g_l_starving_word T.f_l_starving_word.kp (b_l_starving_word T) pass_n (pa_cons (pv 0) pa_nil)) (pa_cons (by exact pe_callU (E := fun _ => E0) G_l_ringing_word (hr.mono (by first | decide | exact Nat.le_add_right _ _ | (simp only [Nat.add_eq]; omega))) rfl T.g_l_ringing_word T.f_l_ringing_word.kp (b_l_ringing_word T) pass_n (pa_cons (pv 0) pa_nil)) pa_nil))) pa_nil)))))))))))))) (fun W hx => ?_) rfl h
  exact show SS K W _ false [] [false, false, false] [] _ _ from (ss_seq (ss_set (se_call hx (sa_cons (se_var rfl) (sa_cons (se_c (d := .int 6) fun _ => intR) sa_nil))) rfl)
      (ss_seq (ss_if (st_test (se_op (se_var rfl) (se_c (d := .str [114, 105, 110, 103, 105, 110, 103]) fun _ => strR) os_eq)) (ss_ret (se_call hx (sa_cons (se_var rfl) sa_nil))) ss_next)
      (ss_seq (ss_if (st_test (se_op (se_var rfl) (se_c (d := .str [115, 116, 97, 114, 118, 105, 110, 103]) fun _ => strR) os_eq)) (ss_ret (se_call hx (sa_cons (se_var rfl) sa_nil))) ss_next)
      (ss_seq (ss_if (st_or (st_test (se_op (se_var rfl) (se_c (d := .str [116, 104, 114, 105, 102, 116, 121]) fun _ => strR) os_eq)) (st_or (st_test (se_op (se_var rfl) (se_c (d := .int 0) fun _ => intR) os_eq)) (st_and (st_test (se_op (se_var rfl) (se_c (d := .str [97, 110, 121]) fun _ => strR) os_eq)) (st_test (se_op (se_var rfl) (se_c (d := .int 1) fun _ => intR) os_eq))))) (ss_ret (se_call hx (sa_cons (se_var rfl) sa_nil))) ss_next)
      (ss_seq (ss_if (st_test (se_op (se_var rfl) (se_c (d := .int 1) fun _ => intR) os_eq)) (ss_ret (se_c (d := .str [40, 66, 41]) fun _ => strR)) ss_next)
      (ss_seq (ss_if (st_or (st_test (se_op (se_var rfl) (se_c (d := .str [103, 111, 111, 100]) fun _ => strR) os_eq)) (st_test (se_op (se_var rfl) (se_c (d := .int 4) fun _ => intR) os_cmp))) (ss_ret (se_call hx (sa_cons (se_var rfl) sa_nil))) ss_next)
      (ss_seq (ss_if (st_test (se_op (se_var rfl) (se_c (d := .str [102, 117, 108, 108]) fun _ => strR) os_eq)) (ss_ret (se_call hx (sa_cons (se_var rfl) sa_nil))) ss_next)
      (ss_seq (ss_if (st_test (se_op (se_var rfl) (se_c (d := .int 4) fun _ => intR) os_eq)) (ss_ret (se_call hx (sa_cons (se_var rfl) sa_nil))) ss_next)
      (ss_ret (se_call hx (sa_cons (se_var rfl) (sa_cons (se_frz (se_lst (sa_cons (se_call hx (sa_cons (se_var rfl) sa_nil)) (sa_cons (se_call hx (sa_cons (se_var rfl) sa_nil)) sa_nil)))) sa_nil))))))))))))
theorem ok_l_late_pair (T : Top w K mg) : Ok P w K mg base 10 ("_law_late_pair", none) ["deal"] (SpM K false 1 l_late_pair_M) := by
  have G_l_edge := ok_l_edge (P := P) (w := w) (base := base) T
  have G_l_first_marks := ok_l_first_marks (P := P) (w := w) (base := base) T
  have G_l_letter_text := ok_l_letter_text (P := P) (w := w) (base := base) T
  have G_l_pick := ok_l_pick (P := P) (w := w) (base := base) T
  have G_l_split := ok_l_split (P := P) (w := w) (base := base) T
  have G_l_take := ok_l_take (P := P) (w := w) (base := base) T
  have G_l_within := ok_l_within (P := P) (w := w) (base := base) T
  have G_l_word_of := ok_l_word_of (P := P) (w := w) (base := base) T
  refine T.f_l_late_pair.ok sc_l_late_pair (fun _ _ _ _ h => SpM.len h) (fun cdv A outer s H vs Q E hr h => ?_)
  have xtab := xtab T
  refine viaN (n := 1) (k := 4) (ob := []) (o' := []) (a := l_late_pair_B) (PSs.nox (pss_cons (ps_set (i := 1) sc_l_late_pair.nd rfl (.inl rfl) (by exact pe_callU (E := fun _ => E0) G_l_word_of (hr.mono (by first | decide | exact Nat.le_add_right _ _ | (simp only [Nat.add_eq]; omega))) rfl T.g_l_word_of T.f_l_word_of.kp (b_l_word_of T) pass_n (pa_cons (pv 0) (pa_cons (pe_s [97, 110, 121]) pa_nil))))
      (pss_cons (ps_set (i := 2) sc_l_late_pair.nd rfl (.inl rfl) (by exact pe_callU (E := fun _ => E0) G_l_edge (hr.mono (by first | decide | exact Nat.le_add_right _ _ | (simp only [Nat.add_eq]; omega))) rfl T.g_l_edge T.f_l_edge.kp (b_l_edge T) pass_n (pa_cons (pv 0) (pa_cons pe_int (pa_cons pe_int pa_nil)))))
      (pss_cons (ps_set (i := 3) sc_l_late_pair.nd rfl (.inl rfl) (pe_ix (ix_K K rfl) (by exact pe_callU (E := fun _ => E0) G_l_split (hr.mono (by first | decide | exact Nat.le_add_right _ _ | (simp only [Nat.add_eq]; omega))) rfl T.g_l_split T.f_l_split.kp (b_l_split T) pass_n (pa_cons (pv 1) pa_nil)) pe_int (fun _ _ => rfl)))
      (pss_cons (ps_ifU (pt_c (op_eqK K rfl hr.units) (by exact pe_callU (E := fun _ => E0) G_l_take (hr.mono (by first | decide | exact Nat.le_add_right _ _ | (simp only [Nat.add_eq]; omega))) rfl T.g_l_take T.f_l_take.kp (b_l_take T) pass_n (pa_cons (pv 0) (pa_cons pe_int pa_nil))) pe_int (nomark _)) (pss_one (ps_set (i := 3) sc_l_late_pair.nd rfl (.inl rfl) (by exact pe_callU (E := fun _ => E0) G_l_letter_text (hr.mono (by first | decide | exact Nat.le_add_right _ _ | (simp only [Nat.add_eq]; omega))) rfl T.g_l_letter_text T.f_l_letter_text.kp (b_l_letter_text T) pass_n (pa_cons (pv 0) (pa_cons (pe_s [66, 73, 79]) (pa_cons (by exact pe_callU (E := fun _ => E0) G_l_within (hr.mono (by first | decide | exact Nat.le_add_right _ _ | (simp only [Nat.add_eq]; omega))) rfl T.g_l_within T.f_l_within.kp (b_l_within T) pass_n (pa_cons (pv 0) (pa_cons pe_int (pa_cons pe_int pa_nil)))) pa_nil)))))) (pss_cons (ps_set (i := 4) sc_l_late_pair.nd rfl (.inl rfl) (by exact pe_callU (E := fun _ => E0) G_l_take (hr.mono (by first | decide | exact Nat.le_add_right _ _ | (simp only [Nat.add_eq]; omega))) rfl T.g_l_take T.f_l_take.kp (b_l_take T) pass_n (pa_cons (pv 0) (pa_cons (pe_callB (call_lenK K rfl) (by rfl) T.z_len (by decide +kernel) (pa_cons (pv 3) pa_nil)) pa_nil))))
      (pss_one (ps_set (i := 3) sc_l_late_pair.nd rfl (.inl rfl) (pe_op (op_addA K rfl) (pe_op (op_addA K rfl) (pe_slice (sl_K K rfl) (pv 3) po_none (po_some (pv 4))) (by exact pe_callU (E := fun _ => E0) G_l_pick (hr.mono (by first | decide | exact Nat.le_add_right _ _ | (simp only [Nat.add_eq]; omega))) rfl T.g_l_pick T.f_l_pick.kp (b_l_pick T) pass_n (pa_cons (pv 0) (pa_cons (pe_s [66, 73, 79]) pa_nil)))) (pe_slice (sl_K K rfl) (pv 3) (po_some (pe_op (op_addA K rfl) (pv 4) pe_int)) po_none))))))
      (pss_one (ps_ret (pe_lst (pa_cons (pv 1) (pa_cons (pe_op (op_addA K rfl) (pe_op (op_addA K rfl) (pe_op (op_addA K rfl) (by exact pe_callU (E := fun _ => E0) G_l_first_marks (hr.mono (by first | decide | exact Nat.le_add_right _ _ | (simp only [Nat.add_eq]; omega))) rfl T.g_l_first_marks T.f_l_first_marks.kp (b_l_first_marks T) pass_n (pa_cons (pv 1) (pa_cons (pv 2) pa_nil))) (pe_s [40])) (pv 3)) (pe_s [41])) pa_nil)))))))))) (fun W hx => ?_) rfl h
  exact show SS K W _ false [] [false, false, false, false, false] [] _ _ from (ss_seq (ss_set (se_call hx (sa_cons (se_var rfl) (sa_cons (se_c (d := .str [97, 110, 121]) fun _ => strR) sa_nil))) rfl)
      (ss_seq (ss_set (se_call hx (sa_cons (se_var rfl) (sa_cons (se_c (d := .int 0) fun _ => intR) (sa_cons (se_c (d := .int 12) fun _ => intR) sa_nil)))) rfl)
      (ss_seq (ss_set (se_op (se_call hx (sa_cons (se_var rfl) sa_nil)) (se_c (d := .int 1) fun _ => intR) os_ix) rfl)
      (ss_seq (ss_if (st_test (se_op (se_call hx (sa_cons (se_var rfl) (sa_cons (se_c (d := .int 2) fun _ => intR) sa_nil))) (se_c (d := .int 0) fun _ => intR) os_eq)) (ss_set (se_call hx (sa_cons (se_var rfl) (sa_cons (se_c (d := .str [66, 73, 79]) fun _ => strR) (sa_cons (se_call hx (sa_cons (se_var rfl) (sa_cons (se_c (d := .int 1) fun _ => intR) (sa_cons (se_c (d := .int 4) fun _ => intR) sa_nil)))) sa_nil)))) rfl) (ss_seq (ss_set (se_call hx (sa_cons (se_var rfl) (sa_cons (se_cb (sa_cons (se_var rfl) sa_nil) cs_len) sa_nil))) rfl)
      (ss_set (se_op (se_op (se_sl (se_var rfl) sp_no (sp_ex (se_var rfl)) ss_sl) (se_call hx (sa_cons (se_var rfl) (sa_cons (se_c (d := .str [66, 73, 79]) fun _ => strR) sa_nil))) os_add) (se_sl (se_var rfl) (sp_ex (se_op (se_var rfl) (se_c (d := .int 1) fun _ => intR) os_add)) sp_no ss_sl) os_add) rfl)))
      (ss_ret (se_frz (se_lst (sa_cons (se_var rfl) (sa_cons (se_op (se_op (se_op (se_call hx (sa_cons (se_var rfl) (sa_cons (se_var rfl) sa_nil))) (se_c (d := .str [40]) fun _ => strR) os_add) (se_var rfl) os_add) (se_c (d := .str [41]) fun _ => strR) os_add) sa_nil)))))))))
theorem ok_l_huge (T : Top w K mg) : Ok P w K mg base 3 ("_law_huge", none) ["deal"] (SpM K false 1 l_huge_M) := by
  have G_l_pick := ok_l_pick (P := P) (w := w) (base := base) T
  have G_l_take := ok_l_take (P := P) (w := w) (base := base) T
  have G_l_within := ok_l_within (P := P) (w := w) (base := base) T
  refine T.f_l_huge.ok sc_l_huge (fun _ _ _ _ h => SpM.len h) (fun cdv A outer s H vs Q E hr h => ?_)
  have xtab := xtab T
  refine viaN (n := 1) (k := 4) (ob := []) (o' := []) (a := l_huge_B) (PSs.nox (pss_cons (ps_set (i := 1) sc_l_huge.nd rfl (.inl rfl) (by exact pe_callU (E := fun _ => E0) G_l_take (hr.mono (by first | decide | exact Nat.le_add_right _ _ | (simp only [Nat.add_eq]; omega))) rfl T.g_l_take T.f_l_take.kp (b_l_take T) pass_n (pa_cons (pv 0) (pa_cons pe_int pa_nil))))
      (pss_cons (ps_ifU (pt_c op_ltA (pv 1) pe_int (nomark _)) (pss_one (ps_ret (by exact pe_callU (E := fun _ => E0) G_l_take (hr.mono (by first | decide | exact Nat.le_add_right _ _ | (simp only [Nat.add_eq]; omega))) rfl T.g_l_take T.f_l_take.kp (b_l_take T) pass_n (pa_cons (pv 0) (pa_cons pe_int pa_nil))))) pss_nil)
      (pss_cons (ps_ifU (pt_c (op_eqK K rfl hr.units) (pv 1) pe_int (nomark _)) (pss_one (ps_ret (by exact pe_callU (E := fun _ => E0) G_l_take (hr.mono (by first | decide | exact Nat.le_add_right _ _ | (simp only [Nat.add_eq]; omega))) rfl T.g_l_take T.f_l_take.kp (b_l_take T) pass_n (pa_cons (pv 0) (pa_cons pe_int pa_nil))))) pss_nil)
      (pss_cons (ps_ifU (pt_c (op_eqK K rfl hr.units) (pv 1) pe_int (nomark _)) (pss_one (ps_ret (by exact pe_callU (E := fun _ => E0) G_l_pick (hr.mono (by first | decide | exact Nat.le_add_right _ _ | (simp only [Nat.add_eq]; omega))) rfl T.g_l_pick T.f_l_pick.kp (b_l_pick T) pass_n (pa_cons (pv 0) (pa_cons (pe_lst (pa_cons pe_int (pa_cons pe_int (pa_cons pe_int (pa_cons pe_int (pa_cons (pe_powC 1000000000000000000 pe_int pe_int) (pa_cons (pe_powC 1000000000000000000000000000000000000000 pe_int pe_int) (pa_cons (pe_op op_subU (pe_powC 10000000000000000000000000000000000000000 pe_int pe_int) pe_int) (pa_cons (pe_op op_subU (pe_powC 10000000000000000000000000000000000000000 pe_int pe_int) pe_int) pa_nil))))))))) pa_nil))))) pss_nil)
      (pss_cons (ps_set (i := 2) sc_l_huge.nd rfl (.inl rfl) pe_int)
      (pss_cons (ps_ifU (pt_c (op_eqK K rfl hr.units) (pv 1) pe_int (nomark _)) (pss_one (ps_set (i := 2) sc_l_huge.nd rfl (.inl rfl) (by exact pe_callU (E := fun _ => E0) G_l_within (hr.mono (by first | decide | exact Nat.le_add_right _ _ | (simp only [Nat.add_eq]; omega))) rfl T.g_l_within T.f_l_within.kp (b_l_within T) pass_n (pa_cons (pv 0) (pa_cons pe_int (pa_cons pe_int pa_nil)))))) pss_nil)
      (pss_cons (ps_set (i := 3) sc_l_huge.nd rfl (.inl rfl) pe_int)
      (pss_cons (ps_for PassesOwn.never rfl (pi_range1 (by rfl) T.z_range (pa_cons (pv 2) pa_nil)) (pg_name (i := 4) sc_l_huge.nd rfl (Or.inl rfl)) (pss_one (ps_set (i := 3) sc_l_huge.nd rfl (.inl rfl) (pe_op (op_addA K rfl) (pe_op op_mulA (pv 3) (pe_powC 100000000 pe_int pe_int)) (by exact pe_callU (E := fun _ => E0) G_l_take (hr.mono (by first | decide | exact Nat.le_add_right _ _ | (simp only [Nat.add_eq]; omega))) rfl T.g_l_take T.f_l_take.kp (b_l_take T) pass_n (pa_cons (pv 0) (pa_cons (pe_powC 100000000 pe_int pe_int) pa_nil)))))))
      (pss_one (ps_ret (pv 3)))))))))))) (fun W hx => ?_) rfl h
  exact show SS K W _ false [] [false, false, false, false, false] [] _ _ from (ss_seq (ss_set (se_call hx (sa_cons (se_var rfl) (sa_cons (se_c (d := .int 6) fun _ => intR) sa_nil))) rfl)
      (ss_seq (ss_if (st_test (se_op (se_var rfl) (se_c (d := .int 2) fun _ => intR) os_cmp)) (ss_ret (se_call hx (sa_cons (se_var rfl) (sa_cons (se_c (d := .int 21) fun _ => intR) sa_nil)))) ss_next)
      (ss_seq (ss_if (st_test (se_op (se_var rfl) (se_c (d := .int 2) fun _ => intR) os_eq)) (ss_ret (se_call hx (sa_cons (se_var rfl) (sa_cons (se_c (d := .int 1000000) fun _ => intR) sa_nil)))) ss_next)
      (ss_seq (ss_if (st_test (se_op (se_var rfl) (se_c (d := .int 3) fun _ => intR) os_eq)) (ss_ret (se_call hx (sa_cons (se_var rfl) (sa_cons (se_frz (se_lst (sa_cons (se_c (d := .int 0) fun _ => intR) (sa_cons (se_c (d := .int 1) fun _ => intR) (sa_cons (se_c (d := .int 2) fun _ => intR) (sa_cons (se_c (d := .int 3) fun _ => intR) (sa_cons (se_c (d := .int 1000000000000000000) fun _ => intR) (sa_cons (se_c (d := .int 1000000000000000000000000000000000000000) fun _ => intR) (sa_cons (se_op (se_c (d := .int 10000000000000000000000000000000000000000) fun _ => intR) (se_c (d := .int 2) fun _ => intR) os_sub) (sa_cons (se_op (se_c (d := .int 10000000000000000000000000000000000000000) fun _ => intR) (se_c (d := .int 1) fun _ => intR) os_sub) sa_nil)))))))))) sa_nil)))) ss_next)
      (ss_seq (ss_set (se_c (d := .int 5) fun _ => intR) rfl)
      (ss_seq (ss_if (st_test (se_op (se_var rfl) (se_c (d := .int 4) fun _ => intR) os_eq)) (ss_set (se_call hx (sa_cons (se_var rfl) (sa_cons (se_c (d := .int 1) fun _ => intR) (sa_cons (se_c (d := .int 4) fun _ => intR) sa_nil)))) rfl) ss_next)
      (ss_seq (ss_set (se_c (d := .int 0) fun _ => intR) rfl)
      (ss_seq (ss_for (si_rng1 (sa_cons (se_var rfl) sa_nil)) (st_name (i := 4)) rfl (ss_set (se_op (se_op (se_var rfl) (se_c (d := .int 100000000) fun _ => intR) os_mul) (se_call hx (sa_cons (se_var rfl) (sa_cons (se_c (d := .int 100000000) fun _ => intR) sa_nil))) os_add) rfl))
      (ss_ret (se_var rfl))))))))))
theorem ok_l_parting (T : Top w K mg) : Ok P w K mg base 2 ("_law_parting", none) ["one", "other"] (SpM K false 2 l_parting_M) := by
  have G_l_mark_at := ok_l_mark_at (P := P) (w := w) (base := base) T
  have G_l_split := ok_l_split (P := P) (w := w) (base := base) T
  refine T.f_l_parting.ok sc_l_parting (fun _ _ _ _ h => SpM.len h) (fun cdv A outer s H vs Q E hr h => ?_)
  have xtab := xtab T
  refine viaN (n := 2) (k := 3) (ob := []) (o' := []) (a := l_parting_B) (PSs.nox (pss_cons (ps_set (i := 2) sc_l_parting.nd rfl (.inl rfl) (by exact pe_callU (E := fun _ => E0) G_l_split (hr.mono (by first | decide | exact Nat.le_add_right _ _ | (simp only [Nat.add_eq]; omega))) rfl T.g_l_split T.f_l_split.kp (b_l_split T) pass_n (pa_cons (pv 0) pa_nil)))
      (pss_cons (ps_set (i := 3) sc_l_parting.nd rfl (.inl rfl) (by exact pe_callU (E := fun _ => E0) G_l_split (hr.mono (by first | decide | exact Nat.le_add_right _ _ | (simp only [Nat.add_eq]; omega))) rfl T.g_l_split T.f_l_split.kp (b_l_split T) pass_n (pa_cons (pv 1) pa_nil)))
      (pss_cons (ps_for PassesOwn.never rfl (pi_range1 (by rfl) T.z_range (pa_cons pe_int pa_nil)) (pg_name (i := 4) sc_l_parting.nd rfl (Or.inl rfl)) (pss_one (ps_ifU (pt_c (op_neK K rfl hr.units) (by exact pe_callU (E := fun _ => E0) G_l_mark_at (hr.mono (by first | decide | exact Nat.le_add_right _ _ | (simp only [Nat.add_eq]; omega))) rfl T.g_l_mark_at T.f_l_mark_at.kp (b_l_mark_at T) pass_n (pa_cons (pv 2) (pa_cons (pv 4) pa_nil))) (by exact pe_callU (E := fun _ => E0) G_l_mark_at (hr.mono (by first | decide | exact Nat.le_add_right _ _ | (simp only [Nat.add_eq]; omega))) rfl T.g_l_mark_at T.f_l_mark_at.kp (b_l_mark_at T) pass_n (pa_cons (pv 3) (pa_cons (pv 4) pa_nil))) (nomark _)) (pss_one (ps_ret (pv 4))) pss_nil)))
      (pss_one (ps_ret pe_non)))))) (fun W hx => ?_) rfl h
  exact show SS K W _ false [] [false, false, false, false, false] [] _ _ from (ss_seq (ss_set (se_call hx (sa_cons (se_var rfl) sa_nil)) rfl)
      (ss_seq (ss_set (se_call hx (sa_cons (se_var rfl) sa_nil)) rfl)
      (ss_seq (ss_for (si_rng1 (sa_cons (se_c (d := .int 60) fun _ => intR) sa_nil)) (st_name (i := 4)) rfl (ss_if (st_test (se_op (se_call hx (sa_cons (se_var rfl) (sa_cons (se_var rfl) sa_nil))) (se_call hx (sa_cons (se_var rfl) (sa_cons (se_var rfl) sa_nil))) os_ne)) (ss_ret (se_var rfl)) ss_next))
      (ss_ret (se_c (d := .non) fun _ => Rep.non.mpr rfl)))))
theorem ok_p_fresh (T : Top w K mg) : ∀ n, Ok P w K mg base (0 + n) ("fresh", none) ["x", "depth"] (SpM K false 2 (p_fresh_M n)) := by
  intro n
  induction n with
  | zero => exact ⟨fun _ _ _ _ h => SpM.len h, fun _ _ _ _ _ _ _ _ _ _ _ _ _ h => (SpM.no h).elim⟩
  | succ n G_p_fresh =>
    refine T.f_p_fresh.ok sc_p_fresh (fun _ _ _ _ h => SpM.len h) (fun cdv A outer s H vs Q E hr h => ?_)
    have xtab := xtab T
    refine viaN (n := 2) (k := 1) (ob := []) (o' := []) (PSs.nox (pss_cons (ps_ifU (pt_c (op_eqK K rfl hr.units) (pv 1) pe_int (nomark _)) (pss_one (ps_ret (pv 0))) pss_nil)
      (pss_cons (ps_ifU (pt_t (pe_callB (call_isiK K rfl) (by rfl) T.z_isinstance (by decide +kernel) (pa_cons (pv 0) (pa_cons (pe_bltn (v := .ty "list") (by rfl) T.z_list (by decide +kernel) rfl) pa_nil)))) (pss_one (ps_ret (pe_lc (own := [("y", 2)]) (by rfl) sc_p_fresh.nd (pi_any K rfl (pv 0)) (blkOk_by (own := [("y", 2)]) (N := N_p_fresh) (sc := defScope s_p_fresh) (by decide +kernel)) (fun _ _ _ _ _ => (pg_name (i := 2) sc_p_fresh.nd rfl (Or.inl rfl))) (fun _ _ _ _ _ => pts_nil) (fun _ _ _ _ _ => (by exact pe_callU (E := fun _ => E0) G_p_fresh hr rfl T.g_p_fresh T.f_p_fresh.kp (b_p_fresh T) pass_n (pa_cons (pv 2) (pa_cons (pe_op op_subU (pv 1) pe_int) pa_nil))))))) pss_nil)
      (pss_cons (ps_ifU (pt_t (pe_callB (call_isiK K rfl) (by rfl) T.z_isinstance (by decide +kernel) (pa_cons (pv 0) (pa_cons (pe_bltn (v := .ty "tuple") (by rfl) T.z_tuple (by decide +kernel) rfl) pa_nil)))) (pss_one (ps_ret (pe_callTy (call_tupleK K rfl) (by rfl) T.z_tuple (by decide +kernel) (pa_cons (pe_lc (own := [("y", 2)]) (by rfl) sc_p_fresh.nd (pi_any K rfl (pv 0)) (blkOk_by (own := [("y", 2)]) (N := N_p_fresh) (sc := defScope s_p_fresh) (by decide +kernel)) (fun _ _ _ _ _ => (pg_name (i := 2) sc_p_fresh.nd rfl (Or.inl rfl))) (fun _ _ _ _ _ => pts_nil) (fun _ _ _ _ _ => (by exact pe_callU (E := fun _ => E0) G_p_fresh hr rfl T.g_p_fresh T.f_p_fresh.kp (b_p_fresh T) pass_n (pa_cons (pv 2) (pa_cons (pe_op op_subU (pv 1) pe_int) pa_nil))))) pa_nil)))) pss_nil)
      (pss_one (ps_ret (pv 0))))))) (fun W hx => ?_) rfl h
    exact show SS K W _ false [] [false, false, false] [] _ _ from (ss_seq (ss_if (st_test (se_op (se_var rfl) (se_c (d := .int 0) fun _ => intR) os_eq)) (ss_ret (se_var rfl)) ss_next)
      (ss_seq (ss_if (st_test (se_cb (sa_cons (se_var rfl) (sa_cons (se_c (d := .ty "list") fun _ => Rep.ty.mpr rfl) sa_nil)) cs_isi)) (ss_ret (se_frz (se_lc rfl (si_any (se_var rfl)) (st_name (i := 2)) (by decide) st_yes (se_call hx (sa_cons (se_var rfl) (sa_cons (se_op (se_var rfl) (se_c (d := .int 1) fun _ => intR) os_sub) sa_nil)))))) ss_next)
      (ss_seq (ss_if (st_test (se_cb (sa_cons (se_var rfl) (sa_cons (se_c (d := .ty "tuple") fun _ => Rep.ty.mpr rfl) sa_nil)) cs_isi)) (ss_ret (se_cb (sa_cons (se_frz (se_lc rfl (si_any (se_var rfl)) (st_name (i := 2)) (by decide) st_yes (se_call hx (sa_cons (se_var rfl) (sa_cons (se_op (se_var rfl) (se_c (d := .int 1) fun _ => intR) os_sub) sa_nil))))) sa_nil) cs_tuple)) ss_next)
      (ss_ret (se_var rfl)))))
theorem ok_m_NumberError_init (T : Top w K mg) : Ok P w K mg base 11 ("NumberError", some "__init__") ["self", "at_number"] (spInitM K "at_number" m_NumberError_init_M) := by
  have G_p_fresh := ok_p_fresh (P := P) (w := w) (base := base) T 10
  obtain ⟨ds_p_fresh, B_p_fresh⟩ := dflt_p_fresh T
  refine T.f_m_NumberError_init.ok sc_m_NumberError_init (fun vs H Q E h => ?_) (fun cdv A outer s H vs Q E hr h => ?_)
  · obtain ⟨_, _, _, _, _, _, _, _, rfl, _⟩ := h
    rfl
  · refine ⟨_, PSs.nox (pss_one (ps_ost (pv 0) (by exact pe_callUD (E := fun _ => E0) G_p_fresh (hr.mono (by first | decide | exact Nat.le_add_right _ _ | (simp only [Nat.add_eq]; omega))) rfl T.g_p_fresh T.f_p_fresh.kp B_p_fresh.2 B_p_fresh.1 pass_n (pa_cons (pv 1) pa_nil)))), ?_⟩
    exact (fnInit (o' := [false, false]) (e := (eCallD 2 (p_fresh_M 10) [.int 8] (aCons (eVar 1) aNil))) (fun W hx => (se_callD hx (dd := [.int 8]) (fun _ => by first | exact Reps.cons (Rep.non.mpr rfl) Reps.nil | exact Reps.cons intR Reps.nil) (sa_cons (se_var rfl) sa_nil))) rfl h).2
theorem ok_p_check_number (T : Top w K mg) : Ok P w K mg base 13 ("check_number", none) ["number", "least", "most"] (SpM K false 3 p_check_number_M) := by
  have G_m_NumberError_init := ok_m_NumberError_init (P := P) (w := w) (base := base) T
  refine T.f_p_check_number.ok sc_p_check_number (fun _ _ _ _ h => SpM.len h) (fun cdv A outer s H vs Q E hr h => ?_)
  have xtab := xtab T
  refine viaX (n := 3) (k := 0) (ob := []) (o' := [false, false, false]) (a := p_check_number_B) ((pss_cons (ps_ifU (pw_orU (pt_t (pe_callB (call_isiK K rfl) (by rfl) T.z_isinstance (by decide +kernel) (pa_cons (pv 0) (pa_cons (pe_bltn (v := .ty "bool") (by rfl) T.z_bool (by decide +kernel) rfl) pa_nil)))) (pw_or1 (pt_not (pt_t (pe_callB (call_isiK K rfl) (by rfl) T.z_isinstance (by decide +kernel) (pa_cons (pv 0) (pa_cons (pe_bltn (v := .ty "int") (by rfl) T.z_int (by decide +kernel) rfl) pa_nil))))))).pt (pss_one (ps_raise rfl (takes_of rfl rfl rfl rfl) (pmk_oex T.o_NumberError T.i_NumberError T.y_NumberError G_m_NumberError_init (hr.mono (by decide)) (b_m_NumberError_init T) .nil passL rfl T.g_NumberError (pa_cons (pv 0) pa_nil)))) pss_nil)
      (pss_one (ps_ifU (pw_orU (pt_c op_ltA (pv 0) (pv 1) (nomark _)) (pw_or1 (pw_andU (pt_c op_isnU (pv 2) pe_non (nomark _)) (pw_and1 (pt_c op_gtA (pv 0) (pv 2) (nomark _)))).pt)).pt (pss_one (ps_raise rfl (takes_of rfl rfl rfl rfl) (pmk_oex T.o_NumberError T.i_NumberError T.y_NumberError G_m_NumberError_init (hr.mono (by decide)) (b_m_NumberError_init T) .nil passL rfl T.g_NumberError (pa_cons (pv 0) pa_nil)))) pss_nil)))) (fun W hx => ?_) rfl h
  exact show SS K W _ false [] [false, false, false] [false, false, false] _ _ from (ss_seq (ss_if (st_or (st_test (se_cb (sa_cons (se_var rfl) (sa_cons (se_c (d := .ty "bool") fun _ => Rep.ty.mpr rfl) sa_nil)) cs_isi)) (st_not (st_test (se_cb (sa_cons (se_var rfl) (sa_cons (se_c (d := .ty "int") fun _ => Rep.ty.mpr rfl) sa_nil)) cs_isi)))) (ss_raise1 hx (cn := "NumberError") (f := "at_number") T.o_NumberError T.n_NumberError_at_number (sa_cons (se_var rfl) sa_nil)) ss_next)
      (ss_if (st_or (st_test (se_op (se_var rfl) (se_var rfl) os_cmp)) (st_and (st_test (se_op (se_var rfl) (se_c (d := .non) fun _ => Rep.non.mpr rfl) os_isn)) (st_test (se_op (se_var rfl) (se_var rfl) os_cmp)))) (ss_raise1 hx (cn := "NumberError") (f := "at_number") T.o_NumberError T.n_NumberError_at_number (sa_cons (se_var rfl) sa_nil)) ss_next))
theorem ok_p_made_of (T : Top w K mg) : Ok P w K mg base 1 ("made_of", none) ["text", "letters", "least", "most"] (SpM K false 4 p_made_of_M) := by
  refine T.f_p_made_of.ok sc_p_made_of (fun _ _ _ _ h => SpM.len h) (fun cdv A outer s H vs Q E hr h => ?_)
  have xtab := xtab T
  refine viaN (n := 4) (k := 1) (ob := []) (o' := []) (a := p_made_of_B) (PSs.nox (pss_cons (ps_ifU (pw_orU (pt_not (pt_t (pe_callB (call_isiK K rfl) (by rfl) T.z_isinstance (by decide +kernel) (pa_cons (pv 0) (pa_cons (pe_bltn (v := .ty "str") (by rfl) T.z_str (by decide +kernel) rfl) pa_nil))))) (pw_orU (pt_c op_ltA (pe_callB (call_lenK K rfl) (by rfl) T.z_len (by decide +kernel) (pa_cons (pv 0) pa_nil)) (pv 2) (nomark _)) (pw_or1 (pt_c op_gtA (pe_callB (call_lenK K rfl) (by rfl) T.z_len (by decide +kernel) (pa_cons (pv 0) pa_nil)) (pv 3) (nomark _))))).pt (pss_one (ps_ret pe_bl)) pss_nil)
      (pss_one (ps_ret (pe_callB (cr_allK K rfl rfl) (by rfl) T.z_all (by decide +kernel) (pa_cons (pe_lc (own := [("sign", 4)]) (by rfl) sc_p_made_of.nd (pi_any K rfl (pv 0)) (blkOk_by (own := [("sign", 4)]) (N := N_p_made_of) (sc := defScope s_p_made_of) (by decide +kernel)) (fun _ _ _ _ _ => (pg_name (i := 4) sc_p_made_of.nd rfl (Or.inl rfl))) (fun _ _ _ _ _ => pts_nil) (fun _ _ _ _ _ => (pe_cmpR (op_inA K rfl (hu65 hr)) (pv 4) (pv 1) (by rfl)))) pa_nil)))))) (fun W hx => ?_) rfl h
  exact show SS K W _ false [] [false, false, false, false, false] [] _ _ from (ss_seq (ss_if (st_or (st_not (st_test (se_cb (sa_cons (se_var rfl) (sa_cons (se_c (d := .ty "str") fun _ => Rep.ty.mpr rfl) sa_nil)) cs_isi))) (st_or (st_test (se_op (se_cb (sa_cons (se_var rfl) sa_nil) cs_len) (se_var rfl) os_cmp)) (st_test (se_op (se_cb (sa_cons (se_var rfl) sa_nil) cs_len) (se_var rfl) os_cmp)))) (ss_ret (se_c (d := .bl false) fun _ => blR)) ss_next)
      (ss_ret (se_cb (sa_cons (se_frz (se_lc rfl (si_any (se_var rfl)) (st_name (i := 4)) (by decide) st_yes (se_op (se_var rfl) (se_var rfl) (os_in false)))) sa_nil) cs_all)))
theorem ok_p_are_parts (T : Top w K mg) : Ok P w K mg base 2 ("are_parts", none) ["prefix", "cycle", "letters"] (SpM K false 3 p_are_parts_M) := by
  have G_p_made_of := ok_p_made_of (P := P) (w := w) (base := base) T
  refine T.f_p_are_parts.ok sc_p_are_parts (fun _ _ _ _ h => SpM.len h) (fun cdv A outer s H vs Q E hr h => ?_)
  have xtab := xtab T
  refine viaN (n := 3) (k := 0) (ob := []) (o' := []) (a := p_are_parts_B) (PSs.nox (pss_cons (ps_ifU (pt_not (pt_t (by exact pe_callU (E := fun _ => E0) G_p_made_of (hr.mono (by first | decide | exact Nat.le_add_right _ _ | (simp only [Nat.add_eq]; omega))) rfl T.g_p_made_of T.f_p_made_of.kp (b_p_made_of T) pass_n (pa_cons (pv 0) (pa_cons (pv 2) (pa_cons pe_int (pa_cons (by exact pe_glob (v := .int 12) rfl T.k_LONGEST_PREFIX ⟨_, rfl⟩) pa_nil))))))) (pss_one (ps_ret pe_bl)) pss_nil)
      (pss_one (ps_ret (by exact pe_callU (E := fun _ => E0) G_p_made_of (hr.mono (by first | decide | exact Nat.le_add_right _ _ | (simp only [Nat.add_eq]; omega))) rfl T.g_p_made_of T.f_p_made_of.kp (b_p_made_of T) pass_n (pa_cons (pv 1) (pa_cons (pv 2) (pa_cons pe_int (pa_cons (by exact pe_glob (v := .int 4) rfl T.k_LONGEST_CYCLE ⟨_, rfl⟩) pa_nil))))))))) (fun W hx => ?_) rfl h
  exact show SS K W _ false [] [false, false, false] [] _ _ from (ss_seq (ss_if (st_not (st_test (se_call hx (sa_cons (se_var rfl) (sa_cons (se_var rfl) (sa_cons (se_c (d := .int 0) fun _ => intR) (sa_cons (se_c (d := .int 12) fun _ => intR) sa_nil))))))) (ss_ret (se_c (d := .bl false) fun _ => blR)) ss_next)
      (ss_ret (se_call hx (sa_cons (se_var rfl) (sa_cons (se_var rfl) (sa_cons (se_c (d := .int 1) fun _ => intR) (sa_cons (se_c (d := .int 4) fun _ => intR) sa_nil)))))))
theorem ok_p_text_parts (T : Top w K mg) : Ok P w K mg base 3 ("text_parts", none) ["text", "letters"] (SpM K false 2 p_text_parts_M) := by
  have G_p_are_parts := ok_p_are_parts (P := P) (w := w) (base := base) T
  refine T.f_p_text_parts.ok sc_p_text_parts (fun _ _ _ _ h => SpM.len h) (fun cdv A outer s H vs Q E hr h => ?_)
  have xtab := xtab T
  refine viaX (n := 2) (k := 4) (ob := []) (o' := []) (a := p_text_parts_B) ((pss_cons (ps_ifU (pw_orU (pt_not (pt_t (pe_callB (call_isiK K rfl) (by rfl) T.z_isinstance (by decide +kernel) (pa_cons (pv 0) (pa_cons (pe_bltn (v := .ty "str") (by rfl) T.z_str (by decide +kernel) rfl) pa_nil))))) (pw_or1 (pt_not (pt_t (pe_bmK K rfl PySem.F.plainAttrs_str PySem.F.slot_str_endswith PySem.F.type_str_endswith mt_ends (pv 0) (pa_cons (pe_s [41]) pa_nil)))))).pt (pss_one (ps_raise rfl (takes_of rfl rfl rfl rfl) (pmk_own0 PySem.F.excBase_ValueError T.e_WordError.1 T.g_WordError T.e_WordError.2.1 (raises_own T.e_WordError.2.2.1 T.e_WordError.2.2.2) rfl))) pss_nil)
      (pss_cons (ps_asg (pe_bmK K rfl PySem.F.plainAttrs_str PySem.F.slot_str_partition PySem.F.type_str_partition mt_part (pv 0) (pa_cons (pe_s [40]) pa_nil)) (pg_tupU K 3 rfl rfl (pgs_cons (pg_name (i := 2) sc_p_text_parts.nd rfl (Or.inl rfl)) (pgs_cons (pg_name (i := 3) sc_p_text_parts.nd rfl (Or.inl rfl)) (pgs_cons (pg_name (i := 4) sc_p_text_parts.nd rfl (Or.inl rfl)) pgs_nil)))))
      (pss_cons (ps_set (i := 5) sc_p_text_parts.nd rfl (.inl rfl) (pe_slice (sl_K K rfl) (pv 4) po_none (po_some (pe_un un_neg pe_int))))
      (pss_cons (ps_ifU (pw_orU (pt_c (op_eqK K rfl hr.units) (pv 3) (pe_s []) (nomark _)) (pw_or1 (pt_not (pt_t (by exact pe_callU (E := fun _ => E) G_p_are_parts (hr.mono (by first | decide | exact Nat.le_add_right _ _ | (simp only [Nat.add_eq]; omega))) rfl T.g_p_are_parts T.f_p_are_parts.kp (b_p_are_parts T) (pass_x (takes_of rfl rfl rfl rfl)) (pa_cons (pv 2) (pa_cons (pv 5) (pa_cons (pv 1) pa_nil)))))))).pt (pss_one (ps_raise rfl (takes_of rfl rfl rfl rfl) (pmk_own0 PySem.F.excBase_ValueError T.e_WordError.1 T.g_WordError T.e_WordError.2.1 (raises_own T.e_WordError.2.2.1 T.e_WordError.2.2.2) rfl))) pss_nil)
      (pss_one (ps_ret (pe_tup (pa_cons (pv 2) (pa_cons (pv 5) pa_nil)))))))))) (fun W hx => ?_) rfl h
  exact show SS K W _ false [] [false, false, false, false, false, false] [] _ _ from (ss_seq (ss_if (st_or (st_not (st_test (se_cb (sa_cons (se_var rfl) (sa_cons (se_c (d := .ty "str") fun _ => Rep.ty.mpr rfl) sa_nil)) cs_isi))) (st_not (st_test (se_mtS (se_var rfl) (sa_cons (se_c (d := .str [41]) fun _ => strR) sa_nil) ms_ends)))) (ss_raise0 (cn := "WordError")) ss_next)
      (ss_seq (ss_asg (se_mtS (se_var rfl) (sa_cons (se_c (d := .str [40]) fun _ => strR) sa_nil) ms_part) (st_tup (sts_cons (st_name (i := 2)) (sts_cons (st_name (i := 3)) (sts_cons (st_name (i := 4)) sts_nil)))) rfl)
      (ss_seq (ss_set (se_sl (se_var rfl) sp_no (sp_ex (se_un (se_c (d := .int 1) fun _ => intR) cs_neg)) ss_sl) rfl)
      (ss_seq (ss_if (st_or (st_test (se_op (se_var rfl) (se_c (d := .str []) fun _ => strR) os_eq)) (st_not (st_test (se_call hx (sa_cons (se_var rfl) (sa_cons (se_var rfl) (sa_cons (se_var rfl) sa_nil))))))) (ss_raise0 (cn := "WordError")) ss_next)
      (ss_ret (se_tup (sa_cons (se_var rfl) (sa_cons (se_var rfl) sa_nil))))))))
theorem ok_p_read_word (T : Top w K mg) : Ok P w K mg base 4 ("read_word", none) ["word"] (SpM K false 1 p_read_word_M) := by
  have G_p_text_parts := ok_p_text_parts (P := P) (w := w) (base := base) T
  refine T.f_p_read_word.ok sc_p_read_word (fun _ _ _ _ h => SpM.len h) (fun cdv A outer s H vs Q E hr h => ?_)
  have xtab := xtab T
  refine viaX (n := 1) (k := 0) (ob := []) (o' := []) (a := p_read_word_B) ((pss_one (ps_ret (by exact pe_callU (E := fun _ => E) G_p_text_parts (hr.mono (by first | decide | exact Nat.le_add_right _ _ | (simp only [Nat.add_eq]; omega))) rfl T.g_p_text_parts T.f_p_text_parts.kp (b_p_text_parts T) (pass_x (takes_of rfl rfl rfl rfl)) (pa_cons (pv 0) (pa_cons (by exact pe_glob (v := S [66, 73, 79]) rfl T.k_LETTERS ⟨_, rfl⟩) pa_nil)))))) (fun W hx => ?_) rfl h
  exact show SS K W _ false [] [false] [] _ _ from (ss_ret (se_call hx (sa_cons (se_var rfl) (sa_cons (se_c (d := .str [66, 73, 79]) fun _ => strR) sa_nil))))
theorem ok_p_first_letters (T : Top w K mg) : Ok P w K mg base 14 ("first_letters", none) ["word", "many"] (SpM K false 2 p_first_letters_M) := by
  have G_p_check_number := ok_p_check_number (P := P) (w := w) (base := base) T
  have G_p_read_word := ok_p_read_word (P := P) (w := w) (base := base) T
  obtain ⟨ds_p_check_number, B_p_check_number⟩ := dflt_p_check_number T
  refine T.f_p_first_letters.ok sc_p_first_letters (fun _ _ _ _ h => SpM.len h) (fun cdv A outer s H vs Q E hr h => ?_)
  have xtab := xtab T
  refine viaX (n := 2) (k := 3) (ob := []) (o' := []) (a := p_first_letters_B) ((pss_cons (ps_expr (by exact pe_callU (E := fun _ => E) G_p_check_number (hr.mono (by first | decide | exact Nat.le_add_right _ _ | (simp only [Nat.add_eq]; omega))) rfl T.g_p_check_number T.f_p_check_number.kp (b_p_check_number T) (pass_x (takes_of rfl rfl rfl rfl)) (pa_cons (pv 1) (pa_cons pe_int (pa_cons (by exact pe_glob (v := .int 400) rfl T.k_MOST_LETTERS ⟨_, rfl⟩) pa_nil)))))
      (pss_cons (ps_asg (by exact pe_callU (E := fun _ => E) G_p_read_word (hr.mono (by first | decide | exact Nat.le_add_right _ _ | (simp only [Nat.add_eq]; omega))) rfl T.g_p_read_word T.f_p_read_word.kp (b_p_read_word T) (pass_x (takes_of rfl rfl rfl rfl)) (pa_cons (pv 0) pa_nil)) (pg_tupU K 2 rfl rfl (pgs_cons (pg_name (i := 2) sc_p_first_letters.nd rfl (Or.inl rfl)) (pgs_cons (pg_name (i := 3) sc_p_first_letters.nd rfl (Or.inl rfl)) pgs_nil))))
      (pss_cons (ps_set (i := 4) sc_p_first_letters.nd rfl (.inl rfl) (pe_op (op_addA K rfl) (pv 2) (pe_op op_mulA (pv 3) (pv 1))))
      (pss_one (ps_ret (pe_slice (sl_K K rfl) (pv 4) po_none (po_some (pv 1))))))))) (fun W hx => ?_) rfl h
  exact show SS K W _ false [] [false, false, false, false, false] [] _ _ from (ss_seq (ss_do (se_call hx (sa_cons (se_var rfl) (sa_cons (se_c (d := .int 0) fun _ => intR) (sa_cons (se_c (d := .int 400) fun _ => intR) sa_nil)))))
      (ss_seq (ss_asg (se_call hx (sa_cons (se_var rfl) sa_nil)) (st_tup (sts_cons (st_name (i := 2)) (sts_cons (st_name (i := 3)) sts_nil))) rfl)
      (ss_seq (ss_set (se_op (se_var rfl) (se_op (se_var rfl) (se_var rfl) os_mul) os_add) rfl)
      (ss_ret (se_sl (se_var rfl) sp_no (sp_ex (se_var rfl)) ss_sl)))))
theorem ok_p_first_unlike (T : Top w K mg) : Ok P w K mg base 15 ("first_unlike", none) ["x", "y"] (SpM K false 2 p_first_unlike_M) := by
  have G_p_first_letters := ok_p_first_letters (P := P) (w := w) (base := base) T
  refine T.f_p_first_unlike.ok sc_p_first_unlike (fun _ _ _ _ h => SpM.len h) (fun cdv A outer s H vs Q E hr h => ?_)
  have xtab := xtab T
  refine viaX (n := 2) (k := 3) (ob := []) (o' := []) (a := p_first_unlike_B) ((pss_cons (ps_set (i := 2) sc_p_first_unlike.nd rfl (.inl rfl) (by exact pe_callU (E := fun _ => E) G_p_first_letters (hr.mono (by first | decide | exact Nat.le_add_right _ _ | (simp only [Nat.add_eq]; omega))) rfl T.g_p_first_letters T.f_p_first_letters.kp (b_p_first_letters T) (pass_x (takes_of rfl rfl rfl rfl)) (pa_cons (pv 0) (pa_cons (by exact pe_glob (v := .int 24) rfl T.k_COMPARED ⟨_, rfl⟩) pa_nil))))
      (pss_cons (ps_set (i := 3) sc_p_first_unlike.nd rfl (.inl rfl) (by exact pe_callU (E := fun _ => E) G_p_first_letters (hr.mono (by first | decide | exact Nat.le_add_right _ _ | (simp only [Nat.add_eq]; omega))) rfl T.g_p_first_letters T.f_p_first_letters.kp (b_p_first_letters T) (pass_x (takes_of rfl rfl rfl rfl)) (pa_cons (pv 1) (pa_cons (by exact pe_glob (v := .int 24) rfl T.k_COMPARED ⟨_, rfl⟩) pa_nil))))
      (pss_cons (ps_for (passes_of rfl) rfl (pi_range1 (by rfl) T.z_range (pa_cons (by exact pe_glob (v := .int 24) rfl T.k_COMPARED ⟨_, rfl⟩) pa_nil)) (pg_name (i := 4) sc_p_first_unlike.nd rfl (Or.inl rfl)) (pss_one (ps_ifU (pt_c (op_neK K rfl hr.units) (pe_ix (ix_K K rfl) (pv 2) (pv 4) (fun _ _ => rfl)) (pe_ix (ix_K K rfl) (pv 3) (pv 4) (fun _ _ => rfl)) (nomark _)) (pss_one (ps_ret (pv 4))) pss_nil)))
      (pss_one (ps_ret pe_non)))))) (fun W hx => ?_) rfl h
  exact show SS K W _ false [] [false, false, false, false, false] [] _ _ from (ss_seq (ss_set (se_call hx (sa_cons (se_var rfl) (sa_cons (se_c (d := .int 24) fun _ => intR) sa_nil))) rfl)
      (ss_seq (ss_set (se_call hx (sa_cons (se_var rfl) (sa_cons (se_c (d := .int 24) fun _ => intR) sa_nil))) rfl)
      (ss_seq (ss_for (si_rng1 (sa_cons (se_c (d := .int 24) fun _ => intR) sa_nil)) (st_name (i := 4)) rfl (ss_if (st_test (se_op (se_op (se_var rfl) (se_var rfl) os_ix) (se_op (se_var rfl) (se_var rfl) os_ix) os_ne)) (ss_ret (se_var rfl)) ss_next))
      (ss_ret (se_c (d := .non) fun _ => Rep.non.mpr rfl)))))
theorem ok_p_letter (T : Top w K mg) : Ok P w K mg base 14 ("letter", none) ["word", "k"] (SpM K false 2 p_letter_M) := by
  have G_p_check_number := ok_p_check_number (P := P) (w := w) (base := base) T
  have G_p_read_word := ok_p_read_word (P := P) (w := w) (base := base) T
  obtain ⟨ds_p_check_number, B_p_check_number⟩ := dflt_p_check_number T
  refine T.f_p_letter.ok sc_p_letter (fun _ _ _ _ h => SpM.len h) (fun cdv A outer s H vs Q E hr h => ?_)
  have xtab := xtab T
  refine viaX (n := 2) (k := 2) (ob := []) (o' := []) (a := p_letter_B) ((pss_cons (ps_expr (by exact pe_callUD (E := fun _ => E) G_p_check_number (hr.mono (by first | decide | exact Nat.le_add_right _ _ | (simp only [Nat.add_eq]; omega))) rfl T.g_p_check_number T.f_p_check_number.kp B_p_check_number.2 B_p_check_number.1 (pass_x (takes_of rfl rfl rfl rfl)) (pa_cons (pv 1) (pa_cons pe_int pa_nil))))
      (pss_cons (ps_asg (by exact pe_callU (E := fun _ => E) G_p_read_word (hr.mono (by first | decide | exact Nat.le_add_right _ _ | (simp only [Nat.add_eq]; omega))) rfl T.g_p_read_word T.f_p_read_word.kp (b_p_read_word T) (pass_x (takes_of rfl rfl rfl rfl)) (pa_cons (pv 0) pa_nil)) (pg_tupU K 2 rfl rfl (pgs_cons (pg_name (i := 2) sc_p_letter.nd rfl (Or.inl rfl)) (pgs_cons (pg_name (i := 3) sc_p_letter.nd rfl (Or.inl rfl)) pgs_nil))))
      (pss_cons (ps_ifU (pt_c op_ltA (pv 1) (pe_callB (call_lenK K rfl) (by rfl) T.z_len (by decide +kernel) (pa_cons (pv 2) pa_nil)) (nomark _)) (pss_one (ps_ret (pe_ix (ix_K K rfl) (pv 2) (pv 1) (fun _ _ => rfl)))) pss_nil)
      (pss_one (ps_ret (pe_ix (ix_K K rfl) (pv 3) (pe_op op_modU (pe_op op_subU (pv 1) (pe_callB (call_lenK K rfl) (by rfl) T.z_len (by decide +kernel) (pa_cons (pv 2) pa_nil))) (pe_callB (call_lenK K rfl) (by rfl) T.z_len (by decide +kernel) (pa_cons (pv 3) pa_nil))) (fun _ _ => rfl)))))))) (fun W hx => ?_) rfl h
  exact show SS K W _ false [] [false, false, false, false] [] _ _ from (ss_seq (ss_do (se_callD hx (dd := [.non]) (fun _ => by first | exact Reps.cons (Rep.non.mpr rfl) Reps.nil | exact Reps.cons intR Reps.nil) (sa_cons (se_var rfl) (sa_cons (se_c (d := .int 0) fun _ => intR) sa_nil))))
      (ss_seq (ss_asg (se_call hx (sa_cons (se_var rfl) sa_nil)) (st_tup (sts_cons (st_name (i := 2)) (sts_cons (st_name (i := 3)) sts_nil))) rfl)
      (ss_seq (ss_if (st_test (se_op (se_var rfl) (se_cb (sa_cons (se_var rfl) sa_nil) cs_len) os_cmp)) (ss_ret (se_op (se_var rfl) (se_var rfl) os_ix)) ss_next)
      (ss_ret (se_op (se_var rfl) (se_op (se_op (se_var rfl) (se_cb (sa_cons (se_var rfl) sa_nil) cs_len) os_sub) (se_cb (sa_cons (se_var rfl) sa_nil) cs_len) os_mod) os_ix)))))
theorem ok_p_joined_text (T : Top w K mg) : Ok P w K mg base 1 ("joined_text", none) ["prefix", "cycle"] (SpM K false 2 p_joined_text_M) := by
  refine T.f_p_joined_text.ok sc_p_joined_text (fun _ _ _ _ h => SpM.len h) (fun cdv A outer s H vs Q E hr h => ?_)
  have xtab := xtab T
  refine viaN (n := 2) (k := 0) (ob := []) (o' := []) (a := p_joined_text_B) (PSs.nox (pss_one (ps_ret (pe_js (PJ.cons (pe_fmt (pv 0)) (PJ.cons (pe_s [40]) (PJ.cons (pe_fmt (pv 1)) (PJ.cons (pe_s [41]) PJ.nil)))))))) (fun W hx => ?_) rfl h
  exact show SS K W _ false [] [false, false] [] _ _ from (ss_ret (se_js (sj_fmt (se_var rfl) (sj_txt (se_c (d := .str [40]) fun _ => strR) (sj_fmt (se_var rfl) (sj_txt (se_c (d := .str [41]) fun _ => strR) sj_nil))))))
theorem ok_p_shortest_root (T : Top w K mg) : Ok P w K mg base 1 ("shortest_root", none) ["cycle"] (SpM K false 1 p_shortest_root_M) := by
  refine T.f_p_shortest_root.ok sc_p_shortest_root (fun _ _ _ _ h => SpM.len h) (fun cdv A outer s H vs Q E hr h => ?_)
  have xtab := xtab T
  refine viaN (n := 1) (k := 3) (ob := []) (o' := []) (a := p_shortest_root_B) (PSs.nox (pss_cons (ps_set (i := 1) sc_p_shortest_root.nd rfl (.inl rfl) (pe_callB (call_lenK K rfl) (by rfl) T.z_len (by decide +kernel) (pa_cons (pv 0) pa_nil)))
      (pss_cons (ps_for PassesOwn.never rfl (pi_range2 (by rfl) T.z_range (pa_cons pe_int (pa_cons (pv 1) pa_nil))) (pg_name (i := 2) sc_p_shortest_root.nd rfl (Or.inl rfl)) (pss_cons (ps_set (i := 3) sc_p_shortest_root.nd rfl (.inl rfl) (pe_slice (sl_K K rfl) (pv 0) po_none (po_some (pv 2))))
      (pss_one (ps_ifU (pw_andU (pt_c (op_eqK K rfl hr.units) (pe_op op_modU (pv 1) (pv 2)) pe_int (nomark _)) (pw_and1 (pt_c (op_eqK K rfl hr.units) (pe_op op_mulA (pv 3) (pe_op op_divU (pv 1) (pv 2))) (pv 0) (nomark _)))).pt (pss_one (ps_ret (pv 3))) pss_nil))))
      (pss_one (ps_ret (pv 0)))))) (fun W hx => ?_) rfl h
  exact show SS K W _ false [] [false, false, false, false] [] _ _ from (ss_seq (ss_set (se_cb (sa_cons (se_var rfl) sa_nil) cs_len) rfl)
      (ss_seq (ss_for (si_rng2 (sa_cons (se_c (d := .int 1) fun _ => intR) (sa_cons (se_var rfl) sa_nil))) (st_name (i := 2)) rfl (ss_seq (ss_set (se_sl (se_var rfl) sp_no (sp_ex (se_var rfl)) ss_sl) rfl)
      (ss_if (st_and (st_test (se_op (se_op (se_var rfl) (se_var rfl) os_mod) (se_c (d := .int 0) fun _ => intR) os_eq)) (st_test (se_op (se_op (se_var rfl) (se_op (se_var rfl) (se_var rfl) os_div) os_mul) (se_var rfl) os_eq))) (ss_ret (se_var rfl)) ss_next)))
      (ss_ret (se_var rfl))))
theorem ok_p_plain_parts (T : Top w K mg) : Ok P w K mg base 2 ("plain_parts", none) ["prefix", "cycle"] (SpM K false 2 p_plain_parts_M) := by
  have G_p_shortest_root := ok_p_shortest_root (P := P) (w := w) (base := base) T
  refine T.f_p_plain_parts.ok sc_p_plain_parts (fun _ _ _ _ h => SpM.len h) (fun cdv A outer s H vs Q E hr h => ?_)
  have xtab := xtab T
  refine viaN (n := 2) (k := 0) (ob := []) (o' := []) (a := p_plain_parts_B) (PSs.nox (pss_cons (ps_set (i := 1) sc_p_plain_parts.nd rfl (.inl rfl) (by exact pe_callU (E := fun _ => E0) G_p_shortest_root (hr.mono (by first | decide | exact Nat.le_add_right _ _ | (simp only [Nat.add_eq]; omega))) rfl T.g_p_shortest_root T.f_p_shortest_root.kp (b_p_shortest_root T) pass_n (pa_cons (pv 1) pa_nil)))
      (pss_cons (ps_while PassesOwn.never (pw_andU (pt_c (op_neK K rfl hr.units) (pv 0) (pe_s []) (nomark _)) (pw_and1 (pt_c (op_eqK K rfl hr.units) (pe_ix (ix_K K rfl) (pv 0) (pe_un un_neg pe_int) (fun _ _ => rfl)) (pe_ix (ix_K K rfl) (pv 1) (pe_un un_neg pe_int) (fun _ _ => rfl)) (nomark _)))).pt (pss_cons (ps_set (i := 0) sc_p_plain_parts.nd rfl (.inl rfl) (pe_slice (sl_K K rfl) (pv 0) po_none (po_some (pe_un un_neg pe_int))))
      (pss_one (ps_set (i := 1) sc_p_plain_parts.nd rfl (.inl rfl) (pe_op (op_addA K rfl) (pe_ix (ix_K K rfl) (pv 1) (pe_un un_neg pe_int) (fun _ _ => rfl)) (pe_slice (sl_K K rfl) (pv 1) po_none (po_some (pe_un un_neg pe_int))))))))
      (pss_one (ps_ret (pe_tup (pa_cons (pv 0) (pa_cons (pv 1) pa_nil)))))))) (fun W hx => ?_) rfl h
  exact show SS K W _ false [] [false, false] [] _ _ from (ss_seq (ss_set (se_call hx (sa_cons (se_var rfl) sa_nil)) rfl)
      (ss_seq (ss_while (st_and (st_test (se_op (se_var rfl) (se_c (d := .str []) fun _ => strR) os_ne)) (st_test (se_op (se_op (se_var rfl) (se_un (se_c (d := .int 1) fun _ => intR) cs_neg) os_ix) (se_op (se_var rfl) (se_un (se_c (d := .int 1) fun _ => intR) cs_neg) os_ix) os_eq))) (ss_seq (ss_set (se_sl (se_var rfl) sp_no (sp_ex (se_un (se_c (d := .int 1) fun _ => intR) cs_neg)) ss_sl) rfl)
      (ss_set (se_op (se_op (se_var rfl) (se_un (se_c (d := .int 1) fun _ => intR) cs_neg) os_ix) (se_sl (se_var rfl) sp_no (sp_ex (se_un (se_c (d := .int 1) fun _ => intR) cs_neg)) ss_sl) os_add) rfl)))
      (ss_ret (se_tup (sa_cons (se_var rfl) (sa_cons (se_var rfl) sa_nil))))))
theorem ok_p_plain_text (T : Top w K mg) : Ok P w K mg base 3 ("plain_text", none) ["prefix", "cycle"] (SpM K false 2 p_plain_text_M) := by
  have G_p_joined_text := ok_p_joined_text (P := P) (w := w) (base := base) T
  have G_p_plain_parts := ok_p_plain_parts (P := P) (w := w) (base := base) T
  refine T.f_p_plain_text.ok sc_p_plain_text (fun _ _ _ _ h => SpM.len h) (fun cdv A outer s H vs Q E hr h => ?_)
  have xtab := xtab T
  refine viaN (n := 2) (k := 2) (ob := []) (o' := []) (a := p_plain_text_B) (PSs.nox (pss_cons (ps_asg (by exact pe_callU (E := fun _ => E0) G_p_plain_parts (hr.mono (by first | decide | exact Nat.le_add_right _ _ | (simp only [Nat.add_eq]; omega))) rfl T.g_p_plain_parts T.f_p_plain_parts.kp (b_p_plain_parts T) pass_n (pa_cons (pv 0) (pa_cons (pv 1) pa_nil))) (pg_tupU K 2 rfl rfl (pgs_cons (pg_name (i := 2) sc_p_plain_text.nd rfl (Or.inl rfl)) (pgs_cons (pg_name (i := 3) sc_p_plain_text.nd rfl (Or.inl rfl)) pgs_nil))))
      (pss_one (ps_ret (by exact pe_callU (E := fun _ => E0) G_p_joined_text (hr.mono (by first | decide | exact Nat.le_add_right _ _ | (simp only [Nat.add_eq]; omega))) rfl T.g_p_joined_text T.f_p_joined_text.kp (b_p_joined_text T) pass_n (pa_cons (pv 2) (pa_cons (pv 3) pa_nil))))))) (fun W hx => ?_) rfl h
  exact show SS K W _ false [] [false, false, false, false] [] _ _ from (ss_seq (ss_asg (se_call hx (sa_cons (se_var rfl) (sa_cons (se_var rfl) sa_nil))) (st_tup (sts_cons (st_name (i := 2)) (sts_cons (st_name (i := 3)) sts_nil))) rfl)
      (ss_ret (se_call hx (sa_cons (se_var rfl) (sa_cons (se_var rfl) sa_nil)))))
theorem ok_p_mirror (T : Top w K mg) : Ok P w K mg base 5 ("mirror", none) ["word"] (SpM K false 1 p_mirror_M) := by
  have G_p_plain_text := ok_p_plain_text (P := P) (w := w) (base := base) T
  have G_p_read_word := ok_p_read_word (P := P) (w := w) (base := base) T
  refine T.f_p_mirror.ok sc_p_mirror (fun _ _ _ _ h => SpM.len h) (fun cdv A outer s H vs Q E hr h => ?_)
  have xtab := xtab T
  refine viaX (n := 1) (k := 5) (ob := []) (o' := []) (a := p_mirror_B) ((pss_cons (ps_asg (by exact pe_callU (E := fun _ => E) G_p_read_word (hr.mono (by first | decide | exact Nat.le_add_right _ _ | (simp only [Nat.add_eq]; omega))) rfl T.g_p_read_word T.f_p_read_word.kp (b_p_read_word T) (pass_x (takes_of rfl rfl rfl rfl)) (pa_cons (pv 0) pa_nil)) (pg_tupU K 2 rfl rfl (pgs_cons (pg_name (i := 1) sc_p_mirror.nd rfl (Or.inl rfl)) (pgs_cons (pg_name (i := 2) sc_p_mirror.nd rfl (Or.inl rfl)) pgs_nil))))
      (pss_cons (ps_set (i := 3) sc_p_mirror.nd rfl (.inl rfl) (pe_bmK K rfl PySem.F.plainAttrs_str PySem.F.slot_str_join PySem.F.type_str_join (mt_joinK K rfl) (pe_s []) (pa_cons (pe_lc (own := [("sign", 5)]) (by rfl) sc_p_mirror.nd (pi_any K rfl (pv 1)) (blkOk_by (own := [("sign", 5)]) (N := N_p_mirror) (sc := defScope s_p_mirror) (by decide +kernel)) (fun _ _ _ _ _ => (pg_name (i := 5) sc_p_mirror.nd rfl (Or.inl rfl))) (fun _ _ _ _ _ => pts_nil) (fun _ _ _ _ _ => (pe_ix (ix_DK K rfl rfl T.d_MIRRORED) (by exact pe_glob (v := .ref (He.ga K "MIRRORED")) rfl T.g_MIRRORED rfl) (pv 5) (fun _ _ => rfl)))) pa_nil)))
      (pss_cons (ps_set (i := 4) sc_p_mirror.nd rfl (.inl rfl) (pe_bmK K rfl PySem.F.plainAttrs_str PySem.F.slot_str_join PySem.F.type_str_join (mt_joinK K rfl) (pe_s []) (pa_cons (pe_lc (own := [("sign", 5)]) (by rfl) sc_p_mirror.nd (pi_any K rfl (pv 2)) (blkOk_by (own := [("sign", 5)]) (N := N_p_mirror) (sc := defScope s_p_mirror) (by decide +kernel)) (fun _ _ _ _ _ => (pg_name (i := 5) sc_p_mirror.nd rfl (Or.inl rfl))) (fun _ _ _ _ _ => pts_nil) (fun _ _ _ _ _ => (pe_ix (ix_DK K rfl rfl T.d_MIRRORED) (by exact pe_glob (v := .ref (He.ga K "MIRRORED")) rfl T.g_MIRRORED rfl) (pv 5) (fun _ _ => rfl)))) pa_nil)))
      (pss_one (ps_ret (by exact pe_callU (E := fun _ => E) G_p_plain_text (hr.mono (by first | decide | exact Nat.le_add_right _ _ | (simp only [Nat.add_eq]; omega))) rfl T.g_p_plain_text T.f_p_plain_text.kp (b_p_plain_text T) (pass_x (takes_of rfl rfl rfl rfl)) (pa_cons (pv 3) (pa_cons (pv 4) pa_nil))))))))) (fun W hx => ?_) rfl h
  exact show SS K W _ false [] [false, false, false, false, false, false] [] _ _ from (ss_seq (ss_asg (se_call hx (sa_cons (se_var rfl) sa_nil)) (st_tup (sts_cons (st_name (i := 1)) (sts_cons (st_name (i := 2)) sts_nil))) rfl)
      (ss_seq (ss_set (se_mtS (se_c (d := .str []) fun _ => strR) (sa_cons (se_frz (se_lc rfl (si_any (se_var rfl)) (st_name (i := 5)) (by decide) st_yes (se_tab (tb := tb_MIRRORED) rfl (se_var rfl)))) sa_nil) ms_join) rfl)
      (ss_seq (ss_set (se_mtS (se_c (d := .str []) fun _ => strR) (sa_cons (se_frz (se_lc rfl (si_any (se_var rfl)) (st_name (i := 5)) (by decide) st_yes (se_tab (tb := tb_MIRRORED) rfl (se_var rfl)))) sa_nil) ms_join) rfl)
      (ss_ret (se_call hx (sa_cons (se_var rfl) (sa_cons (se_var rfl) sa_nil)))))))
theorem ok_p_rest (T : Top w K mg) : Ok P w K mg base 14 ("rest", none) ["word", "k"] (SpM K false 2 p_rest_M) := by
  have G_p_check_number := ok_p_check_number (P := P) (w := w) (base := base) T
  have G_p_plain_text := ok_p_plain_text (P := P) (w := w) (base := base) T
  have G_p_read_word := ok_p_read_word (P := P) (w := w) (base := base) T
  obtain ⟨ds_p_check_number, B_p_check_number⟩ := dflt_p_check_number T
  refine T.f_p_rest.ok sc_p_rest (fun _ _ _ _ h => SpM.len h) (fun cdv A outer s H vs Q E hr h => ?_)
  have xtab := xtab T
  refine viaX (n := 2) (k := 3) (ob := []) (o' := []) (a := p_rest_B) ((pss_cons (ps_expr (by exact pe_callUD (E := fun _ => E) G_p_check_number (hr.mono (by first | decide | exact Nat.le_add_right _ _ | (simp only [Nat.add_eq]; omega))) rfl T.g_p_check_number T.f_p_check_number.kp B_p_check_number.2 B_p_check_number.1 (pass_x (takes_of rfl rfl rfl rfl)) (pa_cons (pv 1) (pa_cons pe_int pa_nil))))
      (pss_cons (ps_asg (by exact pe_callU (E := fun _ => E) G_p_read_word (hr.mono (by first | decide | exact Nat.le_add_right _ _ | (simp only [Nat.add_eq]; omega))) rfl T.g_p_read_word T.f_p_read_word.kp (b_p_read_word T) (pass_x (takes_of rfl rfl rfl rfl)) (pa_cons (pv 0) pa_nil)) (pg_tupU K 2 rfl rfl (pgs_cons (pg_name (i := 2) sc_p_rest.nd rfl (Or.inl rfl)) (pgs_cons (pg_name (i := 3) sc_p_rest.nd rfl (Or.inl rfl)) pgs_nil))))
      (pss_cons (ps_ifU (pt_c op_leA (pv 1) (pe_callB (call_lenK K rfl) (by rfl) T.z_len (by decide +kernel) (pa_cons (pv 2) pa_nil)) (nomark _)) (pss_one (ps_ret (by exact pe_callU (E := fun _ => E) G_p_plain_text (hr.mono (by first | decide | exact Nat.le_add_right _ _ | (simp only [Nat.add_eq]; omega))) rfl T.g_p_plain_text T.f_p_plain_text.kp (b_p_plain_text T) (pass_x (takes_of rfl rfl rfl rfl)) (pa_cons (pe_slice (sl_K K rfl) (pv 2) (po_some (pv 1)) po_none) (pa_cons (pv 3) pa_nil))))) pss_nil)
      (pss_cons (ps_set (i := 4) sc_p_rest.nd rfl (.inl rfl) (pe_op op_modU (pe_op op_subU (pv 1) (pe_callB (call_lenK K rfl) (by rfl) T.z_len (by decide +kernel) (pa_cons (pv 2) pa_nil))) (pe_callB (call_lenK K rfl) (by rfl) T.z_len (by decide +kernel) (pa_cons (pv 3) pa_nil))))
      (pss_one (ps_ret (by exact pe_callU (E := fun _ => E) G_p_plain_text (hr.mono (by first | decide | exact Nat.le_add_right _ _ | (simp only [Nat.add_eq]; omega))) rfl T.g_p_plain_text T.f_p_plain_text.kp (b_p_plain_text T) (pass_x (takes_of rfl rfl rfl rfl)) (pa_cons (pe_s []) (pa_cons (pe_op (op_addA K rfl) (pe_slice (sl_K K rfl) (pv 3) (po_some (pv 4)) po_none) (pe_slice (sl_K K rfl) (pv 3) po_none (po_some (pv 4)))) pa_nil)))))))))) (fun W hx => ?_) rfl h
  exact show SS K W _ false [] [false, false, false, false, false] [] _ _ from (ss_seq (ss_do (se_callD hx (dd := [.non]) (fun _ => by first | exact Reps.cons (Rep.non.mpr rfl) Reps.nil | exact Reps.cons intR Reps.nil) (sa_cons (se_var rfl) (sa_cons (se_c (d := .int 0) fun _ => intR) sa_nil))))
      (ss_seq (ss_asg (se_call hx (sa_cons (se_var rfl) sa_nil)) (st_tup (sts_cons (st_name (i := 2)) (sts_cons (st_name (i := 3)) sts_nil))) rfl)
      (ss_seq (ss_if (st_test (se_op (se_var rfl) (se_cb (sa_cons (se_var rfl) sa_nil) cs_len) os_cmp)) (ss_ret (se_call hx (sa_cons (se_sl (se_var rfl) (sp_ex (se_var rfl)) sp_no ss_sl) (sa_cons (se_var rfl) sa_nil)))) ss_next)
      (ss_seq (ss_set (se_op (se_op (se_var rfl) (se_cb (sa_cons (se_var rfl) sa_nil) cs_len) os_sub) (se_cb (sa_cons (se_var rfl) sa_nil) cs_len) os_mod) rfl)
      (ss_ret (se_call hx (sa_cons (se_c (d := .str []) fun _ => strR) (sa_cons (se_op (se_sl (se_var rfl) (sp_ex (se_var rfl)) sp_no ss_sl) (se_sl (se_var rfl) sp_no (sp_ex (se_var rfl)) ss_sl) os_add) sa_nil))))))))
theorem ok_p_plain (T : Top w K mg) : Ok P w K mg base 5 ("plain", none) ["word"] (SpM K false 1 p_plain_M) := by
  have G_p_plain_text := ok_p_plain_text (P := P) (w := w) (base := base) T
  have G_p_read_word := ok_p_read_word (P := P) (w := w) (base := base) T
  refine T.f_p_plain.ok sc_p_plain (fun _ _ _ _ h => SpM.len h) (fun cdv A outer s H vs Q E hr h => ?_)
  have xtab := xtab T
  refine viaX (n := 1) (k := 2) (ob := []) (o' := []) (a := p_plain_B) ((pss_cons (ps_asg (by exact pe_callU (E := fun _ => E) G_p_read_word (hr.mono (by first | decide | exact Nat.le_add_right _ _ | (simp only [Nat.add_eq]; omega))) rfl T.g_p_read_word T.f_p_read_word.kp (b_p_read_word T) (pass_x (takes_of rfl rfl rfl rfl)) (pa_cons (pv 0) pa_nil)) (pg_tupU K 2 rfl rfl (pgs_cons (pg_name (i := 1) sc_p_plain.nd rfl (Or.inl rfl)) (pgs_cons (pg_name (i := 2) sc_p_plain.nd rfl (Or.inl rfl)) pgs_nil))))
      (pss_one (ps_ret (by exact pe_callU (E := fun _ => E) G_p_plain_text (hr.mono (by first | decide | exact Nat.le_add_right _ _ | (simp only [Nat.add_eq]; omega))) rfl T.g_p_plain_text T.f_p_plain_text.kp (b_p_plain_text T) (pass_x (takes_of rfl rfl rfl rfl)) (pa_cons (pv 1) (pa_cons (pv 2) pa_nil))))))) (fun W hx => ?_) rfl h
  exact show SS K W _ false [] [false, false, false] [] _ _ from (ss_seq (ss_asg (se_call hx (sa_cons (se_var rfl) sa_nil)) (st_tup (sts_cons (st_name (i := 1)) (sts_cons (st_name (i := 2)) sts_nil))) rfl)
      (ss_ret (se_call hx (sa_cons (se_var rfl) (sa_cons (se_var rfl) sa_nil)))))
theorem ok_p_same_word (T : Top w K mg) : Ok P w K mg base 6 ("same_word", none) ["x", "y"] (SpM K false 2 p_same_word_M) := by
  have G_p_plain := ok_p_plain (P := P) (w := w) (base := base) T
  refine T.f_p_same_word.ok sc_p_same_word (fun _ _ _ _ h => SpM.len h) (fun cdv A outer s H vs Q E hr h => ?_)
  have xtab := xtab T
  refine viaX (n := 2) (k := 2) (ob := []) (o' := []) (a := p_same_word_B) ((pss_cons (ps_set (i := 2) sc_p_same_word.nd rfl (.inl rfl) (by exact pe_callU (E := fun _ => E) G_p_plain (hr.mono (by first | decide | exact Nat.le_add_right _ _ | (simp only [Nat.add_eq]; omega))) rfl T.g_p_plain T.f_p_plain.kp (b_p_plain T) (pass_x (takes_of rfl rfl rfl rfl)) (pa_cons (pv 0) pa_nil)))
      (pss_cons (ps_set (i := 3) sc_p_same_word.nd rfl (.inl rfl) (by exact pe_callU (E := fun _ => E) G_p_plain (hr.mono (by first | decide | exact Nat.le_add_right _ _ | (simp only [Nat.add_eq]; omega))) rfl T.g_p_plain T.f_p_plain.kp (b_p_plain T) (pass_x (takes_of rfl rfl rfl rfl)) (pa_cons (pv 1) pa_nil)))
      (pss_one (ps_ret (pe_cmpR (op_eqK K rfl hr.units) (pv 2) (pv 3) (nomark _))))))) (fun W hx => ?_) rfl h
  exact show SS K W _ false [] [false, false, false, false] [] _ _ from (ss_seq (ss_set (se_call hx (sa_cons (se_var rfl) sa_nil)) rfl)
      (ss_seq (ss_set (se_call hx (sa_cons (se_var rfl) sa_nil)) rfl)
      (ss_ret (se_op (se_var rfl) (se_var rfl) os_eq))))
theorem ok_l_pair_holds (T : Top w K mg) : Ok P w K mg base 16 ("_law_pair_holds", none) ["deal", "one", "other"] (SpM K false 3 l_pair_holds_M) := by
  have G_l_equal := ok_l_equal (P := P) (w := w) (base := base) T 10
  have G_l_huge := ok_l_huge (P := P) (w := w) (base := base) T
  have G_l_parting := ok_l_parting (P := P) (w := w) (base := base) T
  have G_l_take := ok_l_take (P := P) (w := w) (base := base) T
  have G_p_first_letters := ok_p_first_letters (P := P) (w := w) (base := base) T
  have G_p_first_unlike := ok_p_first_unlike (P := P) (w := w) (base := base) T
  have G_p_letter := ok_p_letter (P := P) (w := w) (base := base) T
  have G_p_mirror := ok_p_mirror (P := P) (w := w) (base := base) T
  have G_p_rest := ok_p_rest (P := P) (w := w) (base := base) T
  have G_p_same_word := ok_p_same_word (P := P) (w := w) (base := base) T
  refine T.f_l_pair_holds.ok sc_l_pair_holds (fun _ _ _ _ h => SpM.len h) (fun cdv A outer s H vs Q E hr h => ?_)
  have xtab := xtab T
  refine viaN (n := 3) (k := 3) (ob := []) (o' := []) (a := l_pair_holds_B) (PSs.nox (pss_cons (ps_set (i := 3) sc_l_pair_holds.nd rfl (.inl rfl) (by exact pe_callU (E := fun _ => E0) G_l_parting (hr.mono (by first | decide | exact Nat.le_add_right _ _ | (simp only [Nat.add_eq]; omega))) rfl T.g_l_parting T.f_l_parting.kp (b_l_parting T) pass_n (pa_cons (pv 1) (pa_cons (pv 2) pa_nil))))
      (pss_cons (ps_for PassesOwn.never rfl (pi_range1 (by rfl) T.z_range (pa_cons pe_int pa_nil)) (pg_name (i := 4) sc_l_pair_holds.nd rfl (Or.inl rfl)) (pss_one (ps_ifU (pw_orU (pt_not (pt_t (by exact pe_callU (E := fun _ => E0) G_l_equal (hr.mono (by first | decide | exact Nat.le_add_right _ _ | (simp only [Nat.add_eq]; omega))) rfl T.g_l_equal T.f_l_equal.kp (b_l_equal T) pass_n (pa_cons (by exact pe_callU (E := fun _ => E0) G_p_first_unlike (hr.mono (by first | decide | exact Nat.le_add_right _ _ | (simp only [Nat.add_eq]; omega))) rfl T.g_p_first_unlike T.f_p_first_unlike.kp (b_p_first_unlike T) pass_n (pa_cons (pv 1) (pa_cons (pv 2) pa_nil))) (pa_cons (pv 3) pa_nil))))) (pw_or1 (pt_not (pt_t (by exact pe_callU (E := fun _ => E0) G_l_equal (hr.mono (by first | decide | exact Nat.le_add_right _ _ | (simp only [Nat.add_eq]; omega))) rfl T.g_l_equal T.f_l_equal.kp (b_l_equal T) pass_n (pa_cons (by exact pe_callU (E := fun _ => E0) G_p_first_unlike (hr.mono (by first | decide | exact Nat.le_add_right _ _ | (simp only [Nat.add_eq]; omega))) rfl T.g_p_first_unlike T.f_p_first_unlike.kp (b_p_first_unlike T) pass_n (pa_cons (pv 2) (pa_cons (pv 1) pa_nil))) (pa_cons (pv 3) pa_nil))))))).pt (pss_one (ps_ret pe_bl)) pss_nil)))
      (pss_cons (ps_ifU (pt_not (pt_t (by exact pe_callU (E := fun _ => E0) G_l_equal (hr.mono (by first | decide | exact Nat.le_add_right _ _ | (simp only [Nat.add_eq]; omega))) rfl T.g_l_equal T.f_l_equal.kp (b_l_equal T) pass_n (pa_cons (by exact pe_callR (ks := ["y", "x"]) (E := fun _ => E0) G_p_first_unlike (hr.mono (by first | decide | exact Nat.le_add_right _ _ | (simp only [Nat.add_eq]; omega))) rfl T.g_p_first_unlike T.f_p_first_unlike.kp (kw_rev ["y", "x"] T.f_p_first_unlike fun _ _ _ _ _ _ us hl => match us, hl with | [_, _], _ => rfl) rfl pass_n (pk_cons (by exact pe_callU (E := fun _ => E0) G_p_mirror (hr.mono (by first | decide | exact Nat.le_add_right _ _ | (simp only [Nat.add_eq]; omega))) rfl T.g_p_mirror T.f_p_mirror.kp (b_p_mirror T) pass_n (pa_cons (pv 1) pa_nil)) (pk_cons (by exact pe_callU (E := fun _ => E0) G_p_mirror (hr.mono (by first | decide | exact Nat.le_add_right _ _ | (simp only [Nat.add_eq]; omega))) rfl T.g_p_mirror T.f_p_mirror.kp (b_p_mirror T) pass_n (pa_cons (pv 2) pa_nil)) pk_nil))) (pa_cons (pv 3) pa_nil))))) (pss_one (ps_ret pe_bl)) pss_nil)
      (pss_cons (ps_set (i := 5) sc_l_pair_holds.nd rfl (.inl rfl) (by exact pe_callU (E := fun _ => E0) G_l_take (hr.mono (by first | decide | exact Nat.le_add_right _ _ | (simp only [Nat.add_eq]; omega))) rfl T.g_l_take T.f_l_take.kp (b_l_take T) pass_n (pa_cons (pv 0) (pa_cons pe_int pa_nil))))
      (pss_cons (ps_ifU (pt_c op_isU (pv 3) pe_non (nomark _)) (pss_cons (ps_set (i := 5) sc_l_pair_holds.nd rfl (.inl rfl) (by exact pe_callU (E := fun _ => E0) G_l_huge (hr.mono (by first | decide | exact Nat.le_add_right _ _ | (simp only [Nat.add_eq]; omega))) rfl T.g_l_huge T.f_l_huge.kp (b_l_huge T) pass_n (pa_cons (pv 0) pa_nil)))
      (pss_cons (ps_ifU (pt_not (pt_t (by exact pe_callU (E := fun _ => E0) G_l_equal (hr.mono (by first | decide | exact Nat.le_add_right _ _ | (simp only [Nat.add_eq]; omega))) rfl T.g_l_equal T.f_l_equal.kp (b_l_equal T) pass_n (pa_cons (by exact pe_callU (E := fun _ => E0) G_p_first_unlike (hr.mono (by first | decide | exact Nat.le_add_right _ _ | (simp only [Nat.add_eq]; omega))) rfl T.g_p_first_unlike T.f_p_first_unlike.kp (b_p_first_unlike T) pass_n (pa_cons (by exact pe_callU (E := fun _ => E0) G_p_rest (hr.mono (by first | decide | exact Nat.le_add_right _ _ | (simp only [Nat.add_eq]; omega))) rfl T.g_p_rest T.f_p_rest.kp (b_p_rest T) pass_n (pa_cons (pv 1) (pa_cons (pv 5) pa_nil))) (pa_cons (by exact pe_callU (E := fun _ => E0) G_p_rest (hr.mono (by first | decide | exact Nat.le_add_right _ _ | (simp only [Nat.add_eq]; omega))) rfl T.g_p_rest T.f_p_rest.kp (b_p_rest T) pass_n (pa_cons (pv 2) (pa_cons (pv 5) pa_nil))) pa_nil))) (pa_cons pe_non pa_nil))))) (pss_one (ps_ret pe_bl)) pss_nil)
      (pss_one (ps_ret (pe_andU (by exact pe_callU (E := fun _ => E0) G_l_equal (hr.mono (by first | decide | exact Nat.le_add_right _ _ | (simp only [Nat.add_eq]; omega))) rfl T.g_l_equal T.f_l_equal.kp (b_l_equal T) pass_n (pa_cons (by exact pe_callU (E := fun _ => E0) G_p_letter (hr.mono (by first | decide | exact Nat.le_add_right _ _ | (simp only [Nat.add_eq]; omega))) rfl T.g_p_letter T.f_p_letter.kp (b_p_letter T) pass_n (pa_cons (pv 1) (pa_cons (pv 5) pa_nil))) (pa_cons (by exact pe_callU (E := fun _ => E0) G_p_letter (hr.mono (by first | decide | exact Nat.le_add_right _ _ | (simp only [Nat.add_eq]; omega))) rfl T.g_p_letter T.f_p_letter.kp (b_p_letter T) pass_n (pa_cons (pv 2) (pa_cons (pv 5) pa_nil))) pa_nil))) (pe_one (by exact pe_callU (E := fun _ => E0) G_l_equal (hr.mono (by first | decide | exact Nat.le_add_right _ _ | (simp only [Nat.add_eq]; omega))) rfl T.g_l_equal T.f_l_equal.kp (b_l_equal T) pass_n (pa_cons (by exact pe_callU (E := fun _ => E0) G_p_same_word (hr.mono (by first | decide | exact Nat.le_add_right _ _ | (simp only [Nat.add_eq]; omega))) rfl T.g_p_same_word T.f_p_same_word.kp (b_p_same_word T) pass_n (pa_cons (pv 1) (pa_cons (pv 2) pa_nil))) (pa_cons pe_bl pa_nil))))))))) pss_nil)
      (pss_cons (ps_ifU (pw_andU (pt_c op_leA (pv 5) (pv 3) (nomark _)) (pw_and1 (pt_not (pt_t (by exact pe_callU (E := fun _ => E0) G_l_equal (hr.mono (by first | decide | exact Nat.le_add_right _ _ | (simp only [Nat.add_eq]; omega))) rfl T.g_l_equal T.f_l_equal.kp (b_l_equal T) pass_n (pa_cons (by exact pe_callU (E := fun _ => E0) G_p_first_unlike (hr.mono (by first | decide | exact Nat.le_add_right _ _ | (simp only [Nat.add_eq]; omega))) rfl T.g_p_first_unlike T.f_p_first_unlike.kp (b_p_first_unlike T) pass_n (pa_cons (by exact pe_callU (E := fun _ => E0) G_p_rest (hr.mono (by first | decide | exact Nat.le_add_right _ _ | (simp only [Nat.add_eq]; omega))) rfl T.g_p_rest T.f_p_rest.kp (b_p_rest T) pass_n (pa_cons (pv 1) (pa_cons (pv 5) pa_nil))) (pa_cons (by exact pe_callU (E := fun _ => E0) G_p_rest (hr.mono (by first | decide | exact Nat.le_add_right _ _ | (simp only [Nat.add_eq]; omega))) rfl T.g_p_rest T.f_p_rest.kp (b_p_rest T) pass_n (pa_cons (pv 2) (pa_cons (pv 5) pa_nil))) pa_nil))) (pa_cons (pe_op op_subU (pv 3) (pv 5)) pa_nil))))))).pt (pss_one (ps_ret pe_bl)) pss_nil)
      (pss_cons (ps_ifU (pw_orU (pt_c (op_eqK K rfl hr.units) (by exact pe_callU (E := fun _ => E0) G_p_letter (hr.mono (by first | decide | exact Nat.le_add_right _ _ | (simp only [Nat.add_eq]; omega))) rfl T.g_p_letter T.f_p_letter.kp (b_p_letter T) pass_n (pa_cons (pv 1) (pa_cons (pv 3) pa_nil))) (by exact pe_callU (E := fun _ => E0) G_p_letter (hr.mono (by first | decide | exact Nat.le_add_right _ _ | (simp only [Nat.add_eq]; omega))) rfl T.g_p_letter T.f_p_letter.kp (b_p_letter T) pass_n (pa_cons (pv 2) (pa_cons (pv 3) pa_nil))) (nomark _)) (pw_or1 (pt_not (pt_t (by exact pe_callU (E := fun _ => E0) G_l_equal (hr.mono (by first | decide | exact Nat.le_add_right _ _ | (simp only [Nat.add_eq]; omega))) rfl T.g_l_equal T.f_l_equal.kp (b_l_equal T) pass_n (pa_cons (by exact pe_callU (E := fun _ => E0) G_p_same_word (hr.mono (by first | decide | exact Nat.le_add_right _ _ | (simp only [Nat.add_eq]; omega))) rfl T.g_p_same_word T.f_p_same_word.kp (b_p_same_word T) pass_n (pa_cons (pv 2) (pa_cons (pv 1) pa_nil))) (pa_cons pe_bl pa_nil))))))).pt (pss_one (ps_ret pe_bl)) pss_nil)
      (pss_one (ps_ret (pe_cmpR (op_eqK K rfl hr.units) (by exact pe_callU (E := fun _ => E0) G_p_first_letters (hr.mono (by first | decide | exact Nat.le_add_right _ _ | (simp only [Nat.add_eq]; omega))) rfl T.g_p_first_letters T.f_p_first_letters.kp (b_p_first_letters T) pass_n (pa_cons (pv 1) (pa_cons (pv 3) pa_nil))) (by exact pe_callU (E := fun _ => E0) G_p_first_letters (hr.mono (by first | decide | exact Nat.le_add_right _ _ | (simp only [Nat.add_eq]; omega))) rfl T.g_p_first_letters T.f_p_first_letters.kp (b_p_first_letters T) pass_n (pa_cons (pv 2) (pa_cons (pv 3) pa_nil))) (nomark _)))))))))))) (fun W hx => ?_) rfl h
  exact show SS K W _ false [] [false, false, false, false, false, false] [] _ _ from (ss_seq (ss_set (se_call hx (sa_cons (se_var rfl) (sa_cons (se_var rfl) sa_nil))) rfl)
      (ss_seq (ss_for (si_rng1 (sa_cons (se_c (d := .int 2) fun _ => intR) sa_nil)) (st_name (i := 4)) rfl (ss_if (st_or (st_not (st_test (se_call hx (sa_cons (se_call hx (sa_cons (se_var rfl) (sa_cons (se_var rfl) sa_nil))) (sa_cons (se_var rfl) sa_nil))))) (st_not (st_test (se_call hx (sa_cons (se_call hx (sa_cons (se_var rfl) (sa_cons (se_var rfl) sa_nil))) (sa_cons (se_var rfl) sa_nil)))))) (ss_ret (se_c (d := .bl false) fun _ => blR)) ss_next))
      (ss_seq (ss_if (st_not (st_test (se_call hx (sa_cons (se_callR hx (sa_cons (se_call hx (sa_cons (se_var rfl) sa_nil)) (sa_cons (se_call hx (sa_cons (se_var rfl) sa_nil)) sa_nil))) (sa_cons (se_var rfl) sa_nil))))) (ss_ret (se_c (d := .bl false) fun _ => blR)) ss_next)
      (ss_seq (ss_set (se_call hx (sa_cons (se_var rfl) (sa_cons (se_c (d := .int 20) fun _ => intR) sa_nil))) rfl)
      (ss_seq (ss_if (st_test (se_op (se_var rfl) (se_c (d := .non) fun _ => Rep.non.mpr rfl) os_is)) (ss_seq (ss_set (se_call hx (sa_cons (se_var rfl) sa_nil)) rfl)
      (ss_seq (ss_if (st_not (st_test (se_call hx (sa_cons (se_call hx (sa_cons (se_call hx (sa_cons (se_var rfl) (sa_cons (se_var rfl) sa_nil))) (sa_cons (se_call hx (sa_cons (se_var rfl) (sa_cons (se_var rfl) sa_nil))) sa_nil))) (sa_cons (se_c (d := .non) fun _ => Rep.non.mpr rfl) sa_nil))))) (ss_ret (se_c (d := .bl false) fun _ => blR)) ss_next)
      (ss_ret (se_and (se_call hx (sa_cons (se_call hx (sa_cons (se_var rfl) (sa_cons (se_var rfl) sa_nil))) (sa_cons (se_call hx (sa_cons (se_var rfl) (sa_cons (se_var rfl) sa_nil))) sa_nil))) (se_call hx (sa_cons (se_call hx (sa_cons (se_var rfl) (sa_cons (se_var rfl) sa_nil))) (sa_cons (se_c (d := .bl true) fun _ => blR) sa_nil))))))) ss_next)
      (ss_seq (ss_if (st_and (st_test (se_op (se_var rfl) (se_var rfl) os_cmp)) (st_not (st_test (se_call hx (sa_cons (se_call hx (sa_cons (se_call hx (sa_cons (se_var rfl) (sa_cons (se_var rfl) sa_nil))) (sa_cons (se_call hx (sa_cons (se_var rfl) (sa_cons (se_var rfl) sa_nil))) sa_nil))) (sa_cons (se_op (se_var rfl) (se_var rfl) os_sub) sa_nil)))))) (ss_ret (se_c (d := .bl false) fun _ => blR)) ss_next)
      (ss_seq (ss_if (st_or (st_test (se_op (se_call hx (sa_cons (se_var rfl) (sa_cons (se_var rfl) sa_nil))) (se_call hx (sa_cons (se_var rfl) (sa_cons (se_var rfl) sa_nil))) os_eq)) (st_not (st_test (se_call hx (sa_cons (se_call hx (sa_cons (se_var rfl) (sa_cons (se_var rfl) sa_nil))) (sa_cons (se_c (d := .bl false) fun _ => blR) sa_nil)))))) (ss_ret (se_c (d := .bl false) fun _ => blR)) ss_next)
      (ss_ret (se_op (se_call hx (sa_cons (se_var rfl) (sa_cons (se_var rfl) sa_nil))) (se_call hx (sa_cons (se_var rfl) (sa_cons (se_var rfl) sa_nil))) os_eq)))))))))
theorem ok_l_refused (T : Top w K mg) : Ok P w K mg base 1 ("_law_refused", none) ["told"] (SpM K false 1 l_refused_M) := by
  refine T.f_l_refused.ok sc_l_refused (fun _ _ _ _ h => SpM.len h) (fun cdv A outer s H vs Q E hr h => ?_)
  have xtab := xtab T
  refine viaN (n := 1) (k := 0) (ob := []) (o' := []) (a := l_refused_B) (PSs.nox (pss_one (ps_ret (pe_andU (pe_cmpR (op_eqK K rfl hr.units) (pe_ix (ix_K K rfl) (pv 0) pe_int (fun _ _ => rfl)) (pe_s [114, 101, 102, 117, 115, 101, 100]) (nomark _)) (pe_one (pe_cmpR (op_eqK K rfl hr.units) (pe_ix (ix_K K rfl) (pv 0) pe_int (fun _ _ => rfl)) (pe_s [87, 111, 114, 100, 69, 114, 114, 111, 114]) (nomark _))))))) (fun W hx => ?_) rfl h
  exact show SS K W _ false [] [false] [] _ _ from (ss_ret (se_and (se_op (se_op (se_var rfl) (se_c (d := .int 0) fun _ => intR) os_ix) (se_c (d := .str [114, 101, 102, 117, 115, 101, 100]) fun _ => strR) os_eq) (se_op (se_op (se_var rfl) (se_c (d := .int 1) fun _ => intR) os_ix) (se_c (d := .str [87, 111, 114, 100, 69, 114, 114, 111, 114]) fun _ => strR) os_eq)))

theorem ok_l_store (T : Top w K mg) : Ok P w K mg base 1 ("_law_store", none) ["script"] (spStore K) := by
  refine T.f_l_store.ok sc_l_store (fun vs H Q E h => ?_) (fun cdv A outer s H vs Q E hr h => ?_)
  · obtain ⟨_, _, rfl, _⟩ := h
    rfl
  · refine ⟨_, PSs.nox (pss_cons (ps_set (i := 1) sc_l_store.nd rfl (.inl rfl) (pe_powC 1000000000000000000000000000000000000000000000000000000000000000000000000000000000000000000000000000000000000000000000000000000000000000000000000000000000000000000000000000000000000000000000000000000000000000000000000000000000000000000000000000000000000000000000000000000000000000000000000000000000000000000000000000000000000000000000000000000000000000000000000000000000000000000000000000000000000000000000000000000000000000000000000000000000000000000000000000000000000000000000000000000000000000000000000000000000000000000000000000000000000000000000000000000000000000000000000000000000000000000000000000000000000000000000000000000000000000000000000000000000000000000000000000000000000000000000000000000000000000000000000000000000000000000000000000000000000000000000000000000000000000000000000000000000000000000000000000000000000000000000000 (pe_powC 1000000000000000000000000000000000000000000000000000000000000 pe_int pe_int) pe_int))
      (pss_cons (ps_set (i := 2) sc_l_store.nd rfl (.inl rfl) (pe_lst pa_nil))
      (pss_cons (ps_for PassesOwn.never rfl (pi_listK K rfl (pe_slice (sl_K K rfl) (pe_callTy (call_listK K rfl) (by rfl) T.z_list (by decide +kernel) (pa_cons (pv 0) pa_nil)) po_none (po_some pe_int))) (pg_name (i := 3) sc_l_store.nd rfl (Or.inl rfl)) (pss_cons (ps_set (i := 4) sc_l_store.nd rfl (.inl rfl) (pe_callTy call_intU (by rfl) T.z_int (by decide +kernel) (pa_cons (pv 3) pa_nil)))
      (Evl.pss_cut (ps_ifU (pt_c op_geU (pv 4) (pv 1) (nomark _)) (pss_one (ps_set (i := 4) sc_l_store.nd rfl (.inl rfl) (pe_op op_addU (pv 1) (pe_op op_modU (pe_callTy call_intU (by rfl) T.z_int (by decide +kernel) (pa_cons (pv 4) pa_nil)) (pv 1))))) pss_nil)
      (Evl.pss_cut (ps_ifU (pt_c op_ltU (pv 4) pe_int (nomark _)) (pss_one (ps_set (i := 4) sc_l_store.nd rfl (.inl rfl) (pe_op op_modU (pe_callTy call_intU (by rfl) T.z_int (by decide +kernel) (pa_cons (pv 4) pa_nil)) pe_int))) pss_nil)
      (pss_one (ps_expr (pe_bmK K rfl PySem.F.plainAttrs_list PySem.F.slot_list_append PySem.F.type_list_append mt_append (pv 2) (pa_cons (pv 4) pa_nil))))))))
      (pss_one (ps_ret (pe_lst (pa_cons (pv 2) (pa_cons pe_int (pa_cons pe_int (pa_cons pe_int (pa_cons pe_int pa_nil))))))))))), ?_⟩
    obtain ⟨a, ns, rfl, hs, hl, q⟩ := h
    show tSeq _ _ _ [some (.ref a), none, none, none, none] H
    walk_at "s"
    have hg : (1000000000000000000000000000000000000000000000000000000000000000000000000000000000000000000000000000000000000000000000000000000000000000000000000000000000000000000000000000000000000000000000000000000000000000000000000000000000000000000000000000000000000000000000000000000000000000000000000000000000000000000000000000000000000000000000000000000000000000000000000000000000000000000000000000000000000000000000000000000000000000000000000000000000000000000000000000000000000000000000000000000000000000000000000000000000000000000000000000000000000000000000000000000000000000000000000000000000000000000000000000000000000000000000000000000000000000000000000000000000000000000000000000000000000000000000000000000000000000000000000000000000000000000000000000000000000000000000000000000000000000000000000000000000000000000000000000000000000000000000000 : Int).natAbs < 2 ^ 2795 ∧ 0 < (1000000000000000000000000000000000000000000000000000000000000000000000000000000000000000000000000000000000000000000000000000000000000000000000000000000000000000000000000000000000000000000000000000000000000000000000000000000000000000000000000000000000000000000000000000000000000000000000000000000000000000000000000000000000000000000000000000000000000000000000000000000000000000000000000000000000000000000000000000000000000000000000000000000000000000000000000000000000000000000000000000000000000000000000000000000000000000000000000000000000000000000000000000000000000000000000000000000000000000000000000000000000000000000000000000000000000000000000000000000000000000000000000000000000000000000000000000000000000000000000000000000000000000000000000000000000000000000000000000000000000000000000000000000000000000000000000000000000000000000000000 : Int) := by decide +kernel
    generalize (1000000000000000000000000000000000000000000000000000000000000000000000000000000000000000000000000000000000000000000000000000000000000000000000000000000000000000000000000000000000000000000000000000000000000000000000000000000000000000000000000000000000000000000000000000000000000000000000000000000000000000000000000000000000000000000000000000000000000000000000000000000000000000000000000000000000000000000000000000000000000000000000000000000000000000000000000000000000000000000000000000000000000000000000000000000000000000000000000000000000000000000000000000000000000000000000000000000000000000000000000000000000000000000000000000000000000000000000000000000000000000000000000000000000000000000000000000000000000000000000000000000000000000000000000000000000000000000000000000000000000000000000000000000000000000000000000000000000000000000000000 : Int) = g at hg ⊢
    obtain ⟨hg1, hg0⟩ := hg
    refine go_lst' fun c H1 n1 s1 e1 => ?_
    walk_at "s"
    refine go_list (.inl (s1.seq hs)) fun b H2 n2 s2 e2 => ?_
    walk_at "s"
    refine go_sll (sq_of e2) fun b2 H3 n3 s3 e3 => ?_
    rw [cutV_to _ _ (by decide), List.take_of_length_le (by rw [List.length_map]; exact hl)] at e3
    walk_at "s"
    refine go_il (sq_of e3) ?_
    have hcb : c ≠ b2 := ne_of_none (s2 _ _ e1) n3
    have s03 := (s1.trans s2).trans s3
    refine for_it (walk_l (xs := ns.map V.int)) (fun i σ' H' => ∃ (cs : List Int) (y z : Option V), σ' = [some (.ref a), some (.int g), some (.ref c), y, z] ∧ H' c = some (.lst (cs.map V.int)) ∧ cs.length = i ∧ (∀ x ∈ cs, 0 ≤ x ∧ x.natAbs < 2 ^ Big) ∧ H' b2 = some (.lst (ns.map V.int)) ∧ Same H H') ⟨[], none, none, rfl, (s2.trans s3) _ _ e1, rfl, by simp, e3, s03⟩ ?_ ?_ ?_
    · rintro i σ' H' _ ⟨cs, y, z, _, _, _, _, e, _⟩
      exact sq_of e
    · rintro i x σ' H4 H5 hi ⟨cs, y, z, rfl, ec, hcl, hcs, eb, s4⟩ ⟨rfl, rfl⟩
      rw [List.length_map] at hi
      rw [getD_map V.int 0 _ hi]
      generalize ns.getD i 0 = m
      show tSeq _ _ _ [some (.ref a), some (.int g), some (.ref c), some (.int m), z] _
      have lim : ∀ u : Int, 0 ≤ u → u < 2 * g → u.natAbs < 2 ^ Big := fun u h0 h1 => by
        have e1 : (2 : Nat) ^ Big = 32 * 2 ^ 2795 := by decide +kernel
        rw [e1]
        omega
      have lim2 : ∀ u : Int, 0 ≤ u → u < 999999999999999989 → u.natAbs < 2 ^ Big := fun u h0 h1 => by
        have e1 : (999999999999999989 : Nat) < 2 ^ Big := by decide +kernel
        omega
      walk_at "s"
      refine go_cut (fun σ2 H6 => H6 = H5 ∧ ∃ u : Int, σ2 = [some (.ref a), some (.int g), some (.ref c), some (.int m), some (.int u)] ∧ u < 2 * g) ?_ ?_
      · walk_at "s"
        refine go_iteD (fun h3 => ?_) (fun h3 => ?_)
        · walk_at "s"
          have h4 : 0 ≤ m % g := Int.emod_nonneg _ (by omega)
          have h5 : m % g < g := Int.emod_lt_of_pos _ hg0
          exact ⟨rfl, _, rfl, by omega⟩
        · exact ⟨rfl, m, rfl, by omega⟩
      · rintro σ2 H6 ⟨rfl, u, rfl, hu⟩
        walk_at "s"
        refine go_cut (fun σ2 H7 => H7 = H6 ∧ ∃ u : Int, σ2 = [some (.ref a), some (.int g), some (.ref c), some (.int m), some (.int u)] ∧ 0 ≤ u ∧ u.natAbs < 2 ^ Big) ?_ ?_
        · walk_at "s"
          refine go_iteD (fun h3 => ?_) (fun h3 => ?_)
          · walk_at "s"
            have h4 : 0 ≤ u % 999999999999999989 := Int.emod_nonneg _ (by decide)
            have h5 : u % 999999999999999989 < 999999999999999989 := Int.emod_lt_of_pos _ (by decide)
            exact ⟨rfl, _, rfl, h4, lim2 _ h4 h5⟩
          · exact ⟨rfl, u, rfl, by omega, lim u (by omega) hu⟩
        · rintro σ3 H7 ⟨rfl, v, rfl, h0, h1⟩
          walk_at "s"
          refine go_bml (sq_of ec) ?_
          walk_at "s"
          refine go_append ec (by rw [List.length_map]; omega) ?_
          walk_at "s"
          refine ⟨cs ++ [v], _, _, rfl, ?_, by rw [List.length_append, hcl]; rfl, fun x hx => ?_, ?_, ?_⟩
          · rw [upd_same, List.map_append]
            rfl
          · rcases List.mem_append.mp hx with hx | hx
            · exact hcs x hx
            · rw [List.mem_singleton.mp hx]
              exact ⟨h0, h1⟩
          · rw [upd_ne hcb.symm]
            exact eb
          · exact upd_keep n1 s4
    · rintro σ' H4 ⟨cs, y, z, rfl, ec, hcl, hcs, eb, s4⟩
      walk_at "s"
      refine go_lst' fun p H5 n5 s5 e5 => ?_
      rw [List.length_map] at hcl
      have hpc : c ≠ p := ne_of_none ec n5
      refine q ⟨p, c, cs⟩ H5 ⟨0, 0, 0, 4101842887655102017, e5, s5 _ _ ec, hpc, ⟨by show cs.length ≤ 63; omega, by decide, hcs, by decide, by decide +kernel, by decide, by decide, by decide⟩⟩
theorem ok_l_told (T : Top w K mg) : Ok P w K mg base 16 ("_law_told", none) ["one", "two"] (SpM K false 2 l_told_M) := by
  have G_p_first_unlike := ok_p_first_unlike (P := P) (w := w) (base := base) T
  refine T.f_l_told.ok sc_l_told (fun _ _ _ _ h => SpM.len h) (fun cdv A outer s H vs Q E hr h => ?_)
  have xtab := xtab T
  refine viaN (n := 2) (k := 2) (ob := []) (o' := []) (a := l_told_B) (PSs.nox (pss_one (ps_try_as (i := 2) rfl rfl sc_l_told.nd rfl rfl ⟨rfl, by decide, .inl T.g_LeadsError⟩ takes0 (fun W pn xe tk pz => (pss_one (ps_ret (pe_lst (pa_cons (pe_s [116, 111, 108, 100]) (pa_cons (by exact pe_callU (E := WE W) G_p_first_unlike (hr.mono (by first | decide | exact Nat.le_add_right _ _ | (simp only [Nat.add_eq]; omega))) rfl T.g_p_first_unlike T.f_p_first_unlike.kp (b_p_first_unlike T) (fun σ => passAt tk σ) (pa_cons (pv 0) (pa_cons (pv 1) pa_nil))) pa_nil)))))) (fun a oe cls d pn hz hf => (pss_cons (ps_set (i := 3) sc_l_told.nd rfl (.inl rfl) (pe_lst (pa_cons (pe_callB (call_isX hz hf) (by rfl) T.z_isinstance (by decide +kernel) (pa_cons (pv 2) (pa_cons (by exact pe_glob (v := .ref (He.ga K "NumberError")) rfl T.g_NumberError rfl) pa_nil))) (pa_cons (pe_callB (call_isX hz hf) (by rfl) T.z_isinstance (by decide +kernel) (pa_cons (pv 2) (pa_cons (by exact pe_glob (v := .ref (He.ga K "OptionError")) rfl T.g_OptionError rfl) pa_nil))) (pa_cons (pe_callB (call_isX hz hf) (by rfl) T.z_isinstance (by decide +kernel) (pa_cons (pv 2) (pa_cons (by exact pe_glob (v := .ref (He.ga K "PlaceError")) rfl T.g_PlaceError rfl) pa_nil))) (pa_cons (pe_callB (call_isX hz hf) (by rfl) T.z_isinstance (by decide +kernel) (pa_cons (pv 2) (pa_cons (by exact pe_glob (v := .ref (He.ga K "BookError")) rfl T.g_BookError rfl) pa_nil))) (pa_cons (pe_callB (call_isX hz hf) (by rfl) T.z_isinstance (by decide +kernel) (pa_cons (pv 2) (pa_cons (by exact pe_glob (v := .ref (He.ga K "HasHome")) rfl T.g_HasHome rfl) pa_nil))) (pa_cons (pe_callB (call_isX hz hf) (by rfl) T.z_isinstance (by decide +kernel) (pa_cons (pv 2) (pa_cons (by exact pe_glob (v := .ref (He.ga K "NoHome")) rfl T.g_NoHome rfl) pa_nil))) (pa_cons (pe_callB (call_isX hz hf) (by rfl) T.z_isinstance (by decide +kernel) (pa_cons (pv 2) (pa_cons (by exact pe_glob (v := .ref (He.ga K "NotFull")) rfl T.g_NotFull rfl) pa_nil))) (pa_cons (pe_callB (call_isX hz hf) (by rfl) T.z_isinstance (by decide +kernel) (pa_cons (pv 2) (pa_cons (by exact pe_glob (v := .ref (He.ga K "NotGood")) rfl T.g_NotGood rfl) pa_nil))) (pa_cons (pe_callB (call_isX hz hf) (by rfl) T.z_isinstance (by decide +kernel) (pa_cons (pv 2) (pa_cons (by exact pe_glob (v := .ref (He.ga K "CountError")) rfl T.g_CountError rfl) pa_nil))) (pa_cons (pe_callB (call_isX hz hf) (by rfl) T.z_isinstance (by decide +kernel) (pa_cons (pv 2) (pa_cons (by exact pe_glob (v := .ref (He.ga K "NotASink")) rfl T.g_NotASink rfl) pa_nil))) (pa_cons (pe_callB (call_isX hz hf) (by rfl) T.z_isinstance (by decide +kernel) (pa_cons (pv 2) (pa_cons (by exact pe_glob (v := .ref (He.ga K "NotFree")) rfl T.g_NotFree rfl) pa_nil))) (pa_cons (pe_callB (call_isX hz hf) (by rfl) T.z_isinstance (by decide +kernel) (pa_cons (pv 2) (pa_cons (by exact pe_glob (v := .ref (He.ga K "RowError")) rfl T.g_RowError rfl) pa_nil))) (pa_cons (pe_callB (call_isX hz hf) (by rfl) T.z_isinstance (by decide +kernel) (pa_cons (pv 2) (pa_cons (by exact pe_glob (v := .ref (He.ga K "PostError")) rfl T.g_PostError rfl) pa_nil))) (pa_cons (pe_callB (call_isX hz hf) (by rfl) T.z_isinstance (by decide +kernel) (pa_cons (pv 2) (pa_cons (by exact pe_glob (v := .ref (He.ga K "RingStands")) rfl T.g_RingStands rfl) pa_nil))) (pa_cons (pe_callB (call_isX hz hf) (by rfl) T.z_isinstance (by decide +kernel) (pa_cons (pv 2) (pa_cons (by exact pe_glob (v := .ref (He.ga K "TooMany")) rfl T.g_TooMany rfl) pa_nil))) (pa_cons (pe_callB (call_isX hz hf) (by rfl) T.z_isinstance (by decide +kernel) (pa_cons (pv 2) (pa_cons (by exact pe_glob (v := .ref (He.ga K "TooLong")) rfl T.g_TooLong rfl) pa_nil))) (pa_cons (pe_callB (call_isX hz hf) (by rfl) T.z_isinstance (by decide +kernel) (pa_cons (pv 2) (pa_cons (by exact pe_glob (v := .ref (He.ga K "LineError")) rfl T.g_LineError rfl) pa_nil))) (pa_cons (pe_callB (call_isX hz hf) (by rfl) T.z_isinstance (by decide +kernel) (pa_cons (pv 2) (pa_cons (by exact pe_glob (v := .ref (He.ga K "WebError")) rfl T.g_WebError rfl) pa_nil))) (pa_cons (pe_callB (call_isX hz hf) (by rfl) T.z_isinstance (by decide +kernel) (pa_cons (pv 2) (pa_cons (by exact pe_glob (v := .ref (He.ga K "ArrowsError")) rfl T.g_ArrowsError rfl) pa_nil))) (pa_cons (pe_callB (call_isX hz hf) (by rfl) T.z_isinstance (by decide +kernel) (pa_cons (pv 2) (pa_cons (by exact pe_glob (v := .ref (He.ga K "WordError")) rfl T.g_WordError rfl) pa_nil))) (pa_cons (pe_callB (call_isX hz hf) (by rfl) T.z_isinstance (by decide +kernel) (pa_cons (pv 2) (pa_cons (by exact pe_glob (v := .ref (He.ga K "MachineError")) rfl T.g_MachineError rfl) pa_nil))) (pa_cons (pe_callB (call_isX hz hf) (by rfl) T.z_isinstance (by decide +kernel) (pa_cons (pv 2) (pa_cons (by exact pe_glob (v := .ref (He.ga K "ChangeError")) rfl T.g_ChangeError rfl) pa_nil))) (pa_cons (pe_callB (call_isX hz hf) (by rfl) T.z_isinstance (by decide +kernel) (pa_cons (pv 2) (pa_cons (by exact pe_glob (v := .ref (He.ga K "PaperError")) rfl T.g_PaperError rfl) pa_nil))) pa_nil)))))))))))))))))))))))))
      (pss_cons (ps_ifU (pw_orU (pt_c (op_neK K rfl hr.units) (pe_bmK K rfl PySem.F.plainAttrs_list PySem.F.slot_list_count PySem.F.type_list_count (mt_cntK K rfl) (pv 3) (pa_cons pe_bl pa_nil)) pe_int (nomark _)) (pw_or1 (pt_not (pt_t (pe_callB (call_isX hz hf) (by rfl) T.z_isinstance (by decide +kernel) (pa_cons (pv 2) (pa_cons (pe_bltn (v := .ty "ValueError") (by rfl) T.z_ValueError (by decide +kernel) rfl) pa_nil))))))).pt (pss_one (ps_ret (pe_lst (pa_cons (pe_s [114, 101, 102, 117, 115, 101, 100]) (pa_cons (pe_s [111, 102, 32, 116, 119, 111, 32, 107, 105, 110, 100, 115]) (pa_cons pe_int pa_nil)))))) pss_nil)
      (pss_cons (ps_ifU (pt_t (pe_callB (call_isX hz hf) (by rfl) T.z_isinstance (by decide +kernel) (pa_cons (pv 2) (pa_cons (by exact pe_glob (v := .ref (He.ga K "WordError")) rfl T.g_WordError rfl) pa_nil)))) (pss_one (ps_ret (pe_lst (pa_cons (pe_s [114, 101, 102, 117, 115, 101, 100]) (pa_cons (pe_s [87, 111, 114, 100, 69, 114, 114, 111, 114]) (pa_cons pe_int pa_nil)))))) pss_nil)
      (pss_one (ps_ret (pe_lst (pa_cons (pe_s [114, 101, 102, 117, 115, 101, 100]) (pa_cons (pe_s [111, 102, 32, 97, 110, 111, 116, 104, 101, 114, 32, 107, 105, 110, 100]) (pa_cons pe_int pa_nil))))))))))))) (fun W hx => ?_) rfl h
  exact show SS K W _ false [] [false, false, false, false] [] _ _ from (by
    apply ss_tryD hx (i := 2) xtab
    case hb => exact fun Dx => (ss_ret (se_frz (se_lst (sa_cons (se_c (d := .str [116, 111, 108, 100]) fun _ => strR) (sa_cons (se_call hx (sa_cons (se_var rfl) (sa_cons (se_var rfl) sa_nil))) sa_nil)))))
    case hsu => exact fun a cls dd o hF => (ss_seq (ss_setF hF (se_frz (se_lst (sa_cons (se_cb (sa_cons (se_varF hF) (sa_cons (se_c (d := .cls "NumberError") fun _ => clsR) sa_nil)) (cs_isx xtab)) (sa_cons (se_cb (sa_cons (se_varF hF) (sa_cons (se_c (d := .cls "OptionError") fun _ => clsR) sa_nil)) (cs_isx xtab)) (sa_cons (se_cb (sa_cons (se_varF hF) (sa_cons (se_c (d := .cls "PlaceError") fun _ => clsR) sa_nil)) (cs_isx xtab)) (sa_cons (se_cb (sa_cons (se_varF hF) (sa_cons (se_c (d := .cls "BookError") fun _ => clsR) sa_nil)) (cs_isx xtab)) (sa_cons (se_cb (sa_cons (se_varF hF) (sa_cons (se_c (d := .cls "HasHome") fun _ => clsR) sa_nil)) (cs_isx xtab)) (sa_cons (se_cb (sa_cons (se_varF hF) (sa_cons (se_c (d := .cls "NoHome") fun _ => clsR) sa_nil)) (cs_isx xtab)) (sa_cons (se_cb (sa_cons (se_varF hF) (sa_cons (se_c (d := .cls "NotFull") fun _ => clsR) sa_nil)) (cs_isx xtab)) (sa_cons (se_cb (sa_cons (se_varF hF) (sa_cons (se_c (d := .cls "NotGood") fun _ => clsR) sa_nil)) (cs_isx xtab)) (sa_cons (se_cb (sa_cons (se_varF hF) (sa_cons (se_c (d := .cls "CountError") fun _ => clsR) sa_nil)) (cs_isx xtab)) (sa_cons (se_cb (sa_cons (se_varF hF) (sa_cons (se_c (d := .cls "NotASink") fun _ => clsR) sa_nil)) (cs_isx xtab)) (sa_cons (se_cb (sa_cons (se_varF hF) (sa_cons (se_c (d := .cls "NotFree") fun _ => clsR) sa_nil)) (cs_isx xtab)) (sa_cons (se_cb (sa_cons (se_varF hF) (sa_cons (se_c (d := .cls "RowError") fun _ => clsR) sa_nil)) (cs_isx xtab)) (sa_cons (se_cb (sa_cons (se_varF hF) (sa_cons (se_c (d := .cls "PostError") fun _ => clsR) sa_nil)) (cs_isx xtab)) (sa_cons (se_cb (sa_cons (se_varF hF) (sa_cons (se_c (d := .cls "RingStands") fun _ => clsR) sa_nil)) (cs_isx xtab)) (sa_cons (se_cb (sa_cons (se_varF hF) (sa_cons (se_c (d := .cls "TooMany") fun _ => clsR) sa_nil)) (cs_isx xtab)) (sa_cons (se_cb (sa_cons (se_varF hF) (sa_cons (se_c (d := .cls "TooLong") fun _ => clsR) sa_nil)) (cs_isx xtab)) (sa_cons (se_cb (sa_cons (se_varF hF) (sa_cons (se_c (d := .cls "LineError") fun _ => clsR) sa_nil)) (cs_isx xtab)) (sa_cons (se_cb (sa_cons (se_varF hF) (sa_cons (se_c (d := .cls "WebError") fun _ => clsR) sa_nil)) (cs_isx xtab)) (sa_cons (se_cb (sa_cons (se_varF hF) (sa_cons (se_c (d := .cls "ArrowsError") fun _ => clsR) sa_nil)) (cs_isx xtab)) (sa_cons (se_cb (sa_cons (se_varF hF) (sa_cons (se_c (d := .cls "WordError") fun _ => clsR) sa_nil)) (cs_isx xtab)) (sa_cons (se_cb (sa_cons (se_varF hF) (sa_cons (se_c (d := .cls "MachineError") fun _ => clsR) sa_nil)) (cs_isx xtab)) (sa_cons (se_cb (sa_cons (se_varF hF) (sa_cons (se_c (d := .cls "ChangeError") fun _ => clsR) sa_nil)) (cs_isx xtab)) (sa_cons (se_cb (sa_cons (se_varF hF) (sa_cons (se_c (d := .cls "PaperError") fun _ => clsR) sa_nil)) (cs_isx xtab)) sa_nil))))))))))))))))))))))))))
      (ss_seq (ss_if (st_or (st_test (se_op (se_mtL (se_varF hF) (sa_cons (se_c (d := .bl true) fun _ => blR) sa_nil) ms_cntL) (se_c (d := .int 1) fun _ => intR) os_ne)) (st_not (st_test (se_cb (sa_cons (se_varF hF) (sa_cons (se_c (d := .ty "ValueError") fun _ => Rep.ty.mpr rfl) sa_nil)) (cs_isx xtab))))) (ss_ret (se_frz (se_lst (sa_cons (se_c (d := .str [114, 101, 102, 117, 115, 101, 100]) fun _ => strR) (sa_cons (se_c (d := .str [111, 102, 32, 116, 119, 111, 32, 107, 105, 110, 100, 115]) fun _ => strR) (sa_cons (se_c (d := .int 0) fun _ => intR) sa_nil)))))) ss_next)
      (ss_seq (ss_if (st_test (se_cb (sa_cons (se_varF hF) (sa_cons (se_c (d := .cls "WordError") fun _ => clsR) sa_nil)) (cs_isx xtab))) (ss_ret (se_frz (se_lst (sa_cons (se_c (d := .str [114, 101, 102, 117, 115, 101, 100]) fun _ => strR) (sa_cons (se_c (d := .str [87, 111, 114, 100, 69, 114, 114, 111, 114]) fun _ => strR) (sa_cons (se_c (d := .int 0) fun _ => intR) sa_nil)))))) ss_next)
      (ss_ret (se_frz (se_lst (sa_cons (se_c (d := .str [114, 101, 102, 117, 115, 101, 100]) fun _ => strR) (sa_cons (se_c (d := .str [111, 102, 32, 97, 110, 111, 116, 104, 101, 114, 32, 107, 105, 110, 100]) fun _ => strR) (sa_cons (se_c (d := .int 0) fun _ => intR) sa_nil))))))))))
theorem ok_l_two_words (T : Top w K mg) : Ok P w K mg base 10 ("_law_two_words", none) ["deal", "wanted"] (SpM K false 2 l_two_words_M) := by
  have G_l_edge := ok_l_edge (P := P) (w := w) (base := base) T
  have G_l_pick := ok_l_pick (P := P) (w := w) (base := base) T
  have G_l_same_text := ok_l_same_text (P := P) (w := w) (base := base) T
  have G_l_split := ok_l_split (P := P) (w := w) (base := base) T
  have G_l_take := ok_l_take (P := P) (w := w) (base := base) T
  have G_l_word_of := ok_l_word_of (P := P) (w := w) (base := base) T
  refine T.f_l_two_words.ok sc_l_two_words (fun _ _ _ _ h => SpM.len h) (fun cdv A outer s H vs Q E hr h => ?_)
  have xtab := xtab T
  refine viaN (n := 2) (k := 5) (ob := []) (o' := []) (a := l_two_words_B) (PSs.nox (pss_cons (ps_set (i := 2) sc_l_two_words.nd rfl (.inl rfl) (by exact pe_callU (E := fun _ => E0) G_l_word_of (hr.mono (by first | decide | exact Nat.le_add_right _ _ | (simp only [Nat.add_eq]; omega))) rfl T.g_l_word_of T.f_l_word_of.kp (b_l_word_of T) pass_n (pa_cons (pv 0) (pa_cons (pv 1) pa_nil))))
      (pss_cons (ps_set (i := 3) sc_l_two_words.nd rfl (.inl rfl) (by exact pe_callU (E := fun _ => E0) G_l_take (hr.mono (by first | decide | exact Nat.le_add_right _ _ | (simp only [Nat.add_eq]; omega))) rfl T.g_l_take T.f_l_take.kp (b_l_take T) pass_n (pa_cons (pv 0) (pa_cons pe_int pa_nil))))
      (pss_cons (ps_ifU (pt_c (op_eqK K rfl hr.units) (pv 3) pe_int (nomark _)) (pss_one (ps_ret (pe_lst (pa_cons (pv 2) (pa_cons (by exact pe_callU (E := fun _ => E0) G_l_same_text (hr.mono (by first | decide | exact Nat.le_add_right _ _ | (simp only [Nat.add_eq]; omega))) rfl T.g_l_same_text T.f_l_same_text.kp (b_l_same_text T) pass_n (pa_cons (pv 0) (pa_cons (pv 2) pa_nil))) pa_nil))))) pss_nil)
      (pss_cons (ps_ifU (pw_andU (pt_c (op_eqK K rfl hr.units) (pv 3) pe_int (nomark _)) (pw_and1 (pt_c (op_eqK K rfl hr.units) (pv 1) (pe_s [97, 110, 121]) (nomark _)))).pt (pss_cons (ps_set (i := 4) sc_l_two_words.nd rfl (.inl rfl) (by exact pe_callU (E := fun _ => E0) G_l_split (hr.mono (by first | decide | exact Nat.le_add_right _ _ | (simp only [Nat.add_eq]; omega))) rfl T.g_l_split T.f_l_split.kp (b_l_split T) pass_n (pa_cons (by exact pe_callU (E := fun _ => E0) G_l_same_text (hr.mono (by first | decide | exact Nat.le_add_right _ _ | (simp only [Nat.add_eq]; omega))) rfl T.g_l_same_text T.f_l_same_text.kp (b_l_same_text T) pass_n (pa_cons (pv 0) (pa_cons (pv 2) pa_nil))) pa_nil)))
      (pss_cons (ps_set (i := 5) sc_l_two_words.nd rfl (.inl rfl) (pe_op (op_addA K rfl) (pe_ix (ix_K K rfl) (pv 4) pe_int (fun _ _ => rfl)) (pe_ix (ix_K K rfl) (pv 4) pe_int (fun _ _ => rfl))))
      (pss_cons (ps_set (i := 6) sc_l_two_words.nd rfl (.inl rfl) (by exact pe_callU (E := fun _ => E0) G_l_edge (hr.mono (by first | decide | exact Nat.le_add_right _ _ | (simp only [Nat.add_eq]; omega))) rfl T.g_l_edge T.f_l_edge.kp (b_l_edge T) pass_n (pa_cons (pv 0) (pa_cons pe_int (pa_cons (pe_op op_subU (pe_callB (call_lenK K rfl) (by rfl) T.z_len (by decide +kernel) (pa_cons (pv 5) pa_nil)) pe_int) pa_nil)))))
      (pss_cons (ps_set (i := 5) sc_l_two_words.nd rfl (.inl rfl) (pe_op (op_addA K rfl) (pe_op (op_addA K rfl) (pe_slice (sl_K K rfl) (pv 5) po_none (po_some (pv 6))) (by exact pe_callU (E := fun _ => E0) G_l_pick (hr.mono (by first | decide | exact Nat.le_add_right _ _ | (simp only [Nat.add_eq]; omega))) rfl T.g_l_pick T.f_l_pick.kp (b_l_pick T) pass_n (pa_cons (pv 0) (pa_cons (pe_s [66, 73, 79]) pa_nil)))) (pe_slice (sl_K K rfl) (pv 5) (po_some (pe_op (op_addA K rfl) (pv 6) pe_int)) po_none)))
      (pss_one (ps_ret (pe_lst (pa_cons (pv 2) (pa_cons (pe_op (op_addA K rfl) (pe_op (op_addA K rfl) (pe_op (op_addA K rfl) (pe_slice (sl_K K rfl) (pv 5) po_none (po_some (pe_callB (call_lenK K rfl) (by rfl) T.z_len (by decide +kernel) (pa_cons (pe_ix (ix_K K rfl) (pv 4) pe_int (fun _ _ => rfl)) pa_nil)))) (pe_s [40])) (pe_slice (sl_K K rfl) (pv 5) (po_some (pe_callB (call_lenK K rfl) (by rfl) T.z_len (by decide +kernel) (pa_cons (pe_ix (ix_K K rfl) (pv 4) pe_int (fun _ _ => rfl)) pa_nil))) po_none)) (pe_s [41])) pa_nil))))))))) pss_nil)
      (pss_one (ps_ret (pe_lst (pa_cons (pv 2) (pa_cons (by exact pe_callU (E := fun _ => E0) G_l_word_of (hr.mono (by first | decide | exact Nat.le_add_right _ _ | (simp only [Nat.add_eq]; omega))) rfl T.g_l_word_of T.f_l_word_of.kp (b_l_word_of T) pass_n (pa_cons (pv 0) (pa_cons (pv 1) pa_nil))) pa_nil)))))))))) (fun W hx => ?_) rfl h
  exact show SS K W _ false [] [false, false, false, false, false, false, false] [] _ _ from (ss_seq (ss_set (se_call hx (sa_cons (se_var rfl) (sa_cons (se_var rfl) sa_nil))) rfl)
      (ss_seq (ss_set (se_call hx (sa_cons (se_var rfl) (sa_cons (se_c (d := .int 3) fun _ => intR) sa_nil))) rfl)
      (ss_seq (ss_if (st_test (se_op (se_var rfl) (se_c (d := .int 0) fun _ => intR) os_eq)) (ss_ret (se_frz (se_lst (sa_cons (se_var rfl) (sa_cons (se_call hx (sa_cons (se_var rfl) (sa_cons (se_var rfl) sa_nil))) sa_nil))))) ss_next)
      (ss_seq (ss_if (st_and (st_test (se_op (se_var rfl) (se_c (d := .int 1) fun _ => intR) os_eq)) (st_test (se_op (se_var rfl) (se_c (d := .str [97, 110, 121]) fun _ => strR) os_eq))) (ss_seq (ss_set (se_call hx (sa_cons (se_call hx (sa_cons (se_var rfl) (sa_cons (se_var rfl) sa_nil))) sa_nil)) rfl)
      (ss_seq (ss_set (se_op (se_op (se_var rfl) (se_c (d := .int 0) fun _ => intR) os_ix) (se_op (se_var rfl) (se_c (d := .int 1) fun _ => intR) os_ix) os_add) rfl)
      (ss_seq (ss_set (se_call hx (sa_cons (se_var rfl) (sa_cons (se_c (d := .int 0) fun _ => intR) (sa_cons (se_op (se_cb (sa_cons (se_var rfl) sa_nil) cs_len) (se_c (d := .int 1) fun _ => intR) os_sub) sa_nil)))) rfl)
      (ss_seq (ss_set (se_op (se_op (se_sl (se_var rfl) sp_no (sp_ex (se_var rfl)) ss_sl) (se_call hx (sa_cons (se_var rfl) (sa_cons (se_c (d := .str [66, 73, 79]) fun _ => strR) sa_nil))) os_add) (se_sl (se_var rfl) (sp_ex (se_op (se_var rfl) (se_c (d := .int 1) fun _ => intR) os_add)) sp_no ss_sl) os_add) rfl)
      (ss_ret (se_frz (se_lst (sa_cons (se_var rfl) (sa_cons (se_op (se_op (se_op (se_sl (se_var rfl) sp_no (sp_ex (se_cb (sa_cons (se_op (se_var rfl) (se_c (d := .int 0) fun _ => intR) os_ix) sa_nil) cs_len)) ss_sl) (se_c (d := .str [40]) fun _ => strR) os_add) (se_sl (se_var rfl) (sp_ex (se_cb (sa_cons (se_op (se_var rfl) (se_c (d := .int 0) fun _ => intR) os_ix) sa_nil) cs_len)) sp_no ss_sl) os_add) (se_c (d := .str [41]) fun _ => strR) os_add) sa_nil))))))))) ss_next)
      (ss_ret (se_frz (se_lst (sa_cons (se_var rfl) (sa_cons (se_call hx (sa_cons (se_var rfl) (sa_cons (se_var rfl) sa_nil))) sa_nil)))))))))
theorem ok_law (T : Top w K mg) (hm : lawM 5 law_B) : Ok P w K mg base 17 ("law", none) ["script"] (spLaw K) := by
  have G_l_bad_word := ok_l_bad_word (P := P) (w := w) (base := base) T
  have G_l_equal := ok_l_equal (P := P) (w := w) (base := base) T 10
  have G_l_late_pair := ok_l_late_pair (P := P) (w := w) (base := base) T
  have G_l_pair_holds := ok_l_pair_holds (P := P) (w := w) (base := base) T
  have G_l_refused := ok_l_refused (P := P) (w := w) (base := base) T
  have G_l_same_text := ok_l_same_text (P := P) (w := w) (base := base) T
  have G_l_store := ok_l_store (P := P) (w := w) (base := base) T
  have G_l_told := ok_l_told (P := P) (w := w) (base := base) T
  have G_l_two_words := ok_l_two_words (P := P) (w := w) (base := base) T
  have G_p_first_unlike := ok_p_first_unlike (P := P) (w := w) (base := base) T
  refine T.f_law.ok sc_law (fun vs H Q E h => ?_) (fun cdv A outer s H vs Q E hr h => ?_)
  · obtain ⟨_, _, rfl, _⟩ := h
    rfl
  · have xtab := xtab T
    refine viaL (n := 5) (ob := []) (o' := []) (a := law_B) (PSs.nox (pss_cons (ps_set (i := 1) sc_law.nd rfl (.inl rfl) (by exact pe_callU (E := fun _ => E0) G_l_store (hr.mono (by first | decide | omega)) rfl T.g_l_store T.f_l_store.kp (b_l_store T) pass_n (pa_cons (pv 0) pa_nil)))
      (pss_cons (ps_set (i := 2) sc_law.nd rfl (.inl rfl) (pe_lst (pa_cons (by exact pe_callU (E := fun _ => E0) G_l_late_pair (hr.mono (by first | decide | exact Nat.le_add_right _ _ | (simp only [Nat.add_eq]; omega))) rfl T.g_l_late_pair T.f_l_late_pair.kp (b_l_late_pair T) pass_n (pa_cons (pv 1) pa_nil)) (pa_cons (by exact pe_callU (E := fun _ => E0) G_l_two_words (hr.mono (by first | decide | exact Nat.le_add_right _ _ | (simp only [Nat.add_eq]; omega))) rfl T.g_l_two_words T.f_l_two_words.kp (b_l_two_words T) pass_n (pa_cons (pv 1) (pa_cons (pe_s [97, 110, 121]) pa_nil))) (pa_cons (by exact pe_callU (E := fun _ => E0) G_l_late_pair (hr.mono (by first | decide | exact Nat.le_add_right _ _ | (simp only [Nat.add_eq]; omega))) rfl T.g_l_late_pair T.f_l_late_pair.kp (b_l_late_pair T) pass_n (pa_cons (pv 1) pa_nil)) pa_nil)))))
      (pss_cons (ps_for PassesOwn.never rfl (pi_any K rfl (pe_op (op_addA K rfl) (pv 2) (pe_slice (sl_K K rfl) (pv 2) po_none (po_some pe_int)))) (pg_name (i := 3) sc_law.nd rfl (Or.inl rfl)) (pss_one (ps_ifU (pt_not (pt_t (by exact pe_callU (E := fun _ => E0) G_l_pair_holds (hr.mono (by first | decide | exact Nat.le_add_right _ _ | (simp only [Nat.add_eq]; omega))) rfl T.g_l_pair_holds T.f_l_pair_holds.kp (b_l_pair_holds T) pass_n (pa_cons (pv 1) (pa_cons (pe_ix (ix_K K rfl) (pv 3) pe_int (fun _ _ => rfl)) (pa_cons (pe_ix (ix_K K rfl) (pv 3) pe_int (fun _ _ => rfl)) pa_nil)))))) (pss_one (ps_ret pe_bl)) pss_nil)))
      (pss_cons (ps_set (i := 4) sc_law.nd rfl (.inl rfl) (pe_ix (ix_K K rfl) (pe_ix (ix_K K rfl) (pv 2) pe_int (fun _ _ => rfl)) pe_int (fun _ _ => rfl)))
      (pss_cons (ps_ifU (pt_not (pt_t (by exact pe_callU (E := fun _ => E0) G_l_equal (hr.mono (by first | decide | exact Nat.le_add_right _ _ | (simp only [Nat.add_eq]; omega))) rfl T.g_l_equal T.f_l_equal.kp (b_l_equal T) pass_n (pa_cons (by exact pe_callU (E := fun _ => E0) G_p_first_unlike (hr.mono (by first | decide | exact Nat.le_add_right _ _ | (simp only [Nat.add_eq]; omega))) rfl T.g_p_first_unlike T.f_p_first_unlike.kp (b_p_first_unlike T) pass_n (pa_cons (pv 4) (pa_cons (by exact pe_callU (E := fun _ => E0) G_l_same_text (hr.mono (by first | decide | exact Nat.le_add_right _ _ | (simp only [Nat.add_eq]; omega))) rfl T.g_l_same_text T.f_l_same_text.kp (b_l_same_text T) pass_n (pa_cons (pv 1) (pa_cons (pv 4) pa_nil))) pa_nil))) (pa_cons pe_non pa_nil))))) (pss_one (ps_ret pe_bl)) pss_nil)
      (pss_cons (ps_ifU (pt_not (pt_t (by exact pe_callU (E := fun _ => E0) G_l_pair_holds (hr.mono (by first | decide | exact Nat.le_add_right _ _ | (simp only [Nat.add_eq]; omega))) rfl T.g_l_pair_holds T.f_l_pair_holds.kp (b_l_pair_holds T) pass_n (pa_cons (pv 1) (pa_cons (pv 4) (pa_cons (pe_ix (ix_K K rfl) (pe_ix (ix_K K rfl) (pv 2) pe_int (fun _ _ => rfl)) pe_int (fun _ _ => rfl)) pa_nil)))))) (pss_one (ps_ret pe_bl)) pss_nil)
      (pss_cons (ps_set (i := 5) sc_law.nd rfl (.inl rfl) (pe_ix (ix_K K rfl) (by exact pe_callU (E := fun _ => E0) G_l_bad_word (hr.mono (by first | decide | exact Nat.le_add_right _ _ | (simp only [Nat.add_eq]; omega))) rfl T.g_l_bad_word T.f_l_bad_word.kp (b_l_bad_word T) pass_n (pa_cons (pv 1) pa_nil)) pe_int (fun _ _ => rfl)))
      (pss_cons (ps_for PassesOwn.never rfl (pi_any K rfl (pe_lst (pa_cons (pe_lst (pa_cons (pv 5) (pa_cons (pv 4) pa_nil))) (pa_cons (pe_lst (pa_cons (pv 4) (pa_cons (pv 5) pa_nil))) (pa_cons (pe_lst (pa_cons (pv 5) (pa_cons (pv 5) pa_nil))) pa_nil))))) (pg_name (i := 6) sc_law.nd rfl (Or.inl rfl)) (pss_one (ps_ifU (pt_not (pt_t (by exact pe_callU (E := fun _ => E0) G_l_refused (hr.mono (by first | decide | exact Nat.le_add_right _ _ | (simp only [Nat.add_eq]; omega))) rfl T.g_l_refused T.f_l_refused.kp (b_l_refused T) pass_n (pa_cons (by exact pe_callU (E := fun _ => E0) G_l_told (hr.mono (by first | decide | exact Nat.le_add_right _ _ | (simp only [Nat.add_eq]; omega))) rfl T.g_l_told T.f_l_told.kp (b_l_told T) pass_n (pa_cons (pe_ix (ix_K K rfl) (pv 6) pe_int (fun _ _ => rfl)) (pa_cons (pe_ix (ix_K K rfl) (pv 6) pe_int (fun _ _ => rfl)) pa_nil))) pa_nil)))) (pss_one (ps_ret pe_bl)) pss_nil)))
      (pss_one (ps_ret (by exact pe_callU (E := fun _ => E0) G_l_equal (hr.mono (by first | decide | exact Nat.le_add_right _ _ | (simp only [Nat.add_eq]; omega))) rfl T.g_l_equal T.f_l_equal.kp (b_l_equal T) pass_n (pa_cons (by exact pe_callU (E := fun _ => E0) G_l_told (hr.mono (by first | decide | exact Nat.le_add_right _ _ | (simp only [Nat.add_eq]; omega))) rfl T.g_l_told T.f_l_told.kp (b_l_told T) pass_n (pa_cons (pv 4) (pa_cons (pv 4) pa_nil))) (pa_cons (pe_lst (pa_cons (pe_s [116, 111, 108, 100]) (pa_cons pe_non pa_nil))) pa_nil)))))))))))))) (fun W hx => ?_) rfl hm h
    exact show SS K W _ false [] [false, false, false, false, false, false, false] [] _ _ from (ss_seq (ss_set (se_frz (se_lst (sa_cons (se_call hx (sa_cons (se_var rfl) sa_nil)) (sa_cons (se_call hx (sa_cons (se_var rfl) (sa_cons (se_c (d := .str [97, 110, 121]) fun _ => strR) sa_nil))) (sa_cons (se_call hx (sa_cons (se_var rfl) sa_nil)) sa_nil))))) rfl)
      (ss_seq (ss_for (si_any (se_op (se_var rfl) (se_sl (se_var rfl) sp_no (sp_ex (se_c (d := .int 1) fun _ => intR)) ss_sl) os_add)) (st_name (i := 3)) rfl (ss_if (st_not (st_test (se_call hx (sa_cons (se_var rfl) (sa_cons (se_op (se_var rfl) (se_c (d := .int 0) fun _ => intR) os_ix) (sa_cons (se_op (se_var rfl) (se_c (d := .int 1) fun _ => intR) os_ix) sa_nil)))))) (ss_ret (se_c (d := .bl false) fun _ => blR)) ss_next))
      (ss_seq (ss_set (se_op (se_op (se_var rfl) (se_c (d := .int 0) fun _ => intR) os_ix) (se_c (d := .int 0) fun _ => intR) os_ix) rfl)
      (ss_seq (ss_if (st_not (st_test (se_call hx (sa_cons (se_call hx (sa_cons (se_var rfl) (sa_cons (se_call hx (sa_cons (se_var rfl) (sa_cons (se_var rfl) sa_nil))) sa_nil))) (sa_cons (se_c (d := .non) fun _ => Rep.non.mpr rfl) sa_nil))))) (ss_ret (se_c (d := .bl false) fun _ => blR)) ss_next)
      (ss_seq (ss_if (st_not (st_test (se_call hx (sa_cons (se_var rfl) (sa_cons (se_var rfl) (sa_cons (se_op (se_op (se_var rfl) (se_c (d := .int 2) fun _ => intR) os_ix) (se_c (d := .int 1) fun _ => intR) os_ix) sa_nil)))))) (ss_ret (se_c (d := .bl false) fun _ => blR)) ss_next)
      (ss_seq (ss_set (se_op (se_call hx (sa_cons (se_var rfl) sa_nil)) (se_c (d := .int 0) fun _ => intR) os_ix) rfl)
      (ss_seq (ss_for (si_any (se_frz (se_lst (sa_cons (se_frz (se_lst (sa_cons (se_var rfl) (sa_cons (se_var rfl) sa_nil)))) (sa_cons (se_frz (se_lst (sa_cons (se_var rfl) (sa_cons (se_var rfl) sa_nil)))) (sa_cons (se_frz (se_lst (sa_cons (se_var rfl) (sa_cons (se_var rfl) sa_nil)))) sa_nil)))))) (st_name (i := 6)) rfl (ss_if (st_not (st_test (se_call hx (sa_cons (se_call hx (sa_cons (se_op (se_var rfl) (se_c (d := .int 0) fun _ => intR) os_ix) (sa_cons (se_op (se_var rfl) (se_c (d := .int 1) fun _ => intR) os_ix) sa_nil))) sa_nil)))) (ss_ret (se_c (d := .bl false) fun _ => blR)) ss_next))
      (ss_ret (se_call hx (sa_cons (se_call hx (sa_cons (se_var rfl) (sa_cons (se_var rfl) sa_nil))) (sa_cons (se_frz (se_lst (sa_cons (se_c (d := .str [116, 111, 108, 100]) fun _ => strR) (sa_cons (se_c (d := .non) fun _ => Rep.non.mpr rfl) sa_nil)))) sa_nil)))))))))))
end
end W
open PySem PySem.W PySem.Calls PyProof.Rows
theorem PySem.Challenge.cw_leadshome_k09_first_unlike_letter_is_tol_holds : PySem.Challenge.rw_leadshome_k09_first_unlike_letter_is_tol.Holds := by
  w_on; o_law
  refine HandSHeadRun.head_any (r := W.R) (q := view W.R.prog [83]) (H := W.hk) (ob := W.ob) (M := 14000) (loose := W.loose) (d := HandSHeadRun.topDef W.R.prog 83) (kwd := []) W.ob_eq
    (by kernel_rfl) (fun s => by kernel_rfl) W.run (by kernel_rfl) (by kernel_rfl) (by kernel_rfl) (by rfl) (by first | assumption | decide +kernel) (by decide +kernel) ⟨rfl, rfl, rfl, rfl, rfl, by decide +kernel⟩ ?hw ?hc
  case hw => w_witness2
  case hc =>
    refine L2.walk_ofE (l := PySem.Challenge.rw_leadshome_k09_first_unlike_letter_is_tol) (n := 63) (k := 17) (x := "script") (CX := L2.CX0) rfl (by decide) (by kernel_rfl) ⟨rfl, by decide, by decide⟩ ?F (fun _ _ _ _ z => z)
    intro w mg fa h Y Gn hmg0
    obtain ⟨K, KX, c⟩ := Y
    have T := W.top_of KX Gn c
    have hmg : mg ("law" : PySem.Str) = some (.ref fa) := by
      have e : (HandSHeadRun.topDef W.R.prog 83).name = ("law" : PySem.Str) := by kernel_rfl
      rw [← e]
      exact hmg0
    have e := hmg.symm.trans T.g_law
    cases e
    have b := L2.FunD.bindsA (ps := ["script"]) T.f_law fun _ _ _ _ _ _ us hl => match us, hl with | [_], _ => rfl
    exact ⟨K, _, M.spLaw K, KX, fun s v => b s [v] rfl, fun H a ns hl _ hS => ⟨a, ns, rfl, hS, hl, fun _ => rfl⟩, fun base _ _ => G.any_cx (W.ok_law T W.law_holds) (fun _ _ _ _ h => h)⟩
