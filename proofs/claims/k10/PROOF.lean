import PyProof.Rows.All
import Wide.All
import OpenK.AllK
import Wide.FinOn
import HandS.ForMost
import HandS.ForExc
import HandS.Wide
import HandS.WideBits
import HandS.Flow
import HandS.Style
import HandS.Defaults
import HandS.IsInst
import HandS.ExcInit
import HandS.ExcIs
import HandS.ExcField
import HandS.SetFor
import HandS.Small
import HandS.Replace
import HandS.FStr
import HandS.More
import KE.KExcIs
import HandS.Head0
import HandS.Head1
import HandS.Head2
import HandS.HeadEnd
import HandS.HeadHook1
import HandS.HeadHook2
import HandS.HeadHook3
import HandS.HeadHook4
import HandS.Evl
import HandS.Walk
import PySem.Challenge.RW_leadshome_k10_counts_of_letters_at_any_p
set_option Elab.async false
set_option linter.all false
set_option maxRecDepth 100000
set_option maxHeartbeats 0
/-! A1: readings whose end is told by the values alone, and the steps through them. -/
namespace G
open PySem PySem.Spec PyProof.Rows L2 TL

/-! ### texts by their codes -/
abbrev mk (l : List Nat) : Str := ⟨l.toArray⟩
abbrev S (l : List Nat) : V := .str (mk l)
theorem mk_tl' (x : Str) : mk (tl x) = x := mk_tl x
theorem mk_inj {a b : List Nat} (h : mk a = mk b) : a = b := by
  have := congrArg tl h
  exact this
theorem mk_app (a b : List Nat) : mk a ++ mk b = mk (a ++ b) := ext_tl (by rw [tl_append])
theorem mk_len (a : List Nat) : (mk a).length = a.length := len_tl _
theorem decS (a b : List Nat) : decide (S a = S b) = decide (a = b) := by
  by_cases h : a = b
  · subst h; simp
  · rw [decide_eq_false h, decide_eq_false]
    intro e
    exact h (mk_inj (V.str.inj e))

/-! ### what follows a value -/
/-- the value is a bool -/
def kB (Q : Bool → Hp → Prop) : VK := fun x H => ∃ c, x = .bl c ∧ Q c H
/-- two ways -/
def kIf (A B : Hp → Prop) : Bool → Hp → Prop := fun c H => if c = true then A H else B H
section
variable {X : Cx}
def uTest (t : TE) : TT := fun σ H Q => t σ H (kB Q)
def uAnd (t u : TT) : TT := fun σ H Q => t σ H (kIf (fun H1 => u σ H1 Q) (fun H1 => Q false H1))
def uOr (t u : TT) : TT := fun σ H Q => t σ H (kIf (fun H1 => Q true H1) (fun H1 => u σ H1 Q))
def uAndV (t u : TE) : TE := fun σ H Q => t σ H (kB (kIf (fun H1 => u σ H1 Q) (fun H1 => Q (.bl false) H1)))
def uOrV (t u : TE) : TE := fun σ H Q => t σ H (kB (kIf (fun H1 => Q (.bl true) H1) (fun H1 => u σ H1 Q)))
def uNotV (t : TE) : TE := fun σ H Q => t σ H (kB fun c H1 => Q (.bl (!c)) H1)
def uIfE (t : TT) (ta tb : TE) : TE := fun σ H Q => t σ H (kIf (fun H1 => ta σ H1 Q) (fun H1 => tb σ H1 Q))
def uIfS (c : TT) (t u : TS) : TS := fun D σ H => c σ H (kIf (fun H1 => t D σ H1) (fun H1 => u D σ H1))
theorem pt_t {e : Expr} {t : TE} (h : PE X e t) (he : ∀ whole, isTrue e X.env whole = (do let v ← whole; standAt e.pos; holding [v] (truthy v)) := by intro _; rfl) : PT X e (uTest t) := ⟨(pt_val h he).run⟩
variable {a b e : Expr} {rest : List Expr} {pos : Pos} {tA tB' : TT} {ta tb te : TE}
theorem pw_andU (ha : PT X a tA) (hb : PW X (.BoolOp .And (b :: rest) pos) tB') : PW X (.BoolOp .And (a :: b :: rest) pos) (uAnd tA tB') := ⟨(pw_and ha hb).run⟩
theorem pw_orU (ha : PT X a tA) (hb : PW X (.BoolOp .Or (b :: rest) pos) tB') : PW X (.BoolOp .Or (a :: b :: rest) pos) (uOr tA tB') := ⟨(pw_or ha hb).run⟩
theorem pe_andU (ha : PE X a ta) (hb : PE X (.BoolOp .And (b :: rest) pos) tb) : PE X (.BoolOp .And (a :: b :: rest) pos) (uAndV ta tb) := ⟨(pe_and ha hb).run⟩
theorem pe_orU (ha : PE X a ta) (hb : PE X (.BoolOp .Or (b :: rest) pos) tb) : PE X (.BoolOp .Or (a :: b :: rest) pos) (uOrV ta tb) := ⟨(pe_or ha hb).run⟩
theorem pe_notU (ha : PE X a ta) : PE X (.UnaryOp .Not a pos) (uNotV ta) := ⟨(pe_not ha).run⟩
theorem pe_ifU {c : Expr} (hc : PT X c tA) (ha : PE X a ta) (hb : PE X b tb) : PE X (.IfExp c a b pos) (uIfE tA ta tb) := ⟨(pe_ifExp hc ha hb).run⟩
theorem ps_ifU {c : Expr} {x y : List Stmt} {t u : TS} (hc : PT X c tA) (ha : PSs X x t) (hb : PSs X y u) : PS X (.If c x y pos) (uIfS tA t u) := ⟨(ps_if hc ha hb).run⟩
theorem pe_s {x : Str} {j : Nat} (l : List Nat) (h : x = mk l := by decide +kernel) : PE X (.Constant (.str x) j pos) (tC (S l)) := by
  subst h
  exact pe_str

/-! ### operators by the values -/
def rAddU : R2 := fun x y H Q => (∃ i j, x = .int i ∧ y = .int j ∧ Q (.int (i + j)) H) ∨ (∃ a b, x = S a ∧ y = S b ∧ a.length + b.length ≤ 1000000 ∧ Q (S (a ++ b)) H) ∨ rCat x y H Q
theorem op_addU : OpR X (binaryOp .Add) rAddU := by
  intro pins s σ H x y v u Q I rx ry h
  rcases h with h | ⟨a, b, rfl, rfl, hl, q⟩ | h
  · exact op_add pins s σ H x y v u Q I rx ry h
  · refine op_add_str pins s σ H _ _ v u Q I rx ry ⟨_, _, rfl, rfl, ?_, ?_⟩
    · rw [mk_len, mk_len]
      exact Nat.le_trans hl (by decide)
    · rw [mk_app]
      exact q
  · exact op_cat pins s σ H x y v u Q I rx ry h
def rSubU : R2 := rI0 fun i j => .int (i - j)
theorem op_subU : OpR X (binaryOp .Sub) rSubU := op_sub
/-- int * int, text * int -/
def rMulU : R2 := fun x y H Q => (∃ i j, x = .int i ∧ y = .int j ∧ (CMul i j ∨ CMulW i j) ∧ Q (.int (i * j)) H) ∨ (∃ l b xs zs, x = .ref l ∧ y = .ref b ∧ H l = some (.lst xs) ∧ H b = some (.lst zs) ∧ False ∧ Q x H)
theorem op_mulU : OpR X (binaryOp .Mult) rMulU := by
  intro pins s σ H x y v u Q I rx ry h
  rcases h with ⟨i, j, rfl, rfl, hc | hc, q⟩ | ⟨_, _, _, _, _, _, _, _, z, _⟩
  · exact op_mul pins s σ H _ _ v u Q I rx ry ⟨i, j, rfl, rfl, hc, q⟩
  · exact op_mulW pins s σ H _ _ v u Q I rx ry ⟨i, j, rfl, rfl, hc, q⟩
  · exact z.elim
def rDivU : R2 := rI CDivW fun i j => .int (i / j)
theorem op_divU : OpR X (binaryOp .FloorDiv) rDivU := op_fdivW
/-- a positive divisor -/
def rModU : R2 := rI (fun _ j => 0 < j) fun i j => .int (i % j)
theorem op_modU : OpR X (binaryOp .Mod) rModU := by
  intro pins s σ H x y v u Q I rx ry h
  obtain ⟨i, j, rfl, rfl, hc, q⟩ := h
  refine op_modN pins s σ H _ _ v u Q I rx ry ⟨i, j, rfl, rfl, by omega, ?_⟩
  show Q (.int (i.fmod j)) H
  rw [Int.fmod_eq_emod_of_nonneg i (by omega)]
  exact q
def rPowU : R2 := fun x y H Q => ∃ i j, x = .int i ∧ y = .int j ∧ (0 ≤ j ∧ (Builtin.Int.intBits i : Int) * j ≤ 2 ^ 27) ∧ Q (.int (i ^ j.toNat)) H
theorem op_powU : OpR X (binaryOp .Pow) rPowU := by
  intro pins s σ H x y v u Q I rx ry h
  obtain ⟨i, j, rfl, rfl, ⟨h0, h1⟩, q⟩ := h
  obtain ⟨t, rfl⟩ := rx
  obtain ⟨t', rfl⟩ := ry
  exact pow_int h0 h1 ⟨.int _, H, I.tok _, ⟨_, rfl⟩, q⟩
def rEqU (K : PySem.W.Frag) : R2 := fun x y H Q => (scal x y = true ∧ Q (.bl (decide (x = y))) H) ∨ rEqD K x y H Q
def rNeU (K : PySem.W.Frag) : R2 := fun x y H Q => (scal x y = true ∧ Q (.bl (!decide (x = y))) H) ∨ rNeD K x y H Q
theorem op_eqU (hu : X.A.units + 64 < cLine) : OpR X (compareOp .Eq) (rEqU X.K) := by
  intro pins s σ H x y v u Q I rx ry h
  rcases h with h | h
  · exact op_eq pins s σ H x y v u Q I rx ry h
  · exact op_eqD hu pins s σ H x y v u Q I rx ry h
theorem op_neU (hu : X.A.units + 64 < cLine) : OpR X (compareOp .NotEq) (rNeU X.K) := by
  intro pins s σ H x y v u Q I rx ry h
  rcases h with h | h
  · exact op_ne pins s σ H x y v u Q I rx ry h
  · exact op_neD hu pins s σ H x y v u Q I rx ry h
/-- is None, True, False -/
def isW : V → V → Prop
  | _, .non => True
  | .non, .bl _ => True
  | .bl _, .bl _ => True
  | .int _, .bl _ => True
  | .str _, .bl _ => True
  | .ref _, .bl _ => True
  | _, _ => False
def rIsU : R2 := fun x y H Q => isW x y ∧ Q (.bl (decide (x = y))) H
theorem op_isU : OpR X (compareOp .Is) rIsU := by
  intro pins s σ H x y v u Q I rx ry h
  obtain ⟨hw, q⟩ := h
  cases y with
  | non => exact op_isN pins s σ H _ _ v u Q I rx ry ⟨rfl, q⟩
  | bl k =>
    cases x with
    | bl j => exact op_isBl pins s σ H _ _ v u Q I rx ry ⟨j, k, rfl, rfl, by simpa using q⟩
    | non =>
      cases (show v = Value.none from rx)
      cases (show u = Value.bool k from ry)
      exact wpAny_is_other rfl (fun z => by cases z) ⟨.bl false, H, I, rfl, by simpa using q⟩
    | int i =>
      obtain ⟨t, rfl⟩ := (show ∃ t, v = Value.int i t from rx)
      cases (show u = Value.bool k from ry)
      exact wpAny_is_other rfl (fun z => by cases z) ⟨.bl false, H, I, rfl, by simpa using q⟩
    | str i =>
      obtain ⟨t, rfl⟩ := (show ∃ t, v = Value.str i t from rx)
      cases (show u = Value.bool k from ry)
      exact wpAny_is_other rfl (fun z => by cases z) ⟨.bl false, H, I, rfl, by simpa using q⟩
    | ref i =>
      cases (show v = Value.ref i from rx)
      cases (show u = Value.bool k from ry)
      exact wpAny_is_other rfl (fun z => by cases z) ⟨.bl false, H, I, rfl, by simpa using q⟩
    | _ => exact hw.elim
  | _ => cases x <;> exact hw.elim
def rCmp (p : Int → Int → Bool) : R2 := rI0 fun i j => .bl (p i j)
theorem op_ltU : OpR X (compareOp .Lt) (rCmp fun i j => decide (i < j)) := op_lt
theorem op_leU : OpR X (compareOp .LtE) (rCmp fun i j => decide (i ≤ j)) := op_le
theorem op_gtU : OpR X (compareOp .Gt) (rCmp fun i j => decide (j < i)) := op_gt
theorem op_geU : OpR X (compareOp .GtE) (rCmp fun i j => decide (j ≤ i)) := op_ge
end
end G

/-! A2: the steps through a reading. -/
namespace G
open PySem PySem.Spec PyProof.Rows L2 TL

/-! ### slots -/
class GetS (σ : L2.St) (i : Nat) (v : outParam V) : Prop where
  h : σ[i]? = some (some v)
instance getS0 {σ : L2.St} {v : V} : GetS (some v :: σ) 0 v := ⟨rfl⟩
instance getS1 {σ : L2.St} {x : Option V} {i : Nat} {v : V} [g : GetS σ i v] : GetS (x :: σ) (i + 1) v := ⟨by rw [List.getElem?_cons_succ]; exact g.h⟩
class SetS (σ : L2.St) (i : Nat) (v : V) (σ' : outParam L2.St) : Prop where
  h : σ.set i (some v) = σ'
instance setS0 {σ : L2.St} {x : Option V} {v : V} : SetS (x :: σ) 0 v (some v :: σ) := ⟨rfl⟩
instance setS1 {σ σ' : L2.St} {x : Option V} {i : Nat} {v : V} [g : SetS σ i v σ'] : SetS (x :: σ) (i + 1) v (x :: σ') := ⟨by rw [List.set_cons_succ, g.h]⟩
class WipeS (σ : L2.St) (vs : List Nat) (σ' : outParam L2.St) : Prop where
  h : wipe σ vs = σ'

/-! ### steps -/
class Go (P : Prop) (P' : outParam Prop) : Prop where
  go : P' → P
def kSet (i : Nat) (σ : L2.St) (N : L2.St → Hp → Prop) : VK := fun x H => N (σ.set i (some x)) H
def kDrop (σ : L2.St) (N : L2.St → Hp → Prop) : VK := fun _ H => N σ H
def kOp2 (r : R2) (x : V) (Q : VK) : VK := fun y H => r x y H Q
def kOp1 (r : R2) (tb : TE) (σ : L2.St) (Q : VK) : VK := fun x H => tb σ H (kOp2 r x Q)
def kUn (r : V → Hp → VK → Prop) (Q : VK) : VK := fun x H => r x H Q
def kCons2 (x : V) (Q : List V → Hp → Prop) : List V → Hp → Prop := fun xs H => Q (x :: xs) H
def kCons1 (tr : TA) (σ : L2.St) (Q : List V → Hp → Prop) : VK := fun x H => tr σ H (kCons2 x Q)
def kCB (r : List V → Hp → VK → Prop) (Q : VK) : List V → Hp → Prop := fun xs H => r xs H Q
def kLst (Q : VK) : List V → Hp → Prop := fun xs H => xs.length ≤ sizeLine ∧ ∀ p, H p = none → Q (.ref p) (upd H p (.lst xs))
def kTup (Q : VK) : List V → Hp → Prop := fun xs H => xs.length ≤ sizeLine ∧ ∀ p, H p = none → Q (.ref p) (upd H p (.tup xs))
def kBM2 (r : V → List V → Hp → VK → Prop) (x : V) (Q : VK) : List V → Hp → Prop := fun xs H => r x xs H Q
def kBM1 (K : PySem.W.Frag) (T : String) (r : V → List V → Hp → VK → Prop) (t : TA) (σ : L2.St) (Q : VK) : VK := fun x H => tyV K T x H ∧ t σ H (kBM2 r x Q)
def kBM0 (K : PySem.W.Frag) (T : String) (r : V → List V → Hp → VK → Prop) (Q : VK) : VK := fun x H => tyV K T x H ∧ r x [] H Q
def kSl3 (r : V → Option Int → Option Int → Hp → VK → Prop) (x : V) (l : Option Int) (Q : VK) : Option Int → Hp → Prop := fun u H => r x l u H Q
def kSl2 (r : V → Option Int → Option Int → Hp → VK → Prop) (th : TO) (σ : L2.St) (x : V) (Q : VK) : Option Int → Hp → Prop := fun l H => th σ H (kSl3 r x l Q)
def kSl1 (r : V → Option Int → Option Int → Hp → VK → Prop) (tl th : TO) (σ : L2.St) (Q : VK) : VK := fun x H => tl σ H (kSl2 r th σ x Q)
def kPart (Q : Option Int → Hp → Prop) : VK := fun x H => ∃ i, x = .int i ∧ Q (some i) H
section
variable {σ σ' : L2.St} {H : Hp} {Q : VK} {QB : Bool → Hp → Prop} {i : Nat} {v x : V} {te ta tb : TE} {t u : TT} {r : R2} {D : Ends} {ts tw : TS} {b : Bool} {K : PySem.W.Frag} {tA : TA} {QL : List V → Hp → Prop} {xs : List V} {A B : Hp → Prop} {N : L2.St → Hp → Prop}
instance [g : GetS σ i v] : Go (tVar i σ H Q) (Q v H) := ⟨fun q => ⟨v, g.h, q⟩⟩
instance : Go (tC v σ H Q) (Q v H) := ⟨id⟩
instance : Go (tOp r ta tb σ H Q) (ta σ H (kOp1 r tb σ Q)) := ⟨id⟩
instance : Go (kOp1 r tb σ Q v H) (tb σ H (kOp2 r v Q)) := ⟨id⟩
instance : Go (kOp2 r x Q v H) (r x v H Q) := ⟨id⟩
instance {r : V → Hp → VK → Prop} : Go (tUn r ta σ H Q) (ta σ H (kUn r Q)) := ⟨id⟩
instance {r : V → Hp → VK → Prop} : Go (kUn r Q v H) (r v H Q) := ⟨id⟩
instance : Go (uTest te σ H QB) (te σ H (kB QB)) := ⟨id⟩
instance : Go (kB QB (.bl b) H) (QB b H) := ⟨fun q => ⟨b, rfl, q⟩⟩
instance : Go (uAnd t u σ H QB) (t σ H (kIf (fun H1 => u σ H1 QB) (fun H1 => QB false H1))) := ⟨id⟩
instance : Go (uOr t u σ H QB) (t σ H (kIf (fun H1 => QB true H1) (fun H1 => u σ H1 QB))) := ⟨id⟩
instance : Go (uAndV ta tb σ H Q) (ta σ H (kB (kIf (fun H1 => tb σ H1 Q) (fun H1 => Q (.bl false) H1)))) := ⟨id⟩
instance : Go (uOrV ta tb σ H Q) (ta σ H (kB (kIf (fun H1 => Q (.bl true) H1) (fun H1 => tb σ H1 Q)))) := ⟨id⟩
instance : Go (tNot t σ H QB) (t σ H (fun c H1 => QB (!c) H1)) := ⟨id⟩
instance : Go (uNotV ta σ H Q) (ta σ H (kB fun c H1 => Q (.bl (!c)) H1)) := ⟨id⟩
instance : Go (uIfE t ta tb σ H Q) (t σ H (kIf (fun H1 => ta σ H1 Q) (fun H1 => tb σ H1 Q))) := ⟨id⟩
instance : Go (uIfS t ts tw D σ H) (t σ H (kIf (fun H1 => ts D σ H1) (fun H1 => tw D σ H1))) := ⟨id⟩
instance : Go (kIf A B true H) (A H) := ⟨fun q => iteT q⟩
instance : Go (kIf A B false H) (B H) := ⟨fun q => iteF q⟩
instance : Go (tSeq ts tw D σ H) (ts { D with nx := tw D } σ H) := ⟨id⟩
instance : Go (tNext D σ H) (D.nx σ H) := ⟨id⟩
instance : Go (tBreak D σ H) (D.bk σ H) := ⟨id⟩
instance : Go (tCont D σ H) (D.ct σ H) := ⟨id⟩
instance : Go (tAsg te (gName i) D σ H) (te σ H (kSet i σ D.nx)) := ⟨id⟩
instance [g : SetS σ i v σ'] : Go (kSet i σ N v H) (N σ' H) := ⟨fun q => by show N (σ.set i (some v)) H; rw [g.h]; exact q⟩
instance : Go (tDrop te D σ H) (te σ H (kDrop σ D.nx)) := ⟨id⟩
instance : Go (kDrop σ N v H) (N σ H) := ⟨id⟩
instance : Go (tRet te D σ H) (te σ H D.rt) := ⟨id⟩
instance : Go (tRetN D σ H) (D.rt .non H) := ⟨id⟩
instance : Go (tNil σ H QL) (QL [] H) := ⟨id⟩
instance {tr : TA} : Go (tCons ta tr σ H QL) (ta σ H (kCons1 tr σ QL)) := ⟨id⟩
instance {tr : TA} : Go (kCons1 tr σ QL v H) (tr σ H (kCons2 v QL)) := ⟨id⟩
instance : Go (kCons2 v QL xs H) (QL (v :: xs) H) := ⟨id⟩
instance {r : List V → Hp → VK → Prop} : Go (tCB r tA σ H Q) (tA σ H (kCB r Q)) := ⟨id⟩
instance {r : List V → Hp → VK → Prop} : Go (kCB r Q xs H) (r xs H Q) := ⟨id⟩
instance : Go (tLst tA σ H Q) (tA σ H (kLst Q)) := ⟨id⟩
instance : Go (tTup tA σ H Q) (tA σ H (kTup Q)) := ⟨id⟩
instance {T : String} {r : V → List V → Hp → VK → Prop} : Go (tBM K T r ta tA σ H Q) (ta σ H (kBM1 K T r tA σ Q)) := ⟨id⟩
instance {T : String} {r : V → List V → Hp → VK → Prop} : Go (tBM0 K T r ta σ H Q) (ta σ H (kBM0 K T r Q)) := ⟨id⟩
instance {r : V → List V → Hp → VK → Prop} : Go (kBM2 r v Q xs H) (r v xs H Q) := ⟨id⟩
instance {r : V → List V → Hp → VK → Prop} {s : Str} : Go (kBM1 K "str" r tA σ Q (.str s) H) (tA σ H (kBM2 r (.str s) Q)) := ⟨fun q => ⟨rfl, q⟩⟩
instance {r : V → List V → Hp → VK → Prop} {s : Str} : Go (kBM0 K "str" r Q (.str s) H) (r (.str s) [] H Q) := ⟨fun q => ⟨rfl, q⟩⟩
instance {r : V → Option Int → Option Int → Hp → VK → Prop} {tl th : TO} : Go (tSl r ta tl th σ H Q) (ta σ H (kSl1 r tl th σ Q)) := ⟨id⟩
instance {r : V → Option Int → Option Int → Hp → VK → Prop} {tl th : TO} : Go (kSl1 r tl th σ Q v H) (tl σ H (kSl2 r th σ v Q)) := ⟨id⟩
instance {r : V → Option Int → Option Int → Hp → VK → Prop} {th : TO} {l : Option Int} : Go (kSl2 r th σ v Q l H) (th σ H (kSl3 r v l Q)) := ⟨id⟩
instance {r : V → Option Int → Option Int → Hp → VK → Prop} {l u : Option Int} : Go (kSl3 r v l Q u H) (r v l u H Q) := ⟨id⟩
instance {QO : Option Int → Hp → Prop} : Go (tNoPart σ H QO) (QO none H) := ⟨id⟩
instance {QO : Option Int → Hp → Prop} : Go (tPart te σ H QO) (te σ H (kPart QO)) := ⟨id⟩
instance {QO : Option Int → Hp → Prop} {n : Int} : Go (kPart QO (.int n) H) (QO (some n) H) := ⟨fun q => ⟨n, rfl, q⟩⟩
/-! values -/
instance {a b : Int} : Go (rAddU (.int a) (.int b) H Q) (Q (.int (a + b)) H) := ⟨fun q => .inl ⟨a, b, rfl, rfl, q⟩⟩
instance {a b : Int} : Go (rSubU (.int a) (.int b) H Q) (Q (.int (a - b)) H) := ⟨fun q => ⟨a, b, rfl, rfl, q⟩⟩
instance {a b : Int} {p : Int → Int → Bool} : Go (rCmp p (.int a) (.int b) H Q) (Q (.bl (p a b)) H) := ⟨fun q => ⟨a, b, rfl, rfl, q⟩⟩
instance {a b : Int} : Go (rEqU K (.int a) (.int b) H Q) (Q (.bl (decide (a = b))) H) := ⟨fun q => .inl ⟨rfl, by rw [dec_int]; exact q⟩⟩
instance {a b : Int} : Go (rNeU K (.int a) (.int b) H Q) (Q (.bl (!decide (a = b))) H) := ⟨fun q => .inl ⟨rfl, by rw [dec_int]; exact q⟩⟩
instance {a b : List Nat} : Go (rEqU K (S a) (S b) H Q) (Q (.bl (decide (a = b))) H) := ⟨fun q => .inl ⟨rfl, by rw [decS]; exact q⟩⟩
instance {a b : List Nat} : Go (rNeU K (S a) (S b) H Q) (Q (.bl (!decide (a = b))) H) := ⟨fun q => .inl ⟨rfl, by rw [decS]; exact q⟩⟩
instance {a : Int} : Go (rU (fun i => V.int (-i)) (.int a) H Q) (Q (.int (-a)) H) := ⟨fun q => ⟨a, rfl, q⟩⟩
end
theorem go_ite {A B : Hp → Prop} {b : Bool} {H : Hp} (h1 : b = true → A H) (h2 : b = false → B H) : kIf A B b H := by
  cases b with
  | true => exact h1 rfl
  | false => exact h2 rfl
theorem go_iteD {A B : Hp → Prop} {p : Prop} [d : Decidable p] {H : Hp} (h1 : p → A H) (h2 : ¬ p → B H) : kIf A B (decide p) H := by
  by_cases h : p
  · rw [decide_eq_true h]
    exact h1 h
  · rw [decide_eq_false h]
    exact h2 h
theorem go_iteN {A B : Hp → Prop} {p : Prop} [d : Decidable p] {H : Hp} (h1 : ¬ p → A H) (h2 : p → B H) : kIf A B (!decide p) H := by
  by_cases h : p
  · rw [decide_eq_true h]
    exact h2 h
  · rw [decide_eq_false h]
    exact h1 h
theorem go_yes {A B : Hp → Prop} {b : Bool} {H : Hp} (e : b = true) (h1 : A H) : kIf A B b H := by
  subst e
  exact h1
theorem go_no {A B : Hp → Prop} {b : Bool} {H : Hp} (e : b = false) (h1 : B H) : kIf A B b H := by
  subst e
  exact h1
theorem go_lst {Q : VK} {xs : List V} {H : Hp} (k : ∀ p H', H p = none → Same H H' → H' p = some (.lst xs) → Q (.ref p) H') (hl : xs.length ≤ sizeLine := by show _ ≤ sizeLine; decide) : kLst Q xs H :=
  ⟨hl, fun p hp => k p _ hp (fun b o e => by rw [upd_ne (ne_of_none e hp)]; exact e) upd_same⟩
theorem go_tup {Q : VK} {xs : List V} {H : Hp} (k : ∀ p H', H p = none → Same H H' → H' p = some (.tup xs) → Q (.ref p) H') (hl : xs.length ≤ sizeLine := by show _ ≤ sizeLine; decide) : kTup Q xs H :=
  ⟨hl, fun p hp => k p _ hp (fun b o e => by rw [upd_ne (ne_of_none e hp)]; exact e) upd_same⟩
theorem go_mul {a b : Int} {H : Hp} {Q : VK} (hc : CMul a b ∨ CMulW a b) (q : Q (.int (a * b)) H) : rMulU (.int a) (.int b) H Q := .inl ⟨a, b, rfl, rfl, hc, q⟩
theorem go_div {a b : Int} {H : Hp} {Q : VK} (hc : CDivW a b) (q : Q (.int (a / b)) H) : rDivU (.int a) (.int b) H Q := ⟨a, b, rfl, rfl, hc, q⟩
theorem go_mod {a b : Int} {H : Hp} {Q : VK} (hc : 0 < b) (q : Q (.int (a % b)) H) : rModU (.int a) (.int b) H Q := ⟨a, b, rfl, rfl, hc, q⟩
theorem go_pow {a b : Int} {H : Hp} {Q : VK} (h0 : 0 ≤ b) (hc : (Builtin.Int.intBits a : Int) * b ≤ 2 ^ 27) (q : Q (.int (a ^ b.toNat)) H) : rPowU (.int a) (.int b) H Q := ⟨a, b, rfl, rfl, ⟨h0, hc⟩, q⟩
theorem go_adds {a b : List Nat} {H : Hp} {Q : VK} (hc : a.length + b.length ≤ 1000000) (q : Q (S (a ++ b)) H) : rAddU (S a) (S b) H Q := .inr (.inl ⟨a, b, rfl, rfl, hc, q⟩)
theorem go_is {x y : V} {H : Hp} {Q : VK} {b : Bool} (hw : isW x y) (e : decide (x = y) = b) (q : Q (.bl b) H) : rIsU x y H Q := ⟨hw, by rw [e]; exact q⟩
end G

/-! A3: calls, items, slices, texts. -/
namespace G
open PySem PySem.Spec PyProof.Rows L2 TL

/-! ### own defs -/
def kCall (sp : Sp) (E : XK) (Q : VK) : List V → Hp → Prop := fun vs H => sp vs H Q E
def uCall (sp : Sp) (E : L2.St → XK) (t : TA) : TE := fun σ H Q => t σ H (kCall sp (E σ) Q)
def kCallD (sp : Sp) (dvs : List V) (E : XK) (Q : VK) : List V → Hp → Prop := fun vs H => sp (vs ++ dvs) H Q E
def uCallD (sp : Sp) (dvs : List V) (E : L2.St → XK) (t : TA) : TE := fun σ H Q => t σ H (kCallD sp dvs (E σ) Q)
section
variable {X : Cx} {CX : CXT} {k : Nat} {f C : Addr} {fd : FuncData} {ps : List Str} {sp : Sp} {E : L2.St → XK} {x m : Str} {p pos apos : Pos} {e o : Expr} {es : List Expr} {ta : TE} {t : TA}
theorem pe_callU (F : FnOk X.prog X.w X.K X.mg X.base CX k f fd ps sp) (hr : Room k X.A) (hg : Gl X x) (hm : X.mg x = some (.ref f)) (hk : PySem.W.keepIn X.K (.ref f) = true) (hb : Binds X.K fd ps []) (hx : ∀ σ, PassesAt CX X σ (E σ))
    (ha : PA X (e :: es) t) (hdb : (x == ("__debug__" : Str)) = false := by decide) (he : starEach (e :: es) X.env = (false, eval e X.env) :: starEach es X.env := by rfl) (hpl : (backTo pos (starEach es X.env)).any (·.1) = false := by rfl) :
    PE X (.Call (.Name x p) (e :: es) [] pos) (uCall sp E t) := ⟨(pe_callS F hr hg hm hk hb hx ha hdb he hpl).run⟩
theorem run_fnD {ds : List Value} {dvs : List V} {pins : List (Addr × Obj)} {σ : L2.St} {H : Hp} {s : Shared} {Q : VK} {us : List Value} {vs : List V} (F : FnOk X.prog X.w X.K X.mg X.base CX k f fd ps sp) (hr : Room k X.A) (hb : Binds X.K fd ps ds) (hd : Vals dvs ds) (hx : PassesAt CX X σ (E σ))
    (I : Inv X pins σ H s) (r : Vals vs us) (h : sp (vs ++ dvs) H Q (E σ)) : wpAny (model X.prog X.w) X.A (call (.ref f) us) (EP X pins σ Q) X.xe s := by
  have r2 : Vals (vs ++ dvs) (us ++ ds) := r.append hd
  have hl : (us ++ ds).length = ps.length := by rw [← r2.length]; exact F.len _ _ _ _ h
  refine wpAny_call (codeAny_mono (F.run X.A X.stack s H ⟨us, []⟩ (us ++ ds) (vs ++ dvs) Q (E σ) hr I.env0 (hb s us I.kIn hl) r2 h) fun r s' hq => ?_)
  cases r with
  | error e => exact hx pins H s e s' I hq
  | ok fl =>
    cases fl with
    | ret u => exact I.after hq
    | next => exact False.elim hq
    | brk => exact False.elim hq
    | cont => exact False.elim hq
theorem pe_callUD {ds : List Value} {dvs : List V} (F : FnOk X.prog X.w X.K X.mg X.base CX k f fd ps sp) (hr : Room k X.A) (hg : Gl X x) (hm : X.mg x = some (.ref f)) (hk : PySem.W.keepIn X.K (.ref f) = true) (hb : Binds X.K fd ps ds) (hd : Vals dvs ds) (hx : ∀ σ, PassesAt CX X σ (E σ))
    (ha : PA X (e :: es) t) (hdb : (x == ("__debug__" : Str)) = false := by decide) (he : starEach (e :: es) X.env = (false, eval e X.env) :: starEach es X.env := by rfl) (hpl : (backTo pos (starEach es X.env)).any (·.1) = false := by rfl) :
    PE X (.Call (.Name x p) (e :: es) [] pos) (uCallD sp dvs E t) := by
  refine ⟨fun pins s σ H Q I h => ?_⟩
  refine wpAny_Call_Name_kw (ld_glob I hg hm ?_ hdb)
  refine PySem.W.callWith_K (h₀ := X.base) I.ok.mod.kin hk (thn (ha.run pos pins s σ H _ I h) fun us s1 ⟨vs, H1, I1, r, q⟩ => ⟨I1.kIn, ?_⟩) he hpl
  exact run_fnD F hr hb hd (hx σ) I1 r q
/-- nothing is let out -/
theorem pass_n : ∀ σ, PassesAt (L2.CX X.prog X.w) X σ ((fun _ => E0) σ) := fun σ pins H s e s' I c => passL pins σ H s e s' I c
/-- the def's own wish -/
theorem pass_x {W : XK} (tk : Takes X (fun cls d _ H => W cls d H)) : ∀ σ, PassesAt (L2.CX X.prog X.w) X σ ((fun _ => W) σ) := fun σ pins H s e s' I c => passes_call tk (fun _ _ _ _ h => h) pins σ H s e s' I c
end
section
variable {σ : L2.St} {H : Hp} {Q : VK} {tA : TA} {sp : Sp} {E : L2.St → XK} {E1 : XK} {vs dvs : List V}
instance : Go (uCall sp E tA σ H Q) (tA σ H (kCall sp (E σ) Q)) := ⟨id⟩
instance : Go (kCall sp E1 Q vs H) (sp vs H Q E1) := ⟨id⟩
instance : Go (uCallD sp dvs E tA σ H Q) (tA σ H (kCallD sp dvs (E σ) Q)) := ⟨id⟩
instance : Go (kCallD sp dvs E1 Q vs H) (sp (vs ++ dvs) H Q E1) := ⟨id⟩
end

/-! ### built-ins -/
def rLenU (K : PySem.W.Frag) : List V → Hp → VK → Prop := fun xs H Q => ∃ x n, xs = [x] ∧ LenV K x H n ∧ Q (.int n) H
theorem call_lenU {X : Cx} : CallR X (.builtin "len") (rLenU X.K) := call_len
def rIntU : List V → Hp → VK → Prop := fun xs H Q => (∃ i, xs = [.int i] ∧ Q (.int i) H) ∨ ∃ k, xs = [.bl k] ∧ Q (.int (if k then 1 else 0)) H
theorem call_intU {X : Cx} : CallR X (.type "int") rIntU := call_int1
def rMaxU : List V → Hp → VK → Prop := fun xs H Q => ∃ i j, xs = [.int i, .int j] ∧ Q (.int (if j > i then j else i)) H
def rMinU : List V → Hp → VK → Prop := fun xs H Q => ∃ i j, xs = [.int i, .int j] ∧ Q (.int (if j < i then j else i)) H
theorem call_maxU {X : Cx} (hc : X.calm = true) : CallR X (.builtin "max") rMaxU := call_max2 hc
theorem call_minU {X : Cx} (hc : X.calm = true) : CallR X (.builtin "min") rMinU := call_min2 hc
def rListU (K : PySem.W.Frag) : List V → Hp → VK → Prop := fun xs H Q => ∃ p items, xs = [.ref p] ∧ (SqL K H p items ∨ SqT K H p items) ∧ ∀ l, H l = none → Q (.ref l) (upd H l (.lst items))
theorem call_listU {X : Cx} : CallR X (.type "list") (rListU X.K) := call_list_of
def rDmU : List V → Hp → VK → Prop := fun xs H Q => ∃ i j, xs = [.int i, .int j] ∧ CDivP i j ∧ ∀ p, H p = none → Q (.ref p) (upd H p (.tup [.int (i / j), .int (i % j)]))
theorem call_dmU {X : Cx} : CallR X (.builtin "divmod") rDmU := call_divmodW
section
variable {σ : L2.St} {H : Hp} {Q : VK} {K : PySem.W.Frag} {i j : Int} {b : Bool}
instance : Go (rIntU [.int i] H Q) (Q (.int i) H) := ⟨fun q => .inl ⟨i, rfl, q⟩⟩
instance : Go (rIntU [.bl b] H Q) (Q (.int (if b then 1 else 0)) H) := ⟨fun q => .inr ⟨b, rfl, q⟩⟩
instance : Go (rMaxU [.int i, .int j] H Q) (Q (.int (if j > i then j else i)) H) := ⟨fun q => ⟨i, j, rfl, q⟩⟩
instance : Go (rMinU [.int i, .int j] H Q) (Q (.int (if j < i then j else i)) H) := ⟨fun q => ⟨i, j, rfl, q⟩⟩
end
theorem sz6 {n : Nat} (h : n ≤ 1000000) : n ≤ sizeLine := Nat.le_trans h (by decide)
theorem go_lens {K : PySem.W.Frag} {l : List Nat} {H : Hp} {Q : VK} (hl : l.length ≤ 1000000) (q : Q (.int (l.length : Int)) H) : rLenU K [S l] H Q := ⟨_, l.length, rfl, ⟨by rw [mk_len]; exact sz6 hl, (mk_len l).symm⟩, q⟩
theorem go_lenl {K : PySem.W.Frag} {p : Addr} {xs : List V} {H : Hp} {Q : VK} (h : SqL K H p xs) (q : Q (.int (xs.length : Int)) H) : rLenU K [.ref p] H Q := ⟨_, xs.length, rfl, .inl ⟨xs, h, rfl⟩, q⟩
theorem go_lent {K : PySem.W.Frag} {p : Addr} {xs : List V} {H : Hp} {Q : VK} (h : SqT K H p xs) (q : Q (.int (xs.length : Int)) H) : rLenU K [.ref p] H Q := ⟨_, xs.length, rfl, .inr ⟨xs, h, rfl⟩, q⟩
theorem go_list {K : PySem.W.Frag} {p : Addr} {xs : List V} {H : Hp} {Q : VK} (h : SqL K H p xs ∨ SqT K H p xs) (k : ∀ l H', H l = none → Same H H' → H' l = some (.lst xs) → Q (.ref l) H') : rListU K [.ref p] H Q :=
  ⟨p, xs, rfl, h, fun l hl => k l _ hl (fun b o e => by rw [upd_ne (ne_of_none e hl)]; exact e) upd_same⟩
theorem go_dm {i j : Int} {H : Hp} {Q : VK} (h : CDivP i j) (k : ∀ p H', H p = none → Same H H' → H' p = some (.tup [.int (i / j), .int (i % j)]) → Q (.ref p) H') : rDmU [.int i, .int j] H Q :=
  ⟨i, j, rfl, h, fun l hl => k l _ hl (fun b o e => by rw [upd_ne (ne_of_none e hl)]; exact e) upd_same⟩

/-! ### isinstance -/
def rIsiU (K : PySem.W.Frag) : List V → Hp → VK → Prop := rIsi K
/-- is such a value of that built-in class? -/
def isiB (K : PySem.W.Frag) (H : Hp) : V → String → Bool → Prop
  | .non, c, b => kitB "NoneType" c = some b
  | .bl _, c, b => kitB "bool" c = some b
  | .int _, c, b => kitB "int" c = some b
  | .str _, c, b => kitB "str" c = some b
  | .ref a, c, b => (∃ xs, SqL K H a xs ∧ kitB "list" c = some b) ∨ ∃ xs, SqT K H a xs ∧ kitB "tuple" c = some b
  | _, _, _ => False
theorem go_isi {K : PySem.W.Frag} {x : V} {c : String} {b : Bool} {H : Hp} {Q : VK} (h : isiB K H x c b) (q : Q (.bl b) H) : rIsiU K [x, .ty c] H Q := by
  cases x with
  | non => exact ⟨_, _, _, _, b, rfl, .ty c, .base .non, kit_ty h, q⟩
  | bl k => exact ⟨_, _, _, _, b, rfl, .ty c, .base (.bl k), kit_ty h, q⟩
  | int k => exact ⟨_, _, _, _, b, rfl, .ty c, .base (.int k), kit_ty h, q⟩
  | str k => exact ⟨_, _, _, _, b, rfl, .ty c, .base (.str k), kit_ty h, q⟩
  | ref a =>
    rcases h with ⟨xs, hs, e⟩ | ⟨xs, hs, e⟩
    · rcases hs with (hs | ⟨o, hs⟩) | hs
      · exact ⟨_, _, _, _, b, rfl, .ty c, .base (.lst hs), kit_ty e, q⟩
      · exact ⟨_, _, _, _, b, rfl, .ty c, .base (.frz hs), kit_ty e, q⟩
      · obtain ⟨o, its, n, lk, hc, _⟩ := hs
        exact ⟨_, _, _, _, b, rfl, .ty c, .kList lk hc, kit_ty e, q⟩
    · rcases hs with (hs | ⟨o, hs⟩) | hs
      · exact ⟨_, _, _, _, b, rfl, .ty c, .base (.tup hs), kit_ty e, q⟩
      · exact ⟨_, _, _, _, b, rfl, .ty c, .fTuple hs, kit_ty e, q⟩
      · obtain ⟨o, its, n, lk, hc, _⟩ := hs
        exact ⟨_, _, _, _, b, rfl, .ty c, .kTuple lk hc, kit_ty e, q⟩
  | _ => exact h.elim

/-! ### items and slices -/
def rIxU (K : PySem.W.Frag) : R2 := rIx K
theorem ix_U {X : Cx} : IxR X (rIxU X.K) := ix_seq
theorem go_ixl {K : PySem.W.Frag} {p : Addr} {xs : List V} {i : Int} {v : V} {H : Hp} {Q : VK} (h : SqL K H p xs) (e : atI xs i = some v) (q : Q v H) : rIxU K (.ref p) (.int i) H Q := .inl ⟨p, xs, i, v, rfl, rfl, h, e, q⟩
theorem go_ixt {K : PySem.W.Frag} {p : Addr} {xs : List V} {i : Int} {v : V} {H : Hp} {Q : VK} (h : SqT K H p xs) (e : atI xs i = some v) (q : Q v H) : rIxU K (.ref p) (.int i) H Q := .inr (.inl ⟨p, xs, i, v, rfl, rfl, h, e, q⟩)
theorem go_ixs {K : PySem.W.Frag} {l : List Nat} {i : Int} {c : Nat} {H : Hp} {Q : VK} (hl : l.length ≤ 1000000) (e : atI l i = some c) (q : Q (S [c]) H) : rIxU K (S l) (.int i) H Q :=
  .inr (.inr ⟨_, i, c, rfl, rfl, by rw [mk_len]; exact sz6 hl, e, q⟩)
def cutL (l : List Nat) (lo hi : Option Int) : List Nat := (l.drop (HT.sIx l.length 0 lo)).take (HT.sIx l.length l.length hi - HT.sIx l.length 0 lo)
def rSlU (K : PySem.W.Frag) : V → Option Int → Option Int → Hp → VK → Prop := fun x lo hi H Q => (∃ l, x = S l ∧ l.length ≤ 1000000 ∧ Q (S (cutL l lo hi)) H) ∨ rSlL K x lo hi H Q
theorem sl_U {X : Cx} : SlR X (rSlU X.K) := by
  intro pins s σ H x v vl vu lo hi sl Q I rx hs pl pu h
  rcases h with ⟨l, rfl, hl, q⟩ | h
  · refine sl_str pins s σ H _ v vl vu lo hi sl Q I rx hs pl pu ⟨_, rfl, by rw [mk_len]; exact sz6 hl, ?_⟩
    have e : cutS (mk l) lo hi = mk (cutL l lo hi) := by
      unfold cutS cutL
      rw [mk_len]
    rw [e]
    exact q
  · exact sl_list pins s σ H x v vl vu lo hi sl Q I rx hs pl pu h
theorem go_sls {K : PySem.W.Frag} {l : List Nat} {lo hi : Option Int} {H : Hp} {Q : VK} (hl : l.length ≤ 1000000) (q : Q (S (cutL l lo hi)) H) : rSlU K (S l) lo hi H Q := .inl ⟨l, rfl, hl, q⟩
theorem go_sll {K : PySem.W.Frag} {p : Addr} {xs : List V} {lo hi : Option Int} {H : Hp} {Q : VK} (h : SqL K H p xs) (k : ∀ q H', H q = none → Same H H' → H' q = some (.lst (cutV xs lo hi)) → Q (.ref q) H') : rSlU K (.ref p) lo hi H Q :=
  .inr ⟨p, xs, rfl, h, fun l hl => k l _ hl (fun b o e => by rw [upd_ne (ne_of_none e hl)]; exact e) upd_same⟩
/-! cuts -/
theorem cutL_le (l : List Nat) (lo hi : Option Int) : (cutL l lo hi).length ≤ l.length := by
  unfold cutL
  rw [List.length_take, List.length_drop]
  omega
theorem cutL_to (l : List Nat) (k : Int) (h : 0 ≤ k) : cutL l none (some k) = l.take k.toNat := by
  obtain ⟨n, rfl⟩ := Int.eq_ofNat_of_zero_le h
  unfold cutL
  rw [HT.sIx_none, HT.sIx_nat, List.drop_zero, Nat.sub_zero, Int.toNat_natCast]
  by_cases hn : n ≤ l.length
  · rw [Nat.min_eq_left hn]
  · rw [Nat.min_eq_right (by omega), List.take_of_length_le (by omega), List.take_of_length_le (by omega)]
theorem cutL_from (l : List Nat) (k : Int) (h : 0 ≤ k) : cutL l (some k) none = l.drop k.toNat := by
  obtain ⟨n, rfl⟩ := Int.eq_ofNat_of_zero_le h
  unfold cutL
  rw [HT.sIx_none, HT.sIx_nat, Int.toNat_natCast]
  by_cases hn : n ≤ l.length
  · rw [Nat.min_eq_left hn, List.take_of_length_le (by rw [List.length_drop]; omega)]
  · rw [Nat.min_eq_right (by omega), List.drop_of_length_le (by omega), List.drop_of_length_le (by omega)]
    simp
theorem cutL_butlast (l : List Nat) : cutL l none (some (-1)) = l.dropLast := by
  unfold cutL
  rw [HT.sIx_none, List.drop_zero, Nat.sub_zero]
  have e : HT.sIx l.length l.length (some (-1)) = l.length - 1 := by
    show (if (-1 : Int) < 0 then ((-1 : Int) + (l.length : Int)).toNat else min (-1 : Int).toNat l.length) = l.length - 1
    rw [if_pos (by omega)]
    omega
  rw [e, List.dropLast_eq_take]
theorem cutL_mid (l : List Nat) (a b : Int) (ha : 0 ≤ a) (hb : 0 ≤ b) : cutL l (some a) (some b) = (l.take b.toNat).drop a.toNat := by
  obtain ⟨n, rfl⟩ := Int.eq_ofNat_of_zero_le ha
  obtain ⟨m, rfl⟩ := Int.eq_ofNat_of_zero_le hb
  unfold cutL
  rw [HT.sIx_nat, HT.sIx_nat, Int.toNat_natCast, Int.toNat_natCast, List.drop_take]
  by_cases hn : n ≤ l.length
  · rw [Nat.min_eq_left hn]
    by_cases hm : m ≤ l.length
    · rw [Nat.min_eq_left hm]
    · rw [Nat.min_eq_right (by omega), List.take_of_length_le (by rw [List.length_drop]; omega), List.take_of_length_le (by rw [List.length_drop]; omega)]
  · rw [show min n l.length = l.length from Nat.min_eq_right (by omega), List.drop_length, List.drop_of_length_le (show l.length ≤ n by omega)]
    simp
theorem atI_at {α : Type} {xs : List α} {i : Int} {v : α} (h : 0 ≤ i) (e : xs[i.toNat]? = some v) : atI xs i = some v := by
  obtain ⟨n, rfl⟩ := Int.eq_ofNat_of_zero_le h
  exact atI_nat e
end G

/-! A4: texts' methods, list.count, errors. -/
namespace G
open PySem PySem.Spec PyProof.Rows L2 TL

/-! ### list.count over flat items -/
def rCntF (K : PySem.W.Frag) : V → List V → Hp → VK → Prop := fun x xs H Q => ∃ (p : Addr) (ys : List V) (y : V), x = .ref p ∧ xs = [y] ∧ SqL K H p ys ∧ flatV y = true ∧ ys.all flatV = true ∧ Q (.int ((ys.countP fun z => eqV z y : Nat) : Int)) H
theorem countP_eqU {x : V} : ∀ {xs : List V} {us : List Value}, Vals xs us → xs.all flatV = true → us.countP (eqU x) = xs.countP fun y => eqV y x
  | _, _, .nil, _ => rfl
  | y :: xs, u :: us, .cons r t, f => by
    rw [List.all_cons, Bool.and_eq_true] at f
    rw [List.countP_cons, List.countP_cons, countP_eqU t f.2, eqU_of r f.1]
theorem mt_cntF {X : Cx} : MtR X "list.count" (rCntF X.K) := by
  intro pins s σ H x xs v us Q I rx rxs h
  obtain ⟨p, ys, y, ex, exs, hs, fy, fys, q⟩ := h
  subst ex exs
  cases rx
  cases rxs with
  | cons ry rt =>
    rename_i uy ut
    cases rt
    obtain ⟨its, rv, hpl, hlen⟩ := I.list hs
    obtain ⟨ob, n, ho, hc, hdn, hd⟩ := hpl
    obtain ⟨cls, dd, data, sl⟩ := ob
    simp only at hc hd
    subst hc hd
    have ec := countP_eqU rv fys (x := y)
    refine call_meets PySem.F.slot_list_count ⟨_, ho, rfl⟩ PySem.F.entry_list_count (PySem.F.args_list_count_2 _ _) (SeqAt.list_countAt p its.toArray n dd sl uy (eqU y)) ⟨ho, ?_, ?_⟩
    · intro z hz
      exact mem_eqAt ry fy rv fys z (by simpa using hz)
    · have e2 : its.toArray.toList.countP (eqU y) = ys.countP fun z => eqV z y := ec
      refine ⟨.int _, H, I.tok _, ⟨s.toks, ?_⟩, q⟩
      show Value.int ((its.toArray.toList.countP (eqU y) : Nat) : Int) s.toks = _
      rw [e2]

/-! ### texts -/
/-- s.count(c), one sign -/
def rCntS : V → List V → Hp → VK → Prop := fun x xs H Q => ∃ (l : List Nat) (c : Nat), x = S l ∧ xs = [S [c]] ∧ Q (.int ((l.count c : Nat) : Int)) H
theorem count1 (l : List Nat) (c : Nat) : Txt.count (mk l) (mk [c]) = ((l.count c : Nat) : Int) := by
  have key : ∀ m : List Nat, cnt c m = ((m.count c : Nat) : Int) := by
    intro m
    induction m with
    | nil => rfl
    | cons a m ih =>
      rw [cnt_cons, List.count_cons, ih]
      by_cases e : a = c
      · subst e
        simp
        omega
      · simp [e]
  exact (count_cnt (mk l) c).trans (key l)
theorem mt_cntS {X : Cx} : MtR X "str.count" rCntS := by
  intro pins s σ H x xs v us Q I rx rxs h
  obtain ⟨l, c, rfl, rfl, q⟩ := h
  exact mt_count pins s σ H _ _ v us Q I rx rxs ⟨_, _, rfl, rfl, by rw [count1]; exact q⟩
/-- s.endswith(c), one sign -/
def rEndS : V → List V → Hp → VK → Prop := fun x xs H Q => ∃ (l : List Nat) (c : Nat), x = S l ∧ xs = [S [c]] ∧ Q (.bl (decide (l.getLast? = some c))) H
theorem ends1 (l : List Nat) (c : Nat) : Txt.endswith (mk l) (mk [c]) = decide (l.getLast? = some c) := by
  rcases List.eq_nil_or_concat l with rfl | ⟨m, a, rfl⟩
  · rfl
  · have e1 : (mk (m.concat a)).length = m.length + 1 := by rw [mk_len, List.length_concat]
    have e2 : (mk [c]).length = 1 := rfl
    unfold Txt.endswith
    rw [e1, e2, StrLaws.subAt_eq]
    show (decide (0 + 1 ≤ m.length + 1) && (((m.concat a).drop (m.length + 1 - 1)).take 1 == [c])) = _
    rw [Nat.add_sub_cancel, List.concat_eq_append, List.drop_left, List.getLast?_append, decide_eq_true (by omega : 0 + 1 ≤ m.length + 1), Bool.true_and]
    by_cases e : a = c
    · subst e
      simp
    · simp [e]
/-- s.partition(c): the sign there, or not -/
theorem part_yes {p r : List Nat} {c : Nat} (h : c ∉ p) : Txt.partition (mk (p ++ c :: r)) (mk [c]) = (mk p, mk [c], mk r) := by
  have e := partition_app (y := mk [c]) (s := c) (S := []) rfl (a := mk p) (b := mk r) h
  rw [mk_app, mk_app] at e
  rw [← e]
  simp
theorem part_no {p : List Nat} {c : Nat} (h : c ∉ p) : Txt.partition (mk p) (mk [c]) = (mk p, mk [], mk []) := partition_none (y := mk [c]) (s := c) (S := []) rfl (a := mk p) h
def rPart : V → List V → Hp → VK → Prop := fun x xs H Q => ∃ (l : List Nat) (c : Nat), x = S l ∧ xs = [S [c]] ∧ l.length ≤ 1000000 ∧
  (∀ p r, l = p ++ c :: r → c ∉ p → ∀ a, H a = none → Q (.ref a) (upd H a (.tup [S p, S [c], S r]))) ∧ (c ∉ l → ∀ a, H a = none → Q (.ref a) (upd H a (.tup [S l, S [], S []])))
theorem first_split {c : Nat} : ∀ {l : List Nat}, c ∈ l → ∃ p r, l = p ++ c :: r ∧ c ∉ p
  | [], h => by cases h
  | a :: l, h => by
    by_cases e : a = c
    · exact ⟨[], l, by rw [e]; rfl, by simp⟩
    · obtain ⟨p, r, e1, e2⟩ := first_split (l := l) (by
        rcases List.mem_cons.mp h with z | z
        · exact absurd z.symm e
        · exact z)
      refine ⟨a :: p, r, by rw [e1]; rfl, ?_⟩
      intro z
      rcases List.mem_cons.mp z with z | z
      · exact e z.symm
      · exact e2 z
theorem mt_part {X : Cx} : MtR X "str.partition" rPart := by
  intro pins s σ H x xs v us Q I rx rxs h
  obtain ⟨l, c, rfl, rfl, hl, h1, h2⟩ := h
  refine mt_partition pins s σ H _ _ v us Q I rx rxs ⟨_, _, rfl, rfl, rfl, by rw [mk_len]; exact sz6 hl, fun a ha => ?_⟩
  by_cases hc : c ∈ l
  · obtain ⟨p, r, e, hp⟩ := first_split hc
    have q := h1 p r e hp a ha
    subst e
    rw [part_yes hp]
    exact q
  · have q := h2 hc a ha
    rw [part_no hc]
    exact q
/-- s.index(c), it is there -/
theorem index1 {p r : List Nat} {c : Nat} (h : c ∉ p) : ∃ rest, Builtin.Str.occurrences (mk (p ++ c :: r)) (mk [c]) 0 (mk (p ++ c :: r)).length 1 = p.length :: rest := by
  have e := part_yes (r := r) h
  have sp := StrLaws.occ_spec (mk (p ++ c :: r)) (mk [c]) 0 (mk (p ++ c :: r)).length 1
  unfold Txt.partition at e
  cases q : Builtin.Str.occurrences (mk (p ++ c :: r)) (mk [c]) 0 (mk (p ++ c :: r)).length 1 with
  | nil =>
    rw [q] at e
    have e2 : Str.empty = mk [c] := congrArg (fun z : Str × Str × Str => z.2.1) e
    have e3 := congrArg tl e2
    cases e3
  | cons i rest =>
    rw [q] at e sp
    have e2 : PySem.Builtin.Str.strSub (mk (p ++ c :: r)) 0 i = mk p := congrArg (fun z : Str × Str × Str => z.1) e
    have e3 := congrArg tl e2
    rw [tl_strSub] at e3
    have e4 := congrArg List.length e3
    have hi := (sp i List.mem_cons_self).1
    rw [mk_len, mk_len] at hi
    have e5 : ((List.drop 0 (p ++ c :: r)).take (i - 0)).length = p.length := e4
    rw [List.drop_zero, List.length_take, Nat.sub_zero, Nat.min_eq_left (by simp at hi ⊢; omega)] at e5
    exact ⟨rest, by rw [e5]⟩
def rIdxS : V → List V → Hp → VK → Prop := fun x xs H Q => ∃ (p r : List Nat) (c : Nat), x = S (p ++ c :: r) ∧ xs = [S [c]] ∧ c ∉ p ∧ Q (.int (p.length : Int)) H
theorem mt_idxS {X : Cx} : MtR X "str.index" rIdxS := by
  intro pins s σ H x xs v us Q I rx rxs h
  obtain ⟨p, r, c, rfl, rfl, hc, q⟩ := h
  obtain ⟨rest, e⟩ := index1 (r := r) hc
  exact mt_sindex pins s σ H _ _ v us Q I rx rxs ⟨_, _, p.length, rest, rfl, rfl, e, q⟩
/-- a sign in a text -/
def rInT (neg : Bool) : R2 := fun x y H Q => ∃ (c : Nat) (l : List Nat), x = S [c] ∧ y = S l ∧ Q (.bl (if neg then !decide (c ∈ l) else decide (c ∈ l))) H
theorem op_inT {X : Cx} : OpR X (compareOp .In) (rInT false) := by
  intro pins s σ H x y v u Q I rx ry h
  obtain ⟨c, l, rfl, rfl, q⟩ := h
  exact op_in_sign pins s σ H _ _ v u Q I rx ry ⟨c, _, rfl, rfl, q⟩
theorem op_ninT {X : Cx} : OpR X (compareOp .NotIn) (rInT true) := by
  intro pins s σ H x y v u Q I rx ry h
  obtain ⟨c, l, rfl, rfl, q⟩ := h
  exact op_notIn_sign pins s σ H _ _ v u Q I rx ry ⟨c, _, rfl, rfl, q⟩
section
variable {H : Hp} {Q : VK} {c : Nat} {l : List Nat}
instance : Go (rCntS (S l) [S [c]] H Q) (Q (.int ((l.count c : Nat) : Int)) H) := ⟨fun q => ⟨l, c, rfl, rfl, q⟩⟩
instance : Go (rEndS (S l) [S [c]] H Q) (Q (.bl (decide (l.getLast? = some c))) H) := ⟨fun q => ⟨l, c, rfl, rfl, q⟩⟩
instance : Go (rInT false (S [c]) (S l) H Q) (Q (.bl (decide (c ∈ l))) H) := ⟨fun q => ⟨c, l, rfl, rfl, q⟩⟩
instance : Go (rInT true (S [c]) (S l) H Q) (Q (.bl (!decide (c ∈ l))) H) := ⟨fun q => ⟨c, l, rfl, rfl, q⟩⟩
end

/-! ### errors -/
/-- X(), X an own exception class without own __init__ -/
theorem pmk_own0 {X : Cx} {C : Addr} {bmB : List Value} {B newId initId : String} {x : Str} {p pos : Pos} (F : ExcBaseFacts B newId initId bmB) (q : PySem.W.excIn X.K C bmB newId = true) (gC : X.mg x = some (.ref C))
    (kC : PySem.W.keepIn X.K (.ref C) = true) (r : Raises X (.ref C)) (hg : Gl X x) (hdb : (x == ("__debug__" : Str)) = false := by decide) :
    PMk X (.Call (.Name x p) [] [] pos) (fun _ H Q => Q (.ref C) none H) := by
  intro pins s σ H Q I h
  refine wpAny_Call_Name_kw (ld_glob I hg gC ?_ hdb)
  refine PySem.W.callWith_K0 I.kIn kC ?_
  show wpAny _ _ (call (.ref C) []) _ _ _
  obtain ⟨bm, N, nm, qn, bs, hdct, sn, sub, ab, col, dd, k0, k1, k2, k3, k5, mN, hC, hN, hni, T⟩ := exc_obj I.kIn q
  exact wpAny_call_exc_subT F T hC hN hni (fun h' e hm => mk_of I hm r h (I.hok.gone hm.new)) (Nat.zero_le _)
/-- what a class must say, so that isinstance asks its instances rightly -/
structure ExcD (K : PySem.W.Frag) (D : Addr) : Prop where
  cl : (PySem.W.clsIn K D).isSome = true
  ga : PySem.W.findIn K (.ref D) "__getattribute__" = some (some (.builtin "BaseException.__getattribute__"))
  gt : PySem.W.findIn K (.ref D) "__getattr__" = some none
  sb : PySem.W.subIn K (.ref D) (.type "BaseException") = some true
  at_ : PySem.W.findIn K (.ref D) "__class__" = some (some (.builtin "object.__class__"))
  gs : PySem.W.specialIn K (.builtin "object.__class__") "__get__" = some (some (.builtin "getset_descriptor.__get__"))
  tk : PySem.W.takesIn K (.builtin "object.__class__") = some true
  mr : PySem.W.mroIn K D (.type "object") = some true
/-- the dict of an exception as the state has it -/
def DicAt (d : Option Addr) (H : Hp) : Prop := d = none ∨ ∃ dd fs, d = some dd ∧ H dd = some (.xd fs)
def rIsX (K : PySem.W.Frag) (a : Addr) (cls : Value) (d : Option Addr) : List V → Hp → VK → Prop := fun xs H Q => ∃ (D : Addr) (c : V) (cv : Value) (b : Bool), cls = .ref D ∧ ExcD K D ∧ DicAt d H ∧ xs = [.ref a, c] ∧ ClsV c cv ∧
  PySem.W.kitOne K (.ref D) cv = some b ∧ Q (.bl b) H
theorem call_isX {X : Cx} {a : Addr} {cls : Value} {d : Option Addr} {oe : Obj} {pn : List (Addr × Obj)} (hz : Zc cls d oe) (hf : ∃ vs, oe.data = .fields vs) : CallR (X.suite a ((a, oe) :: pn)) (.builtin "isinstance") (rIsX X.K a cls d) := by
  intro pins s σ H xs us Q I r h
  obtain ⟨D, c, cv, b, ecls, T, hd, exs, kc, e, q⟩ := h
  subst ecls exs
  cases r with
  | cons rx rr =>
    cases rr with
    | cons rt rr =>
      cases rr
      cases rx
      have ec := kc.eq rt
      subst ec
      obtain ⟨hget, _⟩ := I.pin (a, oe) (List.mem_append.mpr (.inl List.mem_cons_self))
      obtain ⟨vs, hv⟩ := hf
      have J : ∃ od, PySem.W.InstAt s.heap a oe D od := by
        rcases hd with hd | ⟨dd, fs, hd, hH⟩
        · exact ⟨none, hget, hz.1, by unfold PySem.W.notCls; rw [hv] <;> rfl, by rw [hz.2, hd]; trivial⟩
        · have hx : ObjOk X.prog X.w H s.heap dd (.xd fs) := I.hok dd _ hH
          obtain ⟨mA, hns, hr⟩ := hx
          obtain ⟨od, ho, hl⟩ := lookIn_ns hns
          exact ⟨some od, hget, hz.1, by unfold PySem.W.notCls; rw [hv] <;> rfl, by rw [hz.2, hd]; exact ho⟩
      obtain ⟨od, J⟩ := J
      exact PySem.W.kia_one (PySem.W.kitx_exc (x := a) (ox := oe) (od := od) T.cl T.ga T.gt T.sb T.at_ T.gs T.tk T.mr) I.kIn J e (fun z => nomatch z) fun tk => ⟨.bl b, H, I.kept (t' := tk) fun _ _ z => z, rfl, q⟩
end G

/-! A5: what the head tells. -/
namespace G
open PySem PySem.Spec PyProof.Rows L2 TL

abbrev FnAt : Type := Str × Option Str
def noFd : FuncData := PySem.W.fnOf "" "" { posonlyargs := [], args := [], vararg := none, kwonlyargs := [], kw_defaults := [], kwarg := none, defaults := [] } [] { kind := .function, names := [], isGenerator := false, isCoroutine := false } .none .none .none .none none .none .none
def fdOf (K : PySem.W.Frag) (p : FnAt) : FuncData := match K.lookup (He.fAd K p) with
  | some ⟨_, _, .func fd, _⟩ => fd
  | _ => noFd
theorem fd_eq {K : PySem.W.Frag} {x q : Str} {a : Arguments} {b : List Stmt} {sc : Scope} {dvs : List V} {kws : List (Str × V)} {p : FnAt} {fd : FuncData} (F : FunD K x q a b sc dvs kws (He.fAd K p) fd) : FunD K x q a b sc dvs kws (He.fAd K p) (fdOf K p) := by
  obtain ⟨oc, od, dV, kV, doc, pm, an, cdv, ct, osl, e, lk, r⟩ := id F.ex
  have e2 : fdOf K p = fd := by
    unfold fdOf
    rw [lk]
  rw [e2]
  exact F
/-- a def's promise in the program as the head left it -/
abbrev Ok (P : Program) (w : World) (K : PySem.W.Frag) (mg : Str → Option Value) (base : Heap) (k : Nat) (p : FnAt) (ps : List Str) (sp : Sp) : Prop := FnOk P w K mg base (L2.CX P w) k (He.fAd K p) (fdOf K p) ps sp
def tokOf (o : Option Value) : Tok := match o with
  | some (.int _ t) => t
  | some (.str _ t) => t
  | _ => 0
theorem int_tok {mg : Str → Option Value} {x : Str} {i : Int} (h : ∃ t, mg x = some (.int i t)) : mg x = some (.int i (tokOf (mg x))) := by
  obtain ⟨t, e⟩ := h
  rw [e] <;> rfl
theorem str_tok {mg : Str → Option Value} {x z : Str} {l : List Nat} (h : ∃ t, mg x = some (.str z t)) (ez : z = mk l) : mg x = some (.str (mk l) (tokOf (mg x))) := by
  obtain ⟨t, e⟩ := h
  rw [e, ez] <;> rfl

/-! ### scopes -/
def kindB : ScopeKind → Bool
  | .function => true
  | _ => false
def parB : Option NameKind → Bool
  | some .local => true
  | some .cell => true
  | _ => false
def freeB : NameKind → Bool
  | .free => false
  | _ => true
def scopeB (N P : List Str) (sc : Scope) : Bool := kindB sc.kind && (!sc.isCoroutine && (!sc.isGenerator && (decide N.Nodup && (decide (N.take P.length = P) && ((P.all fun x => parB (sc.names.lookup x)) && sc.names.all fun y => freeB y.2)))))
theorem scopeB_ok {N P : List Str} {sc : Scope} (h : scopeB N P sc = true) : FnScope N P sc := by
  unfold scopeB at h
  simp only [Bool.and_eq_true, Bool.not_eq_true', List.all_eq_true, decide_eq_true_eq] at h
  obtain ⟨h1, h2, h3, h4, h5, h6, h7⟩ := h
  refine ⟨?_, h2, h3, h4, h5, fun x hx => ?_, fun y hy e => ?_⟩
  · cases e : sc.kind with
    | function => rfl
    | _ =>
      rw [e] at h1
      cases h1
  · have z := h6 x hx
    cases e : sc.names.lookup x with
    | none =>
      rw [e] at z
      cases z
    | some k =>
      rw [e] at z
      cases k with
      | «local» => exact .inl rfl
      | cell => exact .inr rfl
      | _ => cases z
  · have z := h7 y hy
    rw [e] at z
    cases z

/-! ### error classes -/
def oexB (K : PySem.W.Frag) (C : Addr) : Bool := match K.lookup C with
  | some ⟨.type t, _, .cls cd, sl⟩ => decide (t = "type") && (match cd.mro, sl.toList with
    | .ref C' :: bm, [_, _, _, _, some (.builtin n), _] => decide (C' = C) && (decide (n = "ValueError.__new__") && (cd.hasDict && (!cd.hasDel && HandSPX.refsVE bm)))
    | _, _ => false)
  | _ => false
def eqOV (a b : Option (Option Value)) : Bool := decide (a = b)
def oexC (K : PySem.W.Frag) (C : Addr) : Bool := oexB K C && (eqOV (PySem.W.findIn K (.ref C) "__setattr__") (some (some (.builtin "object.__setattr__"))) && (decide (PySem.W.subIn K (.ref C) (.type "BaseException") = some true) &&
  (decide (PySem.W.typeIn K (.ref C) = some (.type "type")) && PySem.W.keepIn K (.ref C))))
theorem ba2 {a b : Bool} (h : (a && b) = true) : a = true ∧ b = true := Bool.and_eq_true_iff.mp h
theorem oexC_ok {K : PySem.W.Frag} {C : Addr} (h : oexC K C = true) : OexC K C := by
  obtain ⟨h1, h⟩ := ba2 h
  obtain ⟨h2, h⟩ := ba2 h
  obtain ⟨h3, h⟩ := ba2 h
  obtain ⟨h4, h5⟩ := ba2 h
  refine ⟨?_, of_decide_eq_true h2, of_decide_eq_true h3, of_decide_eq_true h4, h5⟩
  unfold oexB at h1
  split at h1
  · rename_i t dd cd sl ho
    obtain ⟨g1, g2⟩ := ba2 h1
    split at g2
    · rename_i C' bm k0 k1 k2 k3 n k5 hm hs
      obtain ⟨g3, g2⟩ := ba2 g2
      obtain ⟨g4, g2⟩ := ba2 g2
      obtain ⟨g5, g2⟩ := ba2 g2
      obtain ⟨g6, g7⟩ := ba2 g2
      have e1 : t = "type" := of_decide_eq_true g1
      have e3 : C' = C := of_decide_eq_true g3
      have e4 : n = "ValueError.__new__" := of_decide_eq_true g4
      subst e1 e3 e4
      obtain ⟨nm, bs, mro, ns, qn, hdd, sn, sub, ab, col, del⟩ := cd
      dsimp only at hm g5 g6
      subst hm
      have e6 : del = false := by
        cases del with
        | false => rfl
        | true => cases g6
      subst g5 e6
      have hsl : sl = #[k0, k1, k2, k3, some (.builtin "ValueError.__new__"), k5] := by
        obtain ⟨l⟩ := sl
        simp only at hs
        rw [hs]
      subst hsl
      exact ⟨nm, qn, ns, bs, bm, sn, sub, ab, col, dd, k0, k1, k2, k3, k5, ho, g7⟩
    · cases g2
  · cases h1
def excD (K : PySem.W.Frag) (D : Addr) : Bool := (PySem.W.clsIn K D).isSome && (eqOV (PySem.W.findIn K (.ref D) "__getattribute__") (some (some (.builtin "BaseException.__getattribute__"))) && (eqOV (PySem.W.findIn K (.ref D) "__getattr__") (some none) &&
  (decide (PySem.W.subIn K (.ref D) (.type "BaseException") = some true) && (eqOV (PySem.W.findIn K (.ref D) "__class__") (some (some (.builtin "object.__class__"))) &&
  (eqOV (PySem.W.specialIn K (.builtin "object.__class__") "__get__") (some (some (.builtin "getset_descriptor.__get__"))) && (decide (PySem.W.takesIn K (.builtin "object.__class__") = some true) && decide (PySem.W.mroIn K D (.type "object") = some true)))))))
theorem excD_ok {K : PySem.W.Frag} {D : Addr} (h : excD K D = true) : ExcD K D := by
  obtain ⟨h1, h⟩ := ba2 h
  obtain ⟨h2, h⟩ := ba2 h
  obtain ⟨h3, h⟩ := ba2 h
  obtain ⟨h4, h⟩ := ba2 h
  obtain ⟨h5, h⟩ := ba2 h
  obtain ⟨h6, h⟩ := ba2 h
  obtain ⟨h7, h8⟩ := ba2 h
  exact ⟨h1, of_decide_eq_true h2, of_decide_eq_true h3, of_decide_eq_true h4, of_decide_eq_true h5, of_decide_eq_true h6, of_decide_eq_true h7, of_decide_eq_true h8⟩
/-- which of the classes an error is of: D is of itself and of no other -/
def kitsB (K : PySem.W.Frag) (D : Addr) (cs : List Str) (d : Str) : Bool := cs.all fun c => decide (PySem.W.kitOne K (.ref D) (.ref (He.ga K c)) = some (decide (c = d)))
theorem kitsB_ok {K : PySem.W.Frag} {D : Addr} {cs : List Str} {d : Str} (h : kitsB K D cs d = true) {c : Str} (hc : c ∈ cs) : PySem.W.kitOne K (.ref D) (.ref (He.ga K c)) = some (decide (c = d)) :=
  of_decide_eq_true (List.all_eq_true.mp h c hc)
/-- facts of the written part, each a Bool -/
abbrev BF : Type := PySem.W.Frag → Bool
def allB (bs : List BF) (K : PySem.W.Frag) : Bool := bs.all fun b => b K
theorem allB_at {bs : List BF} {K : PySem.W.Frag} (h : allB bs K = true) (i : Nat) {b : BF} (e : bs[i]? = some b := by rfl) : b K = true := List.all_eq_true.mp h b (List.mem_of_getElem? e)
end G

/-! A6: stores, cuts, the store of draws. -/
namespace G
open PySem PySem.Spec PyProof.Rows L2 TL

theorem pt_c {X : Cx} {op : CmpOp} {r : R2} {a b : Expr} {ta tb : TE} {pos : Pos} (ho : OpR X (compareOp op) r) (ha : PE X a ta) (hb : PE X b tb) (hm : behindInMarks op b = false) : PT X (.Compare a [op] [b] pos) (uTest (tOp r ta tb)) := ⟨(pt_cmpR ho ha hb hm).run⟩
theorem cx_K {CX : CXT} {P : Program} {w : World} {K : PySem.W.Frag} {mg : Str → Option Value} {base : Heap} {N : List Str} {q : Str} {sc : Scope} {f : Addr} {cd : Value} {A : Around} {outer : List Env} {s : Shared} {H : Hp} {E : XK} : (cxOf CX P w K mg base N q sc f cd A outer s H E).K = K := rfl
theorem sq_of {K : PySem.W.Frag} {H : Hp} {a : Addr} {xs : List V} (h : H a = some (.lst xs)) : SqL K H a xs := SqL.of h
theorem st_of {K : PySem.W.Frag} {H : Hp} {a : Addr} {xs : List V} (h : H a = some (.tup xs)) : SqT K H a xs := SqT.of h
theorem pe_powC {X : Cx} {a b : Expr} {pos : Pos} {i j : Int} (v : Int) (ha : PE X a (tC (.int i))) (hb : PE X b (tC (.int j))) (h0 : 0 ≤ j ∧ (Builtin.Int.intBits i : Int) * j ≤ 2 ^ 27 := by decide +kernel) (hv : i ^ j.toNat = v := by decide +kernel) : PE X (.BinOp a .Pow b pos) (tC (.int v)) :=
  ⟨fun pins s σ H Q I h => (pe_op op_powU ha hb).run pins s σ H Q I ⟨i, j, rfl, rfl, h0, by rw [hv]; exact h⟩⟩
/-! ### targets -/
def kTg (g : TG) (σ : L2.St) (N : L2.St → Hp → Prop) : VK := fun x H => g x σ H N
def kSubC (t : TSet) (σ : L2.St) (N : L2.St → Hp → Prop) (v o : V) : VK := fun i H => t o i v H fun H3 => N σ H3
def kSubB (ti : TE) (t : TSet) (σ : L2.St) (N : L2.St → Hp → Prop) (v : V) : VK := fun o H => ti σ H (kSubC t σ N v o)
def kSubA (to ti : TE) (t : TSet) (σ : L2.St) (N : L2.St → Hp → Prop) : VK := fun v H => to σ H (kSubB ti t σ N v)
section
variable {σ σ1 σ2 σ3 : L2.St} {H : Hp} {v o i : V} {te to ti : TE} {t : TSet} {D : Ends} {N : L2.St → Hp → Prop} {K : PySem.W.Frag} {n : Nat} {tg : TGs}
instance : Go (tAsg te (gSub to ti t) D σ H) (te σ H (kSubA to ti t σ D.nx)) := ⟨id⟩
instance : Go (kSubA to ti t σ N v H) (to σ H (kSubB ti t σ N v)) := ⟨id⟩
instance : Go (kSubB ti t σ N v o H) (ti σ H (kSubC t σ N v o)) := ⟨id⟩
instance : Go (kSubC t σ N v o i H) (t o i v H fun H3 => N σ H3) := ⟨id⟩
instance : Go (tAsg te (gTup K n tg) D σ H) (te σ H (kTg (gTup K n tg) σ D.nx)) := ⟨id⟩
theorem go_set {p : Addr} {k : Int} {j : Nat} {xs : List V} {Q : Hp → Prop} (h : H p = some (.lst xs)) (e : ixN xs.length k = some j) (q : Q (upd H p (.lst (xs.set j v)))) : rSetL (.ref p) (.int k) v H Q := ⟨p, xs, k, j, rfl, rfl, h, e, q⟩
theorem go_un2 {a : Addr} {x y : V} {i j : Nat} (h : SqT K H a [x, y]) [g1 : SetS σ i x σ1] [g2 : SetS σ1 j y σ2] (q : N σ2 H) : kTg (gTup K 2 (gCons (gName i) (gCons (gName j) gNil))) σ N (.ref a) H :=
  ⟨a, [x, y], rfl, h, rfl, x, [y], rfl, y, [], rfl, rfl, by rw [g1.h, g2.h]; exact q⟩
theorem go_un3 {a : Addr} {x y z : V} {i j k : Nat} (h : SqT K H a [x, y, z]) [g1 : SetS σ i x σ1] [g2 : SetS σ1 j y σ2] [g3 : SetS σ2 k z σ3] (q : N σ3 H) : kTg (gTup K 3 (gCons (gName i) (gCons (gName j) (gCons (gName k) gNil)))) σ N (.ref a) H :=
  ⟨a, [x, y, z], rfl, h, rfl, x, [y, z], rfl, y, [z], rfl, z, [], rfl, rfl, by rw [g1.h, g2.h, g3.h]; exact q⟩
end
/-! ### a cut between statements -/
abbrev uCut := Evl.tCut
theorem go_cut {t u : TS} {D : Ends} {σ : L2.St} {H : Hp} (Mid : L2.St → Hp → Prop) (h1 : t { D with nx := Mid } σ H) (h2 : ∀ σ' H', Mid σ' H' → u D σ' H') : Evl.tCut t u D σ H := ⟨Mid, h1, h2⟩

/-! ### the store of draws -/
def Big : Nat := 2800
/-- the store: where it is, where its cells are, the cells -/
structure DA where
  a : Addr
  c : Addr
  cells : List Int
structure DealV (d : DA) (i r l m : Int) : Prop where
  len : d.cells.length ≤ 63
  i0 : 0 ≤ i
  cs : ∀ x ∈ d.cells, 0 ≤ x ∧ x.natAbs < 2 ^ Big
  r0 : 0 ≤ r
  r1 : r.natAbs < 2 ^ Big
  l0 : 0 ≤ l
  m0 : 0 ≤ m
  m1 : m < 2 ^ 64
def Deal (K : PySem.W.Frag) (H : Hp) (d : DA) : Prop := ∃ (i r l m : Int), H d.a = some (.lst [.ref d.c, .int i, .int r, .int l, .int m]) ∧ SqL K (L2.del H d.a) d.c (d.cells.map V.int) ∧ DealV d i r l m
/-- all but the store stands; the store is one -/
structure Dr (K : PySem.W.Frag) (d : DA) (H H' : Hp) : Prop where
  deal : Deal K H' d
  same : Same (L2.del H d.a) (L2.del H' d.a)
theorem Dr.trans {K : PySem.W.Frag} {d : DA} {H H1 H2 : Hp} (a : Dr K d H H1) (b : Dr K d H1 H2) : Dr K d H H2 := ⟨b.deal, a.same.trans b.same⟩
theorem Deal.refl {K : PySem.W.Frag} {d : DA} {H : Hp} (h : Deal K H d) : Dr K d H H := ⟨h, Same.refl _⟩
theorem Same.del {H H' : Hp} (s : Same H H') (d : Addr) : Same (L2.del H d) (L2.del H' d) := fun b o e => by
  by_cases hb : b = d
  · rw [hb, del_same] at e
    cases e
  · rw [del_ne hb] at e ⊢
    exact s b o e
theorem Deal.same {K : PySem.W.Frag} {d : DA} {H H' : Hp} (h : Deal K H d) (s : Same H H') : Dr K d H H' := by
  obtain ⟨i, r, l, m, e, hc, v⟩ := h
  exact ⟨⟨i, r, l, m, s _ _ e, (Same.del s d.a).seq hc, v⟩, Same.del s d.a⟩
/-- what stands beside the store -/
theorem del_of {H : Hp} {d p : Addr} {o : HO} (h : L2.del H d p = some o) : H p = some o ∧ p ≠ d := by
  by_cases hp : p = d
  · rw [hp, del_same] at h
    cases h
  · rw [del_ne hp] at h
    exact ⟨h, hp⟩
theorem del_same' {H : Hp} {d : Addr} : Same (L2.del H d) H := fun _ _ e => (del_of e).1
theorem Deal.ne {K : PySem.W.Frag} {d : DA} {p : Addr} {H : Hp} (h : Deal K H d) (n : H p = none) : p ≠ d.a := by
  obtain ⟨i, r, l, m, e, _⟩ := h
  exact (ne_of_none e n).symm
theorem Deal.at {K : PySem.W.Frag} {d : DA} {p : Addr} {H H' : Hp} {o : HO} (h : Deal K H d) (n : H p = none) (e : H' p = some o) : L2.del H' d.a p = some o := by
  rw [del_ne (h.ne n)]
  exact e
/-- a fresh object beside the store changes -/
theorem Dr.put {K : PySem.W.Frag} {d : DA} {H H' : Hp} {p : Addr} {o : HO} (hd : Deal K H d) (r : Dr K d H H') (hp : H p = none) : Dr K d H (upd H' p o) := by
  have hpd := hd.ne hp
  have hs : Same (L2.del H d.a) (L2.del (upd H' p o) d.a) := fun b u eb => by
    have z := r.same b u eb
    obtain ⟨z1, z2⟩ := del_of z
    obtain ⟨w1, w2⟩ := del_of eb
    rw [del_ne w2, upd_ne (ne_of_none w1 hp)]
    exact z1
  obtain ⟨i, x, l, m, e, hc, v⟩ := r.deal
  obtain ⟨_, _, _, _, _, hc0, _⟩ := hd
  exact ⟨⟨i, x, l, m, by rw [upd_ne hpd.symm]; exact e, hs.seq hc0, v⟩, hs⟩
end G

/-! A7: loops and comprehensions. -/
namespace G
open PySem PySem.Spec PyProof.Rows L2 TL

/-! ### what is walked -/
def kR1 (R : It → Hp → Prop) : List V → Hp → Prop := fun vs H1 => ∃ j : Int, vs = [.int j] ∧ -(2 ^ 62) ≤ j ∧ j < 2 ^ 62 ∧ R (Itr 0 j.toNat) H1
def kR2 (R : It → Hp → Prop) : List V → Hp → Prop := fun vs H1 => ∃ i j : Int, vs = [.int i, .int j] ∧ (-(2 ^ 62) ≤ i ∧ i < 2 ^ 62 ∧ -(2 ^ 62) ≤ j ∧ j < 2 ^ 62) ∧ R (Itr i (j - i).toNat) H1
def kIL (K : PySem.W.Frag) (R : It → Hp → Prop) : VK := fun x H1 => ∃ a, x = .ref a ∧ (∃ xs, SqL K H1 a xs) ∧ R (Itl K a) H1
def kIT (K : PySem.W.Frag) (R : It → Hp → Prop) : VK := fun x H1 => ∃ a, x = .ref a ∧ (∃ xs, SqT K H1 a xs) ∧ R (Itt K a) H1
def kIS (R : It → Hp → Prop) : VK := fun v H1 => ∃ x, v = .str x ∧ R (Its x) H1
def kFor (g : TG) (tb : TS) (D : Ends) (σ : L2.St) : It → Hp → Prop := fun J H1 => ∃ W : Nat → Nat → L2.St → Hp → Prop, (∃ m, W 0 m σ H1) ∧ ∀ i m σ H, W i m σ H →
  (J.stop i H ∧ D.nx σ H) ∨ (J.go i H ∧ ∃ N : L2.St → Hp → Prop, (∀ σ' H', N σ' H' → ∃ m', m' < m ∧ W (i + 1) m' σ' H') ∧ ∀ x H', J.yld i H x H' → g x σ H' fun σ2 H2 => tb { D with nx := N, ct := N, bk := D.nx } σ2 H2)
def kLc (g : TG) (tt : TT) (te : TE) (vs : List Nat) (σ : L2.St) (Q : VK) : It → Hp → Prop := fun J H1 => ∀ D, H1 D = none → ∃ W : Nat → Nat → Hp → Prop, (∃ m, W 0 m (upd H1 D (.lst []))) ∧ ∀ i m H, W i m H →
  (J.stop i H ∧ Q (.ref D) H) ∨ (J.go i H ∧ ∃ Nx : Hp → Prop, (∀ H', Nx H' → ∃ m', m' < m ∧ W (i + 1) m' H') ∧ ∀ x H', J.yld i H x H' → g x (wipe σ vs) H' fun σ2 H2 => wipe σ2 vs = wipe σ vs ∧ tt σ2 H2 fun b H3 =>
    if b = true then te σ2 H3 fun y H4 => ∃ acc, H4 D = some (.lst acc) ∧ acc.length < sizeLine ∧ Nx (upd H4 D (.lst (acc ++ [y]))) else Nx H3)
section
variable {σ : L2.St} {H : Hp} {Q : VK} {R : It → Hp → Prop} {K : PySem.W.Frag} {ta : TA} {te : TE} {g : TG} {tt : TT} {tb : TS} {D : Ends} {wi : TI} {vs : List Nat} {l : List Nat}
instance : Go (iRng1 ta σ H R) (ta σ H (kR1 R)) := ⟨id⟩
instance : Go (iRng2 ta σ H R) (ta σ H (kR2 R)) := ⟨id⟩
instance : Go (iList K te σ H R) (te σ H (kIL K R)) := ⟨id⟩
instance : Go (iTup K te σ H R) (te σ H (kIT K R)) := ⟨id⟩
instance : Go (iStr te σ H R) (te σ H (kIS R)) := ⟨id⟩
instance : Go (kIS R (S l) H) (R (Its (mk l)) H) := ⟨fun q => ⟨_, rfl, q⟩⟩
instance : Go (tFor wi g tb D σ H) (wi σ H (kFor g tb D σ)) := ⟨id⟩
instance : Go (tLc wi g tt te vs σ H Q) (wi σ H (kLc g tt te vs σ Q)) := ⟨id⟩
theorem go_r1 {j : Int} (h : R (Itr 0 j.toNat) H) (hj : -(2 ^ 62) ≤ j ∧ j < 2 ^ 62) : kR1 R [.int j] H := ⟨j, rfl, hj.1, hj.2, h⟩
theorem go_r2 {i j : Int} (h : R (Itr i (j - i).toNat) H) (hj : -(2 ^ 62) ≤ i ∧ i < 2 ^ 62 ∧ -(2 ^ 62) ≤ j ∧ j < 2 ^ 62) : kR2 R [.int i, .int j] H := ⟨i, j, rfl, hj, h⟩
theorem go_il {a : Addr} {xs : List V} (hx : SqL K H a xs) (h : R (Itl K a) H) : kIL K R (.ref a) H := ⟨a, rfl, ⟨xs, hx⟩, h⟩
theorem go_it {a : Addr} {xs : List V} (hx : SqT K H a xs) (h : R (Itt K a) H) : kIT K R (.ref a) H := ⟨a, rfl, ⟨xs, hx⟩, h⟩
end
theorem walk_s {l : List Nat} : Walk (Its (mk l)) l.length (fun _ => True) (fun i H v H' => H' = H ∧ ∃ c, l[i]? = some c ∧ v = S [c]) := by
  have w := walk_str (z := mk l)
  have e : (mk l).cps.size = l.length := by simp
  rw [e] at w
  exact w.mono (fun _ h => h) fun i H x H' _ _ ⟨h1, c, h2, h3⟩ => ⟨h1, c, by simpa using h2, h3⟩

/-! ### comprehensions -/
/-- what a test, an expression comes to, new objects aside -/
def PT1 (tt : TT) (σ : L2.St) (H : Hp) (b : Bool) : Prop := ∀ Q : Bool → Hp → Prop, (∀ H', Same H H' → Q b H') → tt σ H Q
def PE1 (te : TE) (σ : L2.St) (H : Hp) (v : V) : Prop := ∀ Q : VK, (∀ H', Same H H' → Q v H') → te σ H Q
theorem upd_of {H : Hp} {p : Addr} {o : HO} (h : H p = none) : Same H (upd H p o) := fun b u e => by
  rw [upd_ne (ne_of_none e h)]
  exact e
theorem upd_keep {H H' : Hp} {p : Addr} {o : HO} (h : H p = none) (s : Same H H') : Same H (upd H' p o) := fun b u e => by
  rw [upd_ne (ne_of_none e h)]
  exact s b u e
theorem Same.none {H H' : Hp} {p : Addr} (s : Same H H') (h : H' p = none) : H p = none := s.free h
def kept (n : Nat) (b : Nat → Bool) (v : Nat → V) : List V := ((List.range n).filter b).map v
theorem kept_yes {n : Nat} {b : Nat → Bool} {v : Nat → V} (h : b n = true) : kept (n + 1) b v = kept n b v ++ [v n] := by
  unfold kept
  rw [List.range_succ, List.filter_append, List.map_append]
  simp [h]
theorem kept_no {n : Nat} {b : Nat → Bool} {v : Nat → V} (h : b n = false) : kept (n + 1) b v = kept n b v := by
  unfold kept
  rw [List.range_succ, List.filter_append, List.map_append]
  simp [h]
theorem kept_len (n : Nat) (b : Nat → Bool) (v : Nat → V) : (kept n b v).length ≤ n := by
  unfold kept
  rw [List.length_map]
  have h := List.length_filter_le b (List.range n)
  rw [List.length_range] at h
  exact h
theorem kept_all (n : Nat) (v : Nat → V) : kept n (fun _ => true) v = (List.range n).map v := by
  unfold kept
  rw [List.filter_eq_self.mpr (fun _ _ => rfl)]
/-- the elements have no objects of their own; the walked thing gives f i -/
theorem go_lcP {J : It} {n : Nat} {Gd : Hp → Prop} {f : Nat → V} (w : Walk J n Gd (fun i H x H' => H' = H ∧ x = f i)) {j : Nat} {tt : TT} {te : TE} {vs : List Nat} {σ : L2.St} {H : Hp} {Q : VK} (b : Nat → Bool) (v : Nat → V)
    (hG : ∀ H', Same H H' → Gd H') (hw : ∀ x, wipe ((wipe σ vs).set j (some x)) vs = wipe σ vs) (hn : n ≤ 1000000)
    (ht : ∀ i H', i < n → Same H H' → PT1 tt ((wipe σ vs).set j (some (f i))) H' (b i)) (he : ∀ i H', i < n → Same H H' → b i = true → PE1 te ((wipe σ vs).set j (some (f i))) H' (v i))
    (q : ∀ D H', H D = none → Same H H' → H' D = some (.lst (kept n b v)) → Q (.ref D) H') : kLc (gName j) tt te vs σ Q J H := fun D hD => by
  refine lc_it w (Pv := fun i H' => Same H H' ∧ H' D = some (.lst (kept i b v))) ⟨upd_of hD, upd_same⟩ (fun i H' _ p => hG H' p.1) ?_ (fun H' p => q D H' hD p.1 p.2)
  rintro i x H1 H' hi ⟨s1, e1⟩ ⟨rfl, rfl⟩
  refine ⟨hw _, ht i H' hi s1 _ fun H2 s2 => ?_⟩
  by_cases hb : b i = true
  · rw [hb]
    rw [if_pos rfl]
    refine he i H2 hi (s1.trans s2) hb _ fun H3 s3 => ⟨_, s3 _ _ (s2 _ _ e1), ?_, ?_, ?_⟩
    · have := kept_len i b v
      have := sizeLine_eq
      omega
    · exact upd_keep hD ((s1.trans s2).trans s3)
    · rw [upd_same, kept_yes hb]
  · have hb' : b i = false := by simpa using hb
    rw [hb', if_neg (by decide)]
    refine ⟨s1.trans s2, ?_⟩
    rw [kept_no hb']
    exact s2 _ _ e1
/-- elements drawn one by one -/
theorem go_lcD {K : PySem.W.Frag} {d : DA} {J : It} {n : Nat} {Gd : Hp → Prop} {f : Nat → V} (w : Walk J n Gd (fun i H x H' => H' = H ∧ x = f i)) {j : Nat} {te : TE} {vs : List Nat} {σ : L2.St} {H : Hp} {Q : VK} (Pr : Nat → V → Prop)
    (hd : Deal K H d) (hG : ∀ H', Dr K d H H' → Gd H') (hw : ∀ x, wipe ((wipe σ vs).set j (some x)) vs = wipe σ vs) (hn : n ≤ 1000000)
    (he : ∀ i H', i < n → Dr K d H H' → ∀ Q' : VK, (∀ y H'', Dr K d H' H'' → Pr i y → Q' y H'') → te ((wipe σ vs).set j (some (f i))) H' Q')
    (q : ∀ D H' ys, H D = none → Dr K d H H' → L2.del H' d.a D = some (.lst ys) → ys.length = n → (∀ i y, ys[i]? = some y → Pr i y) → Q (.ref D) H') : kLc (gName j) tYes te vs σ Q J H := fun D hD => by
  have hDd : D ≠ d.a := hd.ne hD
  refine lc_it w (Pv := fun i H' => ∃ ys, Dr K d H H' ∧ H' D = some (.lst ys) ∧ ys.length = i ∧ ∀ i y, ys[i]? = some y → Pr i y) ⟨[], hd.same (upd_of hD), upd_same, rfl, fun i y e => by cases e⟩ (fun i H' _ ⟨ys, p, _⟩ => hG H' p) ?_ (fun H' ⟨ys, p1, p2, p3, p4⟩ => q D H' ys hD p1 (by rw [del_ne hDd]; exact p2) p3 p4)
  rintro i x H1 H' hi ⟨ys, p1, p2, p3, p4⟩ ⟨rfl, rfl⟩
  refine ⟨hw _, ?_⟩
  unfold tYes
  dsimp only
  rw [if_pos rfl]
  refine he i H' hi p1 _ fun y H2 r hy => ?_
  have e2 : H2 D = some (.lst ys) := by
    have z := r.same D _ (by rw [del_ne hDd]; exact p2)
    rw [del_ne hDd] at z
    exact z
  refine ⟨ys, e2, by have := sizeLine_eq; omega, ys ++ [y], ?_, upd_same, by rw [List.length_append, p3]; rfl, fun k z e => ?_⟩
  · exact Dr.put hd (p1.trans r) hD
  · by_cases hk : k < ys.length
    · rw [List.getElem?_append_left hk] at e
      exact p4 k z e
    · rw [List.getElem?_append_right (by omega)] at e
      have hk2 : k - ys.length = 0 := by
        cases h : k - ys.length with
        | zero => rfl
        | succ m => rw [h] at e; cases e
      rw [hk2] at e
      cases e
      have : k = i := by omega
      subst this
      exact hy
end G

/-! A8: join and words. -/
namespace G
open PySem PySem.Spec PyProof.Rows L2 TL
theorem joinL_nil : ∀ ls : List (List Nat), joinL [] ls = ls.flatten
  | [] => rfl
  | [x] => by simp [joinL]
  | x :: y :: r => by
    have ih := joinL_nil (y :: r)
    show x ++ ([] ++ joinL [] (y :: r)) = _
    rw [ih]
    simp
def rJoin (K : PySem.W.Frag) : V → List V → Hp → VK → Prop := fun x xs H Q => ∃ (p : Addr) (ls : List (List Nat)), x = S [] ∧ xs = [.ref p] ∧ SqL K H p (ls.map S) ∧ ls.flatten.length + ls.length ≤ 1000000 ∧ Q (S ls.flatten) H
theorem mt_joinU {X : Cx} : MtR X "str.join" (rJoin X.K) := by
  intro pins s σ H x xs v us Q I rx rxs h
  obtain ⟨p, ls, rfl, rfl, hs, hl, q⟩ := h
  have e1 : ls.map S = (ls.map mk).map V.str := by rw [List.map_map]; rfl
  rw [e1] at hs
  have e2 : Txt.join (mk []) (ls.map mk) = mk ls.flatten := by
    rw [join_eq]
    apply ext_tl
    rw [tl_join, List.map_map, show (tl ∘ mk) = id from rfl, List.map_id]
    exact joinL_nil ls
  refine mt_join pins s σ H _ _ v us Q I rx rxs ⟨_, p, ls.map mk, rfl, rfl, .inl hs, ?_, by rw [e2]; exact q⟩
  have e3 : (ls.map mk).map (fun x => x.length) = ls.map List.length := by
    rw [List.map_map]
    exact List.map_congr_left fun x _ => mk_len x
  have e4 : (mk []).length = 0 := rfl
  rw [e3, e4, Nat.mul_zero, ← List.length_flatten]
  omega

/-! ### word texts -/
/-- the text p(c) -/
def wt (p c : List Nat) : List Nat := p ++ 40 :: (c ++ [41])
/-- a prefix and a cycle over the letters -/
structure Lw (ls p c : List Nat) : Prop where
  p12 : p.length ≤ 12
  c1 : 1 ≤ c.length
  c4 : c.length ≤ 4
  pl : ∀ x ∈ p, x ∈ ls
  cl : ∀ x ∈ c, x ∈ ls
/-- the three letters -/
abbrev BIO : List Nat := [66, 73, 79]
theorem wt_len {p c : List Nat} : (wt p c).length = p.length + c.length + 2 := by
  unfold wt
  simp
  omega
theorem Lw.no40 {ls p c : List Nat} (h : Lw ls p c) (hl : 40 ∉ ls) : 40 ∉ p := fun z => hl (h.pl 40 z)
theorem split_inj {a : Nat} : ∀ {p q r s : List Nat}, a ∉ p → a ∉ q → p ++ a :: r = q ++ a :: s → p = q ∧ r = s
  | [], [], _, _, _, _, e => ⟨rfl, (List.cons.inj e).2⟩
  | [], y :: q, _, _, _, hq, e => absurd (List.mem_cons.mpr (.inl (List.cons.inj e).1)) hq
  | x :: p, [], _, _, hp, _, e => absurd (List.mem_cons.mpr (.inl (List.cons.inj e).1.symm)) hp
  | x :: p, y :: q, r, s, hp, hq, e => by
    obtain ⟨e1, e2⟩ := List.cons.inj e
    obtain ⟨h1, h2⟩ := split_inj (fun z => hp (List.mem_cons_of_mem _ z)) (fun z => hq (List.mem_cons_of_mem _ z)) e2
    exact ⟨by rw [e1, h1], h2⟩
theorem wt_inj {ls p c q e : List Nat} (hl : 40 ∉ ls) (h : Lw ls p c) (hq : 40 ∉ q) (w : wt p c = wt q e) : p = q ∧ c = e := by
  obtain ⟨h1, h2⟩ := split_inj (h.no40 hl) hq w
  exact ⟨h1, List.append_cancel_right h2⟩
/-- no word text: no text, or a text of another form -/
def BadW (K : PySem.W.Frag) (ls : List Nat) (H : Hp) (v : V) : Prop := isiB K H v "str" false ∨ ∃ l, v = S l ∧ l.length ≤ 1000000 ∧ ∀ p c, l = wt p c → ¬ Lw ls p c
end G

/-! A9: endswith, upper, dicts of the top, enumerate of a text, copies, errors with one value. -/
namespace G
open PySem PySem.Spec PyProof.Rows L2 TL
theorem mt_ends {X : Cx} : MtR X "str.endswith" rEndS := by
  intro pins s σ H x xs v us Q I rx rxs h
  obtain ⟨l, c, rfl, rfl, q⟩ := h
  exact mt_endswith pins s σ H _ _ v us Q I rx rxs ⟨_, _, rfl, rfl, by rw [ends1]; exact q⟩
theorem call_isiU {X : Cx} : CallR X (.builtin "isinstance") (rIsiU X.K) := call_isi
def rUp : V → List V → Hp → VK → Prop := fun x xs H Q => ∃ l : List Nat, x = S l ∧ xs = [] ∧ l.length ≤ 1000000 ∧ (∀ c ∈ l, c < 128) ∧ Q (S (l.map up1)) H
theorem mt_upU {X : Cx} : MtR X "str.upper" rUp := by
  intro pins s σ H x xs v us Q I rx rxs h
  obtain ⟨l, rfl, rfl, hl, ha, q⟩ := h
  refine mt_upper pins s σ H _ _ v us Q I rx rxs ⟨_, rfl, rfl, by rw [mk_len]; omega, ?_⟩
  have e : Txt.upper (mk l) = mk (l.map up1) := by
    rw [upper_ascii (x := mk l) ha]
    show (⟨(l.toArray).map up1⟩ : Str) = ⟨(l.map up1).toArray⟩
    rw [List.map_toArray]
  rw [e]
  exact q

/-! ### a dict of the top, texts as keys -/
structure TabD (K : PySem.W.Frag) (w : World) (a : Addr) (kvs : List (List Nat × V)) : Prop where
  kd : ∃ es n, KDict K w a es n
  has : ∀ kv ∈ kvs, ∃ u, PySem.W.nsIn K a (mk kv.1) = some (some u) ∧ RelV kv.2 u
  not : ∀ l : List Nat, (∀ kv ∈ kvs, l ≠ kv.1) → PySem.W.nsIn K a (mk l) = some none
theorem find_keys {P : Params} {x : Str} : ∀ {l : List DictEntry} {ks : List Str}, l.map He.keyOf = He.keysIn P ks → x ∉ ks → l.find? (·.key.isStr x) = none ∧ l.any (·.refKey) = false
  | [], _, _, _ => ⟨rfl, rfl⟩
  | e :: r, [], h, _ => by cases h
  | e :: r, k :: ks, h, hx => by
    have h1 : He.keyOf e :: r.map He.keyOf = some (k, PyData.keyHash P k) :: He.keysIn P ks := h
    injection h1 with h2 h3
    obtain ⟨i1, i2⟩ := find_keys h3 (fun z => hx (List.mem_cons_of_mem _ z))
    unfold He.keyOf at h2
    split at h2
    · rename_i y t q
      obtain ⟨h5, h6⟩ := Prod.mk.inj (Option.some.inj h2)
      have hne : y ≠ x := fun z => hx (by rw [← z, h5]; exact List.mem_cons_self)
      have e1 : e.key.isStr x = false := by
        rw [q]
        show (y == x) = false
        simpa using hne
      have e2 : e.refKey = false := by
        unfold DictEntry.refKey
        rw [q]
      constructor
      · rw [List.find?_cons, e1]
        exact i1
      · rw [List.any_cons, e2, i2]
        rfl
    · cases h2
theorem nsIn_none {K : PySem.W.Frag} {w : World} {a : Addr} {ks : List Str} {x : Str} (h : He.dicW K a = some (He.keysIn w.params ks)) (hx : x ∉ ks) : PySem.W.nsIn K a x = some none := by
  unfold He.dicW at h
  unfold PySem.W.nsIn
  cases q : K.lookup a with
  | none =>
    rw [q] at h
    cases h
  | some o =>
    obtain ⟨oc, od, dt, osl⟩ := o
    rw [q] at h
    cases oc with
    | type c =>
      cases od with
      | none =>
        cases dt with
        | dict es n =>
          have h1 : (match decide (c = "dict") && (osl.isEmpty && !(a == sysModules)) with
            | true => some (es.toList.map He.keyOf)
            | false => none) = some (He.keysIn w.params ks) := h
          cases z : decide (c = "dict") && (osl.isEmpty && !(a == sysModules)) with
          | false =>
            rw [z] at h1
            cases h1
          | true =>
            rw [z] at h1
            obtain ⟨f1, f2⟩ := find_keys (Option.some.inj h1) hx
            dsimp only
            rw [f1, f2]
            rfl
        | _ => cases h
      | some b => cases dt <;> cases h
    | _ => cases od <;> cases dt <;> cases h
theorem tabD_of {fa : List He.Fa} {fn : List He.DefD} {ts : List He.Tab} {w : World} {K : PySem.W.Frag} (c : He.SaysT fa fn ts w K) (i : Nat) {t : He.Tab} (kvs : List (List Nat × V)) (h : ts[i]? = some t) (hk : t.2 = kvs.map fun kv => mk kv.1)
    (hv : ∀ kv ∈ kvs, ∃ u, PySem.W.nsIn K (t.1 K) (mk kv.1) = some (some u) ∧ RelV kv.2 u) : TabD K w (t.1 K) kvs := by
  refine ⟨c.tab i h, hv, fun l hl => ?_⟩
  have e : ts.map (fun t => He.dicW K (t.1 K)) = ts.map fun t => some (He.keysIn w.params t.2) := congrArg (fun z : He.AlT => z.2) c
  have e2 : (ts.map fun t => He.dicW K (t.1 K))[i]? = (ts.map fun t => some (He.keysIn w.params t.2))[i]? := by rw [e]
  rw [List.getElem?_map, List.getElem?_map, h] at e2
  refine nsIn_none (ks := t.2) (Option.some.inj e2) ?_
  rw [hk]
  intro z
  obtain ⟨kv, hkv, ekv⟩ := List.mem_map.mp z
  exact hl kv hkv (mk_inj ekv).symm
def tabB (K : PySem.W.Frag) (a : Addr) (kvs : List (List Nat × V)) : Bool := kvs.all fun q => match PySem.W.nsIn K a (mk q.1) with
  | some (some u) => He.relB q.2 u
  | _ => false
theorem tabB_ok {K : PySem.W.Frag} {a : Addr} {kvs : List (List Nat × V)} (h : tabB K a kvs = true) : ∀ kv ∈ kvs, ∃ u, PySem.W.nsIn K a (mk kv.1) = some (some u) ∧ RelV kv.2 u := fun q hq => by
  have h2 := List.all_eq_true.mp h q hq
  cases e : PySem.W.nsIn K a (mk q.1) with
  | none =>
    rw [e] at h2
    cases h2
  | some r =>
    rw [e] at h2
    cases r with
    | none => cases h2
    | some u => exact ⟨u, rfl, He.relB_ok h2⟩
def rNinD (a : Addr) (kvs : List (List Nat × V)) : R2 := fun x y H Q => ∃ l : List Nat, x = S l ∧ y = .ref a ∧ ((∀ kv ∈ kvs, l ≠ kv.1) → Q (.bl true) H) ∧ ((∃ kv ∈ kvs, l = kv.1) → Q (.bl false) H)
theorem op_ninD {X : Cx} {a : Addr} {kvs : List (List Nat × V)} (T : TabD X.K X.w a kvs) : OpR X (compareOp .NotIn) (rNinD a kvs) := by
  intro pins s σ H x y v u Q I rx ry h
  obtain ⟨l, rfl, rfl, h1, h2⟩ := h
  obtain ⟨es, n, kd⟩ := T.kd
  by_cases hl : ∃ kv ∈ kvs, l = kv.1
  · have q := h2 hl
    obtain ⟨kv, hkv, rfl⟩ := hl
    obtain ⟨u', e, _⟩ := T.has kv hkv
    exact op_notIn_kd kd pins s σ H _ _ v u Q I rx ry ⟨_, _, rfl, rfl, e, q⟩
  · have hn : ∀ kv ∈ kvs, l ≠ kv.1 := fun kv hkv e => hl ⟨kv, hkv, e⟩
    exact op_notIn_kd kd pins s σ H _ _ v u Q I rx ry ⟨_, _, rfl, rfl, T.not l hn, h1 hn⟩
/-- d[key], the key is there -/
def rIxDU (a : Addr) (kvs : List (List Nat × V)) : R2 := fun x y H Q => ∃ kv ∈ kvs, x = .ref a ∧ y = S kv.1 ∧ Q kv.2 H
theorem ix_D {X : Cx} {a : Addr} {kvs : List (List Nat × V)} (T : TabD X.K X.w a kvs) : IxR X (rIxDU a kvs) := by
  intro value slice pins s σ H x y v u Q I rx ry h hs
  obtain ⟨kv, hkv, rfl, rfl, q⟩ := h
  obtain ⟨es, n, kd⟩ := T.kd
  obtain ⟨u', e, r⟩ := T.has kv hkv
  exact ix_kdict value slice pins s σ H _ _ v u Q I rx ry ⟨_, _, _, rfl, rfl, ⟨es, n, u', kd.at_, kd.lit, e, r⟩, q⟩ hs

/-! ### enumerate(text) -/
def IteS (x : Str) : It :=
  ⟨fun i _ => i < x.cps.size, fun i H v H' => ∃ T c, v = .ref T ∧ H T = none ∧ H' = upd H T (.tup [.int (i : Nat), .str ⟨#[c]⟩]) ∧ x.cps[i]? = some c, fun i _ => x.cps.size ≤ i⟩
theorem draws_str {prog : Program} {w : World} {A : Around} (hh : A.handled = none) (it : Addr) (x : Str) (t : Tok) :
    Draws prog w A it [it] x.cps.size (fun i v => ∃ c u, x.cps[i]? = some c ∧ v = .str ⟨#[c]⟩ u) (fun i h => h.IsStrIter it (strIterType x) x t i) := by
  unfold strIterType
  split
  · exact Draws.strAscii hh it x t
  · exact Draws.strWide hh it x t
theorem turn_enumS {P : Program} {w : World} {K : PySem.W.Frag} {elts : List Expr} {kk : Nat} {tpos : Pos} (x : Str) (t : Tok) (e it : Addr) :
    Turn P w K (.Tuple elts kk tpos) (IteS x) [e, it] e (fun i h => (∃ old, IsEnum h e it ((i : Nat) : Int) old) ∧ h.IsStrIter it (strIterType x) x t i ∧ e ≠ it ∧ i ≤ x.cps.size) where
  mem := by simp
  obj := fun i h st b hb => by
    obtain ⟨⟨old, he⟩, ⟨o, ho, hc, hd⟩, _⟩ := st
    have e' : b = e ∨ b = it := by simpa using hb
    rcases e' with z | z
    · rw [z]; exact ⟨_, he, fun v q => nomatch q⟩
    · rw [z]; exact ⟨o, ho, fun v q => by rw [hd] at q; cases q⟩
  keep := fun i h h' st k => let ⟨⟨old, he⟩, hi, hne⟩ := st; ⟨⟨old, k e (by simp) _ he⟩, (let ⟨o, ho, r⟩ := hi; ⟨o, k it (by simp) o ho, r⟩), hne⟩
  item := by
    intro X hP hw hK hc i pins s σ H E I hf st hg
    subst hP hw hK
    obtain ⟨⟨old, he⟩, hit, hne, _⟩ := st
    have D := draws_str (prog := X.prog) (w := X.w) (A := X.A.in1) (I.ok.hd hc) it x t
    have hel : e < s.heap.objs.size := Heap.lt_size he
    have hil : it < s.heap.objs.size := by obtain ⟨_, q, _⟩ := hit; exact Heap.lt_size q
    refine wpAny_pyNext_enum_itemD D he hit hg hne (by simpa using hne) fun y h' tk hP ho hit' hT hsz hk => ?_
    obtain ⟨c, u, hcx, rfl⟩ := hP
    refine ⟨_, rfl, wpAny_letOwnedTupleGo_enum (s := { s with heap := h', toks := tk + 1 }) ho fun h'' he' sb => ?_⟩
    have hT2 : h''.get? s.heap.objs.size = some { cls := .type "tuple", data := .seq #[.int i tk, .str ⟨#[c]⟩ u] } := (sb.2 _ (Nat.ne_of_gt hel)).trans hT
    have new : ObjOk X.prog X.w (upd H s.heap.objs.size (.tup [.int (i : Nat), .str ⟨#[c]⟩])) h'' s.heap.objs.size (.tup [.int (i : Nat), .str ⟨#[c]⟩]) :=
      ⟨by show 2 ≤ sizeLine; decide, [.int i tk, .str ⟨#[c]⟩ u], .cons ⟨_, rfl⟩ (.cons ⟨_, rfl⟩ .nil), ⟨_, hT2, rfl, _, rfl⟩⟩
    have I1 : Inv X pins σ (upd H s.heap.objs.size (.tup [.int (i : Nat), .str ⟨#[c]⟩])) { s with heap := h'', toks := tk + 1 } :=
      I.turnedNew (ch := [e, it]) (fun b ob hb q => (sb.2 b (fun z => hb (by simp [z]))).trans (hk b ob (fun z => hb (by simp [z])) (fun z => hb (by simp [z])) q)) hf (Nat.le_refl _) new
    refine ⟨.ref s.heap.objs.size, _, I1, rfl, ⟨_, c, rfl, I.hok.fresh (Nat.le_refl _), rfl, hcx⟩, ⟨⟨.str ⟨#[c]⟩ u, ?_⟩, (let ⟨o, ho', r⟩ := hit'; ⟨o, (sb.2 it (Ne.symm hne)).trans ho', r⟩), hne, hg⟩, fun b hb => ?_⟩
    · have e1 : ((i + 1 : Nat) : Int) = (i : Int) + 1 := by omega
      rw [e1]; exact he'
    · have hb' : b < s.heap.objs.size := by
        have e' : b = e ∨ b = it := by simpa using hb
        rcases e' with z | z
        · rw [z]; exact hel
        · rw [z]; exact hil
      rw [upd_ne (Nat.ne_of_lt hb')]
      exact (hf b hb).1
  done := by
    intro X hP hw hK hc i pins s σ H E I hf st hg
    subst hP hw hK
    obtain ⟨⟨old, he⟩, hit, hne, hi⟩ := st
    have D := draws_str (prog := X.prog) (w := X.w) (A := X.A.in1) (I.ok.hd hc) it x t
    obtain ⟨f0, f1, f2, f3, f4, f5⟩ := hf it (by simp)
    have ei : i = x.cps.size := Nat.le_antisymm hi hg
    subst ei
    exact wpAny_pyNext_enum_endD D he hit fun h' eb => ⟨rfl, I.turned (t' := s.toks) (fun b o hb q => eb b o hb q) f0 f1 f3 f4 f5⟩
  self := fun A i s Q E st h => let ⟨⟨_, he⟩, _⟩ := st; wpAny_pyIter_enum he h
def iEnumS (ta : TA) : TI := fun σ H R => ta σ H fun vs H1 => ∃ x, vs = [.str x] ∧ R (IteS x) H1
theorem pi_enumS {X : Cx} {e : Expr} {ta : TA} {p pos tpos : Pos} {elts : List Expr} {kk : Nat} (hg : Gl X "enumerate") (hm : X.mg "enumerate" = none) (ha : PA X [e] ta) (hs : starEach [e] X.env = [(false, eval e X.env)] := by rfl) :
    PI X (.Tuple elts kk tpos) (.Call (.Name "enumerate" p) [e] [] pos) (iEnumS ta) := by
  refine ⟨fun pins s σ H R I h => ?_⟩
  refine Call_ (ld_blt I hg hm boot_enumerate (PyProof.Rows.callWith_type1 (thn (ha.run pos pins s σ H _ I h) fun us s1 ⟨vs, H1, I1, r1, q1⟩ => ?_) hs rfl))
  obtain ⟨x, ex, q⟩ := q1
  subst ex
  cases r1 with
  | cons r rr =>
    cases rr
    obtain ⟨t, rfl⟩ := r
    refine call_enumerate_str fun h' he hit hsz hk => wpAny_pyIter_enum he ?_
    have I2 : Inv X pins σ H1 { s1 with heap := h' } := I1.kept (t' := s1.toks) hk
    refine ⟨s1.heap.objs.size + 1, [s1.heap.objs.size + 1, s1.heap.objs.size], _, _, H1, rfl, I2, turn_enumS x t (s1.heap.objs.size + 1) s1.heap.objs.size, ⟨⟨.none, he⟩, hit, Nat.succ_ne_self _, Nat.zero_le _⟩, fun b hb => ?_, q⟩
    have e' : b = s1.heap.objs.size + 1 ∨ b = s1.heap.objs.size := by simpa using hb
    have hle : s1.heap.objs.size ≤ b := by
      rcases e' with z | z
      · rw [z]; exact Nat.le_add_right _ _
      · rw [z]; exact Nat.le_refl _
    exact I1.fpOk hle (I1.hok.fresh hle)
def kES (R : It → Hp → Prop) : List V → Hp → Prop := fun vs H1 => ∃ x, vs = [.str x] ∧ R (IteS x) H1
section
variable {σ : L2.St} {H : Hp} {R : It → Hp → Prop} {ta : TA} {l : List Nat}
instance : Go (iEnumS ta σ H R) (ta σ H (kES R)) := ⟨id⟩
instance : Go (kES R [S l] H) (R (IteS (mk l)) H) := ⟨fun q => ⟨_, rfl, q⟩⟩
end
theorem walk_enumS {l : List Nat} : Walk (IteS (mk l)) l.length (fun _ => True) (fun i H v H' => ∃ T, v = .ref T ∧ H T = none ∧ H' = upd H T (.tup [.int (i : Nat), S [l.getD i 0]])) := by
  have e : (mk l).cps.size = l.length := by simp
  refine ⟨fun i H hi _ => by rw [← e] at hi; exact hi, fun H _ => by show (mk l).cps.size ≤ _; rw [e]; exact Nat.le_refl _, fun i H v H' hi _ y => ?_⟩
  obtain ⟨T, c, h1, h2, h3, h4⟩ := y
  refine ⟨T, h1, h2, ?_⟩
  have h5 : l[i]? = some c := by simpa using h4
  have h6 : l.getD i 0 = c := by rw [List.getD_eq_getElem?_getD, h5]; rfl
  rw [h3, h6]
/-- a comprehension over new pairs -/
theorem go_lcE {K : PySem.W.Frag} {J : It} {n : Nat} {Gd : Hp → Prop} {f1 f2 : Nat → V} (w : Walk J n Gd (fun i H x H' => ∃ T, x = .ref T ∧ H T = none ∧ H' = upd H T (.tup [f1 i, f2 i]))) {j1 j2 : Nat} {tt : TT} {te : TE} {vs : List Nat} {σ : L2.St} {H : Hp} {Q : VK} (b : Nat → Bool) (v : Nat → V)
    (hG : ∀ H', Same H H' → Gd H') (hw : ∀ x y, wipe (((wipe σ vs).set j1 (some x)).set j2 (some y)) vs = wipe σ vs) (hn : n ≤ 1000000)
    (ht : ∀ i H', i < n → Same H H' → PT1 tt (((wipe σ vs).set j1 (some (f1 i))).set j2 (some (f2 i))) H' (b i)) (he : ∀ i H', i < n → Same H H' → b i = true → PE1 te (((wipe σ vs).set j1 (some (f1 i))).set j2 (some (f2 i))) H' (v i))
    (q : ∀ D H', H D = none → Same H H' → H' D = some (.lst (kept n b v)) → Q (.ref D) H') : kLc (gTup K 2 (gCons (gName j1) (gCons (gName j2) gNil))) tt te vs σ Q J H := fun D hD => by
  refine lc_it w (Pv := fun i H' => Same H H' ∧ H' D = some (.lst (kept i b v))) ⟨upd_of hD, upd_same⟩ (fun i H' _ p => hG H' p.1) ?_ (fun H' p => q D H' hD p.1 p.2)
  rintro i x H1 H' hi ⟨s1, e1⟩ ⟨T, rfl, hT, rfl⟩
  have s1' : Same H1 (upd H1 T (.tup [f1 i, f2 i])) := upd_of hT
  refine ⟨T, [f1 i, f2 i], rfl, SqT.of upd_same, rfl, f1 i, [f2 i], rfl, f2 i, [], rfl, rfl, ?_⟩
  refine ⟨hw _ _, ht i _ hi (s1.trans s1') _ fun H2 s2 => ?_⟩
  have s12 := (s1.trans s1').trans s2
  have e2 := s2 _ _ (s1' _ _ e1)
  by_cases hb : b i = true
  · rw [hb]
    rw [if_pos rfl]
    refine he i H2 hi s12 hb _ fun H3 s3 => ⟨_, s3 _ _ e2, ?_, ?_, ?_⟩
    · have := kept_len i b v
      have := sizeLine_eq
      omega
    · exact upd_keep hD (s12.trans s3)
    · rw [upd_same, kept_yes hb]
  · have hb' : b i = false := by simpa using hb
    rw [hb', if_neg (by decide)]
    refine ⟨s12, ?_⟩
    rw [kept_no hb']
    exact e2

/-! ### values that are copied: scalars, flat lists and tuples -/
def scalB : V → Bool
  | .non => true
  | .bl _ => true
  | .int _ => true
  | .str _ => true
  | _ => false
def FlatAt (K : PySem.W.Frag) (H : Hp) (v : V) : Prop := scalB v = true ∨ ∃ a xs, v = .ref a ∧ xs.all scalB = true ∧ xs.length ≤ 1000 ∧ (SqL K H a xs ∨ SqT K H a xs)
def Copy (K : PySem.W.Frag) (H : Hp) (v v' : V) : Prop := (scalB v = true ∧ v' = v) ∨ ∃ a b xs, v = .ref a ∧ v' = .ref b ∧ xs.all scalB = true ∧ xs.length ≤ 1000 ∧ ((SqL K H a xs ∧ SqL K H b xs) ∨ (SqT K H a xs ∧ SqT K H b xs))
theorem sq_same {K : PySem.W.Frag} {H H' : Hp} {a : Addr} {xs : List V} (s : Same H H') (h : SqL K H a xs) : SqL K H' a xs := s.seq h
theorem st_same {K : PySem.W.Frag} {H H' : Hp} {a : Addr} {xs : List V} (s : Same H H') (h : SqT K H a xs) : SqT K H' a xs := Evl.ex_t s h
theorem FlatAt.same {K : PySem.W.Frag} {H H' : Hp} {v : V} (h : FlatAt K H v) (s : Same H H') : FlatAt K H' v := by
  rcases h with h | ⟨a, xs, e, h1, h2, h3 | h3⟩
  · exact .inl h
  · exact .inr ⟨a, xs, e, h1, h2, .inl (sq_same s h3)⟩
  · exact .inr ⟨a, xs, e, h1, h2, .inr (st_same s h3)⟩
theorem Copy.same {K : PySem.W.Frag} {H H' : Hp} {v v' : V} (h : Copy K H v v') (s : Same H H') : Copy K H' v v' := by
  rcases h with h | ⟨a, b, xs, e1, e2, h1, h2, ⟨h3, h4⟩ | ⟨h3, h4⟩⟩
  · exact .inl h
  · exact .inr ⟨a, b, xs, e1, e2, h1, h2, .inl ⟨sq_same s h3, sq_same s h4⟩⟩
  · exact .inr ⟨a, b, xs, e1, e2, h1, h2, .inr ⟨st_same s h3, st_same s h4⟩⟩
/-- an object that is no list and no tuple may go -/
theorem del_seq {K : PySem.W.Frag} {H : Hp} {a b : Addr} {xs : List V} {g : Heap → Prop} (h : SqL K H b xs) (e : H a = some (.ext g)) : SqL K (L2.del H a) b xs := by
  rcases h with (h | ⟨o, h⟩) | h
  · refine .inl (.inl ?_)
    rw [del_ne (fun z => by rw [z, e] at h; cases h)]
    exact h
  · refine .inl (.inr ⟨o, ?_⟩)
    rw [del_ne (fun z => by rw [z, e] at h; cases h)]
    exact h
  · exact .inr h
theorem del_tup {K : PySem.W.Frag} {H : Hp} {a b : Addr} {xs : List V} {g : Heap → Prop} (h : SqT K H b xs) (e : H a = some (.ext g)) : SqT K (L2.del H a) b xs := by
  rcases h with (h | ⟨o, h⟩) | h
  · refine .inl (.inl ?_)
    rw [del_ne (fun z => by rw [z, e] at h; cases h)]
    exact h
  · refine .inl (.inr ⟨o, ?_⟩)
    rw [del_ne (fun z => by rw [z, e] at h; cases h)]
    exact h
  · exact .inr h
theorem Copy.del {K : PySem.W.Frag} {H : Hp} {a : Addr} {v v' : V} {g : Heap → Prop} (h : Copy K H v v') (e : H a = some (.ext g)) : Copy K (L2.del H a) v v' := by
  rcases h with h | ⟨a, b, xs, e1, e2, h1, h2, ⟨h3, h4⟩ | ⟨h3, h4⟩⟩
  · exact .inl h
  · exact .inr ⟨a, b, xs, e1, e2, h1, h2, .inl ⟨del_seq h3 e, del_seq h4 e⟩⟩
  · exact .inr ⟨a, b, xs, e1, e2, h1, h2, .inr ⟨del_tup h3 e, del_tup h4 e⟩⟩

/-! ### an error class whose __init__ keeps a copy of its one value -/
/-- the __init__ -/
def spInit (K : PySem.W.Frag) (f : Str) : Sp := fun vs H Q _ => ∃ (a C : Addr) (v : V), vs = [.ref a, v] ∧ OexC K C ∧ PySem.W.findIn K (.ref C) f = some none ∧ H a = some (exo a C none) ∧ FlatAt K H v ∧
  ∀ v' H1 dx, Same H H1 → Copy K H1 v v' → H1 dx = none → dx ≠ a → Q .non (upd (upd H1 dx (exd dx [(f, v')])) a (exo a C (some dx)))
/-- what is promised of an error of the class C with such a value -/
def Err1 (K : PySem.W.Frag) (C : Str) (f : Str) (v : V) (H : Hp) (E : XK) : Prop := ∀ (d : Addr) (v' : V) (H' : Hp), Same H H' → H' d = some (.xd [(f, v')]) → Copy K H' v v' → E (.ref (He.ga K C)) (some d) H'
theorem Err1.same {K : PySem.W.Frag} {C f : Str} {v : V} {H H1 : Hp} {E : XK} (h : Err1 K C f v H E) (s : Same H H1) : Err1 K C f v H1 E := fun d v' H' s' e c => h d v' H' (s.trans s') e c
/-- an error without values -/
def Err0 (K : PySem.W.Frag) (C : Str) (H : Hp) (E : XK) : Prop := ∀ H' : Hp, Same H H' → E (.ref (He.ga K C)) none H'
theorem Err0.same {K : PySem.W.Frag} {C : Str} {H H1 : Hp} {E : XK} (h : Err0 K C H E) (s : Same H H1) : Err0 K C H1 E := fun H' s' => h H' (s.trans s')
/-- raise C(v) -/
theorem go_raise1 {K : PySem.W.Frag} {C f : Str} {v : V} {H : Hp} {σ : L2.St} {E : XK} {ta : TA} (o : OexC K (He.ga K C)) (n : PySem.W.findIn K (.ref (He.ga K C)) f = some none) (hv : FlatAt K H v) (hE : Err1 K C f v H E)
    (hta : ∀ Q, Q [v] H → ta σ H Q) : tMkO (He.ga K C) (spInit K f) [] ta σ H E := by
  refine hta _ ⟨by show 1 ≤ 1000; decide, fun a ha => ?_⟩
  refine ⟨a, _, v, rfl, o, n, upd_same, hv.same (upd_of ha), fun v' H1 dx s1 c1 nd hda => ?_⟩
  refine ⟨rfl, dx, [(f, v')], upd_same, by rw [upd_ne hda, upd_same], ?_, ?_⟩
  · cases e : H dx with
    | none => rfl
    | some o' =>
      have := s1 dx o' (by rw [upd_ne hda]; exact e)
      rw [nd] at this
      cases this
  · have ea : H1 a = some (exo a (He.ga K C) none) := s1 a _ upd_same
    have sH : Same (L2.del H1 a) (upd (L2.del (upd (upd H1 dx (exd dx [(f, v')])) a (exo a (He.ga K C) (some dx))) a) dx (.xd [(f, v')])) := fun b o' eb => by
      obtain ⟨e1, e2⟩ := del_of eb
      have hbd : b ≠ dx := ne_of_none e1 nd
      rw [upd_ne hbd, del_ne e2, upd_ne e2, upd_ne hbd]
      exact e1
    refine hE dx v' _ (fun b o' eb => sH b o' ?_) upd_same ((c1.del (g := _) ea).same sH)
    have hba : b ≠ a := ne_of_none eb ha
    rw [del_ne hba]
    exact s1 b o' (by rw [upd_ne hba]; exact eb)
/-- self.f = e -/
theorem go_ost {K : PySem.W.Frag} {f : Str} {to te : TE} {D : Ends} {σ : L2.St} {H : Hp} {a C : Addr} {v v' : V} {H1 : Hp} (hte : ∀ Q : VK, Q v' H1 → te σ H Q) (hto : ∀ Q : VK, Q (.ref a) H1 → to σ H1 Q) (o : OexC K C) (n : PySem.W.findIn K (.ref C) f = some none)
    (e : H1 a = some (exo a C none)) (q : ∀ dx, H1 dx = none → dx ≠ a → D.nx σ (upd (upd H1 dx (exd dx [(f, v')])) a (exo a C (some dx)))) : tOst K f to te D σ H :=
  hte _ (hto _ ⟨a, C, rfl, o, n, .inl ⟨e, q⟩⟩)
end G

/-! A10: walks by the item, scalars by isinstance, tuple(list). -/
namespace G
open PySem PySem.Spec PyProof.Rows L2 TL
theorem walk_l {K : PySem.W.Frag} {a : Addr} {xs : List V} : Walk (Itl K a) xs.length (fun H => SqL K H a xs) (fun i H x H' => H' = H ∧ x = xs.getD i .non) :=
  walk_list.mono (fun _ h => h) fun i H x H' _ _ ⟨h1, h2⟩ => ⟨h1, by rw [List.getD_eq_getElem?_getD, h2]; rfl⟩
theorem walk_t {K : PySem.W.Frag} {a : Addr} {xs : List V} : Walk (Itt K a) xs.length (fun H => SqT K H a xs) (fun i H x H' => H' = H ∧ x = xs.getD i .non) :=
  walk_tup.mono (fun _ h => h) fun i H x H' _ _ ⟨h1, h2⟩ => ⟨h1, by rw [List.getD_eq_getElem?_getD, h2]; rfl⟩
theorem walk_st {l : List Nat} : Walk (Its (mk l)) l.length (fun _ => True) (fun i H v H' => H' = H ∧ v = S [l.getD i 0]) :=
  walk_s.mono (fun _ h => h) fun i H x H' _ _ ⟨h1, c, h2, h3⟩ => ⟨h1, by rw [h3, List.getD_eq_getElem?_getD, h2]; rfl⟩
theorem range_getD {α : Type} (d : α) : ∀ xs : List α, (List.range xs.length).map (fun i => xs.getD i d) = xs
  | xs => by
    apply List.ext_getElem
    · simp
    · intro i h1 h2
      simp [h2]
theorem kept_xs (xs : List V) : kept xs.length (fun _ => true) (fun i => xs.getD i .non) = xs := by
  rw [kept_all, range_getD]
theorem scal_list {K : PySem.W.Frag} {H : Hp} {v : V} (h : scalB v = true) : isiB K H v "list" false := by
  cases v with
  | non => exact (by decide +kernel : kitB "NoneType" "list" = some false)
  | bl b => exact (by decide +kernel : kitB "bool" "list" = some false)
  | int i => exact (by decide +kernel : kitB "int" "list" = some false)
  | str x => exact (by decide +kernel : kitB "str" "list" = some false)
  | _ => cases h
theorem scal_tup {K : PySem.W.Frag} {H : Hp} {v : V} (h : scalB v = true) : isiB K H v "tuple" false := by
  cases v with
  | non => exact (by decide +kernel : kitB "NoneType" "tuple" = some false)
  | bl b => exact (by decide +kernel : kitB "bool" "tuple" = some false)
  | int i => exact (by decide +kernel : kitB "int" "tuple" = some false)
  | str x => exact (by decide +kernel : kitB "str" "tuple" = some false)
  | _ => cases h
theorem lst_list {K : PySem.W.Frag} {H : Hp} {a : Addr} {xs : List V} (h : SqL K H a xs) : isiB K H (.ref a) "list" true := .inl ⟨xs, h, by decide +kernel⟩
theorem lst_tup {K : PySem.W.Frag} {H : Hp} {a : Addr} {xs : List V} (h : SqL K H a xs) : isiB K H (.ref a) "tuple" false := .inl ⟨xs, h, by decide +kernel⟩
theorem tup_list {K : PySem.W.Frag} {H : Hp} {a : Addr} {xs : List V} (h : SqT K H a xs) : isiB K H (.ref a) "list" false := .inr ⟨xs, h, by decide +kernel⟩
theorem tup_tup {K : PySem.W.Frag} {H : Hp} {a : Addr} {xs : List V} (h : SqT K H a xs) : isiB K H (.ref a) "tuple" true := .inr ⟨xs, h, by decide +kernel⟩
/-- other classes: str, int, bool -/
def isStrB : V → Bool
  | .str _ => true
  | _ => false
def isIntB : V → Bool
  | .int _ => true
  | .bl _ => true
  | _ => false
def isBlB : V → Bool
  | .bl _ => true
  | _ => false
theorem flat_str {K : PySem.W.Frag} {H : Hp} {v : V} (h : FlatAt K H v) : isiB K H v "str" (isStrB v) := by
  rcases h with h | ⟨a, xs, rfl, _, _, h | h⟩
  · cases v with
    | non => exact (by decide +kernel : kitB "NoneType" "str" = some false)
    | bl b => exact (by decide +kernel : kitB "bool" "str" = some false)
    | int i => exact (by decide +kernel : kitB "int" "str" = some false)
    | str x => exact (by decide +kernel : kitB "str" "str" = some true)
    | _ => cases h
  · exact .inl ⟨xs, h, by show kitB "list" "str" = some false; decide +kernel⟩
  · exact .inr ⟨xs, h, by show kitB "tuple" "str" = some false; decide +kernel⟩
theorem flat_int {K : PySem.W.Frag} {H : Hp} {v : V} (h : FlatAt K H v) : isiB K H v "int" (isIntB v) := by
  rcases h with h | ⟨a, xs, rfl, _, _, h | h⟩
  · cases v with
    | non => exact (by decide +kernel : kitB "NoneType" "int" = some false)
    | bl b => exact (by decide +kernel : kitB "bool" "int" = some true)
    | int i => exact (by decide +kernel : kitB "int" "int" = some true)
    | str x => exact (by decide +kernel : kitB "str" "int" = some false)
    | _ => cases h
  · exact .inl ⟨xs, h, by show kitB "list" "int" = some false; decide +kernel⟩
  · exact .inr ⟨xs, h, by show kitB "tuple" "int" = some false; decide +kernel⟩
theorem flat_bl {K : PySem.W.Frag} {H : Hp} {v : V} (h : FlatAt K H v) : isiB K H v "bool" (isBlB v) := by
  rcases h with h | ⟨a, xs, rfl, _, _, h | h⟩
  · cases v with
    | non => exact (by decide +kernel : kitB "NoneType" "bool" = some false)
    | bl b => exact (by decide +kernel : kitB "bool" "bool" = some true)
    | int i => exact (by decide +kernel : kitB "int" "bool" = some false)
    | str x => exact (by decide +kernel : kitB "str" "bool" = some false)
    | _ => cases h
  · exact .inl ⟨xs, h, by show kitB "list" "bool" = some false; decide +kernel⟩
  · exact .inr ⟨xs, h, by show kitB "tuple" "bool" = some false; decide +kernel⟩
/-- tuple(list) -/
theorem go_tupc {K : PySem.W.Frag} {p : Addr} {xs : List V} {H : Hp} {Q : VK} (h : SqL K H p xs) (k : ∀ l H', H l = none → Same H H' → H' l = some (.tup xs) → Q (.ref l) H') :
    (∃ (q : Addr) (ys : List V), [V.ref p] = [V.ref q] ∧ ((SqL K H q ys ∧ ∀ l, H l = none → Q (.ref l) (upd H l (.tup ys))) ∨ (SqT K H q ys ∧ Q (.ref q) H))) :=
  ⟨p, xs, rfl, .inl ⟨h, fun l hl => k l _ hl (upd_of hl) upd_same⟩⟩
/-- a level up -/
theorem Room.up {j k : Nat} {A : Around} (h : Room k A) (e : j ≤ k) : Room j A := h.mono e
end G

/-! A11: steps of __init__, is not None, lists of ints against [], words and counts. -/
namespace G
open PySem PySem.Spec PyProof.Rows L2 TL
def kOstB (K : PySem.W.Frag) (f : Str) (D : Ends) (σ : L2.St) (y : V) : VK := fun x H2 => ∃ a C : Addr, x = .ref a ∧ OexC K C ∧ PySem.W.findIn K (.ref C) f = some none ∧
  ((H2 a = some (exo a C none) ∧ ∀ dx, H2 dx = none → dx ≠ a → D.nx σ (upd (upd H2 dx (exd dx [(f, y)])) a (exo a C (some dx)))) ∨
    ∃ (dx : Addr) (fs : List (Str × V)), H2 a = some (exo a C (some dx)) ∧ H2 dx = some (exd dx fs) ∧ fs.length ≤ 900 ∧ D.nx σ (upd H2 dx (exd dx ((f, y) :: fs))))
def kOstA (K : PySem.W.Frag) (f : Str) (to : TE) (D : Ends) (σ : L2.St) : VK := fun y H1 => to σ H1 (kOstB K f D σ y)
section
variable {K : PySem.W.Frag} {f : Str} {to te : TE} {D : Ends} {σ : L2.St} {H : Hp} {v y : V}
instance : Go (tOst K f to te D σ H) (te σ H (kOstA K f to D σ)) := ⟨id⟩
instance : Go (kOstA K f to D σ v H) (to σ H (kOstB K f D σ v)) := ⟨id⟩
end
/-! is not None -/
def rIsNU : R2 := fun x y H Q => y = .non ∧ Q (.bl (!decide (x = .non))) H
theorem op_isnU {X : Cx} : OpR X (compareOp .IsNot) rIsNU := op_notN
section
variable {H : Hp} {Q : VK} {n : Int} {l : List Nat} {b : Bool}
instance : Go (rIsNU .non .non H Q) (Q (.bl false) H) := ⟨fun q => ⟨rfl, q⟩⟩
instance : Go (rIsNU (.int n) .non H Q) (Q (.bl true) H) := ⟨fun q => ⟨rfl, q⟩⟩
end
theorem cdp {i j : Int} (h0 : 0 < j) (h : j < 1000000) : CDivP i j := ⟨h0, PyProof.noPylong_small (by omega)⟩
theorem cdw {i j : Int} (h0 : 0 < j) (h : j < 1000000) : CDivW i j := wide_div h0 (b := 64) (by omega) (by decide) (by decide)
theorem cml {i j : Int} (h0 : 0 ≤ j) (h : j < 1000000) : CMul i j ∨ CMulW i j := .inl (.inr (by omega))
/-! a list of ints against [] -/
theorem dp_ints {K : PySem.W.Frag} {H : Hp} : ∀ xs : List Int, DpAll K H (xs.map V.int) (xs.map PyData.int)
  | [] => .nil
  | x :: xs => .cons (.int x) (dp_ints xs)
theorem lay_ints : ∀ xs : List Int, PyData.canLayAll0 (xs.map PyData.int) = true
  | [] => rfl
  | x :: xs => by
    have ih := lay_ints xs
    show (PyData.canLay0 (PyData.int x) && PyData.canLayAll0 (xs.map PyData.int)) = true
    rw [ih]
    rfl
theorem depth_ints : ∀ xs : List Int, PyData.depthAll (xs.map PyData.int) ≤ 1
  | [] => by decide
  | x :: xs => by
    have ih := depth_ints xs
    show max (PyData.depth (PyData.int x)) (PyData.depthAll (xs.map PyData.int)) ≤ 1
    have : PyData.depth (PyData.int x) ≤ 1 := by first | exact Nat.le_refl 1 | exact Nat.zero_le 1
    omega
theorem shaped_ints (xs : List Int) : SeqAt.shaped (.list (xs.map PyData.int)) = true := by
  unfold SeqAt.shaped
  have h1 : (PyData.list (xs.map PyData.int)).canLay0 = true := lay_ints xs
  have h2 : (PyData.list (xs.map PyData.int)).depth ≤ 64 := by
    have := depth_ints xs
    show PyData.depthAll (xs.map PyData.int) + 1 ≤ 64
    omega
  rw [h1, decide_eq_true h2]
  rfl
theorem go_eqnil {K : PySem.W.Frag} {H : Hp} {Q : VK} {a b : Addr} {xs : List Int} (h : SqL K H a (xs.map V.int)) (h2 : SqL K H b []) (q : Q (.bl (decide (xs = []))) H) : rEqU K (.ref a) (.ref b) H Q := by
  refine .inr ⟨_, .list [], .lst h (dp_ints xs), .lst h2 .nil, shaped_ints xs, shaped_ints [], ?_⟩
  cases xs with
  | nil => exact q
  | cons x xs => exact q

/-! ### words: counts, positions, letters -/
/-- in, out; the letter that counts beside B -/
abbrev cIn : List Nat := [105, 110]
abbrev cOut : List Nat := [111, 117, 116]
def Side (l : List Nat) (x : Nat) : Prop := (l = cIn ∧ x = 73) ∨ (l = cOut ∧ x = 79)
theorem Side.mem {l : List Nat} {x : Nat} (h : Side l x) : ∃ kv ∈ [(cIn, S [73]), (cOut, S [79])], l = kv.1 ∧ S [x] = kv.2 := by
  rcases h with ⟨rfl, rfl⟩ | ⟨rfl, rfl⟩
  · exact ⟨(cIn, S [73]), by simp, rfl, rfl⟩
  · exact ⟨(cOut, S [79]), by simp, rfl, rfl⟩
/-- how many letters of l are of ms -/
def cnt (ms l : List Nat) : Int := ((l.filter fun c => decide (c ∈ ms)).length : Nat)
theorem cnt_nil (ms : List Nat) : cnt ms [] = 0 := rfl
theorem cnt_cons (ms : List Nat) (a : Nat) (l : List Nat) : cnt ms (a :: l) = (if a ∈ ms then 1 else 0) + cnt ms l := by
  unfold cnt
  rw [List.filter_cons]
  by_cases h : a ∈ ms
  · rw [if_pos h, if_pos (decide_eq_true h), List.length_cons]
    omega
  · rw [if_neg h, if_neg (by rw [decide_eq_false h]; decide)]
    omega
theorem cnt_app (ms a b : List Nat) : cnt ms (a ++ b) = cnt ms a + cnt ms b := by
  unfold cnt
  rw [List.filter_append, List.length_append]
  omega
theorem cnt_one (x : Nat) : ∀ l : List Nat, cnt [x] l = ((l.count x : Nat) : Int)
  | [] => rfl
  | a :: l => by
    rw [cnt_cons, cnt_one x l, List.count_cons]
    by_cases e : a = x
    · subst e
      simp
      omega
    · simp [e]
theorem cnt_two {x y : Nat} (h : x ≠ y) : ∀ l : List Nat, cnt [x, y] l = cnt [x] l + cnt [y] l
  | [] => rfl
  | a :: l => by
    rw [cnt_cons, cnt_cons, cnt_cons, cnt_two h l]
    by_cases e : a = x
    · subst e
      have : ¬ a = y := h
      simp [this]
      omega
    · by_cases e2 : a = y
      · subst e2
        simp [e]
        omega
      · simp [e, e2]
theorem cnt_nn (ms l : List Nat) : 0 ≤ cnt ms l := by unfold cnt; omega
theorem cnt_le (ms l : List Nat) : cnt ms l ≤ l.length := by
  unfold cnt
  have := List.length_filter_le (fun c => decide (c ∈ ms)) l
  omega
/-- a count by whole cycles -/
def cyc (f : List Nat → Int) (p c : List Nat) (k : Int) : Int :=
  if k ≤ p.length then f (p.take k.toNat) else f p + (k - p.length) / c.length * f c + f (c.take ((k - p.length) % c.length).toNat)
/-- the letter at k -/
def lat (p c : List Nat) (k : Int) : Nat := if k < p.length then p.getD k.toNat 0 else c.getD ((k - p.length) % c.length).toNat 0
/-- where the letters of ms stand, from one -/
def posL (ms l : List Nat) : List Int := ((List.range l.length).filter fun i => decide (l.getD i 0 ∈ ms)).map fun (i : Nat) => (i : Int) + 1
theorem posL_kept (ms l : List Nat) : kept l.length (fun i => decide (l.getD i 0 ∈ ms)) (fun i => .int ((i : Int) + 1)) = (posL ms l).map V.int := by
  unfold kept posL
  rw [List.map_map]
  rfl
theorem posL_len (ms : List Nat) : ∀ l : List Nat, ((posL ms l).length : Int) = cnt ms l := by
  intro l
  unfold posL cnt
  rw [List.length_map]
  congr 1
  have e : l.filter (fun c => decide (c ∈ ms)) = ((List.range l.length).filter fun i => decide (l.getD i 0 ∈ ms)).map fun i => l.getD i 0 := by
    conv => lhs; rw [← range_getD 0 l]
    rw [List.filter_map]
    rfl
  rw [e, List.length_map]
theorem posL_le (ms l : List Nat) : (posL ms l).length ≤ l.length := by
  unfold posL
  rw [List.length_map]
  have h := List.length_filter_le (fun i => decide (l.getD i 0 ∈ ms)) (List.range l.length)
  rw [List.length_range] at h
  exact h
/-- the m-th such position -/
def posOf (ms p c : List Nat) (m : Int) : V :=
  if m ≤ (posL ms p).length then .int ((posL ms p).getD (m - 1).toNat 0) else
    if posL ms c = [] then .non else .int (p.length + (m - (posL ms p).length - 1) / (posL ms c).length * c.length + (posL ms c).getD ((m - (posL ms p).length - 1) % (posL ms c).length).toNat 0)
/-- no good number from least on -/
def badN : V → Int → Bool
  | .int n, least => decide (n < least)
  | _, _ => true
/-- no good side -/
def BadS (v : V) : Prop := ∀ l, v = S l → l ≠ cIn ∧ l ≠ cOut
theorem isiB_same {K : PySem.W.Frag} {H H' : Hp} {v : V} {c : String} {b : Bool} (s : Same H H') (h : isiB K H v c b) : isiB K H' v c b := by
  cases v with
  | ref a =>
    rcases h with ⟨xs, h1, h2⟩ | ⟨xs, h1, h2⟩
    · exact .inl ⟨xs, s.seq h1, h2⟩
    · exact .inr ⟨xs, st_same s h1, h2⟩
  | _ => exact h
theorem BadW.same {K : PySem.W.Frag} {ls : List Nat} {H H' : Hp} {v : V} (h : BadW K ls H v) (s : Same H H') : BadW K ls H' v := by
  rcases h with h | h
  · exact .inl (isiB_same s h)
  · exact .inr h
end G
namespace G
open PySem PySem.Spec PyProof.Rows L2 TL
/-- a tuple as a target, the written part by its name -/
theorem pg_tupU {X : Cx} (K : PySem.W.Frag) {es : List Expr} {k : Nat} {t : TGs} (n : Nat) {pos : Pos} (hc : X.calm = true) (hK : X.K = K) (h : PGs X es t)
    (hn : (assignEach es X.env).length = n := by rfl) (hst : (assignEach es X.env).findIdx? (·.1) = none := by rfl) : PG X (.Tuple es k pos) (gTup K n t) := by
  subst hK
  exact pg_tup hc h hn hst
end G
namespace G
open PySem PySem.Spec PyProof.Rows L2 TL
/-! ### the rules with the written part by its name (a block's context has it under a binder) -/
section
variable {X : Cx} (K : PySem.W.Frag) (hK : X.K = K)
include hK
theorem op_eqK (hu : X.A.units + 64 < cLine) : OpR X (compareOp .Eq) (rEqU K) := by subst hK; exact op_eqU hu
theorem op_neK (hu : X.A.units + 64 < cLine) : OpR X (compareOp .NotEq) (rNeU K) := by subst hK; exact op_neU hu
theorem ix_K : IxR X (rIxU K) := by subst hK; exact ix_U
theorem sl_K : SlR X (rSlU K) := by subst hK; exact sl_U
theorem call_lenK : CallR X (.builtin "len") (rLenU K) := by subst hK; exact call_lenU
theorem call_isiK : CallR X (.builtin "isinstance") (rIsiU K) := by subst hK; exact call_isiU
theorem call_listK : CallR X (.type "list") (rListU K) := by subst hK; exact call_listU
theorem cr_allK (hc : X.calm = true) : CallR X (.builtin "all") (rAll K) := by subst hK; exact cr_all hc
theorem cr_anyK (hc : X.calm = true) : CallR X (.builtin "any") (rAny K) := by subst hK; exact cr_any hc
theorem cr_sumK (hc : X.calm = true) : CallR X (.builtin "sum") (rSum K) := by subst hK; exact cr_sum hc
theorem mt_cntK : MtR X "list.count" (rCntF K) := by subst hK; exact mt_cntF
theorem mt_joinK : MtR X "str.join" (rJoin K) := by subst hK; exact mt_joinU
theorem ix_DK {w : World} (hw : X.w = w) {a : Addr} {kvs : List (List Nat × V)} (T : TabD K w a kvs) : IxR X (rIxDU a kvs) := by subst hK hw; exact ix_D T
theorem op_ninDK {w : World} (hw : X.w = w) {a : Addr} {kvs : List (List Nat × V)} (T : TabD K w a kvs) : OpR X (compareOp .NotIn) (rNinD a kvs) := by subst hK hw; exact op_ninD T
theorem pi_listK {tg l : Expr} {tl : TE} (hl : PE X l tl) : PI X tg l (iList K tl) := by subst hK; exact pi_list hl
theorem pi_tupK {tg l : Expr} {tl : TE} (hl : PE X l tl) : PI X tg l (iTup K tl) := by subst hK; exact pi_tup hl
theorem call_tupleK : CallR X (.type "tuple") (fun xs H Q => ∃ p ys, xs = [.ref p] ∧ ((SqL K H p ys ∧ ∀ l, H l = none → Q (.ref l) (upd H l (.tup ys))) ∨ (SqT K H p ys ∧ Q (.ref p) H))) := by subst hK; exact call_tuple_of
theorem pe_bmK {T id : String} {name : Str} {r : V → List V → Hp → VK → Prop} {o e : Expr} {es : List Expr} {to : TE} {t : TA} {apos cpos : Pos} (pa : PlainAttrs T) (slot : Slot T name id) (hty : typeOf (.builtin id) = pure (.type "method_descriptor")) (hm : MtR X id r) (ho : PE X o to) (ha : PA X (e :: es) t)
    (hbase : attributeBase o name X.env (eval o X.env) = eval o X.env := by rfl)
    (hfew : ((backTo cpos (starEach (e :: es) X.env)).all (fun x => !x.1) && (backToKw cpos (keywordEach [] X.env)).all (fun x => x.1.isSome)
      && decide ((e :: es).length + ([] : List Keyword).length + (if ([] : List Keyword).isEmpty then 0 else 1) < 30)) = true := by rfl)
    (hline : (apos.endLine == cpos.line) = true := by rfl) (hs : starEach (e :: es) X.env = (false, eval e X.env) :: starEach es X.env := by rfl) (hplain : (backTo cpos (starEach es X.env)).any (·.1) = false := by rfl) :
    PE X (.Call (.Attribute o name apos) (e :: es) [] cpos) (tBM K T r to t) := by subst hK; exact pe_bm pa slot hty hm ho ha hbase hfew hline hs hplain
theorem pe_bm0K {T id : String} {name : Str} {r : V → List V → Hp → VK → Prop} {o : Expr} {to : TE} {apos cpos : Pos} (pa : PlainAttrs T) (slot : Slot T name id) (hty : typeOf (.builtin id) = pure (.type "method_descriptor")) (hm : MtR X id r) (ho : PE X o to)
    (hbase : attributeBase o name X.env (eval o X.env) = eval o X.env := by rfl) (hline : (apos.endLine == cpos.line) = true := by rfl) : PE X (.Call (.Attribute o name apos) [] [] cpos) (tBM0 K T r to) := by subst hK; exact pe_bm0 pa slot hty hm ho hbase hline
end
end G
namespace G
open PySem PySem.Spec PyProof.Rows L2 TL
theorem go_lst' {Q : VK} {xs : List V} {H : Hp} (k : ∀ p H', H p = none → Same H H' → H' p = some (.lst xs) → Q (.ref p) H') (hl : xs.length ≤ 1000000 := by simp) : kLst Q xs H := go_lst k (sz6 hl)
theorem go_tup' {Q : VK} {xs : List V} {H : Hp} (k : ∀ p H', H p = none → Same H H' → H' p = some (.tup xs) → Q (.ref p) H') (hl : xs.length ≤ 1000000 := by simp) : kTup Q xs H := go_tup k (sz6 hl)
end G

/-! A12: append, cat, cuts of lists, word texts told by a Bool, lengths of kept. -/
namespace G
open PySem PySem.Spec PyProof.Rows L2 TL
theorem go_bml {K : PySem.W.Frag} {r : V → List V → Hp → VK → Prop} {tA : TA} {σ : L2.St} {Q : VK} {H : Hp} {a : Addr} {xs : List V} (h : SqL K H a xs) (q : tA σ H (kBM2 r (.ref a) Q)) : kBM1 K "list" r tA σ Q (.ref a) H := ⟨.inl ⟨rfl, xs, h⟩, q⟩
theorem go_append {H : Hp} {Q : VK} {l : Addr} {xs : List V} {y : V} (h : H l = some (.lst xs)) (hl : xs.length < 1000000) (q : Q .non (upd H l (.lst (xs ++ [y])))) : rAppend (.ref l) [y] H Q :=
  ⟨l, xs, y, rfl, rfl, h, Nat.lt_of_lt_of_le hl (by decide), q⟩
theorem go_cat {H : Hp} {Q : VK} {a b : Addr} {xs ys : List V} (h1 : H a = some (.lst xs)) (h2 : H b = some (.lst ys)) (hl : xs.length + ys.length ≤ 1000000) (k : ∀ p H', H p = none → Same H H' → H' p = some (.lst (xs ++ ys)) → Q (.ref p) H') : rAddU (.ref a) (.ref b) H Q :=
  .inr (.inr ⟨a, b, xs, ys, rfl, rfl, h1, h2, sz6 hl, fun l hp => k l _ hp (upd_of hp) upd_same⟩)
theorem cutV_to (xs : List V) (k : Int) (h : 0 ≤ k) : cutV xs none (some k) = xs.take k.toNat := by
  obtain ⟨n, rfl⟩ := Int.eq_ofNat_of_zero_le h
  unfold cutV
  rw [HT.sIx_none, HT.sIx_nat, List.drop_zero, Nat.sub_zero, Int.toNat_natCast]
  by_cases hn : n ≤ xs.length
  · rw [Nat.min_eq_left hn]
  · rw [Nat.min_eq_right (by omega), List.take_of_length_le (by omega), List.take_of_length_le (by omega)]
theorem getD_map {α : Type} (f : α → V) (d : α) (z : V) {xs : List α} {i : Nat} (h : i < xs.length) : (xs.map f).getD i z = f (xs.getD i d) := by
  rw [List.getD_eq_getElem?_getD, List.getElem?_map, List.getElem?_eq_getElem h, List.getD_eq_getElem?_getD, List.getElem?_eq_getElem h]
  rfl
theorem kept_cnt (ms l : List Nat) (v : Nat → V) : ((kept l.length (fun i => decide (l.getD i 0 ∈ ms)) v).length : Int) = cnt ms l := by
  rw [← posL_len]
  unfold kept posL
  rw [List.length_map, List.length_map]

/-! ### is it a word text? -/
def isWt (ls l : List Nat) : Bool :=
  let p := l.takeWhile fun c => decide (c ≠ 40)
  let r := l.dropWhile fun c => decide (c ≠ 40)
  let c := (r.drop 1).dropLast
  decide (p.length ≤ 12) && (p.all (fun x => decide (x ∈ ls)) && (decide (r = 40 :: (c ++ [41])) && (decide (1 ≤ c.length) && (decide (c.length ≤ 4) && c.all fun x => decide (x ∈ ls)))))
theorem take40 {p r : List Nat} (h : 40 ∉ p) : (p ++ 40 :: r).takeWhile (fun c => decide (c ≠ 40)) = p ∧ (p ++ 40 :: r).dropWhile (fun c => decide (c ≠ 40)) = 40 :: r := by
  induction p with
  | nil => exact ⟨by simp, by simp⟩
  | cons a p ih =>
    have ha : a ≠ 40 := fun z => h (by rw [z]; exact List.mem_cons_self)
    obtain ⟨h1, h2⟩ := ih fun z => h (List.mem_cons_of_mem _ z)
    constructor
    · rw [List.cons_append, List.takeWhile_cons, if_pos (decide_eq_true ha), h1]
    · rw [List.cons_append, List.dropWhile_cons, if_pos (decide_eq_true ha), h2]
theorem isW_of {ls p c : List Nat} (hl : 40 ∉ ls) (h : Lw ls p c) : isWt ls (wt p c) = true := by
  obtain ⟨e1, e2⟩ := take40 (r := c ++ [41]) (h.no40 hl)
  unfold isWt wt
  rw [e1, e2]
  show (decide (p.length ≤ 12) && (p.all (fun x => decide (x ∈ ls)) && (decide (40 :: (c ++ [41]) = 40 :: ((c ++ [41]).dropLast ++ [41])) && (decide (1 ≤ (c ++ [41]).dropLast.length) && (decide ((c ++ [41]).dropLast.length ≤ 4) && (c ++ [41]).dropLast.all fun x => decide (x ∈ ls)))))) = true
  rw [List.dropLast_concat, decide_eq_true h.p12, decide_eq_true rfl, decide_eq_true h.c1, decide_eq_true h.c4, List.all_eq_true.mpr (fun x hx => decide_eq_true (h.pl x hx)), List.all_eq_true.mpr (fun x hx => decide_eq_true (h.cl x hx))]
  rfl
theorem badW_of {K : PySem.W.Frag} {ls l : List Nat} {H : Hp} (hl : 40 ∉ ls) (h : isWt ls l = false) (hz : l.length ≤ 1000000) : BadW K ls H (S l) :=
  .inr ⟨l, rfl, hz, fun p c e hw => by
    rw [e, isW_of hl hw] at h
    cases h⟩
theorem badS_of {l : List Nat} (h1 : l ≠ cIn) (h2 : l ≠ cOut) : BadS (S l) := fun m e => by
  have := mk_inj (V.str.inj e)
  subst this
  exact ⟨h1, h2⟩
/-- the parts of a word text -/
theorem wt_take (p c : List Nat) : (wt p c).take p.length = p := by
  unfold wt
  rw [List.take_left]
theorem wt_mid (p c : List Nat) : ((wt p c).take ((wt p c).length - 1)).drop (p.length + 1) = c := by
  have e : wt p c = (p ++ 40 :: c) ++ [41] := by unfold wt; simp
  rw [e, List.length_append, show (p ++ 40 :: c).length + [41].length - 1 = (p ++ 40 :: c).length from rfl, List.take_left, show p ++ 40 :: c = (p ++ [40]) ++ c by simp, show p.length + 1 = (p ++ [40]).length by simp, List.drop_left]
end G

/-! A13: isinstance of the caught error; the plain law of counts and positions. -/
namespace G
open PySem PySem.Spec PyProof.Rows L2 TL
theorem go_isx {K : PySem.W.Frag} {a D : Addr} {d : Option Addr} {H : Hp} {c : V} {cv : Value} {b : Bool} {Q : VK} (hD : ExcD K D) (hd : DicAt d H) (kc : ClsV c cv) (e : PySem.W.kitOne K (.ref D) cv = some b) (q : Q (.bl b) H) : rIsX K a (.ref D) d [.ref a, c] H Q :=
  ⟨D, c, cv, b, rfl, hD, hd, rfl, kc, e, q⟩
theorem go_cntf {K : PySem.W.Frag} {H : Hp} {Q : VK} {p : Addr} {ys : List V} {y : V} (h : SqL K H p ys) (n : Nat) (f1 : flatV y = true) (f2 : ys.all flatV = true) (e : (ys.countP fun z => eqV z y) = n) (q : Q (.int (n : Int)) H) : rCntF K (.ref p) [y] H Q :=
  ⟨p, ys, y, rfl, rfl, h, f1, f2, by rw [e]; exact q⟩
/-! ### counts by whole cycles -/
theorem cyc_sub (f g : List Nat → Int) (p c : List Nat) (k : Int) : cyc (fun l => f l - g l) p c k = cyc f p c k - cyc g p c k := by
  unfold cyc
  dsimp only
  split
  · rfl
  · rw [Int.mul_sub]
    omega
theorem cyc_add (f g : List Nat → Int) (p c : List Nat) (k : Int) : cyc (fun l => f l + g l) p c k = cyc f p c k + cyc g p c k := by
  unfold cyc
  dsimp only
  split
  · rfl
  · rw [Int.mul_add]
    omega
theorem cyc_two {x y : Nat} (h : x ≠ y) (p c : List Nat) (k : Int) : cyc (cnt [x, y]) p c k = cyc (cnt [x]) p c k + cyc (cnt [y]) p c k := by
  rw [← cyc_add]
  congr 1
  funext l
  exact cnt_two h l
/-! ### the places of the marks -/
theorem posL_cons (ms : List Nat) (a : Nat) (l : List Nat) : posL ms (a :: l) = (if a ∈ ms then [1] else []) ++ (posL ms l).map (· + 1) := by
  unfold posL
  rw [List.length_cons, List.range_succ_eq_map, List.filter_cons, List.filter_map, List.map_map]
  have e : ((fun i => decide ((a :: l).getD i 0 ∈ ms)) ∘ Nat.succ) = fun i => decide (l.getD i 0 ∈ ms) := by
    funext i
    rfl
  rw [e]
  have e2 : ((fun (i : Nat) => (i : Int) + 1) ∘ Nat.succ) = (fun x : Int => x + 1) ∘ fun (i : Nat) => (i : Int) + 1 := by
    funext i
    show ((i + 1 : Nat) : Int) + 1 = (i : Int) + 1 + 1
    omega
  show List.map _ (if decide ((a :: l).getD 0 0 ∈ ms) = true then _ else _) = _
  by_cases h : a ∈ ms
  · rw [if_pos (by exact decide_eq_true h), if_pos h, List.map_cons, List.map_map, e2]
    rfl
  · rw [if_neg (by show ¬ decide (a ∈ ms) = true; rw [decide_eq_false h]; decide), if_neg h, List.map_map, e2]
    rfl
theorem pos_at (ms : List Nat) : ∀ (l : List Nat) (j : Nat), j < (posL ms l).length → ∃ i : Nat, i < l.length ∧ (posL ms l).getD j 0 = (i : Int) + 1 ∧ l.getD i 0 ∈ ms ∧ cnt ms (l.take i) = (j : Int) ∧ cnt ms (l.take (i + 1)) = (j : Int) + 1
  | [], j, h => by cases h
  | a :: l, j, h => by
    rw [posL_cons] at h ⊢
    by_cases ha : a ∈ ms
    · rw [if_pos ha] at h ⊢
      cases j with
      | zero =>
        refine ⟨0, by simp, rfl, ha, rfl, ?_⟩
        show cnt ms (a :: l.take 0) = 1
        rw [cnt_cons, if_pos ha]
        rfl
      | succ j =>
        have hj : j < (posL ms l).length := by simpa using h
        obtain ⟨i, h1, h2, h3, h4, h5⟩ := pos_at ms l j hj
        refine ⟨i + 1, by rw [List.length_cons]; omega, ?_, h3, ?_, ?_⟩
        · show ((posL ms l).map (· + 1)).getD j 0 = _
          rw [List.getD_eq_getElem?_getD, List.getElem?_map, List.getElem?_eq_getElem hj]
          rw [List.getD_eq_getElem?_getD, List.getElem?_eq_getElem hj] at h2
          show (posL ms l)[j] + 1 = _
          have h2' : (posL ms l)[j] = (i : Int) + 1 := h2
          rw [h2']
          omega
        · rw [List.take_succ_cons, cnt_cons, if_pos ha, h4]
          omega
        · rw [List.take_succ_cons, cnt_cons, if_pos ha, h5]
          omega
    · rw [if_neg ha] at h ⊢
      have hj : j < (posL ms l).length := by simpa using h
      obtain ⟨i, h1, h2, h3, h4, h5⟩ := pos_at ms l j hj
      refine ⟨i + 1, by rw [List.length_cons]; omega, ?_, h3, ?_, ?_⟩
      · show ((posL ms l).map (· + 1)).getD j 0 = _
        rw [List.getD_eq_getElem?_getD, List.getElem?_map, List.getElem?_eq_getElem hj]
        rw [List.getD_eq_getElem?_getD, List.getElem?_eq_getElem hj] at h2
        show (posL ms l)[j] + 1 = _
        have h2' : (posL ms l)[j] = (i : Int) + 1 := h2
        rw [h2']
        omega
      · rw [List.take_succ_cons, cnt_cons, if_neg ha, h4]
        omega
      · rw [List.take_succ_cons, cnt_cons, if_neg ha, h5]
        omega
theorem div_of {L C r : Int} (h0 : 0 ≤ r) (h1 : r < C) : (L * C + r) / C = L ∧ (L * C + r) % C = r := by
  rw [Int.add_comm]
  constructor
  · rw [Int.add_mul_ediv_right _ _ (by omega), Int.ediv_eq_zero_of_lt h0 h1, Int.zero_add]
  · rw [Int.add_mul_emod_self_right, Int.emod_eq_of_lt h0 h1]
theorem take_all {l : List Nat} {n : Nat} (h : l.length ≤ n) : l.take n = l := List.take_of_length_le h
theorem pos_ok {ms p c : List Nat} {m v : Int} (h1 : 1 ≤ m) (hc : 1 ≤ c.length) (e : posOf ms p c m = .int v) : 1 ≤ v ∧ cyc (cnt ms) p c v = m ∧ cyc (cnt ms) p c (v - 1) = m - 1 ∧ lat p c (v - 1) ∈ ms := by
  unfold posOf at e
  have lA := posL_len ms p
  have lB := posL_len ms c
  by_cases h2 : m ≤ (posL ms p).length
  · rw [if_pos h2] at e
    obtain ⟨i, a1, a2, a3, a4, a5⟩ := pos_at ms p (m - 1).toNat (by omega)
    have ev : v = (i : Int) + 1 := by
      rw [a2] at e
      exact (V.int.inj e).symm
    subst ev
    refine ⟨by omega, ?_, ?_, ?_⟩
    · unfold cyc
      rw [if_pos (by omega), show ((i : Int) + 1).toNat = i + 1 by omega, a5]
      omega
    · unfold cyc
      rw [if_pos (by omega), show ((i : Int) + 1 - 1).toNat = i by omega, a4]
      omega
    · unfold lat
      rw [if_pos (by omega), show ((i : Int) + 1 - 1).toNat = i by omega]
      exact a3
  · rw [if_neg h2] at e
    by_cases h3 : posL ms c = []
    · rw [if_pos h3] at e
      cases e
    · rw [if_neg h3] at e
      have hB : 0 < (posL ms c).length := List.length_pos_iff.mpr h3
      have hq : 0 ≤ m - (posL ms p).length - 1 := by omega
      generalize eB : ((posL ms c).length : Int) = B at *
      generalize eA : ((posL ms p).length : Int) = A at *
      have m0 : 0 ≤ (m - A - 1) % B := Int.emod_nonneg _ (by omega)
      have m1 : (m - A - 1) % B < B := Int.emod_lt_of_pos _ (by omega)
      have md : B * ((m - A - 1) / B) + (m - A - 1) % B = m - A - 1 := Int.mul_ediv_add_emod _ _
      have d0 : 0 ≤ (m - A - 1) / B := Int.ediv_nonneg hq (by omega)
      generalize (m - A - 1) / B = L at *
      generalize (m - A - 1) % B = x at *
      obtain ⟨i, a1, a2, a3, a4, a5⟩ := pos_at ms c x.toNat (by omega)
      have ev : v = p.length + L * c.length + ((i : Int) + 1) := by
        rw [a2] at e
        exact (V.int.inj e).symm
      have hLC : 0 ≤ L * (c.length : Int) := Int.mul_nonneg d0 (by omega)
      have eC : cnt ms c = B := lB.symm
      have mdc : L * B + x = m - A - 1 := by rw [Int.mul_comm]; exact md
      subst ev
      refine ⟨by omega, ?_, ?_, ?_⟩
      · unfold cyc
        rw [if_neg (by omega), show ((p.length : Int) + L * c.length + ((i : Int) + 1) - p.length) = L * c.length + ((i : Int) + 1) by omega]
        by_cases h4 : (i : Int) + 1 < c.length
        · obtain ⟨q1, q2⟩ := div_of (L := L) (show (0 : Int) ≤ (i : Int) + 1 by omega) h4
          rw [q1, q2, show ((i : Int) + 1).toNat = i + 1 by omega, a5, eC]
          omega
        · have e5 : L * (c.length : Int) + ((i : Int) + 1) = (L + 1) * c.length + 0 := by
            rw [Int.add_mul]
            omega
          obtain ⟨q1, q2⟩ := div_of (L := L + 1) (C := (c.length : Int)) (show (0 : Int) ≤ 0 by omega) (by omega)
          rw [e5, q1, q2, eC]
          have e6 : cnt ms (c.take (i + 1)) = B := by rw [take_all (by omega), eC]
          rw [a5] at e6
          rw [Int.add_mul]
          show cnt ms p + (L * B + 1 * B) + cnt ms [] = m
          rw [cnt_nil]
          omega
      · by_cases h4 : (p.length : Int) + L * c.length + ((i : Int) + 1) - 1 ≤ p.length
        · have hLC0 : L * (c.length : Int) = 0 := by omega
          have hi : i = 0 := by omega
          have hL : L = 0 := by
            rcases Int.mul_eq_zero.mp hLC0 with z | z
            · exact z
            · omega
          subst hi hL
          unfold cyc
          rw [if_pos h4, take_all (by omega)]
          have e7 : cnt ms (c.take 0) = 0 := rfl
          omega
        · unfold cyc
          rw [if_neg h4, show ((p.length : Int) + L * c.length + ((i : Int) + 1) - 1 - p.length) = L * c.length + (i : Int) by omega]
          obtain ⟨q1, q2⟩ := div_of (L := L) (show (0 : Int) ≤ (i : Int) by omega) (show (i : Int) < c.length by omega)
          rw [q1, q2, Int.toNat_natCast, a4, eC]
          omega
      · unfold lat
        rw [if_neg (by omega), show ((p.length : Int) + L * c.length + ((i : Int) + 1) - 1 - p.length) = L * c.length + (i : Int) by omega]
        obtain ⟨q1, q2⟩ := div_of (L := L) (show (0 : Int) ≤ (i : Int) by omega) (show (i : Int) < c.length by omega)
        rw [q2, Int.toNat_natCast]
        exact a3
theorem pos_none {ms p c : List Nat} {m k j : Int} (hp : (p.length : Int) < j) (hjk : j ≤ k) (e : posOf ms p c m = .non) : cyc (cnt ms) p c k = cyc (cnt ms) p c j ∧ cyc (cnt ms) p c k < m := by
  unfold posOf at e
  have lA := posL_len ms p
  have lB := posL_len ms c
  by_cases h2 : m ≤ (posL ms p).length
  · rw [if_pos h2] at e
    cases e
  · rw [if_neg h2] at e
    by_cases h3 : posL ms c = []
    · rw [h3] at lB
      have z : cnt ms c = 0 := lB.symm
      have zt : ∀ n, cnt ms (c.take n) = 0 := fun n => by
        have h := cnt_app ms (c.take n) (c.drop n)
        rw [List.take_append_drop, z] at h
        have := cnt_nn ms (c.take n)
        have := cnt_nn ms (c.drop n)
        omega
      unfold cyc
      rw [if_neg (by omega), if_neg (by omega), z, zt, zt]
      omega
    · rw [if_neg h3] at e
      cases e
theorem posOf_kind (ms p c : List Nat) (m : Int) : posOf ms p c m = .non ∨ ∃ v, posOf ms p c m = .int v := by
  unfold posOf
  split
  · exact .inr ⟨_, rfl⟩
  · split
    · exact .inl rfl
    · exact .inr ⟨_, rfl⟩
end G

/-! A14: try, except as e: the errors told as lists. -/
namespace G
open PySem PySem.Spec PyProof.Rows L2 TL
def kXf (a : Addr) (cls : Value) (d : Option Addr) (C : Addr) (f : Str) (Q : VK) : VK := fun x H1 => x = .ref a ∧ cls = .ref C ∧ ∃ (dd : Addr) (fs : List (Str × V)) (v : V), d = some dd ∧ H1 dd = some (.xd fs) ∧ fs.lookup f = some v ∧ Q v H1
instance {a : Addr} {cls : Value} {d : Option Addr} {C : Addr} {f : Str} {te : TE} {σ : L2.St} {H : Hp} {Q : VK} : Go (tXf a cls d C f te σ H Q) (te σ H (kXf a cls d C f Q)) := ⟨id⟩
theorem go_xf {a C dd : Addr} {f : Str} {v : V} {Q : VK} {H : Hp} (e : H dd = some (.xd [(f, v)])) (q : Q v H) : kXf a (.ref C) (some dd) C f Q (.ref a) H := ⟨rfl, rfl, dd, _, v, rfl, e, by simp [List.lookup], q⟩
abbrev cRefused : List Nat := [114, 101, 102, 117, 115, 101, 100]
/-- an error with a value, told as a list -/
def Told1 (K : PySem.W.Frag) (nm : List Nat) (v : V) (H : Hp) (Q : VK) : Prop := ∀ (D : Addr) (v' : V) (H' : Hp), Same H H' → Copy K H' v v' → H' D = some (.lst [S cRefused, S nm, v']) → Q (.ref D) H'
def Told0 (nm : List Nat) (H : Hp) (Q : VK) : Prop := ∀ (D : Addr) (H' : Hp), Same H H' → H' D = some (.lst [S cRefused, S nm, .int 0]) → Q (.ref D) H'
/-- the ends of a suite whose name goes -/
abbrev endsOf (i : Nat) (D : Ends) : Ends := { nx := fun σ' H' => D.nx (σ'.set i none) H', rt := D.rt, bk := fun σ' H' => D.bk (σ'.set i none) H', ct := fun σ' H' => D.ct (σ'.set i none) H' }
theorem told_go {K : PySem.W.Frag} {LE : Addr} {i : Nat} {tb : WX → TS} {ts : Addr → Value → Option Addr → TS} {Wout : WX} {D : Ends} {σ : L2.St} {H : Hp} (errs1 : List (Str × Str × List Nat)) (errs0 : List (Str × List Nat))
    (hl1 : ∀ e ∈ errs1, PySem.W.exmOne K (.ref (He.ga K e.1)) (.ref LE) = some true) (hl0 : ∀ e ∈ errs0, PySem.W.exmOne K (.ref (He.ga K e.1)) (.ref LE) = some true)
    (hs1 : ∀ e ∈ errs1, ∀ (d : Addr) (v' : V) (H' : Hp) (a : Addr), H' d = some (.xd [(e.2.1, v')]) → H' a = none → (∀ (D' : Addr) (H'' : Hp), Same H' H'' → H'' D' = some (.lst [S cRefused, S e.2.2, v']) → D.rt (.ref D') H'') → ts a (.ref (He.ga K e.1)) (some d) (endsOf i D) (σ.set i (some (.ref a))) H')
    (hs0 : ∀ e ∈ errs0, ∀ (H' : Hp) (a : Addr), H' a = none → (∀ (D' : Addr) (H'' : Hp), Same H' H'' → H'' D' = some (.lst [S cRefused, S e.2, .int 0]) → D.rt (.ref D') H'') → ts a (.ref (He.ga K e.1)) none (endsOf i D) (σ.set i (some (.ref a))) H')
    (hb : ∀ W : WX, (∀ e ∈ errs1, ∀ v H1, Told1 K e.2.2 v H1 D.rt → Err1 K e.1 e.2.1 v H1 (WE W σ)) → (∀ e ∈ errs0, ∀ H1, Told0 e.2 H1 D.rt → Err0 K e.1 H1 (WE W σ)) → tb W D σ H) :
    (fun D σ H => tb (wAs K (.ref LE) i ts Wout D) D σ H) D σ H := by
  refine hb _ (fun e he v H1 t d v' H' s1 e1 c1 => ?_) (fun e he H1 t H' s1 => ?_)
  · exact ⟨true, hl1 e he, fun _ a ha => hs1 e he d v' H' a e1 ha fun D' H'' s2 e2 => t D' v' H'' (s1.trans s2) (c1.same s2) e2, fun z => by cases z⟩
  · exact ⟨true, hl0 e he, fun _ a ha => hs0 e he H' a ha fun D' H'' s2 e2 => t D' H'' (s1.trans s2) e2, fun z => by cases z⟩
end G
namespace G
open PySem PySem.Spec PyProof.Rows L2 TL
theorem told_ex {X : Cx} {K : PySem.W.Frag} {LE : Addr} {i : Nat} {tb : WX → TS} {ts : Addr → Value → Option Addr → TS} {Wout : WX} {b : List Stmt} {D : Ends} (σ : L2.St) {σ0 : L2.St} {H : Hp} (errs1 : List (Str × Str × List Nat)) (errs0 : List (Str × List Nat)) (hK : X.K = K)
    (h : PSs X.nox b (fun D σ H => tb (wAs X.K (.ref LE) i ts Wout D) D σ H)) (hσ : σ0 = σ)
    (hl1 : ∀ e ∈ errs1, PySem.W.exmOne K (.ref (He.ga K e.1)) (.ref LE) = some true) (hl0 : ∀ e ∈ errs0, PySem.W.exmOne K (.ref (He.ga K e.1)) (.ref LE) = some true)
    (hs1 : ∀ e ∈ errs1, ∀ (d : Addr) (v' : V) (H' : Hp) (a : Addr), H' d = some (.xd [(e.2.1, v')]) → H' a = none → (∀ (D' : Addr) (H'' : Hp), Same H' H'' → H'' D' = some (.lst [S cRefused, S e.2.2, v']) → D.rt (.ref D') H'') → ts a (.ref (He.ga K e.1)) (some d) (endsOf i D) (σ.set i (some (.ref a))) H')
    (hs0 : ∀ e ∈ errs0, ∀ (H' : Hp) (a : Addr), H' a = none → (∀ (D' : Addr) (H'' : Hp), Same H' H'' → H'' D' = some (.lst [S cRefused, S e.2, .int 0]) → D.rt (.ref D') H'') → ts a (.ref (He.ga K e.1)) none (endsOf i D) (σ.set i (some (.ref a))) H')
    (hb : ∀ W : WX, (∀ e ∈ errs1, ∀ v H1, Told1 K e.2.2 v H1 D.rt → Err1 K e.1 e.2.1 v H1 (WE W σ)) → (∀ e ∈ errs0, ∀ H1, Told0 e.2 H1 D.rt → Err0 K e.1 H1 (WE W σ)) → tb W D σ H) :
    ∃ t, PSs X b t ∧ t D σ0 H := by
  subst hK hσ
  exact ⟨_, PSs.nox h, told_go errs1 errs0 hl1 hl0 hs1 hs0 hb⟩
end G

/-! A15: a promise that lets nothing out holds under any wish of the caller. -/
namespace G
open PySem PySem.Spec PyProof.Rows L2 TL
theorem any_cx {P : Program} {w : World} {K : PySem.W.Frag} {mg : Str → Option Value} {base : Heap} {k : Nat} {f : Addr} {fd : FuncData} {ps : List Str} {sp : Sp} {CX' : CXT} (F : FnOk P w K mg base (L2.CX P w) k f fd ps sp)
    (h : ∀ vs H Q E, sp vs H Q E → sp vs H Q (fun _ _ _ => False)) : FnOk P w K mg base CX' k f fd ps sp :=
  ⟨F.len, fun A outer s H args us vs Q E hr e0 hb hv hs => codeAny_mono (F.run A outer s H args us vs Q _ hr e0 hb hv (h _ _ _ _ hs)) fun r s' hq => by
    cases r with
    | error e =>
      obtain ⟨_, _, _, _, _, _, _, _, _, _, _, _, z⟩ := hq
      exact z.elim
    | ok fl => cases fl <;> exact hq⟩
end G

local macro_rules | `(tactic| walk_at "sq") => `(tactic| first | assumption | exact G.sq_of (by assumption) | exact G.st_of (by assumption))
local macro_rules | `(tactic| walk_at "g") => `(tactic| (repeat (refine G.Go.go ?_)))
local macro_rules | `(tactic| walk_at "k") => `(tactic| (try dsimp only [G.cx_K]))
local macro_rules | `(tactic| walk_at "d") => `(tactic| (dsimp only))
local macro_rules | `(tactic| walk_at "s") => `(tactic| (repeat (first
  | refine G.Go.go ?_
  | refine G.go_ixl (by walk_at "sq") rfl ?_
  | refine G.go_ixt (by walk_at "sq") rfl ?_
  | refine G.go_mod (by omega) ?_
  | refine G.go_set (by assumption) rfl ?_
  | refine G.go_lenl (by walk_at "sq") ?_
  | refine G.go_lent (by walk_at "sq") ?_
  | refine G.go_lens (by first | assumption | omega | simp) ?_)))

namespace W
open PySem PySem.Spec PyProof.Rows L2 TL G
def top (i : Nat) : Stmt := PySem.Challenge.pw_leadshome_k10_counts_of_letters_at_any_p.main.body.getD i (.Pass ⟨0, 0, 0, 0⟩)
abbrev s_p_fresh : Stmt := top 2
abbrev N_p_fresh : List Str := ["x", "depth", "y"]
theorem sc_p_fresh : FnScope N_p_fresh ["x", "depth"] (defScope s_p_fresh) := scopeB_ok (by decide +kernel)
abbrev s_m_NumberError_init : Stmt := inClass (top 4) 0
abbrev N_m_NumberError_init : List Str := ["self", "at_number"]
theorem sc_m_NumberError_init : FnScope N_m_NumberError_init ["self", "at_number"] (defScope s_m_NumberError_init) := scopeB_ok (by decide +kernel)
abbrev s_m_OptionError_init : Stmt := inClass (top 5) 0
abbrev N_m_OptionError_init : List Str := ["self", "at_option"]
theorem sc_m_OptionError_init : FnScope N_m_OptionError_init ["self", "at_option"] (defScope s_m_OptionError_init) := scopeB_ok (by decide +kernel)
abbrev s_p_check_number : Stmt := top 32
abbrev N_p_check_number : List Str := ["number", "least", "most"]
theorem sc_p_check_number : FnScope N_p_check_number ["number", "least", "most"] (defScope s_p_check_number) := scopeB_ok (by decide +kernel)
abbrev s_p_check_side : Stmt := top 33
abbrev N_p_check_side : List Str := ["side"]
theorem sc_p_check_side : FnScope N_p_check_side ["side"] (defScope s_p_check_side) := scopeB_ok (by decide +kernel)
abbrev s_p_made_of : Stmt := top 34
abbrev N_p_made_of : List Str := ["text", "letters", "least", "most", "sign"]
theorem sc_p_made_of : FnScope N_p_made_of ["text", "letters", "least", "most"] (defScope s_p_made_of) := scopeB_ok (by decide +kernel)
abbrev s_p_are_parts : Stmt := top 35
abbrev N_p_are_parts : List Str := ["prefix", "cycle", "letters"]
theorem sc_p_are_parts : FnScope N_p_are_parts ["prefix", "cycle", "letters"] (defScope s_p_are_parts) := scopeB_ok (by decide +kernel)
abbrev s_p_text_parts : Stmt := top 36
abbrev N_p_text_parts : List Str := ["text", "letters", "prefix", "bracket", "behind", "cycle"]
theorem sc_p_text_parts : FnScope N_p_text_parts ["text", "letters"] (defScope s_p_text_parts) := scopeB_ok (by decide +kernel)
abbrev s_p_count_named : Stmt := top 37
abbrev N_p_count_named : List Str := ["letters", "side"]
theorem sc_p_count_named : FnScope N_p_count_named ["letters", "side"] (defScope s_p_count_named) := scopeB_ok (by decide +kernel)
abbrev s_p_named_positions : Stmt := top 38
abbrev N_p_named_positions : List Str := ["letters", "side", "at", "sign"]
theorem sc_p_named_positions : FnScope N_p_named_positions ["letters", "side"] (defScope s_p_named_positions) := scopeB_ok (by decide +kernel)
abbrev s_p_read_word : Stmt := top 39
abbrev N_p_read_word : List Str := ["word"]
theorem sc_p_read_word : FnScope N_p_read_word ["word"] (defScope s_p_read_word) := scopeB_ok (by decide +kernel)
abbrev s_p_letter : Stmt := top 40
abbrev N_p_letter : List Str := ["word", "k", "prefix", "cycle"]
theorem sc_p_letter : FnScope N_p_letter ["word", "k"] (defScope s_p_letter) := scopeB_ok (by decide +kernel)
abbrev s_p_named : Stmt := top 41
abbrev N_p_named : List Str := ["word", "k", "side", "prefix", "cycle", "laps", "more", "ahead"]
theorem sc_p_named : FnScope N_p_named ["word", "k", "side"] (defScope s_p_named) := scopeB_ok (by decide +kernel)
abbrev s_p_position_of : Stmt := top 42
abbrev N_p_position_of : List Str := ["word", "side", "m", "prefix", "cycle", "in_prefix", "in_cycle", "laps", "index"]
theorem sc_p_position_of : FnScope N_p_position_of ["word", "side", "m"] (defScope s_p_position_of) := scopeB_ok (by decide +kernel)
abbrev s_p_change_of : Stmt := top 44
abbrev N_p_change_of : List Str := ["letters"]
theorem sc_p_change_of : FnScope N_p_change_of ["letters"] (defScope s_p_change_of) := scopeB_ok (by decide +kernel)
abbrev s_p_balance : Stmt := top 45
abbrev N_p_balance : List Str := ["word", "k", "p", "c", "cycles", "more"]
theorem sc_p_balance : FnScope N_p_balance ["word", "k"] (defScope s_p_balance) := scopeB_ok (by decide +kernel)
abbrev s_l_store : Stmt := top 47
abbrev N_l_store : List Str := ["script", "great", "cells", "cell", "small"]
theorem sc_l_store : FnScope N_l_store ["script"] (defScope s_l_store) := scopeB_ok (by decide +kernel)
abbrev s_l_take : Stmt := top 48
abbrev N_l_take : List Str := ["deal", "options", "cell", "drawn", "mixed"]
theorem sc_l_take : FnScope N_l_take ["deal", "options"] (defScope s_l_take) := scopeB_ok (by decide +kernel)
abbrev s_l_within : Stmt := top 49
abbrev N_l_within : List Str := ["deal", "least", "greatest"]
theorem sc_l_within : FnScope N_l_within ["deal", "least", "greatest"] (defScope s_l_within) := scopeB_ok (by decide +kernel)
abbrev s_l_edge : Stmt := top 50
abbrev N_l_edge : List Str := ["deal", "least", "greatest", "shape"]
theorem sc_l_edge : FnScope N_l_edge ["deal", "least", "greatest"] (defScope s_l_edge) := scopeB_ok (by decide +kernel)
abbrev s_l_pick : Stmt := top 51
abbrev N_l_pick : List Str := ["deal", "row"]
theorem sc_l_pick : FnScope N_l_pick ["deal", "row"] (defScope s_l_pick) := scopeB_ok (by decide +kernel)
abbrev s_l_huge : Stmt := top 52
abbrev N_l_huge : List Str := ["deal", "shape", "rounds_drawn", "drawn", "turn"]
theorem sc_l_huge : FnScope N_l_huge ["deal"] (defScope s_l_huge) := scopeB_ok (by decide +kernel)
abbrev s_l_bad_number : Stmt := top 53
abbrev N_l_bad_number : List Str := ["deal", "least", "greatest", "row"]
theorem sc_l_bad_number : FnScope N_l_bad_number ["deal", "least", "greatest"] (defScope s_l_bad_number) := scopeB_ok (by decide +kernel)
abbrev s_l_bad_option : Stmt := top 54
abbrev N_l_bad_option : List Str := ["deal", "right_row", "word", "row"]
theorem sc_l_bad_option : FnScope N_l_bad_option ["deal", "right_row"] (defScope s_l_bad_option) := scopeB_ok (by decide +kernel)
abbrev s_l_prefix_size : Stmt := top 55
abbrev N_l_prefix_size : List Str := ["deal", "shape"]
theorem sc_l_prefix_size : FnScope N_l_prefix_size ["deal"] (defScope s_l_prefix_size) := scopeB_ok (by decide +kernel)
abbrev s_l_letter_text : Stmt := top 56
abbrev N_l_letter_text : List Str := ["deal", "marks", "size", "k"]
theorem sc_l_letter_text : FnScope N_l_letter_text ["deal", "marks", "size"] (defScope s_l_letter_text) := scopeB_ok (by decide +kernel)
abbrev s_l_split : Stmt := top 57
abbrev N_l_split : List Str := ["word_text", "at"]
theorem sc_l_split : FnScope N_l_split ["word_text"] (defScope s_l_split) := scopeB_ok (by decide +kernel)
abbrev s_l_free_word : Stmt := top 58
abbrev N_l_free_word : List Str := ["deal", "head"]
theorem sc_l_free_word : FnScope N_l_free_word ["deal"] (defScope s_l_free_word) := scopeB_ok (by decide +kernel)
abbrev s_l_bad_word : Stmt := top 59
abbrev N_l_bad_word : List Str := ["deal", "row"]
theorem sc_l_bad_word : FnScope N_l_bad_word ["deal"] (defScope s_l_bad_word) := scopeB_ok (by decide +kernel)
abbrev s_l_mark_at : Stmt := top 60
abbrev N_l_mark_at : List Str := ["pair", "k"]
theorem sc_l_mark_at : FnScope N_l_mark_at ["pair", "k"] (defScope s_l_mark_at) := scopeB_ok (by decide +kernel)
abbrev s_l_count_marks : Stmt := top 61
abbrev N_l_count_marks : List Str := ["word_text", "k", "marks", "pair", "head", "total", "beyond", "whole", "last", "mark"]
theorem sc_l_count_marks : FnScope N_l_count_marks ["word_text", "k", "marks"] (defScope s_l_count_marks) := scopeB_ok (by decide +kernel)
abbrev s_l_side_marks : Stmt := top 62
abbrev N_l_side_marks : List Str := ["side"]
theorem sc_l_side_marks : FnScope N_l_side_marks ["side"] (defScope s_l_side_marks) := scopeB_ok (by decide +kernel)
abbrev s_l_balance_after : Stmt := top 63
abbrev N_l_balance_after : List Str := ["word_text", "k"]
theorem sc_l_balance_after : FnScope N_l_balance_after ["word_text", "k"] (defScope s_l_balance_after) := scopeB_ok (by decide +kernel)
abbrev s_l_mark_position : Stmt := top 64
abbrev N_l_mark_position : List Str := ["word_text", "marks", "m", "pair", "spots", "turns", "beyond", "k"]
theorem sc_l_mark_position : FnScope N_l_mark_position ["word_text", "marks", "m"] (defScope s_l_mark_position) := scopeB_ok (by decide +kernel)
abbrev s_l_is_number : Stmt := top 65
abbrev N_l_is_number : List Str := ["answer"]
theorem sc_l_is_number : FnScope N_l_is_number ["answer"] (defScope s_l_is_number) := scopeB_ok (by decide +kernel)
abbrev s_l_equal : Stmt := top 66
abbrev N_l_equal : List Str := ["answer", "due", "k"]
theorem sc_l_equal : FnScope N_l_equal ["answer", "due"] (defScope s_l_equal) := scopeB_ok (by decide +kernel)
abbrev s_l_alike : Stmt := top 67
abbrev N_l_alike : List Str := ["answer", "due", "k"]
theorem sc_l_alike : FnScope N_l_alike ["answer", "due"] (defScope s_l_alike) := scopeB_ok (by decide +kernel)
abbrev s_l_told : Stmt := top 68
abbrev N_l_told : List Str := ["what", "one", "two", "three", "e", "kinds"]
theorem sc_l_told : FnScope N_l_told ["what", "one", "two", "three"] (defScope s_l_told) := scopeB_ok (by decide +kernel)
abbrev s_l_refused : Stmt := top 69
abbrev N_l_refused : List Str := ["told", "name", "value"]
theorem sc_l_refused : FnScope N_l_refused ["told", "name", "value"] (defScope s_l_refused) := scopeB_ok (by decide +kernel)
abbrev s_l_count_holds : Stmt := top 70
abbrev N_l_count_holds : List Str := ["word_text", "k", "pair", "ins", "outs"]
theorem sc_l_count_holds : FnScope N_l_count_holds ["word_text", "k"] (defScope s_l_count_holds) := scopeB_ok (by decide +kernel)
abbrev s_l_position_holds : Stmt := top 71
abbrev N_l_position_holds : List Str := ["word_text", "side", "m", "due", "told", "far"]
theorem sc_l_position_holds : FnScope N_l_position_holds ["word_text", "side", "m"] (defScope s_l_position_holds) := scopeB_ok (by decide +kernel)
abbrev s_l_refusals_hold : Stmt := top 72
abbrev N_l_refusals_hold : List Str := ["deal", "word_text", "bad", "off", "none", "far", "one", "rows", "row"]
theorem sc_l_refusals_hold : FnScope N_l_refusals_hold ["deal", "word_text"] (defScope s_l_refusals_hold) := scopeB_ok (by decide +kernel)
abbrev s_law : Stmt := top 73
abbrev N_law : List Str := ["script", "deal", "words_here", "spots", "word_text", "k", "m", "side"]
theorem sc_law : FnScope N_law ["script"] (defScope s_law) := scopeB_ok (by decide +kernel)
def allC : List Str := ["LeadsError", "NumberError", "OptionError", "PlaceError", "BookError", "HasHome", "NoHome", "NotFull", "NotGood", "CountError", "NotASink", "NotFree", "RowError", "PostError", "RingStands", "TooMany", "TooLong", "LineError", "WebError", "ArrowsError", "WordError", "MachineError", "ChangeError", "PaperError"]
def kitsB (K : PySem.W.Frag) (D : Addr) (d : Str) : Bool := allC.all fun c => decide (PySem.W.kitOne K (.ref D) (.ref (He.ga K c)) = some (decide (c = d ∨ c = "LeadsError")))
theorem kitsB_ok {K : PySem.W.Frag} {D : Addr} {d : Str} (h : kitsB K D d = true) {c : Str} (hc : c ∈ allC) : PySem.W.kitOne K (.ref D) (.ref (He.ga K c)) = some (decide (c = d ∨ c = "LeadsError")) := of_decide_eq_true (List.all_eq_true.mp h c hc)
abbrev FnP (K : PySem.W.Frag) (p : FnAt) (x q : Str) (st : Stmt) (dvs : List V) : Prop := FunD K x q (defArgs st) (defBody st) (defScope st) dvs [] (He.fAd K p) (fdOf K p)
structure Top (w : World) (K : PySem.W.Frag) (mg : Str → Option Value) : Prop where
  f_p_fresh : FnP K ("fresh", none) "fresh" "fresh" s_p_fresh [.int 8]
  f_m_NumberError_init : FnP K ("NumberError", some "__init__") "__init__" "NumberError.__init__" s_m_NumberError_init []
  f_m_OptionError_init : FnP K ("OptionError", some "__init__") "__init__" "OptionError.__init__" s_m_OptionError_init []
  f_p_check_number : FnP K ("check_number", none) "check_number" "check_number" s_p_check_number [.non]
  f_p_check_side : FnP K ("check_side", none) "check_side" "check_side" s_p_check_side []
  f_p_made_of : FnP K ("made_of", none) "made_of" "made_of" s_p_made_of []
  f_p_are_parts : FnP K ("are_parts", none) "are_parts" "are_parts" s_p_are_parts []
  f_p_text_parts : FnP K ("text_parts", none) "text_parts" "text_parts" s_p_text_parts []
  f_p_count_named : FnP K ("count_named", none) "count_named" "count_named" s_p_count_named []
  f_p_named_positions : FnP K ("named_positions", none) "named_positions" "named_positions" s_p_named_positions []
  f_p_read_word : FnP K ("read_word", none) "read_word" "read_word" s_p_read_word []
  f_p_letter : FnP K ("letter", none) "letter" "letter" s_p_letter []
  f_p_named : FnP K ("named", none) "named" "named" s_p_named []
  f_p_position_of : FnP K ("position_of", none) "position_of" "position_of" s_p_position_of []
  f_p_change_of : FnP K ("change_of", none) "change_of" "change_of" s_p_change_of []
  f_p_balance : FnP K ("balance", none) "balance" "balance" s_p_balance []
  f_l_store : FnP K ("_law_store", none) "_law_store" "_law_store" s_l_store []
  f_l_take : FnP K ("_law_take", none) "_law_take" "_law_take" s_l_take []
  f_l_within : FnP K ("_law_within", none) "_law_within" "_law_within" s_l_within []
  f_l_edge : FnP K ("_law_edge", none) "_law_edge" "_law_edge" s_l_edge []
  f_l_pick : FnP K ("_law_pick", none) "_law_pick" "_law_pick" s_l_pick []
  f_l_huge : FnP K ("_law_huge", none) "_law_huge" "_law_huge" s_l_huge []
  f_l_bad_number : FnP K ("_law_bad_number", none) "_law_bad_number" "_law_bad_number" s_l_bad_number []
  f_l_bad_option : FnP K ("_law_bad_option", none) "_law_bad_option" "_law_bad_option" s_l_bad_option []
  f_l_prefix_size : FnP K ("_law_prefix_size", none) "_law_prefix_size" "_law_prefix_size" s_l_prefix_size []
  f_l_letter_text : FnP K ("_law_letter_text", none) "_law_letter_text" "_law_letter_text" s_l_letter_text []
  f_l_split : FnP K ("_law_split", none) "_law_split" "_law_split" s_l_split []
  f_l_free_word : FnP K ("_law_free_word", none) "_law_free_word" "_law_free_word" s_l_free_word []
  f_l_bad_word : FnP K ("_law_bad_word", none) "_law_bad_word" "_law_bad_word" s_l_bad_word []
  f_l_mark_at : FnP K ("_law_mark_at", none) "_law_mark_at" "_law_mark_at" s_l_mark_at []
  f_l_count_marks : FnP K ("_law_count_marks", none) "_law_count_marks" "_law_count_marks" s_l_count_marks []
  f_l_side_marks : FnP K ("_law_side_marks", none) "_law_side_marks" "_law_side_marks" s_l_side_marks []
  f_l_balance_after : FnP K ("_law_balance_after", none) "_law_balance_after" "_law_balance_after" s_l_balance_after []
  f_l_mark_position : FnP K ("_law_mark_position", none) "_law_mark_position" "_law_mark_position" s_l_mark_position []
  f_l_is_number : FnP K ("_law_is_number", none) "_law_is_number" "_law_is_number" s_l_is_number []
  f_l_equal : FnP K ("_law_equal", none) "_law_equal" "_law_equal" s_l_equal []
  f_l_alike : FnP K ("_law_alike", none) "_law_alike" "_law_alike" s_l_alike []
  f_l_told : FnP K ("_law_told", none) "_law_told" "_law_told" s_l_told []
  f_l_refused : FnP K ("_law_refused", none) "_law_refused" "_law_refused" s_l_refused []
  f_l_count_holds : FnP K ("_law_count_holds", none) "_law_count_holds" "_law_count_holds" s_l_count_holds []
  f_l_position_holds : FnP K ("_law_position_holds", none) "_law_position_holds" "_law_position_holds" s_l_position_holds []
  f_l_refusals_hold : FnP K ("_law_refusals_hold", none) "_law_refusals_hold" "_law_refusals_hold" s_l_refusals_hold []
  f_law : FnP K ("law", none) "law" "law" s_law []
  z_ValueError : mg "ValueError" = none
  z_all : mg "all" = none
  z_bool : mg "bool" = none
  z_divmod : mg "divmod" = none
  z_enumerate : mg "enumerate" = none
  z_int : mg "int" = none
  z_isinstance : mg "isinstance" = none
  z_len : mg "len" = none
  z_list : mg "list" = none
  z_max : mg "max" = none
  z_min : mg "min" = none
  z_range : mg "range" = none
  z_str : mg "str" = none
  z_tuple : mg "tuple" = none
  g_p_fresh : mg "fresh" = some (.ref (He.fAd K ("fresh", none)))
  g_p_check_number : mg "check_number" = some (.ref (He.fAd K ("check_number", none)))
  g_p_check_side : mg "check_side" = some (.ref (He.fAd K ("check_side", none)))
  g_p_made_of : mg "made_of" = some (.ref (He.fAd K ("made_of", none)))
  g_p_are_parts : mg "are_parts" = some (.ref (He.fAd K ("are_parts", none)))
  g_p_text_parts : mg "text_parts" = some (.ref (He.fAd K ("text_parts", none)))
  g_p_count_named : mg "count_named" = some (.ref (He.fAd K ("count_named", none)))
  g_p_named_positions : mg "named_positions" = some (.ref (He.fAd K ("named_positions", none)))
  g_p_read_word : mg "read_word" = some (.ref (He.fAd K ("read_word", none)))
  g_p_letter : mg "letter" = some (.ref (He.fAd K ("letter", none)))
  g_p_named : mg "named" = some (.ref (He.fAd K ("named", none)))
  g_p_position_of : mg "position_of" = some (.ref (He.fAd K ("position_of", none)))
  g_p_change_of : mg "change_of" = some (.ref (He.fAd K ("change_of", none)))
  g_p_balance : mg "balance" = some (.ref (He.fAd K ("balance", none)))
  g_l_store : mg "_law_store" = some (.ref (He.fAd K ("_law_store", none)))
  g_l_take : mg "_law_take" = some (.ref (He.fAd K ("_law_take", none)))
  g_l_within : mg "_law_within" = some (.ref (He.fAd K ("_law_within", none)))
  g_l_edge : mg "_law_edge" = some (.ref (He.fAd K ("_law_edge", none)))
  g_l_pick : mg "_law_pick" = some (.ref (He.fAd K ("_law_pick", none)))
  g_l_huge : mg "_law_huge" = some (.ref (He.fAd K ("_law_huge", none)))
  g_l_bad_number : mg "_law_bad_number" = some (.ref (He.fAd K ("_law_bad_number", none)))
  g_l_bad_option : mg "_law_bad_option" = some (.ref (He.fAd K ("_law_bad_option", none)))
  g_l_prefix_size : mg "_law_prefix_size" = some (.ref (He.fAd K ("_law_prefix_size", none)))
  g_l_letter_text : mg "_law_letter_text" = some (.ref (He.fAd K ("_law_letter_text", none)))
  g_l_split : mg "_law_split" = some (.ref (He.fAd K ("_law_split", none)))
  g_l_free_word : mg "_law_free_word" = some (.ref (He.fAd K ("_law_free_word", none)))
  g_l_bad_word : mg "_law_bad_word" = some (.ref (He.fAd K ("_law_bad_word", none)))
  g_l_mark_at : mg "_law_mark_at" = some (.ref (He.fAd K ("_law_mark_at", none)))
  g_l_count_marks : mg "_law_count_marks" = some (.ref (He.fAd K ("_law_count_marks", none)))
  g_l_side_marks : mg "_law_side_marks" = some (.ref (He.fAd K ("_law_side_marks", none)))
  g_l_balance_after : mg "_law_balance_after" = some (.ref (He.fAd K ("_law_balance_after", none)))
  g_l_mark_position : mg "_law_mark_position" = some (.ref (He.fAd K ("_law_mark_position", none)))
  g_l_is_number : mg "_law_is_number" = some (.ref (He.fAd K ("_law_is_number", none)))
  g_l_equal : mg "_law_equal" = some (.ref (He.fAd K ("_law_equal", none)))
  g_l_alike : mg "_law_alike" = some (.ref (He.fAd K ("_law_alike", none)))
  g_l_told : mg "_law_told" = some (.ref (He.fAd K ("_law_told", none)))
  g_l_refused : mg "_law_refused" = some (.ref (He.fAd K ("_law_refused", none)))
  g_l_count_holds : mg "_law_count_holds" = some (.ref (He.fAd K ("_law_count_holds", none)))
  g_l_position_holds : mg "_law_position_holds" = some (.ref (He.fAd K ("_law_position_holds", none)))
  g_l_refusals_hold : mg "_law_refusals_hold" = some (.ref (He.fAd K ("_law_refusals_hold", none)))
  g_law : mg "law" = some (.ref (He.fAd K ("law", none)))
  g_LeadsError : mg "LeadsError" = some (.ref (He.ga K "LeadsError"))
  g_NumberError : mg "NumberError" = some (.ref (He.ga K "NumberError"))
  g_OptionError : mg "OptionError" = some (.ref (He.ga K "OptionError"))
  g_PlaceError : mg "PlaceError" = some (.ref (He.ga K "PlaceError"))
  g_BookError : mg "BookError" = some (.ref (He.ga K "BookError"))
  g_HasHome : mg "HasHome" = some (.ref (He.ga K "HasHome"))
  g_NoHome : mg "NoHome" = some (.ref (He.ga K "NoHome"))
  g_NotFull : mg "NotFull" = some (.ref (He.ga K "NotFull"))
  g_NotGood : mg "NotGood" = some (.ref (He.ga K "NotGood"))
  g_CountError : mg "CountError" = some (.ref (He.ga K "CountError"))
  g_NotASink : mg "NotASink" = some (.ref (He.ga K "NotASink"))
  g_NotFree : mg "NotFree" = some (.ref (He.ga K "NotFree"))
  g_RowError : mg "RowError" = some (.ref (He.ga K "RowError"))
  g_PostError : mg "PostError" = some (.ref (He.ga K "PostError"))
  g_RingStands : mg "RingStands" = some (.ref (He.ga K "RingStands"))
  g_TooMany : mg "TooMany" = some (.ref (He.ga K "TooMany"))
  g_TooLong : mg "TooLong" = some (.ref (He.ga K "TooLong"))
  g_LineError : mg "LineError" = some (.ref (He.ga K "LineError"))
  g_WebError : mg "WebError" = some (.ref (He.ga K "WebError"))
  g_ArrowsError : mg "ArrowsError" = some (.ref (He.ga K "ArrowsError"))
  g_WordError : mg "WordError" = some (.ref (He.ga K "WordError"))
  g_MachineError : mg "MachineError" = some (.ref (He.ga K "MachineError"))
  g_ChangeError : mg "ChangeError" = some (.ref (He.ga K "ChangeError"))
  g_PaperError : mg "PaperError" = some (.ref (He.ga K "PaperError"))
  k_MOST_DEEP : mg "MOST_DEEP" = some (.int 8 (tokOf (mg "MOST_DEEP")))
  k_LETTERS : mg "LETTERS" = some (.str (mk [66, 73, 79]) (tokOf (mg "LETTERS")))
  k_LONGEST_PREFIX : mg "LONGEST_PREFIX" = some (.int 12 (tokOf (mg "LONGEST_PREFIX")))
  k_LONGEST_CYCLE : mg "LONGEST_CYCLE" = some (.int 4 (tokOf (mg "LONGEST_CYCLE")))
  g_ONE_SIDED : mg "ONE_SIDED" = some (.ref (He.ga K "ONE_SIDED"))
  e_WordError : PySem.W.excIn K (He.ga K "WordError") He.veBase "ValueError.__new__" = true ∧ PySem.W.keepIn K (.ref (He.ga K "WordError")) = true ∧ PySem.W.subIn K (.ref (He.ga K "WordError")) (.type "BaseException") = some true ∧ PySem.W.typeIn K (.ref (He.ga K "WordError")) = some (.type "type")
  d_ONE_SIDED : TabD K w (He.ga K "ONE_SIDED") [([105, 110], S [73]), ([111, 117, 116], S [79])]
  o_NumberError : OexC K (He.ga K "NumberError")
  i_NumberError : PySem.W.findIn K (.ref (He.ga K "NumberError")) "__init__" = some (some (.ref (He.fAd K ("NumberError", some "__init__"))))
  y_NumberError : PySem.W.typeIn K (.ref (He.fAd K ("NumberError", some "__init__"))) = some (.type "function")
  n_NumberError_at_number : PySem.W.findIn K (.ref (He.ga K "NumberError")) "at_number" = some none
  x_NumberError : XfC K (He.ga K "NumberError")
  D_NumberError : ExcD K (He.ga K "NumberError")
  q_NumberError : ∀ c ∈ allC, PySem.W.kitOne K (.ref (He.ga K "NumberError")) (.ref (He.ga K c)) = some (decide (c = "NumberError" ∨ c = "LeadsError"))
  v_NumberError : PySem.W.kitOne K (.ref (He.ga K "NumberError")) (.type "ValueError") = some true
  l_NumberError : PySem.W.exmOne K (.ref (He.ga K "NumberError")) (.ref (He.ga K "LeadsError")) = some true
  o_OptionError : OexC K (He.ga K "OptionError")
  i_OptionError : PySem.W.findIn K (.ref (He.ga K "OptionError")) "__init__" = some (some (.ref (He.fAd K ("OptionError", some "__init__"))))
  y_OptionError : PySem.W.typeIn K (.ref (He.fAd K ("OptionError", some "__init__"))) = some (.type "function")
  n_OptionError_at_option : PySem.W.findIn K (.ref (He.ga K "OptionError")) "at_option" = some none
  x_OptionError : XfC K (He.ga K "OptionError")
  D_OptionError : ExcD K (He.ga K "OptionError")
  q_OptionError : ∀ c ∈ allC, PySem.W.kitOne K (.ref (He.ga K "OptionError")) (.ref (He.ga K c)) = some (decide (c = "OptionError" ∨ c = "LeadsError"))
  v_OptionError : PySem.W.kitOne K (.ref (He.ga K "OptionError")) (.type "ValueError") = some true
  l_OptionError : PySem.W.exmOne K (.ref (He.ga K "OptionError")) (.ref (He.ga K "LeadsError")) = some true
  D_WordError : ExcD K (He.ga K "WordError")
  q_WordError : ∀ c ∈ allC, PySem.W.kitOne K (.ref (He.ga K "WordError")) (.ref (He.ga K c)) = some (decide (c = "WordError" ∨ c = "LeadsError"))
  v_WordError : PySem.W.kitOne K (.ref (He.ga K "WordError")) (.type "ValueError") = some true
  l_WordError : PySem.W.exmOne K (.ref (He.ga K "WordError")) (.ref (He.ga K "LeadsError")) = some true
section
variable {w : World} {K : PySem.W.Frag} {mg : Str → Option Value}
theorem b_p_fresh (T : Top w K mg) : Binds K (fdOf K ("fresh", none)) ["x", "depth"] [] := by
  obtain ⟨ds, h1, h2⟩ := T.f_p_fresh.binds1 (ps := ["x", "depth"]) 2 1 (fun z => by cases z) rfl fun _ _ _ _ _ _ _ us its l1 l2 => match us, its, l1, l2 with | [_, _], [_], _, _ => ⟨_, rfl, rfl⟩
  cases h1
  exact h2
theorem dflt_p_fresh (T : Top w K mg) : ∃ ds, Vals [.int 8] ds ∧ Binds K (fdOf K ("fresh", none)) ["x", "depth"] ds := T.f_p_fresh.binds1 1 0 (fun z => by cases z) rfl fun _ _ _ _ _ _ _ us its l1 l2 => match us, its, l1, l2 with | [_], [_], _, _ => ⟨_, rfl, rfl⟩
theorem b_m_NumberError_init (T : Top w K mg) : Binds K (fdOf K ("NumberError", some "__init__")) ["self", "at_number"] [] := T.f_m_NumberError_init.bindsN fun _ _ _ _ _ _ us hl => match us, hl with | [_, _], _ => rfl
theorem b_m_OptionError_init (T : Top w K mg) : Binds K (fdOf K ("OptionError", some "__init__")) ["self", "at_option"] [] := T.f_m_OptionError_init.bindsN fun _ _ _ _ _ _ us hl => match us, hl with | [_, _], _ => rfl
theorem b_p_check_number (T : Top w K mg) : Binds K (fdOf K ("check_number", none)) ["number", "least", "most"] [] := by
  obtain ⟨ds, h1, h2⟩ := T.f_p_check_number.binds1 (ps := ["number", "least", "most"]) 3 1 (fun z => by cases z) rfl fun _ _ _ _ _ _ _ us its l1 l2 => match us, its, l1, l2 with | [_, _, _], [_], _, _ => ⟨_, rfl, rfl⟩
  cases h1
  exact h2
theorem dflt_p_check_number (T : Top w K mg) : ∃ ds, Vals [.non] ds ∧ Binds K (fdOf K ("check_number", none)) ["number", "least", "most"] ds := T.f_p_check_number.binds1 2 0 (fun z => by cases z) rfl fun _ _ _ _ _ _ _ us its l1 l2 => match us, its, l1, l2 with | [_, _], [_], _, _ => ⟨_, rfl, rfl⟩
theorem b_p_check_side (T : Top w K mg) : Binds K (fdOf K ("check_side", none)) ["side"] [] := T.f_p_check_side.bindsN fun _ _ _ _ _ _ us hl => match us, hl with | [_], _ => rfl
theorem b_p_made_of (T : Top w K mg) : Binds K (fdOf K ("made_of", none)) ["text", "letters", "least", "most"] [] := T.f_p_made_of.bindsN fun _ _ _ _ _ _ us hl => match us, hl with | [_, _, _, _], _ => rfl
theorem b_p_are_parts (T : Top w K mg) : Binds K (fdOf K ("are_parts", none)) ["prefix", "cycle", "letters"] [] := T.f_p_are_parts.bindsN fun _ _ _ _ _ _ us hl => match us, hl with | [_, _, _], _ => rfl
theorem b_p_text_parts (T : Top w K mg) : Binds K (fdOf K ("text_parts", none)) ["text", "letters"] [] := T.f_p_text_parts.bindsN fun _ _ _ _ _ _ us hl => match us, hl with | [_, _], _ => rfl
theorem b_p_count_named (T : Top w K mg) : Binds K (fdOf K ("count_named", none)) ["letters", "side"] [] := T.f_p_count_named.bindsN fun _ _ _ _ _ _ us hl => match us, hl with | [_, _], _ => rfl
theorem b_p_named_positions (T : Top w K mg) : Binds K (fdOf K ("named_positions", none)) ["letters", "side"] [] := T.f_p_named_positions.bindsN fun _ _ _ _ _ _ us hl => match us, hl with | [_, _], _ => rfl
theorem b_p_read_word (T : Top w K mg) : Binds K (fdOf K ("read_word", none)) ["word"] [] := T.f_p_read_word.bindsN fun _ _ _ _ _ _ us hl => match us, hl with | [_], _ => rfl
theorem b_p_letter (T : Top w K mg) : Binds K (fdOf K ("letter", none)) ["word", "k"] [] := T.f_p_letter.bindsN fun _ _ _ _ _ _ us hl => match us, hl with | [_, _], _ => rfl
theorem b_p_named (T : Top w K mg) : Binds K (fdOf K ("named", none)) ["word", "k", "side"] [] := T.f_p_named.bindsN fun _ _ _ _ _ _ us hl => match us, hl with | [_, _, _], _ => rfl
theorem b_p_position_of (T : Top w K mg) : Binds K (fdOf K ("position_of", none)) ["word", "side", "m"] [] := T.f_p_position_of.bindsN fun _ _ _ _ _ _ us hl => match us, hl with | [_, _, _], _ => rfl
theorem b_p_change_of (T : Top w K mg) : Binds K (fdOf K ("change_of", none)) ["letters"] [] := T.f_p_change_of.bindsN fun _ _ _ _ _ _ us hl => match us, hl with | [_], _ => rfl
theorem b_p_balance (T : Top w K mg) : Binds K (fdOf K ("balance", none)) ["word", "k"] [] := T.f_p_balance.bindsN fun _ _ _ _ _ _ us hl => match us, hl with | [_, _], _ => rfl
theorem b_l_store (T : Top w K mg) : Binds K (fdOf K ("_law_store", none)) ["script"] [] := T.f_l_store.bindsN fun _ _ _ _ _ _ us hl => match us, hl with | [_], _ => rfl
theorem b_l_take (T : Top w K mg) : Binds K (fdOf K ("_law_take", none)) ["deal", "options"] [] := T.f_l_take.bindsN fun _ _ _ _ _ _ us hl => match us, hl with | [_, _], _ => rfl
theorem b_l_within (T : Top w K mg) : Binds K (fdOf K ("_law_within", none)) ["deal", "least", "greatest"] [] := T.f_l_within.bindsN fun _ _ _ _ _ _ us hl => match us, hl with | [_, _, _], _ => rfl
theorem b_l_edge (T : Top w K mg) : Binds K (fdOf K ("_law_edge", none)) ["deal", "least", "greatest"] [] := T.f_l_edge.bindsN fun _ _ _ _ _ _ us hl => match us, hl with | [_, _, _], _ => rfl
theorem b_l_pick (T : Top w K mg) : Binds K (fdOf K ("_law_pick", none)) ["deal", "row"] [] := T.f_l_pick.bindsN fun _ _ _ _ _ _ us hl => match us, hl with | [_, _], _ => rfl
theorem b_l_huge (T : Top w K mg) : Binds K (fdOf K ("_law_huge", none)) ["deal"] [] := T.f_l_huge.bindsN fun _ _ _ _ _ _ us hl => match us, hl with | [_], _ => rfl
theorem b_l_bad_number (T : Top w K mg) : Binds K (fdOf K ("_law_bad_number", none)) ["deal", "least", "greatest"] [] := T.f_l_bad_number.bindsN fun _ _ _ _ _ _ us hl => match us, hl with | [_, _, _], _ => rfl
theorem b_l_bad_option (T : Top w K mg) : Binds K (fdOf K ("_law_bad_option", none)) ["deal", "right_row"] [] := T.f_l_bad_option.bindsN fun _ _ _ _ _ _ us hl => match us, hl with | [_, _], _ => rfl
theorem b_l_prefix_size (T : Top w K mg) : Binds K (fdOf K ("_law_prefix_size", none)) ["deal"] [] := T.f_l_prefix_size.bindsN fun _ _ _ _ _ _ us hl => match us, hl with | [_], _ => rfl
theorem b_l_letter_text (T : Top w K mg) : Binds K (fdOf K ("_law_letter_text", none)) ["deal", "marks", "size"] [] := T.f_l_letter_text.bindsN fun _ _ _ _ _ _ us hl => match us, hl with | [_, _, _], _ => rfl
theorem b_l_split (T : Top w K mg) : Binds K (fdOf K ("_law_split", none)) ["word_text"] [] := T.f_l_split.bindsN fun _ _ _ _ _ _ us hl => match us, hl with | [_], _ => rfl
theorem b_l_free_word (T : Top w K mg) : Binds K (fdOf K ("_law_free_word", none)) ["deal"] [] := T.f_l_free_word.bindsN fun _ _ _ _ _ _ us hl => match us, hl with | [_], _ => rfl
theorem b_l_bad_word (T : Top w K mg) : Binds K (fdOf K ("_law_bad_word", none)) ["deal"] [] := T.f_l_bad_word.bindsN fun _ _ _ _ _ _ us hl => match us, hl with | [_], _ => rfl
theorem b_l_mark_at (T : Top w K mg) : Binds K (fdOf K ("_law_mark_at", none)) ["pair", "k"] [] := T.f_l_mark_at.bindsN fun _ _ _ _ _ _ us hl => match us, hl with | [_, _], _ => rfl
theorem b_l_count_marks (T : Top w K mg) : Binds K (fdOf K ("_law_count_marks", none)) ["word_text", "k", "marks"] [] := T.f_l_count_marks.bindsN fun _ _ _ _ _ _ us hl => match us, hl with | [_, _, _], _ => rfl
theorem b_l_side_marks (T : Top w K mg) : Binds K (fdOf K ("_law_side_marks", none)) ["side"] [] := T.f_l_side_marks.bindsN fun _ _ _ _ _ _ us hl => match us, hl with | [_], _ => rfl
theorem b_l_balance_after (T : Top w K mg) : Binds K (fdOf K ("_law_balance_after", none)) ["word_text", "k"] [] := T.f_l_balance_after.bindsN fun _ _ _ _ _ _ us hl => match us, hl with | [_, _], _ => rfl
theorem b_l_mark_position (T : Top w K mg) : Binds K (fdOf K ("_law_mark_position", none)) ["word_text", "marks", "m"] [] := T.f_l_mark_position.bindsN fun _ _ _ _ _ _ us hl => match us, hl with | [_, _, _], _ => rfl
theorem b_l_is_number (T : Top w K mg) : Binds K (fdOf K ("_law_is_number", none)) ["answer"] [] := T.f_l_is_number.bindsN fun _ _ _ _ _ _ us hl => match us, hl with | [_], _ => rfl
theorem b_l_equal (T : Top w K mg) : Binds K (fdOf K ("_law_equal", none)) ["answer", "due"] [] := T.f_l_equal.bindsN fun _ _ _ _ _ _ us hl => match us, hl with | [_, _], _ => rfl
theorem b_l_alike (T : Top w K mg) : Binds K (fdOf K ("_law_alike", none)) ["answer", "due"] [] := T.f_l_alike.bindsN fun _ _ _ _ _ _ us hl => match us, hl with | [_, _], _ => rfl
theorem b_l_told (T : Top w K mg) : Binds K (fdOf K ("_law_told", none)) ["what", "one", "two", "three"] [] := T.f_l_told.bindsN fun _ _ _ _ _ _ us hl => match us, hl with | [_, _, _, _], _ => rfl
theorem b_l_refused (T : Top w K mg) : Binds K (fdOf K ("_law_refused", none)) ["told", "name", "value"] [] := T.f_l_refused.bindsN fun _ _ _ _ _ _ us hl => match us, hl with | [_, _, _], _ => rfl
theorem b_l_count_holds (T : Top w K mg) : Binds K (fdOf K ("_law_count_holds", none)) ["word_text", "k"] [] := T.f_l_count_holds.bindsN fun _ _ _ _ _ _ us hl => match us, hl with | [_, _], _ => rfl
theorem b_l_position_holds (T : Top w K mg) : Binds K (fdOf K ("_law_position_holds", none)) ["word_text", "side", "m"] [] := T.f_l_position_holds.bindsN fun _ _ _ _ _ _ us hl => match us, hl with | [_, _, _], _ => rfl
theorem b_l_refusals_hold (T : Top w K mg) : Binds K (fdOf K ("_law_refusals_hold", none)) ["deal", "word_text"] [] := T.f_l_refusals_hold.bindsN fun _ _ _ _ _ _ us hl => match us, hl with | [_, _], _ => rfl
theorem b_law (T : Top w K mg) : Binds K (fdOf K ("law", none)) ["script"] [] := T.f_law.bindsN fun _ _ _ _ _ _ us hl => match us, hl with | [_], _ => rfl
end
end W
namespace W
open PySem PySem.Spec PyProof.Rows L2 TL G
def d_p_fresh : He.DefD := ⟨("fresh", none), "fresh", "fresh", defArgs s_p_fresh, defBody s_p_fresh, defScope s_p_fresh, [.int 8], []⟩
def d_m_NumberError_init : He.DefD := ⟨("NumberError", some "__init__"), "__init__", "NumberError.__init__", defArgs s_m_NumberError_init, defBody s_m_NumberError_init, defScope s_m_NumberError_init, [], []⟩
def d_m_OptionError_init : He.DefD := ⟨("OptionError", some "__init__"), "__init__", "OptionError.__init__", defArgs s_m_OptionError_init, defBody s_m_OptionError_init, defScope s_m_OptionError_init, [], []⟩
def d_p_check_number : He.DefD := ⟨("check_number", none), "check_number", "check_number", defArgs s_p_check_number, defBody s_p_check_number, defScope s_p_check_number, [.non], []⟩
def d_p_check_side : He.DefD := ⟨("check_side", none), "check_side", "check_side", defArgs s_p_check_side, defBody s_p_check_side, defScope s_p_check_side, [], []⟩
def d_p_made_of : He.DefD := ⟨("made_of", none), "made_of", "made_of", defArgs s_p_made_of, defBody s_p_made_of, defScope s_p_made_of, [], []⟩
def d_p_are_parts : He.DefD := ⟨("are_parts", none), "are_parts", "are_parts", defArgs s_p_are_parts, defBody s_p_are_parts, defScope s_p_are_parts, [], []⟩
def d_p_text_parts : He.DefD := ⟨("text_parts", none), "text_parts", "text_parts", defArgs s_p_text_parts, defBody s_p_text_parts, defScope s_p_text_parts, [], []⟩
def d_p_count_named : He.DefD := ⟨("count_named", none), "count_named", "count_named", defArgs s_p_count_named, defBody s_p_count_named, defScope s_p_count_named, [], []⟩
def d_p_named_positions : He.DefD := ⟨("named_positions", none), "named_positions", "named_positions", defArgs s_p_named_positions, defBody s_p_named_positions, defScope s_p_named_positions, [], []⟩
def d_p_read_word : He.DefD := ⟨("read_word", none), "read_word", "read_word", defArgs s_p_read_word, defBody s_p_read_word, defScope s_p_read_word, [], []⟩
def d_p_letter : He.DefD := ⟨("letter", none), "letter", "letter", defArgs s_p_letter, defBody s_p_letter, defScope s_p_letter, [], []⟩
def d_p_named : He.DefD := ⟨("named", none), "named", "named", defArgs s_p_named, defBody s_p_named, defScope s_p_named, [], []⟩
def d_p_position_of : He.DefD := ⟨("position_of", none), "position_of", "position_of", defArgs s_p_position_of, defBody s_p_position_of, defScope s_p_position_of, [], []⟩
def d_p_change_of : He.DefD := ⟨("change_of", none), "change_of", "change_of", defArgs s_p_change_of, defBody s_p_change_of, defScope s_p_change_of, [], []⟩
def d_p_balance : He.DefD := ⟨("balance", none), "balance", "balance", defArgs s_p_balance, defBody s_p_balance, defScope s_p_balance, [], []⟩
def d_l_store : He.DefD := ⟨("_law_store", none), "_law_store", "_law_store", defArgs s_l_store, defBody s_l_store, defScope s_l_store, [], []⟩
def d_l_take : He.DefD := ⟨("_law_take", none), "_law_take", "_law_take", defArgs s_l_take, defBody s_l_take, defScope s_l_take, [], []⟩
def d_l_within : He.DefD := ⟨("_law_within", none), "_law_within", "_law_within", defArgs s_l_within, defBody s_l_within, defScope s_l_within, [], []⟩
def d_l_edge : He.DefD := ⟨("_law_edge", none), "_law_edge", "_law_edge", defArgs s_l_edge, defBody s_l_edge, defScope s_l_edge, [], []⟩
def d_l_pick : He.DefD := ⟨("_law_pick", none), "_law_pick", "_law_pick", defArgs s_l_pick, defBody s_l_pick, defScope s_l_pick, [], []⟩
def d_l_huge : He.DefD := ⟨("_law_huge", none), "_law_huge", "_law_huge", defArgs s_l_huge, defBody s_l_huge, defScope s_l_huge, [], []⟩
def d_l_bad_number : He.DefD := ⟨("_law_bad_number", none), "_law_bad_number", "_law_bad_number", defArgs s_l_bad_number, defBody s_l_bad_number, defScope s_l_bad_number, [], []⟩
def d_l_bad_option : He.DefD := ⟨("_law_bad_option", none), "_law_bad_option", "_law_bad_option", defArgs s_l_bad_option, defBody s_l_bad_option, defScope s_l_bad_option, [], []⟩
def d_l_prefix_size : He.DefD := ⟨("_law_prefix_size", none), "_law_prefix_size", "_law_prefix_size", defArgs s_l_prefix_size, defBody s_l_prefix_size, defScope s_l_prefix_size, [], []⟩
def d_l_letter_text : He.DefD := ⟨("_law_letter_text", none), "_law_letter_text", "_law_letter_text", defArgs s_l_letter_text, defBody s_l_letter_text, defScope s_l_letter_text, [], []⟩
def d_l_split : He.DefD := ⟨("_law_split", none), "_law_split", "_law_split", defArgs s_l_split, defBody s_l_split, defScope s_l_split, [], []⟩
def d_l_free_word : He.DefD := ⟨("_law_free_word", none), "_law_free_word", "_law_free_word", defArgs s_l_free_word, defBody s_l_free_word, defScope s_l_free_word, [], []⟩
def d_l_bad_word : He.DefD := ⟨("_law_bad_word", none), "_law_bad_word", "_law_bad_word", defArgs s_l_bad_word, defBody s_l_bad_word, defScope s_l_bad_word, [], []⟩
def d_l_mark_at : He.DefD := ⟨("_law_mark_at", none), "_law_mark_at", "_law_mark_at", defArgs s_l_mark_at, defBody s_l_mark_at, defScope s_l_mark_at, [], []⟩
def d_l_count_marks : He.DefD := ⟨("_law_count_marks", none), "_law_count_marks", "_law_count_marks", defArgs s_l_count_marks, defBody s_l_count_marks, defScope s_l_count_marks, [], []⟩
def d_l_side_marks : He.DefD := ⟨("_law_side_marks", none), "_law_side_marks", "_law_side_marks", defArgs s_l_side_marks, defBody s_l_side_marks, defScope s_l_side_marks, [], []⟩
def d_l_balance_after : He.DefD := ⟨("_law_balance_after", none), "_law_balance_after", "_law_balance_after", defArgs s_l_balance_after, defBody s_l_balance_after, defScope s_l_balance_after, [], []⟩
def d_l_mark_position : He.DefD := ⟨("_law_mark_position", none), "_law_mark_position", "_law_mark_position", defArgs s_l_mark_position, defBody s_l_mark_position, defScope s_l_mark_position, [], []⟩
def d_l_is_number : He.DefD := ⟨("_law_is_number", none), "_law_is_number", "_law_is_number", defArgs s_l_is_number, defBody s_l_is_number, defScope s_l_is_number, [], []⟩
def d_l_equal : He.DefD := ⟨("_law_equal", none), "_law_equal", "_law_equal", defArgs s_l_equal, defBody s_l_equal, defScope s_l_equal, [], []⟩
def d_l_alike : He.DefD := ⟨("_law_alike", none), "_law_alike", "_law_alike", defArgs s_l_alike, defBody s_l_alike, defScope s_l_alike, [], []⟩
def d_l_told : He.DefD := ⟨("_law_told", none), "_law_told", "_law_told", defArgs s_l_told, defBody s_l_told, defScope s_l_told, [], []⟩
def d_l_refused : He.DefD := ⟨("_law_refused", none), "_law_refused", "_law_refused", defArgs s_l_refused, defBody s_l_refused, defScope s_l_refused, [], []⟩
def d_l_count_holds : He.DefD := ⟨("_law_count_holds", none), "_law_count_holds", "_law_count_holds", defArgs s_l_count_holds, defBody s_l_count_holds, defScope s_l_count_holds, [], []⟩
def d_l_position_holds : He.DefD := ⟨("_law_position_holds", none), "_law_position_holds", "_law_position_holds", defArgs s_l_position_holds, defBody s_l_position_holds, defScope s_l_position_holds, [], []⟩
def d_l_refusals_hold : He.DefD := ⟨("_law_refusals_hold", none), "_law_refusals_hold", "_law_refusals_hold", defArgs s_l_refusals_hold, defBody s_l_refusals_hold, defScope s_l_refusals_hold, [], []⟩
def d_law : He.DefD := ⟨("law", none), "law", "law", defArgs s_law, defBody s_law, defScope s_law, [], []⟩
def fn0 : List He.DefD := [d_p_fresh, d_m_NumberError_init, d_m_OptionError_init, d_p_check_number, d_p_check_side, d_p_made_of, d_p_are_parts, d_p_text_parts, d_p_count_named, d_p_named_positions, d_p_read_word, d_p_letter, d_p_named, d_p_position_of, d_p_change_of, d_p_balance, d_l_store, d_l_take, d_l_within, d_l_edge, d_l_pick, d_l_huge, d_l_bad_number, d_l_bad_option, d_l_prefix_size, d_l_letter_text, d_l_split, d_l_free_word, d_l_bad_word, d_l_mark_at]
def fn1 : List He.DefD := [d_l_count_marks, d_l_side_marks, d_l_balance_after, d_l_mark_position, d_l_is_number, d_l_equal, d_l_alike, d_l_told, d_l_refused, d_l_count_holds, d_l_position_holds, d_l_refusals_hold, d_law]
def fn : List He.DefD := fn0 ++ fn1
def fa0 : List He.Fa := [.free "ValueError", .free "all", .free "bool", .free "divmod", .free "enumerate", .free "int", .free "isinstance", .free "len", .free "list", .free "max", .free "min", .free "range", .free "str", .free "tuple", .glo "fresh", .glo "check_number", .glo "check_side", .glo "made_of", .glo "are_parts", .glo "text_parts", .glo "count_named", .glo "named_positions", .glo "read_word", .glo "letter", .glo "named", .glo "position_of", .glo "change_of", .glo "balance", .glo "_law_store", .glo "_law_take"]
def fa1 : List He.Fa := [.glo "_law_within", .glo "_law_edge", .glo "_law_pick", .glo "_law_huge", .glo "_law_bad_number", .glo "_law_bad_option", .glo "_law_prefix_size", .glo "_law_letter_text", .glo "_law_split", .glo "_law_free_word", .glo "_law_bad_word", .glo "_law_mark_at", .glo "_law_count_marks", .glo "_law_side_marks", .glo "_law_balance_after", .glo "_law_mark_position", .glo "_law_is_number", .glo "_law_equal", .glo "_law_alike", .glo "_law_told", .glo "_law_refused", .glo "_law_count_holds", .glo "_law_position_holds", .glo "_law_refusals_hold", .glo "law", .glo "LeadsError", .glo "NumberError", .glo "OptionError", .glo "PlaceError", .glo "BookError"]
def fa2 : List He.Fa := [.glo "HasHome", .glo "NoHome", .glo "NotFull", .glo "NotGood", .glo "CountError", .glo "NotASink", .glo "NotFree", .glo "RowError", .glo "PostError", .glo "RingStands", .glo "TooMany", .glo "TooLong", .glo "LineError", .glo "WebError", .glo "ArrowsError", .glo "WordError", .glo "MachineError", .glo "ChangeError", .glo "PaperError", .int "MOST_DEEP" 8, .str "LETTERS" "BIO", .int "LONGEST_PREFIX" 12, .int "LONGEST_CYCLE" 4, .glo "ONE_SIDED", .exc "WordError"]
def fa : List He.Fa := fa0 ++ fa1 ++ fa2
def bf_0 : BF := fun K => tabB K (He.ga K "ONE_SIDED") [([105, 110], S [73]), ([111, 117, 116], S [79])]
def bf_1 : BF := fun K => oexC K (He.ga K "NumberError")
def bf_2 : BF := fun K => eqOV (PySem.W.findIn K (.ref (He.ga K "NumberError")) "__init__") (some (some (.ref (He.fAd K ("NumberError", some "__init__")))))
def bf_3 : BF := fun K => decide (PySem.W.typeIn K (.ref (He.fAd K ("NumberError", some "__init__"))) = some (.type "function"))
def bf_4 : BF := fun K => eqOV (PySem.W.findIn K (.ref (He.ga K "NumberError")) "at_number") (some none)
def bf_5 : BF := fun K => xfB K (He.ga K "NumberError")
def bf_6 : BF := fun K => excD K (He.ga K "NumberError")
def bf_7 : BF := fun K => kitsB K (He.ga K "NumberError") "NumberError"
def bf_8 : BF := fun K => decide (PySem.W.kitOne K (.ref (He.ga K "NumberError")) (.type "ValueError") = some true)
def bf_9 : BF := fun K => decide (PySem.W.exmOne K (.ref (He.ga K "NumberError")) (.ref (He.ga K "LeadsError")) = some true)
def bf_10 : BF := fun K => oexC K (He.ga K "OptionError")
def bf_11 : BF := fun K => eqOV (PySem.W.findIn K (.ref (He.ga K "OptionError")) "__init__") (some (some (.ref (He.fAd K ("OptionError", some "__init__")))))
def bf_12 : BF := fun K => decide (PySem.W.typeIn K (.ref (He.fAd K ("OptionError", some "__init__"))) = some (.type "function"))
def bf_13 : BF := fun K => eqOV (PySem.W.findIn K (.ref (He.ga K "OptionError")) "at_option") (some none)
def bf_14 : BF := fun K => xfB K (He.ga K "OptionError")
def bf_15 : BF := fun K => excD K (He.ga K "OptionError")
def bf_16 : BF := fun K => kitsB K (He.ga K "OptionError") "OptionError"
def bf_17 : BF := fun K => decide (PySem.W.kitOne K (.ref (He.ga K "OptionError")) (.type "ValueError") = some true)
def bf_18 : BF := fun K => decide (PySem.W.exmOne K (.ref (He.ga K "OptionError")) (.ref (He.ga K "LeadsError")) = some true)
def bf_19 : BF := fun K => excD K (He.ga K "WordError")
def bf_20 : BF := fun K => kitsB K (He.ga K "WordError") "WordError"
def bf_21 : BF := fun K => decide (PySem.W.kitOne K (.ref (He.ga K "WordError")) (.type "ValueError") = some true)
def bf_22 : BF := fun K => decide (PySem.W.exmOne K (.ref (He.ga K "WordError")) (.ref (He.ga K "LeadsError")) = some true)
def bfs0 : List BF := [bf_0, bf_1, bf_2, bf_3, bf_4, bf_5, bf_6, bf_7, bf_8, bf_9, bf_10, bf_11, bf_12, bf_13, bf_14, bf_15, bf_16, bf_17, bf_18, bf_19, bf_20, bf_21, bf_22]
def bfs : List BF := bfs0
def loose0 : List PySem.Str := ["MOST_DEEP", "fresh", "LeadsError", "NumberError", "OptionError", "PlaceError", "BookError", "HasHome", "NoHome", "NotFull", "NotGood", "CountError", "NotASink", "NotFree", "RowError", "PostError", "RingStands", "TooMany", "TooLong", "LineError", "WebError", "ArrowsError", "WordError", "MachineError", "ChangeError", "PaperError", "LETTERS", "LONGEST_PREFIX", "LONGEST_CYCLE", "ONE_SIDED"]
def loose1 : List PySem.Str := ["check_number", "check_side", "made_of", "are_parts", "text_parts", "count_named", "named_positions", "read_word", "letter", "named", "position_of", "change_of", "balance", "_law_store", "_law_take", "_law_within", "_law_edge", "_law_pick", "_law_huge", "_law_bad_number", "_law_bad_option", "_law_prefix_size", "_law_letter_text", "_law_split", "_law_free_word", "_law_bad_word", "_law_mark_at", "_law_count_marks", "_law_side_marks", "_law_balance_after"]
def loose2 : List PySem.Str := ["_law_mark_position", "_law_is_number", "_law_equal", "_law_alike", "_law_told", "_law_refused", "_law_count_holds", "_law_position_holds", "_law_refusals_hold"]
def loose : List PySem.Str := loose0 ++ loose1 ++ loose2
def ts : List He.Tab := [(fun K => He.ga K "ONE_SIDED", ["in", "out"])]
abbrev R : PySem.W.OpenRow := PySem.W.OpenLaw.row PySem.Challenge.rw_leadshome_k10_counts_of_letters_at_any_p
abbrev hk : PySem.W.Hook := He.hookX 6 fa fn ts [] (allB bfs)
def ob (s : PySem.W.SharedT) : He.AlX := He.obsX 6 fa fn ts [] (allB bfs) (HandSHeadRun.getT s)
theorem ob_eq (s : PySem.W.SharedT) : ob s = hk.obs s.abs := He.obsX_eq (HandSHeadRun.getT_eq s)
theorem run0 (w : World) : HandSHeadRun.RunEq R (PySem.W.view R.prog [73]) hk ob 14000 loose (w.withFollow "special-get-raises" false) := by
  intro os
  kernel_rfl
theorem run1 (w : World) : HandSHeadRun.RunEq R (PySem.W.view R.prog [73]) hk ob 14000 loose (w.withFollow "special-get-raises" true) := by
  intro os
  kernel_rfl
theorem run (w : World) : HandSHeadRun.RunEq R (PySem.W.view R.prog [73]) hk ob 14000 loose w := PySem.W.byRow2 "special-get-raises" run0 run1 w
theorem top_of {w : World} {K : PySem.W.Frag} {h : Heap} {mg : Str → Option Value} (X : K.In h) (G : h.Ns mainGlobals mg) (c : He.SaysX fa fn ts [] (allB bfs) w h K) : Top w K mg := {
  f_p_fresh := by
    obtain ⟨fd, F⟩ := c.t.d.def_ 0 (d := d_p_fresh) rfl
    exact fd_eq F
  f_m_NumberError_init := by
    obtain ⟨fd, F⟩ := c.t.d.def_ 1 (d := d_m_NumberError_init) rfl
    exact fd_eq F
  f_m_OptionError_init := by
    obtain ⟨fd, F⟩ := c.t.d.def_ 2 (d := d_m_OptionError_init) rfl
    exact fd_eq F
  f_p_check_number := by
    obtain ⟨fd, F⟩ := c.t.d.def_ 3 (d := d_p_check_number) rfl
    exact fd_eq F
  f_p_check_side := by
    obtain ⟨fd, F⟩ := c.t.d.def_ 4 (d := d_p_check_side) rfl
    exact fd_eq F
  f_p_made_of := by
    obtain ⟨fd, F⟩ := c.t.d.def_ 5 (d := d_p_made_of) rfl
    exact fd_eq F
  f_p_are_parts := by
    obtain ⟨fd, F⟩ := c.t.d.def_ 6 (d := d_p_are_parts) rfl
    exact fd_eq F
  f_p_text_parts := by
    obtain ⟨fd, F⟩ := c.t.d.def_ 7 (d := d_p_text_parts) rfl
    exact fd_eq F
  f_p_count_named := by
    obtain ⟨fd, F⟩ := c.t.d.def_ 8 (d := d_p_count_named) rfl
    exact fd_eq F
  f_p_named_positions := by
    obtain ⟨fd, F⟩ := c.t.d.def_ 9 (d := d_p_named_positions) rfl
    exact fd_eq F
  f_p_read_word := by
    obtain ⟨fd, F⟩ := c.t.d.def_ 10 (d := d_p_read_word) rfl
    exact fd_eq F
  f_p_letter := by
    obtain ⟨fd, F⟩ := c.t.d.def_ 11 (d := d_p_letter) rfl
    exact fd_eq F
  f_p_named := by
    obtain ⟨fd, F⟩ := c.t.d.def_ 12 (d := d_p_named) rfl
    exact fd_eq F
  f_p_position_of := by
    obtain ⟨fd, F⟩ := c.t.d.def_ 13 (d := d_p_position_of) rfl
    exact fd_eq F
  f_p_change_of := by
    obtain ⟨fd, F⟩ := c.t.d.def_ 14 (d := d_p_change_of) rfl
    exact fd_eq F
  f_p_balance := by
    obtain ⟨fd, F⟩ := c.t.d.def_ 15 (d := d_p_balance) rfl
    exact fd_eq F
  f_l_store := by
    obtain ⟨fd, F⟩ := c.t.d.def_ 16 (d := d_l_store) rfl
    exact fd_eq F
  f_l_take := by
    obtain ⟨fd, F⟩ := c.t.d.def_ 17 (d := d_l_take) rfl
    exact fd_eq F
  f_l_within := by
    obtain ⟨fd, F⟩ := c.t.d.def_ 18 (d := d_l_within) rfl
    exact fd_eq F
  f_l_edge := by
    obtain ⟨fd, F⟩ := c.t.d.def_ 19 (d := d_l_edge) rfl
    exact fd_eq F
  f_l_pick := by
    obtain ⟨fd, F⟩ := c.t.d.def_ 20 (d := d_l_pick) rfl
    exact fd_eq F
  f_l_huge := by
    obtain ⟨fd, F⟩ := c.t.d.def_ 21 (d := d_l_huge) rfl
    exact fd_eq F
  f_l_bad_number := by
    obtain ⟨fd, F⟩ := c.t.d.def_ 22 (d := d_l_bad_number) rfl
    exact fd_eq F
  f_l_bad_option := by
    obtain ⟨fd, F⟩ := c.t.d.def_ 23 (d := d_l_bad_option) rfl
    exact fd_eq F
  f_l_prefix_size := by
    obtain ⟨fd, F⟩ := c.t.d.def_ 24 (d := d_l_prefix_size) rfl
    exact fd_eq F
  f_l_letter_text := by
    obtain ⟨fd, F⟩ := c.t.d.def_ 25 (d := d_l_letter_text) rfl
    exact fd_eq F
  f_l_split := by
    obtain ⟨fd, F⟩ := c.t.d.def_ 26 (d := d_l_split) rfl
    exact fd_eq F
  f_l_free_word := by
    obtain ⟨fd, F⟩ := c.t.d.def_ 27 (d := d_l_free_word) rfl
    exact fd_eq F
  f_l_bad_word := by
    obtain ⟨fd, F⟩ := c.t.d.def_ 28 (d := d_l_bad_word) rfl
    exact fd_eq F
  f_l_mark_at := by
    obtain ⟨fd, F⟩ := c.t.d.def_ 29 (d := d_l_mark_at) rfl
    exact fd_eq F
  f_l_count_marks := by
    obtain ⟨fd, F⟩ := c.t.d.def_ 30 (d := d_l_count_marks) rfl
    exact fd_eq F
  f_l_side_marks := by
    obtain ⟨fd, F⟩ := c.t.d.def_ 31 (d := d_l_side_marks) rfl
    exact fd_eq F
  f_l_balance_after := by
    obtain ⟨fd, F⟩ := c.t.d.def_ 32 (d := d_l_balance_after) rfl
    exact fd_eq F
  f_l_mark_position := by
    obtain ⟨fd, F⟩ := c.t.d.def_ 33 (d := d_l_mark_position) rfl
    exact fd_eq F
  f_l_is_number := by
    obtain ⟨fd, F⟩ := c.t.d.def_ 34 (d := d_l_is_number) rfl
    exact fd_eq F
  f_l_equal := by
    obtain ⟨fd, F⟩ := c.t.d.def_ 35 (d := d_l_equal) rfl
    exact fd_eq F
  f_l_alike := by
    obtain ⟨fd, F⟩ := c.t.d.def_ 36 (d := d_l_alike) rfl
    exact fd_eq F
  f_l_told := by
    obtain ⟨fd, F⟩ := c.t.d.def_ 37 (d := d_l_told) rfl
    exact fd_eq F
  f_l_refused := by
    obtain ⟨fd, F⟩ := c.t.d.def_ 38 (d := d_l_refused) rfl
    exact fd_eq F
  f_l_count_holds := by
    obtain ⟨fd, F⟩ := c.t.d.def_ 39 (d := d_l_count_holds) rfl
    exact fd_eq F
  f_l_position_holds := by
    obtain ⟨fd, F⟩ := c.t.d.def_ 40 (d := d_l_position_holds) rfl
    exact fd_eq F
  f_l_refusals_hold := by
    obtain ⟨fd, F⟩ := c.t.d.def_ 41 (d := d_l_refusals_hold) rfl
    exact fd_eq F
  f_law := by
    obtain ⟨fd, F⟩ := c.t.d.def_ 42 (d := d_law) rfl
    exact fd_eq F
  z_ValueError := He.free_ok X G (c.t.d.fact 0 (f := .free "ValueError") rfl)
  z_all := He.free_ok X G (c.t.d.fact 1 (f := .free "all") rfl)
  z_bool := He.free_ok X G (c.t.d.fact 2 (f := .free "bool") rfl)
  z_divmod := He.free_ok X G (c.t.d.fact 3 (f := .free "divmod") rfl)
  z_enumerate := He.free_ok X G (c.t.d.fact 4 (f := .free "enumerate") rfl)
  z_int := He.free_ok X G (c.t.d.fact 5 (f := .free "int") rfl)
  z_isinstance := He.free_ok X G (c.t.d.fact 6 (f := .free "isinstance") rfl)
  z_len := He.free_ok X G (c.t.d.fact 7 (f := .free "len") rfl)
  z_list := He.free_ok X G (c.t.d.fact 8 (f := .free "list") rfl)
  z_max := He.free_ok X G (c.t.d.fact 9 (f := .free "max") rfl)
  z_min := He.free_ok X G (c.t.d.fact 10 (f := .free "min") rfl)
  z_range := He.free_ok X G (c.t.d.fact 11 (f := .free "range") rfl)
  z_str := He.free_ok X G (c.t.d.fact 12 (f := .free "str") rfl)
  z_tuple := He.free_ok X G (c.t.d.fact 13 (f := .free "tuple") rfl)
  g_p_fresh := He.glo_ok X G (c.t.d.fact 14 (f := .glo "fresh") rfl)
  g_p_check_number := He.glo_ok X G (c.t.d.fact 15 (f := .glo "check_number") rfl)
  g_p_check_side := He.glo_ok X G (c.t.d.fact 16 (f := .glo "check_side") rfl)
  g_p_made_of := He.glo_ok X G (c.t.d.fact 17 (f := .glo "made_of") rfl)
  g_p_are_parts := He.glo_ok X G (c.t.d.fact 18 (f := .glo "are_parts") rfl)
  g_p_text_parts := He.glo_ok X G (c.t.d.fact 19 (f := .glo "text_parts") rfl)
  g_p_count_named := He.glo_ok X G (c.t.d.fact 20 (f := .glo "count_named") rfl)
  g_p_named_positions := He.glo_ok X G (c.t.d.fact 21 (f := .glo "named_positions") rfl)
  g_p_read_word := He.glo_ok X G (c.t.d.fact 22 (f := .glo "read_word") rfl)
  g_p_letter := He.glo_ok X G (c.t.d.fact 23 (f := .glo "letter") rfl)
  g_p_named := He.glo_ok X G (c.t.d.fact 24 (f := .glo "named") rfl)
  g_p_position_of := He.glo_ok X G (c.t.d.fact 25 (f := .glo "position_of") rfl)
  g_p_change_of := He.glo_ok X G (c.t.d.fact 26 (f := .glo "change_of") rfl)
  g_p_balance := He.glo_ok X G (c.t.d.fact 27 (f := .glo "balance") rfl)
  g_l_store := He.glo_ok X G (c.t.d.fact 28 (f := .glo "_law_store") rfl)
  g_l_take := He.glo_ok X G (c.t.d.fact 29 (f := .glo "_law_take") rfl)
  g_l_within := He.glo_ok X G (c.t.d.fact 30 (f := .glo "_law_within") rfl)
  g_l_edge := He.glo_ok X G (c.t.d.fact 31 (f := .glo "_law_edge") rfl)
  g_l_pick := He.glo_ok X G (c.t.d.fact 32 (f := .glo "_law_pick") rfl)
  g_l_huge := He.glo_ok X G (c.t.d.fact 33 (f := .glo "_law_huge") rfl)
  g_l_bad_number := He.glo_ok X G (c.t.d.fact 34 (f := .glo "_law_bad_number") rfl)
  g_l_bad_option := He.glo_ok X G (c.t.d.fact 35 (f := .glo "_law_bad_option") rfl)
  g_l_prefix_size := He.glo_ok X G (c.t.d.fact 36 (f := .glo "_law_prefix_size") rfl)
  g_l_letter_text := He.glo_ok X G (c.t.d.fact 37 (f := .glo "_law_letter_text") rfl)
  g_l_split := He.glo_ok X G (c.t.d.fact 38 (f := .glo "_law_split") rfl)
  g_l_free_word := He.glo_ok X G (c.t.d.fact 39 (f := .glo "_law_free_word") rfl)
  g_l_bad_word := He.glo_ok X G (c.t.d.fact 40 (f := .glo "_law_bad_word") rfl)
  g_l_mark_at := He.glo_ok X G (c.t.d.fact 41 (f := .glo "_law_mark_at") rfl)
  g_l_count_marks := He.glo_ok X G (c.t.d.fact 42 (f := .glo "_law_count_marks") rfl)
  g_l_side_marks := He.glo_ok X G (c.t.d.fact 43 (f := .glo "_law_side_marks") rfl)
  g_l_balance_after := He.glo_ok X G (c.t.d.fact 44 (f := .glo "_law_balance_after") rfl)
  g_l_mark_position := He.glo_ok X G (c.t.d.fact 45 (f := .glo "_law_mark_position") rfl)
  g_l_is_number := He.glo_ok X G (c.t.d.fact 46 (f := .glo "_law_is_number") rfl)
  g_l_equal := He.glo_ok X G (c.t.d.fact 47 (f := .glo "_law_equal") rfl)
  g_l_alike := He.glo_ok X G (c.t.d.fact 48 (f := .glo "_law_alike") rfl)
  g_l_told := He.glo_ok X G (c.t.d.fact 49 (f := .glo "_law_told") rfl)
  g_l_refused := He.glo_ok X G (c.t.d.fact 50 (f := .glo "_law_refused") rfl)
  g_l_count_holds := He.glo_ok X G (c.t.d.fact 51 (f := .glo "_law_count_holds") rfl)
  g_l_position_holds := He.glo_ok X G (c.t.d.fact 52 (f := .glo "_law_position_holds") rfl)
  g_l_refusals_hold := He.glo_ok X G (c.t.d.fact 53 (f := .glo "_law_refusals_hold") rfl)
  g_law := He.glo_ok X G (c.t.d.fact 54 (f := .glo "law") rfl)
  g_LeadsError := He.glo_ok X G (c.t.d.fact 55 (f := .glo "LeadsError") rfl)
  g_NumberError := He.glo_ok X G (c.t.d.fact 56 (f := .glo "NumberError") rfl)
  g_OptionError := He.glo_ok X G (c.t.d.fact 57 (f := .glo "OptionError") rfl)
  g_PlaceError := He.glo_ok X G (c.t.d.fact 58 (f := .glo "PlaceError") rfl)
  g_BookError := He.glo_ok X G (c.t.d.fact 59 (f := .glo "BookError") rfl)
  g_HasHome := He.glo_ok X G (c.t.d.fact 60 (f := .glo "HasHome") rfl)
  g_NoHome := He.glo_ok X G (c.t.d.fact 61 (f := .glo "NoHome") rfl)
  g_NotFull := He.glo_ok X G (c.t.d.fact 62 (f := .glo "NotFull") rfl)
  g_NotGood := He.glo_ok X G (c.t.d.fact 63 (f := .glo "NotGood") rfl)
  g_CountError := He.glo_ok X G (c.t.d.fact 64 (f := .glo "CountError") rfl)
  g_NotASink := He.glo_ok X G (c.t.d.fact 65 (f := .glo "NotASink") rfl)
  g_NotFree := He.glo_ok X G (c.t.d.fact 66 (f := .glo "NotFree") rfl)
  g_RowError := He.glo_ok X G (c.t.d.fact 67 (f := .glo "RowError") rfl)
  g_PostError := He.glo_ok X G (c.t.d.fact 68 (f := .glo "PostError") rfl)
  g_RingStands := He.glo_ok X G (c.t.d.fact 69 (f := .glo "RingStands") rfl)
  g_TooMany := He.glo_ok X G (c.t.d.fact 70 (f := .glo "TooMany") rfl)
  g_TooLong := He.glo_ok X G (c.t.d.fact 71 (f := .glo "TooLong") rfl)
  g_LineError := He.glo_ok X G (c.t.d.fact 72 (f := .glo "LineError") rfl)
  g_WebError := He.glo_ok X G (c.t.d.fact 73 (f := .glo "WebError") rfl)
  g_ArrowsError := He.glo_ok X G (c.t.d.fact 74 (f := .glo "ArrowsError") rfl)
  g_WordError := He.glo_ok X G (c.t.d.fact 75 (f := .glo "WordError") rfl)
  g_MachineError := He.glo_ok X G (c.t.d.fact 76 (f := .glo "MachineError") rfl)
  g_ChangeError := He.glo_ok X G (c.t.d.fact 77 (f := .glo "ChangeError") rfl)
  g_PaperError := He.glo_ok X G (c.t.d.fact 78 (f := .glo "PaperError") rfl)
  k_MOST_DEEP := int_tok (He.int_ok X G (c.t.d.fact 79 (f := .int "MOST_DEEP" 8) rfl))
  k_LETTERS := str_tok (He.str_ok X G (c.t.d.fact 80 (f := .str "LETTERS" "BIO") rfl)) (by decide +kernel)
  k_LONGEST_PREFIX := int_tok (He.int_ok X G (c.t.d.fact 81 (f := .int "LONGEST_PREFIX" 12) rfl))
  k_LONGEST_CYCLE := int_tok (He.int_ok X G (c.t.d.fact 82 (f := .int "LONGEST_CYCLE" 4) rfl))
  g_ONE_SIDED := He.glo_ok X G (c.t.d.fact 83 (f := .glo "ONE_SIDED") rfl)
  e_WordError := He.exc_ok (c.t.d.fact 84 (f := .exc "WordError") rfl)
  d_ONE_SIDED := tabD_of c.t 0 [([105, 110], S [73]), ([111, 117, 116], S [79])] rfl (by decide +kernel) (tabB_ok (allB_at c.more 0 (b := bf_0) rfl))
  o_NumberError := oexC_ok (allB_at c.more 1 (b := bf_1) rfl)
  i_NumberError := of_decide_eq_true (allB_at c.more 2 (b := bf_2) rfl)
  y_NumberError := of_decide_eq_true (allB_at c.more 3 (b := bf_3) rfl)
  n_NumberError_at_number := of_decide_eq_true (allB_at c.more 4 (b := bf_4) rfl)
  x_NumberError := xfB_ok (allB_at c.more 5 (b := bf_5) rfl)
  D_NumberError := excD_ok (allB_at c.more 6 (b := bf_6) rfl)
  q_NumberError := fun _ hc => kitsB_ok (allB_at c.more 7 (b := bf_7) rfl) hc
  v_NumberError := of_decide_eq_true (allB_at c.more 8 (b := bf_8) rfl)
  l_NumberError := of_decide_eq_true (allB_at c.more 9 (b := bf_9) rfl)
  o_OptionError := oexC_ok (allB_at c.more 10 (b := bf_10) rfl)
  i_OptionError := of_decide_eq_true (allB_at c.more 11 (b := bf_11) rfl)
  y_OptionError := of_decide_eq_true (allB_at c.more 12 (b := bf_12) rfl)
  n_OptionError_at_option := of_decide_eq_true (allB_at c.more 13 (b := bf_13) rfl)
  x_OptionError := xfB_ok (allB_at c.more 14 (b := bf_14) rfl)
  D_OptionError := excD_ok (allB_at c.more 15 (b := bf_15) rfl)
  q_OptionError := fun _ hc => kitsB_ok (allB_at c.more 16 (b := bf_16) rfl) hc
  v_OptionError := of_decide_eq_true (allB_at c.more 17 (b := bf_17) rfl)
  l_OptionError := of_decide_eq_true (allB_at c.more 18 (b := bf_18) rfl)
  D_WordError := excD_ok (allB_at c.more 19 (b := bf_19) rfl)
  q_WordError := fun _ hc => kitsB_ok (allB_at c.more 20 (b := bf_20) rfl) hc
  v_WordError := of_decide_eq_true (allB_at c.more 21 (b := bf_21) rfl)
  l_WordError := of_decide_eq_true (allB_at c.more 22 (b := bf_22) rfl)
}
end W
namespace W
open PySem PySem.Spec PyProof.Rows L2 TL G
def sp_l_split (K : PySem.W.Frag) : Sp := fun vs H Q _ => ∃ (p c : List Nat), vs = [S (wt p c)] ∧ Lw BIO p c ∧ ∀ a H', H a = none → Same H H' → H' a = some (.lst [S p, S c]) → Q (.ref a) H'
section
variable {P : Program} {w : World} {K : PySem.W.Frag} {mg : Str → Option Value} {base : Heap}
theorem ok_l_split (T : Top w K mg) : Ok P w K mg base 1 ("_law_split", none) ["word_text"] (sp_l_split K) := by
  refine T.f_l_split.ok sc_l_split (fun vs H Q E h => ?_) (fun cdv A outer s H vs Q E hr h => ?_)
  · obtain ⟨_, _, rfl, _⟩ := h
    rfl
  · refine ⟨_, PSs.nox (pss_cons (ps_set (i := 1) sc_l_split.nd rfl (.inl rfl) (pe_bmK K rfl PySem.F.plainAttrs_str PySem.F.slot_str_index PySem.F.type_str_index mt_idxS (pv 0) (pa_cons (pe_s [40]) pa_nil)))
      (pss_one (ps_ret (pe_lst (pa_cons (pe_slice (sl_K K rfl) (pv 0) po_none (po_some (pv 1))) (pa_cons (pe_slice (sl_K K rfl) (pv 0) (po_some (pe_op op_addU (pv 1) pe_int)) (po_some (pe_op op_subU (pe_callB (call_lenK K rfl) (by rfl) T.z_len (by decide +kernel) (pa_cons (pv 0) pa_nil)) pe_int))) pa_nil)))))), ?_⟩
    obtain ⟨p, c, rfl, hw, q⟩ := h
    show tSeq _ _ _ [some (S (wt p c)), none] H
    have p12 := hw.p12
    have c1 := hw.c1
    have c4 := hw.c4
    have hl : (wt p c).length ≤ 1000000 := by rw [wt_len]; omega
    walk_at "s"
    refine ⟨p, c ++ [41], 40, rfl, rfl, hw.no40 (by decide), ?_⟩
    walk_at "s"
    refine go_sls hl ?_
    rw [cutL_to _ _ (by omega), Int.toNat_natCast, wt_take]
    walk_at "s"
    refine go_sls hl ?_
    rw [cutL_mid _ _ _ (by omega) (by rw [wt_len]; omega), show (((wt p c).length : Int) - 1).toNat = (wt p c).length - 1 by omega, show ((p.length : Int) + 1).toNat = p.length + 1 by omega, wt_mid]
    walk_at "s"
    refine go_lst' fun a H1 n1 s1 e1 => ?_
    exact q a H1 n1 s1 e1
end
end W

namespace W
open PySem PySem.Spec PyProof.Rows L2 TL G
def sp_l_count_marks (K : PySem.W.Frag) : Sp := fun vs H Q _ => ∃ (p c ms : List Nat) (n : Int), vs = [S (wt p c), .int n, S ms] ∧ Lw BIO p c ∧ 0 ≤ n ∧ ∀ H', Same H H' → Q (.int (cyc (cnt ms) p c n)) H'
section
variable {P : Program} {w : World} {K : PySem.W.Frag} {mg : Str → Option Value} {base : Heap}
theorem ok_l_count_marks (T : Top w K mg) : Ok P w K mg base 2 ("_law_count_marks", none) ["word_text", "k", "marks"] (sp_l_count_marks K) := by
  have G_l_split := ok_l_split (P := P) (w := w) (base := base) T
  refine T.f_l_count_marks.ok sc_l_count_marks (fun vs H Q E h => ?_) (fun cdv A outer s H vs Q E hr h => ?_)
  · obtain ⟨_, _, _, _, rfl, _⟩ := h
    rfl
  · refine ⟨_, PSs.nox (pss_cons (ps_set (i := 3) sc_l_count_marks.nd rfl (.inl rfl) (by exact pe_callU (E := fun _ => E0) G_l_split (hr.mono (by first | decide | omega)) rfl T.g_l_split T.f_l_split.kp (b_l_split T) pass_n (pa_cons (pv 0) pa_nil)))
      (pss_cons (ps_set (i := 4) sc_l_count_marks.nd rfl (.inl rfl) (pe_slice (sl_K K rfl) (pe_ix (ix_K K rfl) (pv 3) pe_int (fun _ _ => rfl)) po_none (po_some (pe_callB (call_minU rfl) (by rfl) T.z_min (by decide +kernel) (pa_cons (pv 1) (pa_cons (pe_callB (call_lenK K rfl) (by rfl) T.z_len (by decide +kernel) (pa_cons (pe_ix (ix_K K rfl) (pv 3) pe_int (fun _ _ => rfl)) pa_nil)) pa_nil))))))
      (pss_cons (ps_set (i := 5) sc_l_count_marks.nd rfl (.inl rfl) (pe_callB (call_lenK K rfl) (by rfl) T.z_len (by decide +kernel) (pa_cons (pe_lc (own := [("mark", 9)]) (by rfl) sc_l_count_marks.nd (pi_str (pv 4)) (blkOk_by (own := [("mark", 9)]) (N := N_l_count_marks) (sc := defScope s_l_count_marks) (by decide +kernel)) (fun _ _ _ _ _ => (pg_name (i := 9) sc_l_count_marks.nd rfl (Or.inl rfl))) (fun _ _ _ _ _ => pts_one (pt_c op_inT (pv 9) (pv 2) (by rfl))) (fun _ _ _ _ _ => (pv 9))) pa_nil)))
      (pss_cons (ps_set (i := 6) sc_l_count_marks.nd rfl (.inl rfl) (pe_op op_subU (pv 1) (pe_callB (call_lenK K rfl) (by rfl) T.z_len (by decide +kernel) (pa_cons (pe_ix (ix_K K rfl) (pv 3) pe_int (fun _ _ => rfl)) pa_nil))))
      (Evl.pss_cut (ps_ifU (pt_c op_gtU (pv 6) pe_int (nomark _)) (pss_cons (ps_set (i := 7) sc_l_count_marks.nd rfl (.inl rfl) (pe_op op_divU (pv 6) (pe_callB (call_lenK K rfl) (by rfl) T.z_len (by decide +kernel) (pa_cons (pe_ix (ix_K K rfl) (pv 3) pe_int (fun _ _ => rfl)) pa_nil))))
      (pss_cons (ps_set (i := 8) sc_l_count_marks.nd rfl (.inl rfl) (pe_op op_modU (pe_callTy call_intU (by rfl) T.z_int (by decide +kernel) (pa_cons (pv 6) pa_nil)) (pe_callB (call_lenK K rfl) (by rfl) T.z_len (by decide +kernel) (pa_cons (pe_ix (ix_K K rfl) (pv 3) pe_int (fun _ _ => rfl)) pa_nil))))
      (pss_cons (ps_set (i := 5) sc_l_count_marks.nd rfl (.inl rfl) (pe_op op_addU (pv 5) (pe_op op_mulU (pv 7) (pe_callB (call_lenK K rfl) (by rfl) T.z_len (by decide +kernel) (pa_cons (pe_lc (own := [("mark", 9)]) (by rfl) sc_l_count_marks.nd (pi_str (pe_ix (ix_K K rfl) (pv 3) pe_int (fun _ _ => rfl))) (blkOk_by (own := [("mark", 9)]) (N := N_l_count_marks) (sc := defScope s_l_count_marks) (by decide +kernel)) (fun _ _ _ _ _ => (pg_name (i := 9) sc_l_count_marks.nd rfl (Or.inl rfl))) (fun _ _ _ _ _ => pts_one (pt_c op_inT (pv 9) (pv 2) (by rfl))) (fun _ _ _ _ _ => (pv 9))) pa_nil)))))
      (pss_one (ps_set (i := 5) sc_l_count_marks.nd rfl (.inl rfl) (pe_op op_addU (pv 5) (pe_callB (call_lenK K rfl) (by rfl) T.z_len (by decide +kernel) (pa_cons (pe_lc (own := [("mark", 9)]) (by rfl) sc_l_count_marks.nd (pi_str (pe_slice (sl_K K rfl) (pe_ix (ix_K K rfl) (pv 3) pe_int (fun _ _ => rfl)) po_none (po_some (pv 8)))) (blkOk_by (own := [("mark", 9)]) (N := N_l_count_marks) (sc := defScope s_l_count_marks) (by decide +kernel)) (fun _ _ _ _ _ => (pg_name (i := 9) sc_l_count_marks.nd rfl (Or.inl rfl))) (fun _ _ _ _ _ => pts_one (pt_c op_inT (pv 9) (pv 2) (by rfl))) (fun _ _ _ _ _ => (pv 9))) pa_nil)))))))) pss_nil)
      (pss_one (ps_ret (pv 5)))))))), ?_⟩
    obtain ⟨p, c, ms, n, rfl, hw, hn, q⟩ := h
    show tSeq _ _ _ [some (S (wt p c)), some (.int n), some (S ms), none, none, none, none, none, none, none] H
    have p12 := hw.p12
    have c1 := hw.c1
    have c4 := hw.c4
    walk_at "s"
    refine ⟨p, c, rfl, hw, fun a H1 n1 s1 e1 => ?_⟩
    walk_at "s"
    refine go_sls (by omega) ?_
    rw [cutL_to _ _ (by split <;> omega)]
    have ht : p.take (if (p.length : Int) < n then (p.length : Int) else n).toNat = p.take n.toNat := by
      split
      · rw [Int.toNat_natCast, List.take_length, List.take_of_length_le (by omega)]
      · rfl
    rw [ht]
    walk_at "s"
    have hlt : (p.take n.toNat).length ≤ p.length := by rw [List.length_take]; omega
    refine go_lcP walk_st (fun i => decide ((p.take n.toNat).getD i 0 ∈ ms)) (fun i => S [(p.take n.toNat).getD i 0]) (fun _ _ => trivial) (fun x => rfl) (by omega) (fun i H' hi s' Q' q' => ?_) (fun i H' hi s' _ Q' q' => ?_) (fun D H2 nD s2 eD => ?_)
    · show uTest _ [some (S (wt p c)), some (.int n), some (S ms), some (.ref a), some (S _), none, none, none, none, some (S _)] _ _
      walk_at "s"
      exact q' _ (Same.refl _)
    · exact ⟨_, rfl, q' _ (Same.refl _)⟩
    walk_at "s"
    rw [kept_cnt]
    have e2 := s2 _ _ e1
    have s02 := s1.trans s2
    walk_at "s"
    refine go_cut (fun σ' H' => ∃ u v : Option V, Same H2 H' ∧ σ' = [some (S (wt p c)), some (.int n), some (S ms), some (.ref a), some (S (p.take n.toNat)), some (.int (cyc (cnt ms) p c n)), some (.int (n - p.length)), u, v, none]) ?_ ?_
    · walk_at "s"
      unfold cyc
      refine go_iteD (fun h3 => ?_) (fun h3 => ?_)
      · rw [if_neg (by omega), List.take_of_length_le (show p.length ≤ n.toNat by omega)]
        walk_at "s"
        refine go_div (cdw (by omega) (by omega)) ?_
        walk_at "s"
        refine go_lcP walk_st (fun i => decide (c.getD i 0 ∈ ms)) (fun i => S [c.getD i 0]) (fun _ _ => trivial) (fun x => rfl) (by omega) (fun i H' hi s' Q' q' => ?_) (fun i H' hi s' _ Q' q' => ?_) (fun D2 H3 nD3 s3 eD3 => ?_)
        · show uTest _ [some (S (wt p c)), some (.int n), some (S ms), some (.ref a), some (S _), some _, some _, some _, some _, some (S _)] _ _
          walk_at "s"
          exact q' _ (Same.refl _)
        · exact ⟨_, rfl, q' _ (Same.refl _)⟩
        walk_at "s"
        rw [kept_cnt]
        have h5 := cnt_nn ms c
        have h6 := cnt_le ms c
        refine go_mul (cml (by omega) (by omega)) ?_
        walk_at "s"
        have e3 := s3 _ _ e2
        walk_at "s"
        refine go_sls (by omega) ?_
        rw [cutL_to _ _ (Int.emod_nonneg _ (by omega))]
        have hlc : (c.take ((n - p.length) % c.length).toNat).length ≤ c.length := by rw [List.length_take]; omega
        walk_at "s"
        refine go_lcP walk_st (fun i => decide ((c.take ((n - p.length) % c.length).toNat).getD i 0 ∈ ms)) (fun i => S [(c.take ((n - p.length) % c.length).toNat).getD i 0]) (fun _ _ => trivial) (fun x => rfl) (by omega) (fun i H' hi s' Q' q' => ?_) (fun i H' hi s' _ Q' q' => ?_) (fun D3 H4 nD4 s4 eD4 => ?_)
        · show uTest _ [some (S (wt p c)), some (.int n), some (S ms), some (.ref a), some (S _), some _, some _, some _, some _, some (S _)] _ _
          walk_at "s"
          exact q' _ (Same.refl _)
        · exact ⟨_, rfl, q' _ (Same.refl _)⟩
        walk_at "s"
        rw [kept_cnt]
        exact ⟨_, _, s3.trans s4, rfl⟩
      · rw [if_pos (by omega)]
        exact ⟨_, _, Same.refl _, rfl⟩
    · rintro σ' H' ⟨u, v, s', rfl⟩
      walk_at "s"
      exact q _ (s02.trans s')
end
end W

namespace W
open PySem PySem.Spec PyProof.Rows L2 TL G
def sp_l_balance_after (K : PySem.W.Frag) : Sp := fun vs H Q _ => ∃ (p c : List Nat) (n : Int), vs = [S (wt p c), .int n] ∧ Lw BIO p c ∧ 0 ≤ n ∧ ∀ H', Same H H' → Q (.int (cyc (cnt [79]) p c n - cyc (cnt [73]) p c n)) H'
section
variable {P : Program} {w : World} {K : PySem.W.Frag} {mg : Str → Option Value} {base : Heap}
theorem ok_l_balance_after (T : Top w K mg) : Ok P w K mg base 3 ("_law_balance_after", none) ["word_text", "k"] (sp_l_balance_after K) := by
  have G_l_count_marks := ok_l_count_marks (P := P) (w := w) (base := base) T
  refine T.f_l_balance_after.ok sc_l_balance_after (fun vs H Q E h => ?_) (fun cdv A outer s H vs Q E hr h => ?_)
  · obtain ⟨_, _, _, rfl, _⟩ := h
    rfl
  · refine ⟨_, PSs.nox (pss_one (ps_ret (pe_op op_subU (by exact pe_callU (E := fun _ => E0) G_l_count_marks (hr.mono (by first | decide | omega)) rfl T.g_l_count_marks T.f_l_count_marks.kp (b_l_count_marks T) pass_n (pa_cons (pv 0) (pa_cons (pv 1) (pa_cons (pe_s [79]) pa_nil)))) (by exact pe_callU (E := fun _ => E0) G_l_count_marks (hr.mono (by first | decide | omega)) rfl T.g_l_count_marks T.f_l_count_marks.kp (b_l_count_marks T) pass_n (pa_cons (pv 0) (pa_cons (pv 1) (pa_cons (pe_s [73]) pa_nil))))))), ?_⟩
    obtain ⟨p, c, n, rfl, hw, hn, q⟩ := h
    show tRet _ _ [some (S (wt p c)), some (.int n)] H
    walk_at "s"
    refine ⟨p, c, [79], n, rfl, hw, hn, fun H1 s1 => ?_⟩
    walk_at "s"
    refine ⟨p, c, [73], n, rfl, hw, hn, fun H2 s2 => ?_⟩
    walk_at "s"
    exact q _ (s1.trans s2)
end
end W

namespace W
open PySem PySem.Spec PyProof.Rows L2 TL G
def sp_l_is_number (K : PySem.W.Frag) : Sp := fun vs H Q _ => ∃ (v : V), vs = [v] ∧ FlatAt K H v ∧ Q (.bl (isIntB v && !isBlB v)) H
section
variable {P : Program} {w : World} {K : PySem.W.Frag} {mg : Str → Option Value} {base : Heap}
theorem ok_l_is_number (T : Top w K mg) : Ok P w K mg base 1 ("_law_is_number", none) ["answer"] (sp_l_is_number K) := by
  refine T.f_l_is_number.ok sc_l_is_number (fun vs H Q E h => ?_) (fun cdv A outer s H vs Q E hr h => ?_)
  · obtain ⟨_, rfl, _⟩ := h
    rfl
  · refine ⟨_, PSs.nox (pss_one (ps_ret (pe_andU (pe_callB (call_isiK K rfl) (by rfl) T.z_isinstance (by decide +kernel) (pa_cons (pv 0) (pa_cons (pe_bltn (v := .ty "int") (by rfl) T.z_int (by decide +kernel) rfl) pa_nil))) (pe_one (pe_notU (pe_callB (call_isiK K rfl) (by rfl) T.z_isinstance (by decide +kernel) (pa_cons (pv 0) (pa_cons (pe_bltn (v := .ty "bool") (by rfl) T.z_bool (by decide +kernel) rfl) pa_nil)))))))), ?_⟩
    obtain ⟨v, rfl, hv, q⟩ := h
    show tRet _ _ [some v] H
    walk_at "s"
    refine go_isi (flat_int hv) ?_
    walk_at "s"
    cases hb : isIntB v with
    | false =>
      rw [hb] at q
      walk_at "s"
      exact q
    | true =>
      rw [hb] at q
      walk_at "s"
      refine go_isi (flat_bl hv) ?_
      walk_at "s"
      exact q
end
end W

namespace W
open PySem PySem.Spec PyProof.Rows L2 TL G
def sp_l_equal (K : PySem.W.Frag) : Sp := fun vs H Q _ => ∃ (x y : V), vs = [x, y] ∧ scalB x = true ∧ scalB y = true ∧ Q (.bl (decide (x = y))) H
def spNoE : Sp := fun _ _ _ _ => False
section
variable {P : Program} {w : World} {K : PySem.W.Frag} {mg : Str → Option Value} {base : Heap}
theorem equal_step (T : Top w K mg) {k : Nat} {sp' : Sp} (G_l_is_number : Ok P w K mg base 1 ("_law_is_number", none) ["answer"] (sp_l_is_number K)) (hk : 1 ≤ k) (G_l_equal : Ok P w K mg base k ("_law_equal", none) ["answer", "due"] sp') : Ok P w K mg base (k + 1) ("_law_equal", none) ["answer", "due"] (sp_l_equal K) := by
  refine T.f_l_equal.ok sc_l_equal (fun vs H Q E h => ?_) (fun cdv A outer s H vs Q E hr h => ?_)
  · obtain ⟨_, _, rfl, _⟩ := h
    rfl
  · refine ⟨_, PSs.nox (pss_cons (ps_ifU (pt_c op_isU (pv 1) pe_non (nomark _)) (pss_one (ps_ret (pe_cmpR op_isU (pv 0) pe_non (nomark _)))) pss_nil)
      (pss_cons (ps_ifU (pt_c op_isU (pv 1) pe_bl (nomark _)) (pss_one (ps_ret (pe_cmpR op_isU (pv 0) pe_bl (nomark _)))) pss_nil)
      (pss_cons (ps_ifU (pt_c op_isU (pv 1) pe_bl (nomark _)) (pss_one (ps_ret (pe_cmpR op_isU (pv 0) pe_bl (nomark _)))) pss_nil)
      (pss_cons (ps_ifU (pt_t (pe_callB (call_isiK K rfl) (by rfl) T.z_isinstance (by decide +kernel) (pa_cons (pv 1) (pa_cons (pe_bltn (v := .ty "str") (by rfl) T.z_str (by decide +kernel) rfl) pa_nil)))) (pss_one (ps_ret (pe_andU (pe_callB (call_isiK K rfl) (by rfl) T.z_isinstance (by decide +kernel) (pa_cons (pv 0) (pa_cons (pe_bltn (v := .ty "str") (by rfl) T.z_str (by decide +kernel) rfl) pa_nil))) (pe_one (pe_cmpR (op_eqK K rfl hr.units) (pv 0) (pv 1) (nomark _)))))) pss_nil)
      (pss_cons (ps_ifU (pt_t (pe_callB (call_isiK K rfl) (by rfl) T.z_isinstance (by decide +kernel) (pa_cons (pv 1) (pa_cons (pe_bltn (v := .ty "int") (by rfl) T.z_int (by decide +kernel) rfl) pa_nil)))) (pss_one (ps_ret (pe_andU (by exact pe_callU (E := fun _ => E0) G_l_is_number (hr.mono (by first | decide | omega)) rfl T.g_l_is_number T.f_l_is_number.kp (b_l_is_number T) pass_n (pa_cons (pv 0) pa_nil)) (pe_one (pe_cmpR (op_eqK K rfl hr.units) (pv 0) (pv 1) (nomark _)))))) pss_nil)
      (pss_cons (ps_ifU (pw_andU (pt_t (pe_callB (call_isiK K rfl) (by rfl) T.z_isinstance (by decide +kernel) (pa_cons (pv 1) (pa_cons (pe_bltn (v := .ty "list") (by rfl) T.z_list (by decide +kernel) rfl) pa_nil)))) (pw_and1 (pt_not (pt_t (pe_callB (call_isiK K rfl) (by rfl) T.z_isinstance (by decide +kernel) (pa_cons (pv 0) (pa_cons (pe_bltn (v := .ty "list") (by rfl) T.z_list (by decide +kernel) rfl) pa_nil))))))).pt (pss_one (ps_ret pe_bl)) pss_nil)
      (pss_cons (ps_ifU (pw_andU (pt_t (pe_callB (call_isiK K rfl) (by rfl) T.z_isinstance (by decide +kernel) (pa_cons (pv 1) (pa_cons (pe_bltn (v := .ty "tuple") (by rfl) T.z_tuple (by decide +kernel) rfl) pa_nil)))) (pw_and1 (pt_not (pt_t (pe_callB (call_isiK K rfl) (by rfl) T.z_isinstance (by decide +kernel) (pa_cons (pv 0) (pa_cons (pe_bltn (v := .ty "tuple") (by rfl) T.z_tuple (by decide +kernel) rfl) pa_nil))))))).pt (pss_one (ps_ret pe_bl)) pss_nil)
      (pss_cons (ps_ifU (pt_c (op_neK K rfl hr.units) (pe_callB (call_lenK K rfl) (by rfl) T.z_len (by decide +kernel) (pa_cons (pv 0) pa_nil)) (pe_callB (call_lenK K rfl) (by rfl) T.z_len (by decide +kernel) (pa_cons (pv 1) pa_nil)) (nomark _)) (pss_one (ps_ret pe_bl)) pss_nil)
      (pss_cons (ps_for PassesOwn.never rfl (pi_range1 (by rfl) T.z_range (pa_cons (pe_callB (call_lenK K rfl) (by rfl) T.z_len (by decide +kernel) (pa_cons (pv 1) pa_nil)) pa_nil)) (pg_name (i := 2) sc_l_equal.nd rfl (Or.inl rfl)) (pss_one (ps_ifU (pt_not (pt_t (by exact pe_callU (E := fun _ => E0) G_l_equal hr rfl T.g_l_equal T.f_l_equal.kp (b_l_equal T) pass_n (pa_cons (pe_ix (ix_K K rfl) (pv 0) (pv 2) (fun _ _ => rfl)) (pa_cons (pe_ix (ix_K K rfl) (pv 1) (pv 2) (fun _ _ => rfl)) pa_nil))))) (pss_one (ps_ret pe_bl)) pss_nil)))
      (pss_one (ps_ret pe_bl))))))))))), ?_⟩
    obtain ⟨x, y, rfl, hx, hy, q⟩ := h
    show tSeq _ _ _ [some x, some y, none] H
    cases y with
    | non =>
      walk_at "s"
      refine go_is trivial (decide_eq_true rfl) ?_
      walk_at "s"
      exact ⟨(by cases x <;> first | exact trivial | cases hx), q⟩
    | bl b =>
      walk_at "s"
      refine go_is trivial (decide_eq_false (fun z => by cases z)) ?_
      walk_at "s"
      cases b with
      | true =>
        refine go_is trivial (decide_eq_true rfl) ?_
        walk_at "s"
        exact ⟨(by cases x <;> first | exact trivial | cases hx), q⟩
      | false =>
        refine go_is trivial (decide_eq_false (fun z => by cases z)) ?_
        walk_at "s"
        refine go_is trivial (decide_eq_true rfl) ?_
        walk_at "s"
        exact ⟨(by cases x <;> first | exact trivial | cases hx), q⟩
    | int n =>
      walk_at "s"
      refine go_is trivial (decide_eq_false (fun z => by cases z)) ?_
      walk_at "s"
      refine go_is trivial (decide_eq_false (fun z => by cases z)) ?_
      walk_at "s"
      refine go_is trivial (decide_eq_false (fun z => by cases z)) ?_
      walk_at "s"
      refine go_isi (flat_str (.inl rfl)) ?_
      walk_at "s"
      refine go_no rfl ?_
      walk_at "s"
      refine go_isi (flat_int (.inl rfl)) ?_
      walk_at "s"
      refine go_yes rfl ?_
      walk_at "s"
      refine ⟨x, rfl, .inl hx, ?_⟩
      walk_at "s"
      cases x with
      | int m =>
        refine go_yes rfl ?_
        walk_at "s"
        have e : decide (V.int m = V.int n) = decide (m = n) := by simp
        rw [e] at q
        exact q
      | _ =>
        refine go_no rfl ?_
        have := q
        exact this
    | str z =>
      obtain ⟨l, rfl⟩ : ∃ l, z = mk l := ⟨tl z, (mk_tl' z).symm⟩
      walk_at "s"
      refine go_is trivial (decide_eq_false (fun z => by cases z)) ?_
      walk_at "s"
      refine go_is trivial (decide_eq_false (fun z => by cases z)) ?_
      walk_at "s"
      refine go_is trivial (decide_eq_false (fun z => by cases z)) ?_
      walk_at "s"
      refine go_isi (flat_str (.inl rfl)) ?_
      walk_at "s"
      refine go_yes rfl ?_
      walk_at "s"
      refine go_isi (flat_str (.inl hx)) ?_
      walk_at "s"
      cases x with
      | str u =>
        obtain ⟨m, rfl⟩ : ∃ m, u = mk m := ⟨tl u, (mk_tl' u).symm⟩
        refine go_yes rfl ?_
        walk_at "s"
        have e : decide (V.str (mk m) = V.str (mk l)) = decide (m = l) := decS m l
        rw [e] at q
        exact q
      | _ =>
        refine go_no rfl ?_
        exact q
    | _ => cases hy
theorem ok_l_equal (T : Top w K mg) : Ok P w K mg base 4 ("_law_equal", none) ["answer", "due"] (sp_l_equal K) := by
  have G0 : Ok P w K mg base 1 ("_law_equal", none) ["answer", "due"] spNoE := ⟨fun _ _ _ _ h => h.elim, fun _ _ _ _ _ _ _ _ _ _ _ _ _ h => h.elim⟩
  exact (equal_step T (ok_l_is_number T) (by decide) G0).mono (by decide)
end
end W

namespace W
open PySem PySem.Spec PyProof.Rows L2 TL G
def sp_l_mark_at (K : PySem.W.Frag) : Sp := fun vs H Q _ => ∃ (a : Addr) (p c : List Nat) (n : Int), vs = [.ref a, .int n] ∧ H a = some (.lst [S p, S c]) ∧ Lw BIO p c ∧ 0 ≤ n ∧ Q (S [lat p c n]) H
section
variable {P : Program} {w : World} {K : PySem.W.Frag} {mg : Str → Option Value} {base : Heap}
theorem ok_l_mark_at (T : Top w K mg) : Ok P w K mg base 1 ("_law_mark_at", none) ["pair", "k"] (sp_l_mark_at K) := by
  refine T.f_l_mark_at.ok sc_l_mark_at (fun vs H Q E h => ?_) (fun cdv A outer s H vs Q E hr h => ?_)
  · obtain ⟨_, _, _, _, rfl, _⟩ := h
    rfl
  · refine ⟨_, PSs.nox (pss_cons (ps_ifU (pt_c op_ltU (pv 1) (pe_callB (call_lenK K rfl) (by rfl) T.z_len (by decide +kernel) (pa_cons (pe_ix (ix_K K rfl) (pv 0) pe_int (fun _ _ => rfl)) pa_nil)) (nomark _)) (pss_one (ps_ret (pe_ix (ix_K K rfl) (pe_ix (ix_K K rfl) (pv 0) pe_int (fun _ _ => rfl)) (pv 1) (fun _ _ => rfl)))) pss_nil)
      (pss_one (ps_ret (pe_ix (ix_K K rfl) (pe_ix (ix_K K rfl) (pv 0) pe_int (fun _ _ => rfl)) (pe_op op_modU (pe_callTy call_intU (by rfl) T.z_int (by decide +kernel) (pa_cons (pe_op op_subU (pv 1) (pe_callB (call_lenK K rfl) (by rfl) T.z_len (by decide +kernel) (pa_cons (pe_ix (ix_K K rfl) (pv 0) pe_int (fun _ _ => rfl)) pa_nil))) pa_nil)) (pe_callB (call_lenK K rfl) (by rfl) T.z_len (by decide +kernel) (pa_cons (pe_ix (ix_K K rfl) (pv 0) pe_int (fun _ _ => rfl)) pa_nil))) (fun _ _ => rfl))))), ?_⟩
    obtain ⟨a, p, c, n, rfl, e, hw, hn, q⟩ := h
    show tSeq _ _ _ [some (.ref a), some (.int n)] H
    have p12 := hw.p12
    have c1 := hw.c1
    have c4 := hw.c4
    walk_at "s"
    unfold lat at q
    refine go_iteD (fun h3 => ?_) (fun h3 => ?_)
    · rw [if_pos h3, List.getD_eq_getElem?_getD, List.getElem?_eq_getElem (by omega)] at q
      walk_at "s"
      exact go_ixs (by omega) (atI_at hn (List.getElem?_eq_getElem (by omega))) q
    · have h4 : 0 ≤ (n - p.length) % c.length := Int.emod_nonneg _ (by omega)
      have h5 : (n - p.length) % c.length < c.length := Int.emod_lt_of_pos _ (by omega)
      rw [if_neg h3, List.getD_eq_getElem?_getD, List.getElem?_eq_getElem (by omega)] at q
      walk_at "s"
      exact go_ixs (by omega) (atI_at h4 (List.getElem?_eq_getElem (by omega))) q
end
end W

namespace W
open PySem PySem.Spec PyProof.Rows L2 TL G
def spFr (K : PySem.W.Frag) (sp' : Sp) : Sp := fun vs H Q _ => ∃ (v : V) (n : Int), vs = [v, .int n] ∧ 0 ≤ n ∧ ((scalB v = true ∧ Q v H) ∨
  (1 ≤ n ∧ (∀ x H1 Q1, scalB x = true → Q1 x H1 → sp' [x, .int (n - 1)] H1 Q1 E0) ∧ FlatAt K H v ∧ ∀ v' H1, Same H H1 → Copy K H1 v v' → Q v' H1))
def sp_p_fresh (K : PySem.W.Frag) : Sp := fun vs H Q _ => ∃ (v : V) (n : Int), vs = [v, .int n] ∧ 1 ≤ n ∧ FlatAt K H v ∧ ∀ v' H1, Same H H1 → Copy K H1 v v' → Q v' H1
def spNo : Sp := fun _ _ _ _ => False
section
variable {P : Program} {w : World} {K : PySem.W.Frag} {mg : Str → Option Value} {base : Heap}
theorem fresh_step (T : Top w K mg) {k : Nat} {sp' : Sp} (G_p_fresh : Ok P w K mg base k ("fresh", none) ["x", "depth"] sp') : Ok P w K mg base (k + 1) ("fresh", none) ["x", "depth"] (spFr K sp') := by
  refine T.f_p_fresh.ok sc_p_fresh (fun vs H Q E h => ?_) (fun cdv A outer s H vs Q E hr h => ?_)
  · obtain ⟨_, _, rfl, _⟩ := h
    rfl
  · refine ⟨_, PSs.nox (pss_cons (ps_ifU (pt_c (op_eqK K rfl hr.units) (pv 1) pe_int (nomark _)) (pss_one (ps_ret (pv 0))) pss_nil)
      (pss_cons (ps_ifU (pt_t (pe_callB (call_isiK K rfl) (by rfl) T.z_isinstance (by decide +kernel) (pa_cons (pv 0) (pa_cons (pe_bltn (v := .ty "list") (by rfl) T.z_list (by decide +kernel) rfl) pa_nil)))) (pss_one (ps_ret (pe_lc (own := [("y", 2)]) (by rfl) sc_p_fresh.nd (pi_listK K rfl (pv 0)) (blkOk_by (own := [("y", 2)]) (N := N_p_fresh) (sc := defScope s_p_fresh) (by decide +kernel)) (fun _ _ _ _ _ => (pg_name (i := 2) sc_p_fresh.nd rfl (Or.inl rfl))) (fun _ _ _ _ _ => pts_nil) (fun _ _ _ _ _ => (by exact pe_callU (E := fun _ => E0) G_p_fresh hr rfl T.g_p_fresh T.f_p_fresh.kp (b_p_fresh T) pass_n (pa_cons (pv 2) (pa_cons (pe_op op_subU (pv 1) pe_int) pa_nil))))))) pss_nil)
      (pss_cons (ps_ifU (pt_t (pe_callB (call_isiK K rfl) (by rfl) T.z_isinstance (by decide +kernel) (pa_cons (pv 0) (pa_cons (pe_bltn (v := .ty "tuple") (by rfl) T.z_tuple (by decide +kernel) rfl) pa_nil)))) (pss_one (ps_ret (pe_callTy (call_tupleK K rfl) (by rfl) T.z_tuple (by decide +kernel) (pa_cons (pe_lc (own := [("y", 2)]) (by rfl) sc_p_fresh.nd (pi_tupK K rfl (pv 0)) (blkOk_by (own := [("y", 2)]) (N := N_p_fresh) (sc := defScope s_p_fresh) (by decide +kernel)) (fun _ _ _ _ _ => (pg_name (i := 2) sc_p_fresh.nd rfl (Or.inl rfl))) (fun _ _ _ _ _ => pts_nil) (fun _ _ _ _ _ => (by exact pe_callU (E := fun _ => E0) G_p_fresh hr rfl T.g_p_fresh T.f_p_fresh.kp (b_p_fresh T) pass_n (pa_cons (pv 2) (pa_cons (pe_op op_subU (pv 1) pe_int) pa_nil))))) pa_nil)))) pss_nil)
      (pss_one (ps_ret (pv 0)))))), ?_⟩
    obtain ⟨v, n, rfl, n0, h⟩ := h
    show tSeq _ _ _ [some v, some (.int n), none] H
    walk_at "s"
    rcases h with ⟨hs, q⟩ | ⟨n1, hsp, hv, q⟩
    · refine go_iteD (fun h3 => ?_) (fun h3 => ?_)
      · walk_at "s"
        exact q
      · walk_at "s"
        refine go_isi (scal_list hs) ?_
        walk_at "s"
        refine go_isi (scal_tup hs) ?_
        walk_at "s"
        exact q
    · refine go_iteD (fun h3 => ?_) (fun h3 => ?_)
      · omega
      rcases hv with hs | ⟨a, xs, rfl, hx, hl, hq | hq⟩
      · walk_at "s"
        refine go_isi (scal_list hs) ?_
        walk_at "s"
        refine go_isi (scal_tup hs) ?_
        walk_at "s"
        exact q _ _ (Same.refl _) (.inl ⟨hs, rfl⟩)
      · walk_at "s"
        refine go_isi (lst_list hq) ?_
        walk_at "s"
        refine go_il hq ?_
        refine go_lcP walk_l (fun _ => true) (fun i => xs.getD i .non) (fun H' s' => s'.seq hq) (fun x => rfl) (by omega) (fun i H' hi s' Q' q' => q' _ (Same.refl _)) (fun i H' hi s' _ Q' q' => ?_) (fun D H' nD s' eD => ?_)
        · show uCall _ _ _ [some (.ref a), some (.int n), some _] _ _
          walk_at "s"
          refine hsp _ _ _ ?_ (q' _ (Same.refl _))
          rw [List.getD_eq_getElem?_getD, List.getElem?_eq_getElem hi]
          exact List.all_eq_true.mp hx _ (List.getElem_mem hi)
        · rw [kept_xs] at eD
          exact q _ _ s' (.inr ⟨a, D, xs, rfl, rfl, hx, hl, .inl ⟨s'.seq hq, sq_of eD⟩⟩)
      · walk_at "s"
        refine go_isi (tup_list hq) ?_
        walk_at "s"
        refine go_isi (tup_tup hq) ?_
        walk_at "s"
        refine go_it hq ?_
        refine go_lcP walk_t (fun _ => true) (fun i => xs.getD i .non) (fun H' s' => st_same s' hq) (fun x => rfl) (by omega) (fun i H' hi s' Q' q' => q' _ (Same.refl _)) (fun i H' hi s' _ Q' q' => ?_) (fun D H' nD s' eD => ?_)
        · show uCall _ _ _ [some (.ref a), some (.int n), some _] _ _
          walk_at "s"
          refine hsp _ _ _ ?_ (q' _ (Same.refl _))
          rw [List.getD_eq_getElem?_getD, List.getElem?_eq_getElem hi]
          exact List.all_eq_true.mp hx _ (List.getElem_mem hi)
        · rw [kept_xs] at eD
          walk_at "s"
          refine go_tupc (sq_of eD) fun L H2 nL s2 e2 => ?_
          exact q _ _ (s'.trans s2) (.inr ⟨a, L, xs, rfl, rfl, hx, hl, .inr ⟨st_same (s'.trans s2) hq, st_of e2⟩⟩)
theorem ok_p_fresh (T : Top w K mg) : Ok P w K mg base 3 ("fresh", none) ["x", "depth"] (sp_p_fresh K) := by
  have G0 : Ok P w K mg base 0 ("fresh", none) ["x", "depth"] spNo := ⟨fun _ _ _ _ h => h.elim, fun _ _ _ _ _ _ _ _ _ _ _ _ _ h => h.elim⟩
  have G1 := fresh_step T G0
  have G2 := fresh_step T G1
  refine (FnOk.imp G2 fun vs H Q E h => ?_).mono (by decide)
  obtain ⟨v, n, rfl, n1, hv, q⟩ := h
  exact ⟨v, n, rfl, by omega, .inr ⟨n1, fun x H1 Q1 hx q1 => ⟨x, n - 1, rfl, by omega, .inl ⟨hx, q1⟩⟩, hv, q⟩⟩
end
end W

namespace W
open PySem PySem.Spec PyProof.Rows L2 TL G
def sp_m_NumberError_init (K : PySem.W.Frag) : Sp := spInit K "at_number"
section
variable {P : Program} {w : World} {K : PySem.W.Frag} {mg : Str → Option Value} {base : Heap}
theorem ok_m_NumberError_init (T : Top w K mg) : Ok P w K mg base 4 ("NumberError", some "__init__") ["self", "at_number"] (sp_m_NumberError_init K) := by
  have G_p_fresh := ok_p_fresh (P := P) (w := w) (base := base) T
  obtain ⟨ds_p_fresh, B_p_fresh⟩ := dflt_p_fresh T
  refine T.f_m_NumberError_init.ok sc_m_NumberError_init (fun vs H Q E h => ?_) (fun cdv A outer s H vs Q E hr h => ?_)
  · obtain ⟨_, _, _, rfl, _⟩ := h
    rfl
  · refine ⟨_, PSs.nox (pss_one (ps_ost (pv 0) (by exact pe_callUD (E := fun _ => E0) G_p_fresh (hr.mono (by first | decide | omega)) rfl T.g_p_fresh T.f_p_fresh.kp B_p_fresh.2 B_p_fresh.1 pass_n (pa_cons (pv 1) pa_nil)))), ?_⟩
    obtain ⟨a, C, v, rfl, o, n, e, hv, q⟩ := h
    show tOst _ _ _ _ _ [some (.ref a), some v] H
    walk_at "s"
    refine ⟨v, 8, rfl, by decide, hv, fun v' H1 s1 c1 => ?_⟩
    walk_at "s"
    exact ⟨a, C, rfl, o, n, .inl ⟨s1 _ _ e, fun dx nd hda => q v' H1 dx s1 c1 nd hda⟩⟩
end
end W

namespace W
open PySem PySem.Spec PyProof.Rows L2 TL G
def sp_p_change_of (K : PySem.W.Frag) : Sp := fun vs H Q _ => ∃ (l : List Nat), vs = [S l] ∧ Q (.int (cnt [79] l - cnt [73] l)) H
section
variable {P : Program} {w : World} {K : PySem.W.Frag} {mg : Str → Option Value} {base : Heap}
theorem ok_p_change_of (T : Top w K mg) : Ok P w K mg base 1 ("change_of", none) ["letters"] (sp_p_change_of K) := by
  refine T.f_p_change_of.ok sc_p_change_of (fun vs H Q E h => ?_) (fun cdv A outer s H vs Q E hr h => ?_)
  · obtain ⟨_, rfl, _⟩ := h
    rfl
  · refine ⟨_, PSs.nox (pss_one (ps_ret (pe_op op_subU (pe_bmK K rfl PySem.F.plainAttrs_str PySem.F.slot_str_count PySem.F.type_str_count mt_cntS (pv 0) (pa_cons (pe_s [79]) pa_nil)) (pe_bmK K rfl PySem.F.plainAttrs_str PySem.F.slot_str_count PySem.F.type_str_count mt_cntS (pv 0) (pa_cons (pe_s [73]) pa_nil))))), ?_⟩
    obtain ⟨l, rfl, q⟩ := h
    show tRet _ _ [some (S l)] H
    walk_at "s"
    rw [← cnt_one, ← cnt_one]
    exact q
end
end W

namespace W
open PySem PySem.Spec PyProof.Rows L2 TL G
def sp_p_made_of (K : PySem.W.Frag) : Sp := fun vs H Q _ => ∃ (t ls : List Nat) (a b : Int), vs = [S t, S ls, .int a, .int b] ∧ t.length ≤ 1000000 ∧
  ∀ (r : Bool) (H' : Hp), Same H H' → (r = true ↔ (a ≤ t.length ∧ (t.length : Int) ≤ b ∧ ∀ c ∈ t, c ∈ ls)) → Q (.bl r) H'
section
variable {P : Program} {w : World} {K : PySem.W.Frag} {mg : Str → Option Value} {base : Heap}
theorem ok_p_made_of (T : Top w K mg) : Ok P w K mg base 1 ("made_of", none) ["text", "letters", "least", "most"] (sp_p_made_of K) := by
  refine T.f_p_made_of.ok sc_p_made_of (fun vs H Q E h => ?_) (fun cdv A outer s H vs Q E hr h => ?_)
  · obtain ⟨_, _, _, _, rfl, _⟩ := h
    rfl
  · refine ⟨_, PSs.nox (pss_cons (ps_ifU (pw_orU (pt_not (pt_t (pe_callB (call_isiK K rfl) (by rfl) T.z_isinstance (by decide +kernel) (pa_cons (pv 0) (pa_cons (pe_bltn (v := .ty "str") (by rfl) T.z_str (by decide +kernel) rfl) pa_nil))))) (pw_orU (pt_c op_ltU (pe_callB (call_lenK K rfl) (by rfl) T.z_len (by decide +kernel) (pa_cons (pv 0) pa_nil)) (pv 2) (nomark _)) (pw_or1 (pt_c op_gtU (pe_callB (call_lenK K rfl) (by rfl) T.z_len (by decide +kernel) (pa_cons (pv 0) pa_nil)) (pv 3) (nomark _))))).pt (pss_one (ps_ret pe_bl)) pss_nil)
      (pss_one (ps_ret (pe_callB (cr_allK K rfl rfl) (by rfl) T.z_all (by decide +kernel) (pa_cons (pe_lc (own := [("sign", 4)]) (by rfl) sc_p_made_of.nd (pi_str (pv 0)) (blkOk_by (own := [("sign", 4)]) (N := N_p_made_of) (sc := defScope s_p_made_of) (by decide +kernel)) (fun _ _ _ _ _ => (pg_name (i := 4) sc_p_made_of.nd rfl (Or.inl rfl))) (fun _ _ _ _ _ => pts_nil) (fun _ _ _ _ _ => (pe_cmpR op_inT (pv 4) (pv 1) (by rfl)))) pa_nil))))), ?_⟩
    obtain ⟨t, ls, a, b, rfl, ht, q⟩ := h
    show tSeq _ _ _ [some (S t), some (S ls), some (.int a), some (.int b), none] H
    walk_at "s"
    refine go_isi (b := true) (flat_str (.inl rfl)) ?_
    walk_at "s"
    refine go_no rfl ?_
    walk_at "s"
    refine go_iteD (fun h3 => ?_) (fun h3 => ?_)
    · walk_at "s"
      exact q _ _ (Same.refl _) ⟨(fun z => by cases z), fun z => by omega⟩
    walk_at "s"
    refine go_iteD (fun h4 => ?_) (fun h4 => ?_)
    · walk_at "s"
      exact q _ _ (Same.refl _) ⟨(fun z => by cases z), fun z => by omega⟩
    walk_at "s"
    refine go_lcP walk_st (fun _ => true) (fun i => .bl (decide (t.getD i 0 ∈ ls))) (fun _ _ => trivial) (fun x => rfl) ht (fun i H' hi s' Q' q' => q' _ (Same.refl _)) (fun i H' hi s' _ Q' q' => ?_) (fun D H' nD s' eD => ?_)
    · show tOp _ _ _ [some (S t), some (S ls), some (.int a), some (.int b), some _] _ _
      walk_at "s"
      exact q' _ (Same.refl _)
    · walk_at "s"
      refine ⟨D, (List.range t.length).map fun i => decide (t.getD i 0 ∈ ls), rfl, ?_, ?_⟩
      · rw [List.map_map]
        refine sq_of ?_
        rw [eD, kept_all]
        rfl
      · refine q _ _ s' ?_
        rw [List.all_map, List.all_eq_true]
        constructor
        · intro hh
          refine ⟨by omega, by omega, fun c hc => ?_⟩
          obtain ⟨i, hi, rfl⟩ := List.getElem_of_mem hc
          have z := hh i (List.mem_range.mpr hi)
          have z2 : t.getD i 0 ∈ ls := of_decide_eq_true z
          rw [List.getD_eq_getElem?_getD, List.getElem?_eq_getElem hi] at z2
          exact z2
        · intro ⟨_, _, hh⟩ i hi
          have hi' := List.mem_range.mp hi
          show decide (t.getD i 0 ∈ ls) = true
          refine decide_eq_true ?_
          rw [List.getD_eq_getElem?_getD, List.getElem?_eq_getElem hi']
          exact hh _ (List.getElem_mem hi')
end
end W

namespace W
open PySem PySem.Spec PyProof.Rows L2 TL G
def sp_p_are_parts (K : PySem.W.Frag) : Sp := fun vs H Q _ => ∃ (p c ls : List Nat), vs = [S p, S c, S ls] ∧ p.length ≤ 1000000 ∧ c.length ≤ 1000000 ∧
  ∀ (r : Bool) (H' : Hp), Same H H' → (r = true ↔ Lw ls p c) → Q (.bl r) H'
section
variable {P : Program} {w : World} {K : PySem.W.Frag} {mg : Str → Option Value} {base : Heap}
theorem ok_p_are_parts (T : Top w K mg) : Ok P w K mg base 2 ("are_parts", none) ["prefix", "cycle", "letters"] (sp_p_are_parts K) := by
  have G_p_made_of := ok_p_made_of (P := P) (w := w) (base := base) T
  refine T.f_p_are_parts.ok sc_p_are_parts (fun vs H Q E h => ?_) (fun cdv A outer s H vs Q E hr h => ?_)
  · obtain ⟨_, _, _, rfl, _⟩ := h
    rfl
  · refine ⟨_, PSs.nox (pss_cons (ps_ifU (pt_not (pt_t (by exact pe_callU (E := fun _ => E0) G_p_made_of (hr.mono (by first | decide | omega)) rfl T.g_p_made_of T.f_p_made_of.kp (b_p_made_of T) pass_n (pa_cons (pv 0) (pa_cons (pv 2) (pa_cons pe_int (pa_cons (by exact pe_glob (v := .int 12) rfl T.k_LONGEST_PREFIX ⟨_, rfl⟩) pa_nil))))))) (pss_one (ps_ret pe_bl)) pss_nil)
      (pss_one (ps_ret (by exact pe_callU (E := fun _ => E0) G_p_made_of (hr.mono (by first | decide | omega)) rfl T.g_p_made_of T.f_p_made_of.kp (b_p_made_of T) pass_n (pa_cons (pv 1) (pa_cons (pv 2) (pa_cons pe_int (pa_cons (by exact pe_glob (v := .int 4) rfl T.k_LONGEST_CYCLE ⟨_, rfl⟩) pa_nil)))))))), ?_⟩
    obtain ⟨p, c, ls, rfl, hp, hc, q⟩ := h
    show tSeq _ _ _ [some (S p), some (S c), some (S ls)] H
    walk_at "s"
    refine ⟨p, ls, _, _, rfl, hp, fun r H1 s1 h1 => ?_⟩
    walk_at "s"
    refine go_ite (fun h3 => ?_) (fun h3 => ?_)
    · walk_at "s"
      refine q _ _ s1 ⟨(fun z => by cases z), fun z => ?_⟩
      have : r = true := h1.mpr ⟨by omega, by have := z.p12; omega, z.pl⟩
      rw [this] at h3
      cases h3
    · walk_at "s"
      refine ⟨c, ls, _, _, rfl, hc, fun r2 H2 s2 h2 => ?_⟩
      refine q _ _ (s1.trans s2) ?_
      have hr : r = true := by
        cases r with
        | true => rfl
        | false => cases h3
      obtain ⟨a1, a2, a3⟩ := h1.mp hr
      constructor
      · intro z
        obtain ⟨b1, b2, b3⟩ := h2.mp z
        exact ⟨by omega, by omega, by omega, a3, b3⟩
      · intro z
        exact h2.mpr ⟨by have := z.c1; omega, by have := z.c4; omega, z.cl⟩
end
end W

namespace W
open PySem PySem.Spec PyProof.Rows L2 TL G
def sp_p_text_parts (K : PySem.W.Frag) : Sp := fun vs H Q E => ∃ (v : V) (ls : List Nat), vs = [v, S ls] ∧ 40 ∉ ls ∧ ((∃ p c, v = S (wt p c) ∧ Lw ls p c ∧ ∀ a H', H a = none → Same H H' → H' a = some (.tup [S p, S c]) → Q (.ref a) H') ∨ (BadW K ls H v ∧ Err0 K "WordError" H E))
section
variable {P : Program} {w : World} {K : PySem.W.Frag} {mg : Str → Option Value} {base : Heap}
theorem ok_p_text_parts (T : Top w K mg) : Ok P w K mg base 3 ("text_parts", none) ["text", "letters"] (sp_p_text_parts K) := by
  have G_p_are_parts := ok_p_are_parts (P := P) (w := w) (base := base) T
  refine T.f_p_text_parts.ok sc_p_text_parts (fun vs H Q E h => ?_) (fun cdv A outer s H vs Q E hr h => ?_)
  · obtain ⟨_, _, rfl, _⟩ := h
    rfl
  · refine ⟨_, (pss_cons (ps_ifU (pw_orU (pt_not (pt_t (pe_callB (call_isiK K rfl) (by rfl) T.z_isinstance (by decide +kernel) (pa_cons (pv 0) (pa_cons (pe_bltn (v := .ty "str") (by rfl) T.z_str (by decide +kernel) rfl) pa_nil))))) (pw_or1 (pt_not (pt_t (pe_bmK K rfl PySem.F.plainAttrs_str PySem.F.slot_str_endswith PySem.F.type_str_endswith mt_ends (pv 0) (pa_cons (pe_s [41]) pa_nil)))))).pt (pss_one (ps_raise rfl (takes_of rfl rfl rfl rfl) (pmk_own0 PySem.F.excBase_ValueError T.e_WordError.1 T.g_WordError T.e_WordError.2.1 (raises_own T.e_WordError.2.2.1 T.e_WordError.2.2.2) rfl))) pss_nil)
      (pss_cons (ps_asg (pe_bmK K rfl PySem.F.plainAttrs_str PySem.F.slot_str_partition PySem.F.type_str_partition mt_part (pv 0) (pa_cons (pe_s [40]) pa_nil)) (pg_tupU K 3 rfl rfl (pgs_cons (pg_name (i := 2) sc_p_text_parts.nd rfl (Or.inl rfl)) (pgs_cons (pg_name (i := 3) sc_p_text_parts.nd rfl (Or.inl rfl)) (pgs_cons (pg_name (i := 4) sc_p_text_parts.nd rfl (Or.inl rfl)) pgs_nil)))))
      (pss_cons (ps_set (i := 5) sc_p_text_parts.nd rfl (.inl rfl) (pe_slice (sl_K K rfl) (pv 4) po_none (po_some (pe_un un_neg pe_int))))
      (pss_cons (ps_ifU (pw_orU (pt_c (op_eqK K rfl hr.units) (pv 3) (pe_s []) (nomark _)) (pw_or1 (pt_not (pt_t (by exact pe_callU (E := fun _ => E) G_p_are_parts (hr.mono (by first | decide | omega)) rfl T.g_p_are_parts T.f_p_are_parts.kp (b_p_are_parts T) (pass_x (takes_of rfl rfl rfl rfl)) (pa_cons (pv 2) (pa_cons (pv 5) (pa_cons (pv 1) pa_nil)))))))).pt (pss_one (ps_raise rfl (takes_of rfl rfl rfl rfl) (pmk_own0 PySem.F.excBase_ValueError T.e_WordError.1 T.g_WordError T.e_WordError.2.1 (raises_own T.e_WordError.2.2.1 T.e_WordError.2.2.2) rfl))) pss_nil)
      (pss_one (ps_ret (pe_tup (pa_cons (pv 2) (pa_cons (pv 5) pa_nil))))))))), ?_⟩
    obtain ⟨v, ls, rfl, h40, h⟩ := h
    show tSeq _ _ _ [some v, some (S ls), none, none, none, none] H
    walk_at "s"
    rcases h with ⟨p, c, rfl, hw, q⟩ | ⟨hb, hE⟩
    · refine go_isi (b := true) (flat_str (.inl rfl)) ?_
      walk_at "s"
      refine go_no rfl ?_
      walk_at "s"
      have hl : (wt p c).length ≤ 1000000 := by rw [wt_len]; have := hw.p12; have := hw.c4; omega
      have he : (wt p c).getLast? = some 41 := by
        have e : wt p c = (p ++ 40 :: c) ++ [41] := by unfold wt; simp
        rw [e, List.getLast?_append]
        rfl
      refine go_no (by rw [decide_eq_true he]; rfl) ?_
      walk_at "s"
      refine ⟨_, _, rfl, rfl, hl, fun p' r e hp' a na => ?_, fun hn => ?_⟩
      · obtain ⟨rfl, rfl⟩ := split_inj (hw.no40 h40) hp' e
        walk_at "s"
        refine go_un3 (K := K) (st_of upd_same) ?_
        have s1 := upd_of (o := .tup [S p, S [40], S (c ++ [41])]) na
        walk_at "s"
        refine go_sls (by simp; have := hw.c4; omega) ?_
        rw [cutL_butlast, List.dropLast_concat]
        walk_at "s"
        refine go_iteD (fun h3 => by cases h3) (fun h3 => ?_)
        walk_at "s"
        refine ⟨p, c, ls, rfl, by have := hw.p12; omega, by have := hw.c4; omega, fun r H2 s2 hr => ?_⟩
        have hr' : r = true := hr.mpr hw
        subst hr'
        walk_at "s"
        refine go_no rfl ?_
        walk_at "s"
        refine go_tup' fun b H3 nb s3 e3 => ?_
        exact q _ _ ((s1.trans s2).free nb) ((s1.trans s2).trans s3) e3
      · exact absurd (by unfold wt; simp) hn
    · rcases hb with hb | ⟨l, rfl, hl, hb⟩
      · refine go_isi hb ?_
        walk_at "s"
        refine go_yes rfl ?_
        walk_at "s"
        exact hE _ (Same.refl _)
      · refine go_isi (b := true) (flat_str (.inl rfl)) ?_
        walk_at "s"
        refine go_no rfl ?_
        walk_at "s"
        refine go_iteN (fun h3 => ?_) (fun h3 => ?_)
        · walk_at "s"
          exact hE _ (Same.refl _)
        walk_at "s"
        refine ⟨_, _, rfl, rfl, hl, fun p r e hp a na => ?_, fun hn a na => ?_⟩
        · walk_at "s"
          refine go_un3 (K := K) (st_of upd_same) ?_
          have s1 := upd_of (o := .tup [S p, S [40], S r]) na
          walk_at "s"
          have hlr : l.length = p.length + r.length + 1 := by rw [e]; simp; omega
          refine go_sls (by omega) ?_
          rw [cutL_butlast]
          walk_at "s"
          refine go_iteD (fun h4 => by cases h4) (fun h4 => ?_)
          walk_at "s"
          refine ⟨p, r.dropLast, ls, rfl, by omega, by rw [List.length_dropLast]; omega, fun b H2 s2 hr => ?_⟩
          have hb' : b = false := by
            cases b with
            | false => rfl
            | true =>
              refine absurd (hr.mp rfl) (hb p r.dropLast ?_)
              rw [e] at h3 ⊢
              unfold wt
              rcases List.eq_nil_or_concat r with rfl | ⟨m, z, rfl⟩
              · simp at h3
              · rw [List.concat_eq_append] at h3 ⊢
                rw [show p ++ 40 :: (m ++ [z]) = (p ++ 40 :: m) ++ [z] by simp, List.getLast?_append] at h3
                have e4 : z = 41 := Option.some.inj h3
                subst e4
                rw [List.dropLast_concat]
          subst hb'
          walk_at "s"
          refine go_yes rfl ?_
          walk_at "s"
          exact hE _ (s1.trans s2)
        · walk_at "s"
          refine go_un3 (K := K) (st_of upd_same) ?_
          have s1 := upd_of (o := .tup [S l, S [], S []]) na
          walk_at "s"
          refine go_sls (by simp) ?_
          walk_at "s"
          refine go_iteD (fun h4 => ?_) (fun h4 => absurd rfl h4)
          walk_at "s"
          exact hE _ s1
end
end W

namespace W
open PySem PySem.Spec PyProof.Rows L2 TL G
def sp_p_read_word (K : PySem.W.Frag) : Sp := fun vs H Q E => ∃ (v : V), vs = [v] ∧ ((∃ p c, v = S (wt p c) ∧ Lw BIO p c ∧ ∀ a H', H a = none → Same H H' → H' a = some (.tup [S p, S c]) → Q (.ref a) H') ∨ (BadW K BIO H v ∧ Err0 K "WordError" H E))
section
variable {P : Program} {w : World} {K : PySem.W.Frag} {mg : Str → Option Value} {base : Heap}
theorem ok_p_read_word (T : Top w K mg) : Ok P w K mg base 4 ("read_word", none) ["word"] (sp_p_read_word K) := by
  have G_p_text_parts := ok_p_text_parts (P := P) (w := w) (base := base) T
  refine T.f_p_read_word.ok sc_p_read_word (fun vs H Q E h => ?_) (fun cdv A outer s H vs Q E hr h => ?_)
  · obtain ⟨_, rfl, _⟩ := h
    rfl
  · refine ⟨_, (pss_one (ps_ret (by exact pe_callU (E := fun _ => E) G_p_text_parts (hr.mono (by first | decide | omega)) rfl T.g_p_text_parts T.f_p_text_parts.kp (b_p_text_parts T) (pass_x (takes_of rfl rfl rfl rfl)) (pa_cons (pv 0) (pa_cons (by exact pe_glob (v := S [66, 73, 79]) rfl T.k_LETTERS ⟨_, rfl⟩) pa_nil))))), ?_⟩
    obtain ⟨v, rfl, h⟩ := h
    show tRet _ _ [some v] H
    walk_at "s"
    exact ⟨v, BIO, rfl, by decide, h⟩
end
end W

namespace W
open PySem PySem.Spec PyProof.Rows L2 TL G
def sp_p_balance (K : PySem.W.Frag) : Sp := fun vs H Q E => ∃ (v k : V), vs = [v, k] ∧ FlatAt K H k ∧ ((∃ p c n, v = S (wt p c) ∧ k = .int n ∧ Lw BIO p c ∧ 0 ≤ n ∧ ∀ H', Same H H' → Q (.int (cyc (fun l => cnt [79] l - cnt [73] l) p c n)) H') ∨
  (badN k 0 = true ∧ Err1 K "NumberError" "at_number" k H E) ∨ (∃ n, k = .int n ∧ 0 ≤ n ∧ BadW K BIO H v ∧ Err0 K "WordError" H E))
section
variable {P : Program} {w : World} {K : PySem.W.Frag} {mg : Str → Option Value} {base : Heap}
theorem ok_p_balance (T : Top w K mg) : Ok P w K mg base 6 ("balance", none) ["word", "k"] (sp_p_balance K) := by
  have G_m_NumberError_init := ok_m_NumberError_init (P := P) (w := w) (base := base) T
  have G_p_change_of := ok_p_change_of (P := P) (w := w) (base := base) T
  have G_p_read_word := ok_p_read_word (P := P) (w := w) (base := base) T
  refine T.f_p_balance.ok sc_p_balance (fun vs H Q E h => ?_) (fun cdv A outer s H vs Q E hr h => ?_)
  · obtain ⟨_, _, rfl, _⟩ := h
    rfl
  · refine ⟨_, (pss_cons (ps_ifU (pw_orU (pt_not (pt_t (pe_callB (call_isiK K rfl) (by rfl) T.z_isinstance (by decide +kernel) (pa_cons (pv 1) (pa_cons (pe_bltn (v := .ty "int") (by rfl) T.z_int (by decide +kernel) rfl) pa_nil))))) (pw_orU (pt_t (pe_callB (call_isiK K rfl) (by rfl) T.z_isinstance (by decide +kernel) (pa_cons (pv 1) (pa_cons (pe_bltn (v := .ty "bool") (by rfl) T.z_bool (by decide +kernel) rfl) pa_nil)))) (pw_or1 (pt_c op_ltU (pv 1) pe_int (nomark _))))).pt (pss_one (ps_raise rfl (takes_of rfl rfl rfl rfl) (pmk_oex T.o_NumberError T.i_NumberError T.y_NumberError G_m_NumberError_init (hr.mono (by decide)) (b_m_NumberError_init T) .nil passL rfl T.g_NumberError (pa_cons (pv 1) pa_nil)))) pss_nil)
      (pss_cons (ps_asg (by exact pe_callU (E := fun _ => E) G_p_read_word (hr.mono (by first | decide | omega)) rfl T.g_p_read_word T.f_p_read_word.kp (b_p_read_word T) (pass_x (takes_of rfl rfl rfl rfl)) (pa_cons (pv 0) pa_nil)) (pg_tupU K 2 rfl rfl (pgs_cons (pg_name (i := 2) sc_p_balance.nd rfl (Or.inl rfl)) (pgs_cons (pg_name (i := 3) sc_p_balance.nd rfl (Or.inl rfl)) pgs_nil))))
      (pss_cons (ps_ifU (pt_c op_leU (pv 1) (pe_callB (call_lenK K rfl) (by rfl) T.z_len (by decide +kernel) (pa_cons (pv 2) pa_nil)) (nomark _)) (pss_one (ps_ret (by exact pe_callU (E := fun _ => E) G_p_change_of (hr.mono (by first | decide | omega)) rfl T.g_p_change_of T.f_p_change_of.kp (b_p_change_of T) (pass_x (takes_of rfl rfl rfl rfl)) (pa_cons (pe_slice (sl_K K rfl) (pv 2) po_none (po_some (pv 1))) pa_nil)))) pss_nil)
      (pss_cons (ps_asg (pe_callB call_dmU (by rfl) T.z_divmod (by decide +kernel) (pa_cons (pe_op op_subU (pv 1) (pe_callB (call_lenK K rfl) (by rfl) T.z_len (by decide +kernel) (pa_cons (pv 2) pa_nil))) (pa_cons (pe_callB (call_lenK K rfl) (by rfl) T.z_len (by decide +kernel) (pa_cons (pv 3) pa_nil)) pa_nil))) (pg_tupU K 2 rfl rfl (pgs_cons (pg_name (i := 4) sc_p_balance.nd rfl (Or.inl rfl)) (pgs_cons (pg_name (i := 5) sc_p_balance.nd rfl (Or.inl rfl)) pgs_nil))))
      (pss_one (ps_ret (pe_op op_addU (pe_op op_addU (by exact pe_callU (E := fun _ => E) G_p_change_of (hr.mono (by first | decide | omega)) rfl T.g_p_change_of T.f_p_change_of.kp (b_p_change_of T) (pass_x (takes_of rfl rfl rfl rfl)) (pa_cons (pv 2) pa_nil)) (pe_op op_mulU (pv 4) (by exact pe_callU (E := fun _ => E) G_p_change_of (hr.mono (by first | decide | omega)) rfl T.g_p_change_of T.f_p_change_of.kp (b_p_change_of T) (pass_x (takes_of rfl rfl rfl rfl)) (pa_cons (pv 3) pa_nil)))) (by exact pe_callU (E := fun _ => E) G_p_change_of (hr.mono (by first | decide | omega)) rfl T.g_p_change_of T.f_p_change_of.kp (b_p_change_of T) (pass_x (takes_of rfl rfl rfl rfl)) (pa_cons (pe_slice (sl_K K rfl) (pv 3) po_none (po_some (pv 5))) pa_nil))))))))), ?_⟩
    obtain ⟨v, k, rfl, hk, h⟩ := h
    show tSeq _ _ _ [some v, some k, none, none, none, none] H
    walk_at "s"
    refine go_isi (flat_int hk) ?_
    walk_at "s"
    have bad : Err1 K "NumberError" "at_number" k H E → tMkO (He.ga K "NumberError") (sp_m_NumberError_init K) [] (tCons (tVar 1) tNil) [some v, some k, none, none, none, none] H (fun cls d H' => E cls d H') := fun hE =>
      go_raise1 T.o_NumberError T.n_NumberError_at_number hk hE fun Q q => by walk_at "s"; exact q
    rcases h with ⟨p, c, n, rfl, rfl, hw, hn, q⟩ | ⟨hb, hE⟩ | ⟨n, rfl, hn, hb, hE⟩
    · refine go_no rfl ?_
      walk_at "s"
      refine go_isi (flat_bl hk) ?_
      walk_at "s"
      refine go_no rfl ?_
      walk_at "s"
      refine go_iteD (fun h3 => by omega) (fun h3 => ?_)
      walk_at "s"
      refine ⟨_, rfl, .inl ⟨p, c, rfl, hw, fun a H1 na s1 e1 => ?_⟩⟩
      walk_at "s"
      refine go_un2 (K := K) (st_of e1) ?_
      have p12 := hw.p12
      have c1 := hw.c1
      have c4 := hw.c4
      walk_at "s"
      refine go_iteD (fun h3 => ?_) (fun h3 => ?_)
      · have q1 := q _ s1
        unfold cyc at q1
        rw [if_pos h3] at q1
        walk_at "s"
        refine go_sls (by omega) ?_
        rw [cutL_to _ _ hn]
        walk_at "s"
        exact ⟨_, rfl, q1⟩
      · walk_at "s"
        refine go_dm (cdp (by omega) (by omega)) fun b H2 nb s2 e2 => ?_
        walk_at "s"
        refine go_un2 (K := K) (st_of e2) ?_
        have q1 := q _ (s1.trans s2)
        unfold cyc at q1
        rw [if_neg h3] at q1
        walk_at "s"
        refine ⟨_, rfl, ?_⟩
        walk_at "s"
        refine ⟨_, rfl, ?_⟩
        walk_at "s"
        have h4 := cnt_le [79] c
        have h5 := cnt_nn [79] c
        have h6 := cnt_le [73] c
        have h7 := cnt_nn [73] c
        refine go_mul (.inl (.inr (by omega))) ?_
        walk_at "s"
        refine go_sls (by omega) ?_
        rw [cutL_to _ _ (Int.emod_nonneg _ (by omega))]
        walk_at "s"
        refine ⟨_, rfl, ?_⟩
        walk_at "s"
        exact q1
    · cases k with
      | int n =>
        refine go_no rfl ?_
        walk_at "s"
        refine go_isi (flat_bl hk) ?_
        walk_at "s"
        refine go_no rfl ?_
        walk_at "s"
        have h4 : n < 0 := of_decide_eq_true hb
        refine go_iteD (fun h3 => ?_) (fun h3 => by omega)
        walk_at "s"
        exact bad hE
      | bl b =>
        refine go_no rfl ?_
        walk_at "s"
        refine go_isi (flat_bl hk) ?_
        walk_at "s"
        refine go_yes rfl ?_
        walk_at "s"
        exact bad hE
      | _ =>
        refine go_yes rfl ?_
        walk_at "s"
        exact bad hE
    · refine go_no rfl ?_
      walk_at "s"
      refine go_isi (flat_bl hk) ?_
      walk_at "s"
      refine go_no rfl ?_
      walk_at "s"
      refine go_iteD (fun h3 => by omega) (fun h3 => ?_)
      walk_at "s"
      exact ⟨_, rfl, .inr ⟨hb, hE⟩⟩
end
end W

namespace W
open PySem PySem.Spec PyProof.Rows L2 TL G
def sp_p_check_number (K : PySem.W.Frag) : Sp := fun vs H Q E => ∃ (v : V) (least : Int), vs = [v, .int least, .non] ∧ FlatAt K H v ∧ ((∃ n, v = .int n ∧ least ≤ n ∧ Q .non H) ∨ (badN v least = true ∧ Err1 K "NumberError" "at_number" v H E))
section
variable {P : Program} {w : World} {K : PySem.W.Frag} {mg : Str → Option Value} {base : Heap}
theorem ok_p_check_number (T : Top w K mg) : Ok P w K mg base 6 ("check_number", none) ["number", "least", "most"] (sp_p_check_number K) := by
  have G_m_NumberError_init := ok_m_NumberError_init (P := P) (w := w) (base := base) T
  refine T.f_p_check_number.ok sc_p_check_number (fun vs H Q E h => ?_) (fun cdv A outer s H vs Q E hr h => ?_)
  · obtain ⟨_, _, rfl, _⟩ := h
    rfl
  · refine ⟨_, (pss_cons (ps_ifU (pw_orU (pt_t (pe_callB (call_isiK K rfl) (by rfl) T.z_isinstance (by decide +kernel) (pa_cons (pv 0) (pa_cons (pe_bltn (v := .ty "bool") (by rfl) T.z_bool (by decide +kernel) rfl) pa_nil)))) (pw_or1 (pt_not (pt_t (pe_callB (call_isiK K rfl) (by rfl) T.z_isinstance (by decide +kernel) (pa_cons (pv 0) (pa_cons (pe_bltn (v := .ty "int") (by rfl) T.z_int (by decide +kernel) rfl) pa_nil))))))).pt (pss_one (ps_raise rfl (takes_of rfl rfl rfl rfl) (pmk_oex T.o_NumberError T.i_NumberError T.y_NumberError G_m_NumberError_init (hr.mono (by decide)) (b_m_NumberError_init T) .nil passL rfl T.g_NumberError (pa_cons (pv 0) pa_nil)))) pss_nil)
      (pss_one (ps_ifU (pw_orU (pt_c op_ltU (pv 0) (pv 1) (nomark _)) (pw_or1 (pw_andU (pt_c op_isnU (pv 2) pe_non (nomark _)) (pw_and1 (pt_c op_gtU (pv 0) (pv 2) (nomark _)))).pt)).pt (pss_one (ps_raise rfl (takes_of rfl rfl rfl rfl) (pmk_oex T.o_NumberError T.i_NumberError T.y_NumberError G_m_NumberError_init (hr.mono (by decide)) (b_m_NumberError_init T) .nil passL rfl T.g_NumberError (pa_cons (pv 0) pa_nil)))) pss_nil))), ?_⟩
    obtain ⟨v, least, rfl, hv, h⟩ := h
    show tSeq _ _ _ [some v, some (.int least), some .non] H
    walk_at "s"
    refine go_isi (flat_bl hv) ?_
    walk_at "s"
    have bad : Err1 K "NumberError" "at_number" v H E → tMkO (He.ga K "NumberError") (sp_m_NumberError_init K) [] (tCons (tVar 0) tNil) [some v, some (.int least), some .non] H (fun cls d H' => E cls d H') := fun hE =>
      go_raise1 T.o_NumberError T.n_NumberError_at_number hv hE fun Q q => by walk_at "s"; exact q
    rcases h with ⟨n, rfl, hn, q⟩ | ⟨hb, hE⟩
    · refine go_no rfl ?_
      walk_at "s"
      refine go_isi (flat_int hv) ?_
      walk_at "s"
      refine go_no rfl ?_
      walk_at "s"
      refine go_iteD (fun h3 => ?_) (fun h3 => ?_)
      · omega
      walk_at "s"
      exact q
    · cases v with
      | bl b =>
        refine go_yes rfl ?_
        walk_at "s"
        exact bad hE
      | int n =>
        refine go_no rfl ?_
        walk_at "s"
        refine go_isi (flat_int hv) ?_
        walk_at "s"
        refine go_no rfl ?_
        walk_at "s"
        refine go_iteD (fun h3 => ?_) (fun h3 => ?_)
        · walk_at "s"
          exact bad hE
        · have h4 : n < least := of_decide_eq_true hb
          omega
      | _ =>
        refine go_no rfl ?_
        walk_at "s"
        refine go_isi (flat_int hv) ?_
        walk_at "s"
        refine go_yes rfl ?_
        walk_at "s"
        exact bad hE
end
end W

namespace W
open PySem PySem.Spec PyProof.Rows L2 TL G
def sp_p_letter (K : PySem.W.Frag) : Sp := fun vs H Q E => ∃ (v k : V), vs = [v, k] ∧ FlatAt K H k ∧ ((∃ p c n, v = S (wt p c) ∧ k = .int n ∧ Lw BIO p c ∧ 0 ≤ n ∧ ∀ H', Same H H' → Q (S [lat p c n]) H') ∨
  (badN k 0 = true ∧ Err1 K "NumberError" "at_number" k H E) ∨ (∃ n, k = .int n ∧ 0 ≤ n ∧ BadW K BIO H v ∧ Err0 K "WordError" H E))
section
variable {P : Program} {w : World} {K : PySem.W.Frag} {mg : Str → Option Value} {base : Heap}
theorem ok_p_letter (T : Top w K mg) : Ok P w K mg base 7 ("letter", none) ["word", "k"] (sp_p_letter K) := by
  have G_p_check_number := ok_p_check_number (P := P) (w := w) (base := base) T
  have G_p_read_word := ok_p_read_word (P := P) (w := w) (base := base) T
  obtain ⟨ds_p_check_number, B_p_check_number⟩ := dflt_p_check_number T
  refine T.f_p_letter.ok sc_p_letter (fun vs H Q E h => ?_) (fun cdv A outer s H vs Q E hr h => ?_)
  · obtain ⟨_, _, rfl, _⟩ := h
    rfl
  · refine ⟨_, (pss_cons (ps_expr (by exact pe_callUD (E := fun _ => E) G_p_check_number (hr.mono (by first | decide | omega)) rfl T.g_p_check_number T.f_p_check_number.kp B_p_check_number.2 B_p_check_number.1 (pass_x (takes_of rfl rfl rfl rfl)) (pa_cons (pv 1) (pa_cons pe_int pa_nil))))
      (pss_cons (ps_asg (by exact pe_callU (E := fun _ => E) G_p_read_word (hr.mono (by first | decide | omega)) rfl T.g_p_read_word T.f_p_read_word.kp (b_p_read_word T) (pass_x (takes_of rfl rfl rfl rfl)) (pa_cons (pv 0) pa_nil)) (pg_tupU K 2 rfl rfl (pgs_cons (pg_name (i := 2) sc_p_letter.nd rfl (Or.inl rfl)) (pgs_cons (pg_name (i := 3) sc_p_letter.nd rfl (Or.inl rfl)) pgs_nil))))
      (pss_cons (ps_ifU (pt_c op_ltU (pv 1) (pe_callB (call_lenK K rfl) (by rfl) T.z_len (by decide +kernel) (pa_cons (pv 2) pa_nil)) (nomark _)) (pss_one (ps_ret (pe_ix (ix_K K rfl) (pv 2) (pv 1) (fun _ _ => rfl)))) pss_nil)
      (pss_one (ps_ret (pe_ix (ix_K K rfl) (pv 3) (pe_op op_modU (pe_op op_subU (pv 1) (pe_callB (call_lenK K rfl) (by rfl) T.z_len (by decide +kernel) (pa_cons (pv 2) pa_nil))) (pe_callB (call_lenK K rfl) (by rfl) T.z_len (by decide +kernel) (pa_cons (pv 3) pa_nil))) (fun _ _ => rfl))))))), ?_⟩
    obtain ⟨v, k, rfl, hk, h⟩ := h
    show tSeq _ _ _ [some v, some k, none, none] H
    walk_at "s"
    rcases h with ⟨p, c, n, rfl, rfl, hw, hn, q⟩ | ⟨hb, hE⟩ | ⟨n, rfl, hn, hb, hE⟩
    · refine ⟨_, 0, rfl, hk, .inl ⟨n, rfl, hn, ?_⟩⟩
      walk_at "s"
      refine ⟨_, rfl, .inl ⟨p, c, rfl, hw, fun a H1 na s1 e1 => ?_⟩⟩
      walk_at "s"
      refine go_un2 (K := K) (st_of e1) ?_
      have p12 := hw.p12
      have c1 := hw.c1
      have c4 := hw.c4
      walk_at "s"
      have q1 := q _ s1
      unfold lat at q1
      refine go_iteD (fun h3 => ?_) (fun h3 => ?_)
      · rw [if_pos h3, List.getD_eq_getElem?_getD, List.getElem?_eq_getElem (by omega)] at q1
        walk_at "s"
        exact go_ixs (by omega) (atI_at hn (List.getElem?_eq_getElem (by omega))) q1
      · have h4 : 0 ≤ (n - p.length) % c.length := Int.emod_nonneg _ (by omega)
        have h5 : (n - p.length) % c.length < c.length := Int.emod_lt_of_pos _ (by omega)
        rw [if_neg h3, List.getD_eq_getElem?_getD, List.getElem?_eq_getElem (by omega)] at q1
        walk_at "s"
        exact go_ixs (by omega) (atI_at h4 (List.getElem?_eq_getElem (by omega))) q1
    · exact ⟨_, 0, rfl, hk, .inr ⟨hb, hE⟩⟩
    · refine ⟨_, 0, rfl, hk, .inl ⟨n, rfl, hn, ?_⟩⟩
      walk_at "s"
      exact ⟨_, rfl, .inr ⟨hb, hE⟩⟩
end
end W

namespace W
open PySem PySem.Spec PyProof.Rows L2 TL G
def sp_m_OptionError_init (K : PySem.W.Frag) : Sp := spInit K "at_option"
section
variable {P : Program} {w : World} {K : PySem.W.Frag} {mg : Str → Option Value} {base : Heap}
theorem ok_m_OptionError_init (T : Top w K mg) : Ok P w K mg base 4 ("OptionError", some "__init__") ["self", "at_option"] (sp_m_OptionError_init K) := by
  have G_p_fresh := ok_p_fresh (P := P) (w := w) (base := base) T
  obtain ⟨ds_p_fresh, B_p_fresh⟩ := dflt_p_fresh T
  refine T.f_m_OptionError_init.ok sc_m_OptionError_init (fun vs H Q E h => ?_) (fun cdv A outer s H vs Q E hr h => ?_)
  · obtain ⟨_, _, _, rfl, _⟩ := h
    rfl
  · refine ⟨_, PSs.nox (pss_one (ps_ost (pv 0) (by exact pe_callUD (E := fun _ => E0) G_p_fresh (hr.mono (by first | decide | omega)) rfl T.g_p_fresh T.f_p_fresh.kp B_p_fresh.2 B_p_fresh.1 pass_n (pa_cons (pv 1) pa_nil)))), ?_⟩
    obtain ⟨a, C, v, rfl, o, n, e, hv, q⟩ := h
    show tOst _ _ _ _ _ [some (.ref a), some v] H
    walk_at "s"
    refine ⟨v, 8, rfl, by decide, hv, fun v' H1 s1 c1 => ?_⟩
    walk_at "s"
    exact ⟨a, C, rfl, o, n, .inl ⟨s1 _ _ e, fun dx nd hda => q v' H1 dx s1 c1 nd hda⟩⟩
end
end W

namespace W
open PySem PySem.Spec PyProof.Rows L2 TL G
def sp_p_check_side (K : PySem.W.Frag) : Sp := fun vs H Q E => ∃ (v : V), vs = [v] ∧ FlatAt K H v ∧ ((∃ l x, v = S l ∧ Side l x ∧ Q .non H) ∨ (BadS v ∧ Err1 K "OptionError" "at_option" v H E))
section
variable {P : Program} {w : World} {K : PySem.W.Frag} {mg : Str → Option Value} {base : Heap}
theorem ok_p_check_side (T : Top w K mg) : Ok P w K mg base 6 ("check_side", none) ["side"] (sp_p_check_side K) := by
  have G_m_OptionError_init := ok_m_OptionError_init (P := P) (w := w) (base := base) T
  refine T.f_p_check_side.ok sc_p_check_side (fun vs H Q E h => ?_) (fun cdv A outer s H vs Q E hr h => ?_)
  · obtain ⟨_, rfl, _⟩ := h
    rfl
  · refine ⟨_, (pss_one (ps_ifU (pw_orU (pt_not (pt_t (pe_callB (call_isiK K rfl) (by rfl) T.z_isinstance (by decide +kernel) (pa_cons (pv 0) (pa_cons (pe_bltn (v := .ty "str") (by rfl) T.z_str (by decide +kernel) rfl) pa_nil))))) (pw_or1 (pt_c (op_ninDK K rfl rfl T.d_ONE_SIDED) (pv 0) (by exact pe_glob (v := .ref (He.ga K "ONE_SIDED")) rfl T.g_ONE_SIDED rfl) (by rfl)))).pt (pss_one (ps_raise rfl (takes_of rfl rfl rfl rfl) (pmk_oex T.o_OptionError T.i_OptionError T.y_OptionError G_m_OptionError_init (hr.mono (by decide)) (b_m_OptionError_init T) .nil passL rfl T.g_OptionError (pa_cons (pv 0) pa_nil)))) pss_nil)), ?_⟩
    obtain ⟨v, rfl, hv, h⟩ := h
    show uIfS _ _ _ _ [some v] H
    walk_at "s"
    refine go_isi (flat_str hv) ?_
    walk_at "s"
    have bad : Err1 K "OptionError" "at_option" v H E → tMkO (He.ga K "OptionError") (sp_m_OptionError_init K) [] (tCons (tVar 0) tNil) [some v] H (fun cls d H' => E cls d H') := fun hE =>
      go_raise1 T.o_OptionError T.n_OptionError_at_option hv hE fun Q q => by walk_at "s"; exact q
    rcases h with ⟨l, x, rfl, hs, q⟩ | ⟨hb, hE⟩
    · refine go_no rfl ?_
      walk_at "s"
      refine ⟨l, rfl, rfl, fun hn => ?_, fun _ => ?_⟩
      · obtain ⟨kv, hkv, e, _⟩ := hs.mem
        exact absurd e (hn kv hkv)
      · walk_at "s"
        exact q
    · cases v with
      | str x =>
        refine go_no rfl ?_
        walk_at "s"
        obtain ⟨n1, n2⟩ := hb (tl x) (by show V.str x = V.str (mk (tl x)); rw [mk_tl'])
        refine ⟨tl x, by show V.str x = V.str (mk (tl x)); rw [mk_tl'], rfl, fun _ => ?_, fun ⟨kv, hkv, e⟩ => ?_⟩
        · walk_at "s"
          exact bad hE
        · simp only [List.mem_cons, List.not_mem_nil, or_false] at hkv
          rcases hkv with rfl | rfl
          · exact absurd e n1
          · exact absurd e n2
      | _ =>
        refine go_yes rfl ?_
        walk_at "s"
        exact bad hE
end
end W

namespace W
open PySem PySem.Spec PyProof.Rows L2 TL G
def sp_p_count_named (K : PySem.W.Frag) : Sp := fun vs H Q _ => ∃ (l sd : List Nat) (x : Nat), vs = [S l, S sd] ∧ Side sd x ∧ Q (.int (cnt [66, x] l)) H
section
variable {P : Program} {w : World} {K : PySem.W.Frag} {mg : Str → Option Value} {base : Heap}
theorem ok_p_count_named (T : Top w K mg) : Ok P w K mg base 1 ("count_named", none) ["letters", "side"] (sp_p_count_named K) := by
  refine T.f_p_count_named.ok sc_p_count_named (fun vs H Q E h => ?_) (fun cdv A outer s H vs Q E hr h => ?_)
  · obtain ⟨_, _, _, rfl, _⟩ := h
    rfl
  · refine ⟨_, PSs.nox (pss_one (ps_ret (pe_op op_addU (pe_bmK K rfl PySem.F.plainAttrs_str PySem.F.slot_str_count PySem.F.type_str_count mt_cntS (pv 0) (pa_cons (pe_s [66]) pa_nil)) (pe_bmK K rfl PySem.F.plainAttrs_str PySem.F.slot_str_count PySem.F.type_str_count mt_cntS (pv 0) (pa_cons (pe_ix (ix_DK K rfl rfl T.d_ONE_SIDED) (by exact pe_glob (v := .ref (He.ga K "ONE_SIDED")) rfl T.g_ONE_SIDED rfl) (pv 1) (fun _ _ => rfl)) pa_nil))))), ?_⟩
    obtain ⟨l, sd, x, rfl, hs, q⟩ := h
    show tRet _ _ [some (S l), some (S sd)] H
    walk_at "s"
    obtain ⟨kv, hkv, e1, e2⟩ := hs.mem
    refine ⟨kv, hkv, rfl, by rw [e1], ?_⟩
    rw [← e2]
    walk_at "s"
    have e : cnt [66, x] l = ((l.count 66 : Nat) : Int) + ((l.count x : Nat) : Int) := by
      rw [cnt_two (by rcases hs with ⟨_, rfl⟩ | ⟨_, rfl⟩ <;> decide), cnt_one, cnt_one]
    rw [← e]
    exact q
end
end W

namespace W
open PySem PySem.Spec PyProof.Rows L2 TL G
def sp_p_named (K : PySem.W.Frag) : Sp := fun vs H Q E => ∃ (v k sd : V), vs = [v, k, sd] ∧ FlatAt K H k ∧ FlatAt K H sd ∧ ((∃ p c n l x, v = S (wt p c) ∧ k = .int n ∧ sd = S l ∧ Side l x ∧ Lw BIO p c ∧ 0 ≤ n ∧ ∀ H', Same H H' → Q (.int (cyc (cnt [66, x]) p c n)) H') ∨
  (badN k 0 = true ∧ Err1 K "NumberError" "at_number" k H E) ∨ (∃ n, k = .int n ∧ 0 ≤ n ∧ BadS sd ∧ Err1 K "OptionError" "at_option" sd H E) ∨ (∃ n l x, k = .int n ∧ 0 ≤ n ∧ sd = S l ∧ Side l x ∧ BadW K BIO H v ∧ Err0 K "WordError" H E))
section
variable {P : Program} {w : World} {K : PySem.W.Frag} {mg : Str → Option Value} {base : Heap}
theorem ok_p_named (T : Top w K mg) : Ok P w K mg base 7 ("named", none) ["word", "k", "side"] (sp_p_named K) := by
  have G_p_check_number := ok_p_check_number (P := P) (w := w) (base := base) T
  have G_p_check_side := ok_p_check_side (P := P) (w := w) (base := base) T
  have G_p_count_named := ok_p_count_named (P := P) (w := w) (base := base) T
  have G_p_read_word := ok_p_read_word (P := P) (w := w) (base := base) T
  obtain ⟨ds_p_check_number, B_p_check_number⟩ := dflt_p_check_number T
  refine T.f_p_named.ok sc_p_named (fun vs H Q E h => ?_) (fun cdv A outer s H vs Q E hr h => ?_)
  · obtain ⟨_, _, _, rfl, _⟩ := h
    rfl
  · refine ⟨_, (pss_cons (ps_expr (by exact pe_callUD (E := fun _ => E) G_p_check_number (hr.mono (by first | decide | omega)) rfl T.g_p_check_number T.f_p_check_number.kp B_p_check_number.2 B_p_check_number.1 (pass_x (takes_of rfl rfl rfl rfl)) (pa_cons (pv 1) (pa_cons pe_int pa_nil))))
      (pss_cons (ps_expr (by exact pe_callU (E := fun _ => E) G_p_check_side (hr.mono (by first | decide | omega)) rfl T.g_p_check_side T.f_p_check_side.kp (b_p_check_side T) (pass_x (takes_of rfl rfl rfl rfl)) (pa_cons (pv 2) pa_nil)))
      (pss_cons (ps_asg (by exact pe_callU (E := fun _ => E) G_p_read_word (hr.mono (by first | decide | omega)) rfl T.g_p_read_word T.f_p_read_word.kp (b_p_read_word T) (pass_x (takes_of rfl rfl rfl rfl)) (pa_cons (pv 0) pa_nil)) (pg_tupU K 2 rfl rfl (pgs_cons (pg_name (i := 3) sc_p_named.nd rfl (Or.inl rfl)) (pgs_cons (pg_name (i := 4) sc_p_named.nd rfl (Or.inl rfl)) pgs_nil))))
      (pss_cons (ps_ifU (pt_c op_leU (pv 1) (pe_callB (call_lenK K rfl) (by rfl) T.z_len (by decide +kernel) (pa_cons (pv 3) pa_nil)) (nomark _)) (pss_one (ps_ret (by exact pe_callU (E := fun _ => E) G_p_count_named (hr.mono (by first | decide | omega)) rfl T.g_p_count_named T.f_p_count_named.kp (b_p_count_named T) (pass_x (takes_of rfl rfl rfl rfl)) (pa_cons (pe_slice (sl_K K rfl) (pv 3) po_none (po_some (pv 1))) (pa_cons (pv 2) pa_nil))))) pss_nil)
      (pss_cons (ps_asg (pe_callB call_dmU (by rfl) T.z_divmod (by decide +kernel) (pa_cons (pe_op op_subU (pv 1) (pe_callB (call_lenK K rfl) (by rfl) T.z_len (by decide +kernel) (pa_cons (pv 3) pa_nil))) (pa_cons (pe_callB (call_lenK K rfl) (by rfl) T.z_len (by decide +kernel) (pa_cons (pv 4) pa_nil)) pa_nil))) (pg_tupU K 2 rfl rfl (pgs_cons (pg_name (i := 5) sc_p_named.nd rfl (Or.inl rfl)) (pgs_cons (pg_name (i := 6) sc_p_named.nd rfl (Or.inl rfl)) pgs_nil))))
      (pss_cons (ps_set (i := 7) sc_p_named.nd rfl (.inl rfl) (pe_op op_addU (by exact pe_callU (E := fun _ => E) G_p_count_named (hr.mono (by first | decide | omega)) rfl T.g_p_count_named T.f_p_count_named.kp (b_p_count_named T) (pass_x (takes_of rfl rfl rfl rfl)) (pa_cons (pv 3) (pa_cons (pv 2) pa_nil))) (pe_op op_mulU (pv 5) (by exact pe_callU (E := fun _ => E) G_p_count_named (hr.mono (by first | decide | omega)) rfl T.g_p_count_named T.f_p_count_named.kp (b_p_count_named T) (pass_x (takes_of rfl rfl rfl rfl)) (pa_cons (pv 4) (pa_cons (pv 2) pa_nil))))))
      (pss_one (ps_ret (pe_op op_addU (pv 7) (by exact pe_callU (E := fun _ => E) G_p_count_named (hr.mono (by first | decide | omega)) rfl T.g_p_count_named T.f_p_count_named.kp (b_p_count_named T) (pass_x (takes_of rfl rfl rfl rfl)) (pa_cons (pe_slice (sl_K K rfl) (pv 4) po_none (po_some (pv 6))) (pa_cons (pv 2) pa_nil)))))))))))), ?_⟩
    obtain ⟨v, k, sd, rfl, hk, hsd, h⟩ := h
    show tSeq _ _ _ [some v, some k, some sd, none, none, none, none, none] H
    walk_at "s"
    rcases h with ⟨p, c, n, l, x, rfl, rfl, rfl, hs, hw, hn, q⟩ | ⟨hb, hE⟩ | ⟨n, rfl, hn, hb, hE⟩ | ⟨n, l, x, rfl, hn, rfl, hs, hb, hE⟩
    · refine ⟨_, 0, rfl, hk, .inl ⟨n, rfl, hn, ?_⟩⟩
      walk_at "s"
      refine ⟨_, rfl, hsd, .inl ⟨l, x, rfl, hs, ?_⟩⟩
      walk_at "s"
      refine ⟨_, rfl, .inl ⟨p, c, rfl, hw, fun a H1 na s1 e1 => ?_⟩⟩
      walk_at "s"
      refine go_un2 (K := K) (st_of e1) ?_
      have p12 := hw.p12
      have c1 := hw.c1
      have c4 := hw.c4
      walk_at "s"
      refine go_iteD (fun h3 => ?_) (fun h3 => ?_)
      · have q1 := q _ s1
        unfold cyc at q1
        rw [if_pos h3] at q1
        walk_at "s"
        refine go_sls (by omega) ?_
        rw [cutL_to _ _ hn]
        walk_at "s"
        exact ⟨_, _, _, rfl, hs, q1⟩
      · walk_at "s"
        refine go_dm (cdp (by omega) (by omega)) fun b H2 nb s2 e2 => ?_
        walk_at "s"
        refine go_un2 (K := K) (st_of e2) ?_
        have q1 := q _ (s1.trans s2)
        unfold cyc at q1
        rw [if_neg h3] at q1
        walk_at "s"
        refine ⟨_, _, _, rfl, hs, ?_⟩
        walk_at "s"
        refine ⟨_, _, _, rfl, hs, ?_⟩
        walk_at "s"
        have h4 := cnt_le [66, x] c
        have h5 := cnt_nn [66, x] c
        refine go_mul (cml h5 (by omega)) ?_
        walk_at "s"
        refine go_sls (by omega) ?_
        rw [cutL_to _ _ (Int.emod_nonneg _ (by omega))]
        walk_at "s"
        refine ⟨_, _, _, rfl, hs, ?_⟩
        walk_at "s"
        exact q1
    · exact ⟨_, 0, rfl, hk, .inr ⟨hb, hE⟩⟩
    · refine ⟨_, 0, rfl, hk, .inl ⟨n, rfl, hn, ?_⟩⟩
      walk_at "s"
      exact ⟨_, rfl, hsd, .inr ⟨hb, hE⟩⟩
    · refine ⟨_, 0, rfl, hk, .inl ⟨n, rfl, hn, ?_⟩⟩
      walk_at "s"
      refine ⟨_, rfl, hsd, .inl ⟨l, x, rfl, hs, ?_⟩⟩
      walk_at "s"
      exact ⟨_, rfl, .inr ⟨hb, hE⟩⟩
end
end W

namespace W
open PySem PySem.Spec PyProof.Rows L2 TL G
def sp_l_count_holds (K : PySem.W.Frag) : Sp := fun vs H Q _ => ∃ (p c : List Nat) (n : Int), vs = [S (wt p c), .int n] ∧ Lw BIO p c ∧ 0 ≤ n ∧ ∀ H', Same H H' → Q (.bl true) H'
section
variable {P : Program} {w : World} {K : PySem.W.Frag} {mg : Str → Option Value} {base : Heap}
theorem ok_l_count_holds (T : Top w K mg) : Ok P w K mg base 8 ("_law_count_holds", none) ["word_text", "k"] (sp_l_count_holds K) := by
  have G_l_balance_after := ok_l_balance_after (P := P) (w := w) (base := base) T
  have G_l_count_marks := ok_l_count_marks (P := P) (w := w) (base := base) T
  have G_l_equal := ok_l_equal (P := P) (w := w) (base := base) T
  have G_l_mark_at := ok_l_mark_at (P := P) (w := w) (base := base) T
  have G_l_split := ok_l_split (P := P) (w := w) (base := base) T
  have G_p_balance := ok_p_balance (P := P) (w := w) (base := base) T
  have G_p_letter := ok_p_letter (P := P) (w := w) (base := base) T
  have G_p_named := ok_p_named (P := P) (w := w) (base := base) T
  refine T.f_l_count_holds.ok sc_l_count_holds (fun vs H Q E h => ?_) (fun cdv A outer s H vs Q E hr h => ?_)
  · obtain ⟨_, _, _, rfl, _⟩ := h
    rfl
  · refine ⟨_, PSs.nox (pss_cons (ps_set (i := 2) sc_l_count_holds.nd rfl (.inl rfl) (by exact pe_callU (E := fun _ => E0) G_l_split (hr.mono (by first | decide | omega)) rfl T.g_l_split T.f_l_split.kp (b_l_split T) pass_n (pa_cons (pv 0) pa_nil)))
      (pss_cons (ps_set (i := 3) sc_l_count_holds.nd rfl (.inl rfl) (by exact pe_callU (E := fun _ => E0) G_l_count_marks (hr.mono (by first | decide | omega)) rfl T.g_l_count_marks T.f_l_count_marks.kp (b_l_count_marks T) pass_n (pa_cons (pv 0) (pa_cons (pv 1) (pa_cons (pe_s [66, 73]) pa_nil)))))
      (pss_cons (ps_set (i := 4) sc_l_count_holds.nd rfl (.inl rfl) (by exact pe_callU (E := fun _ => E0) G_l_count_marks (hr.mono (by first | decide | omega)) rfl T.g_l_count_marks T.f_l_count_marks.kp (b_l_count_marks T) pass_n (pa_cons (pv 0) (pa_cons (pv 1) (pa_cons (pe_s [66, 79]) pa_nil)))))
      (pss_cons (ps_ifU (pw_orU (pt_not (pt_t (by exact pe_callU (E := fun _ => E0) G_l_equal (hr.mono (by first | decide | omega)) rfl T.g_l_equal T.f_l_equal.kp (b_l_equal T) pass_n (pa_cons (by exact pe_callU (E := fun _ => E0) G_p_named (hr.mono (by first | decide | omega)) rfl T.g_p_named T.f_p_named.kp (b_p_named T) pass_n (pa_cons (pv 0) (pa_cons (pv 1) (pa_cons (pe_s [105, 110]) pa_nil)))) (pa_cons (pv 3) pa_nil))))) (pw_or1 (pt_not (pt_t (by exact pe_callU (E := fun _ => E0) G_l_equal (hr.mono (by first | decide | omega)) rfl T.g_l_equal T.f_l_equal.kp (b_l_equal T) pass_n (pa_cons (by exact pe_callU (E := fun _ => E0) G_p_named (hr.mono (by first | decide | omega)) rfl T.g_p_named T.f_p_named.kp (b_p_named T) pass_n (pa_cons (pv 0) (pa_cons (pv 1) (pa_cons (pe_s [111, 117, 116]) pa_nil)))) (pa_cons (pv 4) pa_nil))))))).pt (pss_one (ps_ret pe_bl)) pss_nil)
      (pss_cons (ps_ifU (pt_not (pt_t (by exact pe_callU (E := fun _ => E0) G_l_equal (hr.mono (by first | decide | omega)) rfl T.g_l_equal T.f_l_equal.kp (b_l_equal T) pass_n (pa_cons (by exact pe_callU (E := fun _ => E0) G_p_balance (hr.mono (by first | decide | omega)) rfl T.g_p_balance T.f_p_balance.kp (b_p_balance T) pass_n (pa_cons (pv 0) (pa_cons (pv 1) pa_nil))) (pa_cons (by exact pe_callU (E := fun _ => E0) G_l_balance_after (hr.mono (by first | decide | omega)) rfl T.g_l_balance_after T.f_l_balance_after.kp (b_l_balance_after T) pass_n (pa_cons (pv 0) (pa_cons (pv 1) pa_nil))) pa_nil))))) (pss_one (ps_ret pe_bl)) pss_nil)
      (pss_cons (ps_ifU (pt_not (pt_t (by exact pe_callU (E := fun _ => E0) G_l_equal (hr.mono (by first | decide | omega)) rfl T.g_l_equal T.f_l_equal.kp (b_l_equal T) pass_n (pa_cons (by exact pe_callU (E := fun _ => E0) G_p_balance (hr.mono (by first | decide | omega)) rfl T.g_p_balance T.f_p_balance.kp (b_p_balance T) pass_n (pa_cons (pv 0) (pa_cons (pv 1) pa_nil))) (pa_cons (pe_op op_subU (pv 4) (pv 3)) pa_nil))))) (pss_one (ps_ret pe_bl)) pss_nil)
      (pss_one (ps_ret (by exact pe_callU (E := fun _ => E0) G_l_equal (hr.mono (by first | decide | omega)) rfl T.g_l_equal T.f_l_equal.kp (b_l_equal T) pass_n (pa_cons (by exact pe_callU (E := fun _ => E0) G_p_letter (hr.mono (by first | decide | omega)) rfl T.g_p_letter T.f_p_letter.kp (b_p_letter T) pass_n (pa_cons (pv 0) (pa_cons (pv 1) pa_nil))) (pa_cons (by exact pe_callU (E := fun _ => E0) G_l_mark_at (hr.mono (by first | decide | omega)) rfl T.g_l_mark_at T.f_l_mark_at.kp (b_l_mark_at T) pass_n (pa_cons (pv 2) (pa_cons (pv 1) pa_nil))) pa_nil))))))))))), ?_⟩
    obtain ⟨p, c, n, rfl, hw, hn, q⟩ := h
    show tSeq _ _ _ [some (S (wt p c)), some (.int n), none, none, none] H
    walk_at "s"
    refine ⟨p, c, rfl, hw, fun a H1 n1 s1 e1 => ?_⟩
    walk_at "s"
    refine ⟨p, c, [66, 73], n, rfl, hw, hn, fun H2 s2 => ?_⟩
    walk_at "s"
    refine ⟨p, c, [66, 79], n, rfl, hw, hn, fun H3 s3 => ?_⟩
    walk_at "s"
    refine ⟨_, _, _, rfl, .inl rfl, .inl rfl, .inl ⟨p, c, n, cIn, 73, rfl, rfl, rfl, .inl ⟨rfl, rfl⟩, hw, hn, fun H4 s4 => ?_⟩⟩
    walk_at "s"
    refine ⟨_, _, rfl, rfl, rfl, ?_⟩
    walk_at "s"
    refine go_no (by rw [decide_eq_true rfl]; rfl) ?_
    walk_at "s"
    refine ⟨_, _, _, rfl, .inl rfl, .inl rfl, .inl ⟨p, c, n, cOut, 79, rfl, rfl, rfl, .inr ⟨rfl, rfl⟩, hw, hn, fun H5 s5 => ?_⟩⟩
    walk_at "s"
    refine ⟨_, _, rfl, rfl, rfl, ?_⟩
    walk_at "s"
    refine go_no (by rw [decide_eq_true rfl]; rfl) ?_
    walk_at "s"
    refine ⟨_, _, rfl, .inl rfl, .inl ⟨p, c, n, rfl, rfl, hw, hn, fun H6 s6 => ?_⟩⟩
    walk_at "s"
    refine ⟨p, c, n, rfl, hw, hn, fun H7 s7 => ?_⟩
    walk_at "s"
    refine ⟨_, _, rfl, rfl, rfl, ?_⟩
    walk_at "s"
    refine go_no (by rw [decide_eq_true (by rw [cyc_sub])]; rfl) ?_
    walk_at "s"
    refine ⟨_, _, rfl, .inl rfl, .inl ⟨p, c, n, rfl, rfl, hw, hn, fun H8 s8 => ?_⟩⟩
    walk_at "s"
    refine ⟨_, _, rfl, rfl, rfl, ?_⟩
    walk_at "s"
    refine go_no (by rw [decide_eq_true (by rw [cyc_sub, cyc_two (by decide), cyc_two (by decide)]; congr 1; omega)]; rfl) ?_
    walk_at "s"
    refine ⟨_, _, rfl, .inl rfl, .inl ⟨p, c, n, rfl, rfl, hw, hn, fun H9 s9 => ?_⟩⟩
    walk_at "s"
    have s29 := ((((((s2.trans s3).trans s4).trans s5).trans s6).trans s7).trans s8).trans s9
    refine ⟨a, p, c, n, rfl, s29 _ _ e1, hw, hn, ?_⟩
    walk_at "s"
    refine ⟨_, _, rfl, rfl, rfl, ?_⟩
    rw [decide_eq_true rfl]
    exact q _ (s1.trans s29)
end
end W

namespace W
open PySem PySem.Spec PyProof.Rows L2 TL G
def sp_l_take (K : PySem.W.Frag) : Sp := fun vs H Q _ => ∃ (d : DA) (n : Int), vs = [.ref d.a, .int n] ∧ Deal K H d ∧ n < 1073741824 ∧
  ∀ (r : Int) (H' : Hp), Dr K d H H' → 0 ≤ r → (2 ≤ n → r < n) → (n < 2 → r = 0) → Q (.int r) H'
theorem deal_upd {K : PySem.W.Frag} {H : Hp} {d : DA} {i r l m : Int} (hc : SqL K (L2.del H d.a) d.c (d.cells.map V.int)) (v : DealV d i r l m) : Dr K d H (upd H d.a (.lst [.ref d.c, .int i, .int r, .int l, .int m])) := by
  have e : L2.del (upd H d.a (.lst [.ref d.c, .int i, .int r, .int l, .int m])) d.a = L2.del H d.a := by
    funext b
    unfold L2.del
    by_cases hb : b = d.a
    · rw [if_pos hb, if_pos hb]
    · rw [if_neg hb, if_neg hb, upd_ne hb]
  refine ⟨⟨i, r, l, m, upd_same, by rw [e]; exact hc, v⟩, by rw [e]; exact Same.refl _⟩
theorem cdiv_of {a b : Int} (h : 0 < b) (h2 : b < 18446744073709551616) : CDivW a b := wide_div h (b := 64) (by
  have e : (b.natAbs : Int) = b := by omega
  have h3 : (b.natAbs : Int) < ((2 ^ 64 : Nat) : Int) := by rw [e]; exact h2
  exact Int.ofNat_lt.mp h3) (by decide) (by decide)
section
variable {P : Program} {w : World} {K : PySem.W.Frag} {mg : Str → Option Value} {base : Heap}
theorem ok_l_take (T : Top w K mg) : Ok P w K mg base 1 ("_law_take", none) ["deal", "options"] (sp_l_take K) := by
  refine T.f_l_take.ok sc_l_take (fun vs H Q E h => ?_) (fun cdv A outer s H vs Q E hr h => ?_)
  · obtain ⟨_, _, rfl, _⟩ := h
    rfl
  · refine ⟨_, PSs.nox (pss_cons (ps_ifU (pt_c op_ltU (pv 1) pe_int (nomark _)) (pss_one (ps_ret pe_int)) pss_nil)
      (Evl.pss_cut (ps_ifU (pw_andU (pt_c (op_eqK K rfl hr.units) (pe_ix (ix_K K rfl) (pv 0) pe_int (fun _ _ => rfl)) pe_int (nomark _)) (pw_andU (pt_c (op_eqK K rfl hr.units) (pe_ix (ix_K K rfl) (pv 0) pe_int (fun _ _ => rfl)) pe_int (nomark _)) (pw_and1 (pt_c op_ltU (pe_ix (ix_K K rfl) (pv 0) pe_int (fun _ _ => rfl)) (pe_callB (call_lenK K rfl) (by rfl) T.z_len (by decide +kernel) (pa_cons (pe_ix (ix_K K rfl) (pv 0) pe_int (fun _ _ => rfl)) pa_nil)) (nomark _))))).pt (pss_cons (ps_set (i := 2) sc_l_take.nd rfl (.inl rfl) (pe_ix (ix_K K rfl) (pe_ix (ix_K K rfl) (pv 0) pe_int (fun _ _ => rfl)) (pe_ix (ix_K K rfl) (pv 0) pe_int (fun _ _ => rfl)) (fun _ _ => rfl)))
      (pss_cons (ps_asg (pe_op op_addU (pe_ix (ix_K K rfl) (pv 0) pe_int (fun _ _ => rfl)) pe_int) (pg_sub (pv 0) pe_int set_list))
      (pss_cons (ps_asg (pe_op op_modU (pe_callTy call_intU (by rfl) T.z_int (by decide +kernel) (pa_cons (pe_op op_addU (pe_op op_addU (pe_op op_mulU (pe_ix (ix_K K rfl) (pv 0) pe_int (fun _ _ => rfl)) pe_int) (pe_op op_mulU (pv 2) pe_int)) pe_int) pa_nil)) (pe_powC 18446744073709551616 pe_int pe_int)) (pg_sub (pv 0) pe_int set_list))
      (pss_one (ps_ifU (pt_c op_geU (pv 2) (pe_powC 1000000000000000000 pe_int pe_int) (nomark _)) (pss_one (ps_asg (pv 2) (pg_sub (pv 0) pe_int set_list))) (pss_one (ps_asg pe_int (pg_sub (pv 0) pe_int set_list)))))))) pss_nil)
      (pss_cons (ps_ifU (pt_c op_gtU (pe_ix (ix_K K rfl) (pv 0) pe_int (fun _ _ => rfl)) pe_int (nomark _)) (pss_cons (ps_set (i := 3) sc_l_take.nd rfl (.inl rfl) (pe_op op_modU (pe_callTy call_intU (by rfl) T.z_int (by decide +kernel) (pa_cons (pe_ix (ix_K K rfl) (pv 0) pe_int (fun _ _ => rfl)) pa_nil)) (pv 1)))
      (pss_cons (ps_asg (pe_op op_divU (pe_ix (ix_K K rfl) (pv 0) pe_int (fun _ _ => rfl)) (pv 1)) (pg_sub (pv 0) pe_int set_list))
      (pss_one (ps_ret (pv 3))))) pss_nil)
      (Evl.pss_cut (ps_ifU (pt_c op_gtU (pe_ix (ix_K K rfl) (pv 0) pe_int (fun _ _ => rfl)) pe_int (nomark _)) (pss_one (ps_asg (pe_op op_subU (pe_ix (ix_K K rfl) (pv 0) pe_int (fun _ _ => rfl)) pe_int) (pg_sub (pv 0) pe_int set_list))) pss_nil)
      (pss_cons (ps_asg (pe_op op_modU (pe_callTy call_intU (by rfl) T.z_int (by decide +kernel) (pa_cons (pe_op op_addU (pe_op op_mulU (pe_ix (ix_K K rfl) (pv 0) pe_int (fun _ _ => rfl)) pe_int) pe_int) pa_nil)) (pe_powC 18446744073709551616 pe_int pe_int)) (pg_sub (pv 0) pe_int set_list))
      (pss_cons (ps_set (i := 4) sc_l_take.nd rfl (.inl rfl) (pe_op op_divU (pe_ix (ix_K K rfl) (pv 0) pe_int (fun _ _ => rfl)) (pe_powC 1048576 pe_int pe_int)))
      (pss_cons (ps_set (i := 4) sc_l_take.nd rfl (.inl rfl) (pe_op op_modU (pe_callTy call_intU (by rfl) T.z_int (by decide +kernel) (pa_cons (pe_op op_addU (pe_op op_mulU (pv 4) pe_int) (pe_op op_divU (pe_ix (ix_K K rfl) (pv 0) pe_int (fun _ _ => rfl)) (pe_powC 2199023255552 pe_int pe_int))) pa_nil)) pe_int))
      (pss_one (ps_ret (pe_op op_modU (pe_callTy call_intU (by rfl) T.z_int (by decide +kernel) (pa_cons (pe_op op_divU (pv 4) (pe_powC 8192 pe_int pe_int)) pa_nil)) (pv 1))))))))))), ?_⟩
    obtain ⟨d, n, rfl, hd, hn, q⟩ := h
    show tSeq _ _ _ [some (.ref d.a), some (.int n), none, none, none] H
    walk_at "k"
    walk_at "g"
    refine go_iteD (fun h2 => ?_) (fun h2 => ?_)
    · walk_at "g"
      exact q 0 H (Deal.refl hd) (by omega) (by omega) (by omega)
    walk_at "g"
    have h2' : 2 ≤ n := by omega
    refine go_cut (fun σ' H' => ∃ y, σ' = [some (.ref d.a), some (.int n), y, none, none] ∧ Dr K d H H') ?_ ?_
    · walk_at "g"
      have hdr := Deal.refl hd
      obtain ⟨i, r, l, m, e, hc, v⟩ := hd
      walk_at "s"
      refine go_iteD (fun h3 => ?_) (fun h3 => ⟨_, rfl, hdr⟩)
      walk_at "s"
      refine go_iteD (fun h4 => ?_) (fun h4 => ⟨_, rfl, hdr⟩)
      walk_at "s"
      have hc' : SqL K H d.c (d.cells.map V.int) := del_same'.seq hc
      walk_at "s"
      refine go_iteD (fun h5 => ?_) (fun h5 => ⟨_, rfl, hdr⟩)
      walk_at "s"
      have hi : i.toNat < d.cells.length := by have := v.i0; rw [List.length_map] at h5; omega
      have hcell := v.cs d.cells[i.toNat] (List.getElem_mem hi)
      refine go_ixl hc' (atI_at v.i0 (by rw [List.getElem?_map, List.getElem?_eq_getElem hi]; rfl)) ?_
      generalize d.cells[i.toNat] = x at hcell
      obtain ⟨hx0, hx1⟩ := hcell
      walk_at "s"
      have hu1 : ∀ b o, upd H d.a o b = if b = d.a then some o else H b := fun _ _ => rfl
      have up1 : ∀ o, upd H d.a o d.a = some o := fun _ => upd_same
      try dsimp only [List.set]
      refine go_ixl (sq_of upd_same) rfl ?_
      walk_at "s"
      refine go_mul (.inl (.inr (by decide))) ?_
      walk_at "s"
      refine go_mul (.inl (.inr (by decide))) ?_
      walk_at "s"
      refine go_set upd_same rfl ?_
      rw [upd_upd]
      try dsimp only [List.set]
      walk_at "s"
      have hm0 : 0 ≤ (m * 6364136223846793005 + x * 2862933555777941757 + 7046029254386353131) % 18446744073709551616 := Int.emod_nonneg _ (by decide)
      have hm1 : (m * 6364136223846793005 + x * 2862933555777941757 + 7046029254386353131) % 18446744073709551616 < 2 ^ 64 := Int.emod_lt_of_pos _ (by decide)
      generalize (m * 6364136223846793005 + x * 2862933555777941757 + 7046029254386353131) % 18446744073709551616 = m' at hm0 hm1
      have i0 := v.i0
      refine go_iteD (fun h6 => ?_) (fun h6 => ?_)
      · walk_at "s"
        refine go_set upd_same rfl ?_
        rw [upd_upd]
        try dsimp only [List.set]
        exact ⟨_, rfl, deal_upd hc ⟨v.len, by omega, v.cs, hx0, hx1, v.l0, hm0, hm1⟩⟩
      · walk_at "s"
        refine go_set upd_same rfl ?_
        rw [upd_upd]
        try dsimp only [List.set]
        exact ⟨_, rfl, deal_upd hc ⟨v.len, by omega, v.cs, v.r0, v.r1, by decide, hm0, hm1⟩⟩
    · rintro σ1 H1 ⟨y, rfl, hd1⟩
      walk_at "g"
      have hde := hd1.deal
      obtain ⟨i, r, l, m, e, hc, v⟩ := hde
      walk_at "s"
      refine go_iteD (fun h3 => ?_) (fun h3 => ?_)
      · walk_at "s"
        refine go_div (cdiv_of (by omega) (by omega)) ?_
        walk_at "s"
        try dsimp only [List.set]
        have h0 : 0 ≤ r % n := Int.emod_nonneg _ (by omega)
        have h1 : r % n < n := Int.emod_lt_of_pos _ (by omega)
        have h4 : 0 ≤ r / n := Int.ediv_nonneg (by omega) (by omega)
        have h5 : r / n ≤ r := Int.ediv_le_self _ (by omega)
        refine q _ _ (hd1.trans (deal_upd hc ⟨v.len, v.i0, v.cs, h4, Nat.lt_of_le_of_lt (by omega) v.r1, v.l0, v.m0, v.m1⟩)) h0 (fun _ => h1) (by omega)
      · walk_at "s"
        refine go_cut (fun σ' H' => σ' = [some (.ref d.a), some (.int n), y, none, none] ∧ Dr K d H1 H') ?_ ?_
        · walk_at "s"
          refine go_iteD (fun h4 => ?_) (fun h4 => ⟨rfl, Deal.refl hd1.deal⟩)
          walk_at "s"
          try dsimp only [List.set]
          exact ⟨rfl, deal_upd hc ⟨v.len, v.i0, v.cs, v.r0, v.r1, by omega, v.m0, v.m1⟩⟩
        · rintro σ2 H2 ⟨rfl, hd2⟩
          clear e hc v
          obtain ⟨i, r, l, m, e, hc, v⟩ := hd2.deal
          walk_at "s"
          refine go_mul (.inl (.inr (by decide))) ?_
          walk_at "s"
          try dsimp only [List.set]
          have hm0 : 0 ≤ (m * 6364136223846793005 + 1442695040888963407) % 18446744073709551616 := Int.emod_nonneg _ (by decide)
          have hm1 : (m * 6364136223846793005 + 1442695040888963407) % 18446744073709551616 < 2 ^ 64 := Int.emod_lt_of_pos _ (by decide)
          generalize (m * 6364136223846793005 + 1442695040888963407) % 18446744073709551616 = m' at hm0 hm1
          have hd3 := (hd1.trans hd2).trans (deal_upd hc ⟨v.len, v.i0, v.cs, v.r0, v.r1, v.l0, hm0, hm1⟩)
          refine go_ixl (sq_of upd_same) rfl ?_
          walk_at "s"
          refine go_div (cdiv_of (by omega) (by omega)) ?_
          walk_at "s"
          refine go_mul (.inl (.inr (by decide))) ?_
          walk_at "s"
          refine go_ixl (sq_of upd_same) rfl ?_
          walk_at "s"
          refine go_div (cdiv_of (by omega) (by omega)) ?_
          walk_at "s"
          refine go_div (cdiv_of (by omega) (by omega)) ?_
          walk_at "s"
          exact q _ _ hd3 (Int.emod_nonneg _ (by omega)) (fun _ => Int.emod_lt_of_pos _ (by omega)) (by omega)
end
end W

namespace W
open PySem PySem.Spec PyProof.Rows L2 TL G
/-- an entry of a row or of a text -/
def PickOk (K : PySem.W.Frag) (G : Hp) (x y : V) : Prop := (∃ p xs, x = .ref p ∧ (SqL K G p xs ∨ SqT K G p xs) ∧ y ∈ xs) ∨ ∃ (l : List Nat) (c : Nat), x = S l ∧ c ∈ l ∧ y = S [c]
def sp_l_pick (K : PySem.W.Frag) : Sp := fun vs H Q _ => ∃ (d : DA) (x : V), vs = [.ref d.a, x] ∧ Deal K H d ∧
  ((∃ p xs, x = .ref p ∧ (SqL K (L2.del H d.a) p xs ∨ SqT K (L2.del H d.a) p xs) ∧ 0 < xs.length ∧ xs.length ≤ 100000 ∧ ∀ (y : V) (H' : Hp), Dr K d H H' → y ∈ xs → Q y H') ∨
    ∃ (l : List Nat), x = S l ∧ 0 < l.length ∧ l.length ≤ 100000 ∧ ∀ (c : Nat) (H' : Hp), Dr K d H H' → c ∈ l → Q (S [c]) H')
section
variable {P : Program} {w : World} {K : PySem.W.Frag} {mg : Str → Option Value} {base : Heap}
theorem ok_l_pick (T : Top w K mg) : Ok P w K mg base 2 ("_law_pick", none) ["deal", "row"] (sp_l_pick K) := by
  have G_l_take := ok_l_take (P := P) (w := w) (base := base) T
  refine T.f_l_pick.ok sc_l_pick (fun vs H Q E h => ?_) (fun cdv A outer s H vs Q E hr h => ?_)
  · obtain ⟨_, _, rfl, _⟩ := h
    rfl
  · refine ⟨_, PSs.nox (pss_one (ps_ret (pe_ix (ix_K K rfl) (pv 1) (by exact pe_callU (E := fun _ => E0) G_l_take (hr.mono (by first | decide | omega)) rfl T.g_l_take T.f_l_take.kp (b_l_take T) pass_n (pa_cons (pv 0) (pa_cons (pe_callB (call_lenK K rfl) (by rfl) T.z_len (by decide +kernel) (pa_cons (pv 1) pa_nil)) pa_nil))) (fun _ _ => rfl)))), ?_⟩
    obtain ⟨d, x, rfl, hd, h⟩ := h
    show tRet _ _ [some (.ref d.a), some x] H
    walk_at "s"
    rcases h with ⟨p, xs, rfl, hx, h0, h1, q⟩ | ⟨l, rfl, h0, h1, q⟩
    · have hx1 : SqL K H p xs ∨ SqT K H p xs := by
        rcases hx with hx | hx
        · exact .inl (del_same'.seq hx)
        · exact .inr (Evl.ex_t (H := L2.del H d.a) del_same' hx)
      have key : rLenU K [.ref p] H (kCons1 tNil [some (.ref d.a), some (.ref p)] (kCons2 (.ref d.a) (kCall (sp_l_take K) E0 (kOp2 (rIxU K) (.ref p) Q)))) := by
        have go : kCons1 tNil [some (.ref d.a), some (.ref p)] (kCons2 (.ref d.a) (kCall (sp_l_take K) E0 (kOp2 (rIxU K) (.ref p) Q))) (.int (xs.length : Int)) H := by
          walk_at "s"
          refine ⟨d, _, rfl, hd, by omega, fun r H1 s h2 h3 h4 => ?_⟩
          walk_at "s"
          have hr : r.toNat < xs.length := by
            by_cases h5 : 2 ≤ (xs.length : Int)
            · have := h3 h5
              omega
            · have := h4 (by omega)
              omega
          have e : atI xs r = some xs[r.toNat] := atI_at h2 (List.getElem?_eq_getElem hr)
          have m : xs[r.toNat] ∈ xs := List.getElem_mem hr
          rcases hx with hx | hx
          · exact go_ixl (del_same'.seq (s.same.seq hx)) e (q _ _ s m)
          · exact go_ixt (Evl.ex_t (H := L2.del H1 d.a) del_same' (Evl.ex_t s.same hx)) e (q _ _ s m)
        rcases hx1 with hx1 | hx1
        · exact go_lenl hx1 go
        · exact go_lent hx1 go
      exact key
    · refine go_lens (by omega) ?_
      walk_at "s"
      refine ⟨d, _, rfl, hd, by omega, fun r H1 s h2 h3 h4 => ?_⟩
      walk_at "s"
      have hr : r.toNat < l.length := by
        by_cases h5 : 2 ≤ (l.length : Int)
        · have := h3 h5
          omega
        · have := h4 (by omega)
          omega
      exact go_ixs (by omega) (atI_at h2 (List.getElem?_eq_getElem hr)) (q _ _ s (List.getElem_mem hr))
end
end W

namespace W
open PySem PySem.Spec PyProof.Rows L2 TL G
def sp_l_letter_text (K : PySem.W.Frag) : Sp := fun vs H Q _ => ∃ (d : DA) (ms : List Nat) (n : Int), vs = [.ref d.a, S ms, .int n] ∧ Deal K H d ∧ 0 < ms.length ∧ ms.length ≤ 1000 ∧ 0 ≤ n ∧ n ≤ 1000 ∧
  ∀ (l : List Nat) (H' : Hp), Dr K d H H' → (l.length : Int) = n → (∀ x ∈ l, x ∈ ms) → Q (S l) H'
/-- a list of signs of ms -/
theorem signs_of {ms : List Nat} : ∀ {ys : List V}, (∀ (i : Nat) (y : V), ys[i]? = some y → ∃ c, y = S [c] ∧ c ∈ ms) → ∃ l : List Nat, ys = (l.map fun c => [c]).map S ∧ l.length = ys.length ∧ ∀ x ∈ l, x ∈ ms
  | [], _ => ⟨[], rfl, rfl, by simp⟩
  | y :: ys, h => by
    obtain ⟨l, e1, e2, e3⟩ := signs_of (ys := ys) (fun i z e => h (i + 1) z (by simpa using e))
    obtain ⟨c, e4, e5⟩ := h 0 y rfl
    refine ⟨c :: l, by rw [e4, e1]; rfl, by simp [e2], fun x hx => ?_⟩
    rcases List.mem_cons.mp hx with rfl | hx
    · exact e5
    · exact e3 x hx
theorem flat_signs : ∀ l : List Nat, (l.map fun c => [c]).flatten = l
  | [] => rfl
  | c :: l => by
    show c :: (l.map fun c => [c]).flatten = _
    rw [flat_signs l]
section
variable {P : Program} {w : World} {K : PySem.W.Frag} {mg : Str → Option Value} {base : Heap}
theorem ok_l_letter_text (T : Top w K mg) : Ok P w K mg base 3 ("_law_letter_text", none) ["deal", "marks", "size"] (sp_l_letter_text K) := by
  have G_l_pick := ok_l_pick (P := P) (w := w) (base := base) T
  refine T.f_l_letter_text.ok sc_l_letter_text (fun vs H Q E h => ?_) (fun cdv A outer s H vs Q E hr h => ?_)
  · obtain ⟨_, _, _, rfl, _⟩ := h
    rfl
  · refine ⟨_, PSs.nox (pss_one (ps_ret (pe_bmK K rfl PySem.F.plainAttrs_str PySem.F.slot_str_join PySem.F.type_str_join (mt_joinK K rfl) (pe_s []) (pa_cons (pe_lc (own := [("k", 3)]) (by rfl) sc_l_letter_text.nd (pi_range1 (by rfl) T.z_range (pa_cons (pv 2) pa_nil)) (blkOk_by (own := [("k", 3)]) (N := N_l_letter_text) (sc := defScope s_l_letter_text) (by decide +kernel)) (fun _ _ _ _ _ => (pg_name (i := 3) sc_l_letter_text.nd rfl (Or.inl rfl))) (fun _ _ _ _ _ => pts_nil) (fun _ _ _ _ _ => (by exact pe_callU (E := fun _ => E0) G_l_pick (hr.mono (by first | decide | omega)) rfl T.g_l_pick T.f_l_pick.kp (b_l_pick T) pass_n (pa_cons (pv 0) (pa_cons (pv 1) pa_nil))))) pa_nil)))), ?_⟩
    obtain ⟨d, ms, n, rfl, hd, m0, m1, n0, n1, q⟩ := h
    show tRet _ _ [some (.ref d.a), some (S ms), some (.int n), none] H
    walk_at "s"
    refine go_r1 ?_ ⟨by omega, by omega⟩
    refine go_lcD (K := K) (d := d) (walk_range (n := n.toNat)) (fun _ y => ∃ c, y = S [c] ∧ c ∈ ms) hd (fun _ _ => trivial) (fun x => rfl) (by omega) (fun i H1 hi s1 Q' q' => ?_) (fun D H1 ys nD s1 eD hl hy => ?_)
    · show uCall _ _ _ [some (.ref d.a), some (S ms), some (.int n), some _] H1 Q'
      walk_at "s"
      refine ⟨d, _, rfl, s1.deal, .inr ⟨ms, rfl, m0, by omega, fun c H2 s2 hc => ?_⟩⟩
      exact q' _ _ s2 ⟨c, rfl, hc⟩
    · walk_at "s"
      obtain ⟨l, e1, e2, e3⟩ := signs_of hy
      refine ⟨D, l.map fun c => [c], rfl, rfl, ?_, ?_, ?_⟩
      · rw [← e1]
        exact sq_of (del_of eD).1
      · rw [flat_signs, List.length_map]
        omega
      · rw [flat_signs]
        exact q l H1 s1 (by omega) e3
end
end W

namespace W
open PySem PySem.Spec PyProof.Rows L2 TL G
def sp_l_within (K : PySem.W.Frag) : Sp := fun vs H Q _ => ∃ (d : DA) (a b : Int), vs = [.ref d.a, .int a, .int b] ∧ Deal K H d ∧ b - a < 1000000000 ∧ ∀ (r : Int) (H' : Hp), Dr K d H H' → a ≤ r → (a ≤ b → r ≤ b) → Q (.int r) H'
section
variable {P : Program} {w : World} {K : PySem.W.Frag} {mg : Str → Option Value} {base : Heap}
theorem ok_l_within (T : Top w K mg) : Ok P w K mg base 2 ("_law_within", none) ["deal", "least", "greatest"] (sp_l_within K) := by
  have G_l_take := ok_l_take (P := P) (w := w) (base := base) T
  refine T.f_l_within.ok sc_l_within (fun vs H Q E h => ?_) (fun cdv A outer s H vs Q E hr h => ?_)
  · obtain ⟨_, _, _, rfl, _⟩ := h
    rfl
  · refine ⟨_, PSs.nox (pss_one (ps_ret (pe_op op_addU (pv 1) (by exact pe_callU (E := fun _ => E0) G_l_take (hr.mono (by first | decide | omega)) rfl T.g_l_take T.f_l_take.kp (b_l_take T) pass_n (pa_cons (pv 0) (pa_cons (pe_op op_addU (pe_op op_subU (pv 2) (pv 1)) pe_int) pa_nil)))))), ?_⟩
    obtain ⟨d, a, b, rfl, hd, hn, q⟩ := h
    show tRet _ _ [some (.ref d.a), some (.int a), some (.int b)] H
    walk_at "s"
    refine ⟨d, _, rfl, hd, by omega, fun r H' s h0 h1 h2 => ?_⟩
    walk_at "s"
    exact q _ _ s (by omega) (by omega)
end
end W

namespace W
open PySem PySem.Spec PyProof.Rows L2 TL G
def sp_l_edge (K : PySem.W.Frag) : Sp := fun vs H Q _ => ∃ (d : DA) (a b : Int), vs = [.ref d.a, .int a, .int b] ∧ Deal K H d ∧ b - a < 1000000000 ∧ ∀ (r : Int) (H' : Hp), Dr K d H H' → a ≤ r → (a ≤ b → r ≤ b) → Q (.int r) H'
section
variable {P : Program} {w : World} {K : PySem.W.Frag} {mg : Str → Option Value} {base : Heap}
theorem ok_l_edge (T : Top w K mg) : Ok P w K mg base 3 ("_law_edge", none) ["deal", "least", "greatest"] (sp_l_edge K) := by
  have G_l_take := ok_l_take (P := P) (w := w) (base := base) T
  have G_l_within := ok_l_within (P := P) (w := w) (base := base) T
  refine T.f_l_edge.ok sc_l_edge (fun vs H Q E h => ?_) (fun cdv A outer s H vs Q E hr h => ?_)
  · obtain ⟨_, _, _, rfl, _⟩ := h
    rfl
  · refine ⟨_, PSs.nox (pss_cons (ps_set (i := 3) sc_l_edge.nd rfl (.inl rfl) (by exact pe_callU (E := fun _ => E0) G_l_take (hr.mono (by first | decide | omega)) rfl T.g_l_take T.f_l_take.kp (b_l_take T) pass_n (pa_cons (pv 0) (pa_cons pe_int pa_nil))))
      (pss_cons (ps_ifU (pw_orU (pt_c (op_eqK K rfl hr.units) (pv 3) pe_int (nomark _)) (pw_or1 (pt_c op_leU (pv 2) (pv 1) (nomark _)))).pt (pss_one (ps_ret (pv 1))) pss_nil)
      (pss_cons (ps_ifU (pt_c (op_eqK K rfl hr.units) (pv 3) pe_int (nomark _)) (pss_one (ps_ret (pv 2))) pss_nil)
      (pss_one (ps_ret (by exact pe_callU (E := fun _ => E0) G_l_within (hr.mono (by first | decide | omega)) rfl T.g_l_within T.f_l_within.kp (b_l_within T) pass_n (pa_cons (pv 0) (pa_cons (pv 1) (pa_cons (pv 2) pa_nil))))))))), ?_⟩
    obtain ⟨d, a, b, rfl, hd, hn, q⟩ := h
    show tSeq _ _ _ [some (.ref d.a), some (.int a), some (.int b), none] H
    walk_at "s"
    refine ⟨d, _, rfl, hd, by omega, fun r H1 s h0 h1 h2 => ?_⟩
    walk_at "s"
    refine go_iteD (fun h3 => ?_) (fun h3 => ?_)
    · walk_at "s"
      exact q _ _ s (by omega) (by omega)
    · walk_at "s"
      refine go_iteD (fun h4 => ?_) (fun h4 => ?_)
      · walk_at "s"
        exact q _ _ s (by omega) (by omega)
      · walk_at "s"
        refine go_iteD (fun h5 => ?_) (fun h5 => ?_)
        · walk_at "s"
          exact q _ _ s (by omega) (by omega)
        · walk_at "s"
          refine ⟨d, _, _, rfl, s.deal, hn, fun r2 H2 s2 h6 h7 => ?_⟩
          exact q _ _ (s.trans s2) h6 h7
end
end W

namespace W
open PySem PySem.Spec PyProof.Rows L2 TL G
def sp_l_prefix_size (K : PySem.W.Frag) : Sp := fun vs H Q _ => ∃ (d : DA), vs = [.ref d.a] ∧ Deal K H d ∧ ∀ (r : Int) (H' : Hp), Dr K d H H' → 0 ≤ r → r ≤ 12 → Q (.int r) H'
section
variable {P : Program} {w : World} {K : PySem.W.Frag} {mg : Str → Option Value} {base : Heap}
theorem ok_l_prefix_size (T : Top w K mg) : Ok P w K mg base 4 ("_law_prefix_size", none) ["deal"] (sp_l_prefix_size K) := by
  have G_l_edge := ok_l_edge (P := P) (w := w) (base := base) T
  have G_l_take := ok_l_take (P := P) (w := w) (base := base) T
  refine T.f_l_prefix_size.ok sc_l_prefix_size (fun vs H Q E h => ?_) (fun cdv A outer s H vs Q E hr h => ?_)
  · obtain ⟨_, rfl, _⟩ := h
    rfl
  · refine ⟨_, PSs.nox (pss_cons (ps_set (i := 1) sc_l_prefix_size.nd rfl (.inl rfl) (by exact pe_callU (E := fun _ => E0) G_l_take (hr.mono (by first | decide | omega)) rfl T.g_l_take T.f_l_take.kp (b_l_take T) pass_n (pa_cons (pv 0) (pa_cons pe_int pa_nil))))
      (pss_cons (ps_ifU (pt_c (op_eqK K rfl hr.units) (pv 1) pe_int (nomark _)) (pss_one (ps_ret pe_int)) pss_nil)
      (pss_cons (ps_ifU (pt_c (op_eqK K rfl hr.units) (pv 1) pe_int (nomark _)) (pss_one (ps_ret (by exact pe_callU (E := fun _ => E0) G_l_take (hr.mono (by first | decide | omega)) rfl T.g_l_take T.f_l_take.kp (b_l_take T) pass_n (pa_cons (pv 0) (pa_cons pe_int pa_nil))))) pss_nil)
      (pss_one (ps_ret (by exact pe_callU (E := fun _ => E0) G_l_edge (hr.mono (by first | decide | omega)) rfl T.g_l_edge T.f_l_edge.kp (b_l_edge T) pass_n (pa_cons (pv 0) (pa_cons pe_int (pa_cons pe_int pa_nil))))))))), ?_⟩
    obtain ⟨d, rfl, hd, q⟩ := h
    show tSeq _ _ _ [some (.ref d.a), none] H
    walk_at "s"
    refine ⟨d, _, rfl, hd, by omega, fun r H1 s h0 h1 h2 => ?_⟩
    walk_at "s"
    refine go_iteD (fun h3 => ?_) (fun h3 => ?_)
    · walk_at "s"
      exact q _ _ s (by omega) (by omega)
    · walk_at "s"
      refine go_iteD (fun h4 => ?_) (fun h4 => ?_)
      · walk_at "s"
        refine ⟨d, _, rfl, s.deal, by omega, fun r2 H2 s2 h5 h6 h7 => ?_⟩
        exact q _ _ (s.trans s2) h5 (by omega)
      · walk_at "s"
        refine ⟨d, _, _, rfl, s.deal, by omega, fun r2 H2 s2 h5 h6 => ?_⟩
        exact q _ _ (s.trans s2) h5 (by omega)
end
end W

namespace W
open PySem PySem.Spec PyProof.Rows L2 TL G
def sp_l_free_word (K : PySem.W.Frag) : Sp := fun vs H Q _ => ∃ (d : DA), vs = [.ref d.a] ∧ Deal K H d ∧ ∀ (p c : List Nat) (H' : Hp), Dr K d H H' → Lw BIO p c → Q (S (wt p c)) H'
section
variable {P : Program} {w : World} {K : PySem.W.Frag} {mg : Str → Option Value} {base : Heap}
theorem ok_l_free_word (T : Top w K mg) : Ok P w K mg base 5 ("_law_free_word", none) ["deal"] (sp_l_free_word K) := by
  have G_l_letter_text := ok_l_letter_text (P := P) (w := w) (base := base) T
  have G_l_prefix_size := ok_l_prefix_size (P := P) (w := w) (base := base) T
  have G_l_within := ok_l_within (P := P) (w := w) (base := base) T
  refine T.f_l_free_word.ok sc_l_free_word (fun vs H Q E h => ?_) (fun cdv A outer s H vs Q E hr h => ?_)
  · obtain ⟨_, rfl, _⟩ := h
    rfl
  · refine ⟨_, PSs.nox (pss_cons (ps_set (i := 1) sc_l_free_word.nd rfl (.inl rfl) (by exact pe_callU (E := fun _ => E0) G_l_letter_text (hr.mono (by first | decide | omega)) rfl T.g_l_letter_text T.f_l_letter_text.kp (b_l_letter_text T) pass_n (pa_cons (pv 0) (pa_cons (pe_s [66, 73, 79]) (pa_cons (by exact pe_callU (E := fun _ => E0) G_l_prefix_size (hr.mono (by first | decide | omega)) rfl T.g_l_prefix_size T.f_l_prefix_size.kp (b_l_prefix_size T) pass_n (pa_cons (pv 0) pa_nil)) pa_nil)))))
      (pss_one (ps_ret (pe_op op_addU (pe_op op_addU (pe_op op_addU (pv 1) (pe_s [40])) (by exact pe_callU (E := fun _ => E0) G_l_letter_text (hr.mono (by first | decide | omega)) rfl T.g_l_letter_text T.f_l_letter_text.kp (b_l_letter_text T) pass_n (pa_cons (pv 0) (pa_cons (pe_s [66, 73, 79]) (pa_cons (by exact pe_callU (E := fun _ => E0) G_l_within (hr.mono (by first | decide | omega)) rfl T.g_l_within T.f_l_within.kp (b_l_within T) pass_n (pa_cons (pv 0) (pa_cons pe_int (pa_cons pe_int pa_nil)))) pa_nil))))) (pe_s [41]))))), ?_⟩
    obtain ⟨d, rfl, hd, q⟩ := h
    show tSeq _ _ _ [some (.ref d.a), none] H
    walk_at "s"
    refine ⟨d, rfl, hd, fun r H1 s1 h0 h1 => ?_⟩
    walk_at "s"
    refine ⟨d, _, _, rfl, s1.deal, by decide, by decide, h0, by omega, fun p H2 s2 hp1 hp2 => ?_⟩
    walk_at "s"
    refine go_adds (by show p.length + 1 ≤ _; omega) ?_
    walk_at "s"
    refine ⟨d, _, _, rfl, s2.deal, by decide, fun r2 H3 s3 h2 h3 => ?_⟩
    walk_at "s"
    have h3' := h3 (by decide)
    refine ⟨d, _, _, rfl, s3.deal, by decide, by decide, by omega, by omega, fun c H4 s4 hc1 hc2 => ?_⟩
    walk_at "s"
    refine go_adds (by rw [List.length_append]; show p.length + 1 + c.length ≤ _; omega) ?_
    walk_at "s"
    refine go_adds (by rw [List.length_append, List.length_append]; show p.length + 1 + c.length + 1 ≤ _; omega) ?_
    have e : p ++ [40] ++ c ++ [41] = wt p c := by unfold wt; simp
    rw [e]
    exact q p c H4 (((s1.trans s2).trans s3).trans s4) ⟨by omega, by omega, by omega, hp2, hc2⟩
end
end W

namespace W
open PySem PySem.Spec PyProof.Rows L2 TL G
def sp_l_huge (K : PySem.W.Frag) : Sp := fun vs H Q _ => ∃ (d : DA), vs = [.ref d.a] ∧ Deal K H d ∧ ∀ (r : Int) (H' : Hp), Dr K d H H' → 0 ≤ r → r < 10000000000000000000000000000000000000000 → Q (.int r) H'
section
variable {P : Program} {w : World} {K : PySem.W.Frag} {mg : Str → Option Value} {base : Heap}
theorem ok_l_huge (T : Top w K mg) : Ok P w K mg base 3 ("_law_huge", none) ["deal"] (sp_l_huge K) := by
  have G_l_pick := ok_l_pick (P := P) (w := w) (base := base) T
  have G_l_take := ok_l_take (P := P) (w := w) (base := base) T
  have G_l_within := ok_l_within (P := P) (w := w) (base := base) T
  refine T.f_l_huge.ok sc_l_huge (fun vs H Q E h => ?_) (fun cdv A outer s H vs Q E hr h => ?_)
  · obtain ⟨_, rfl, _⟩ := h
    rfl
  · refine ⟨_, PSs.nox (pss_cons (ps_set (i := 1) sc_l_huge.nd rfl (.inl rfl) (by exact pe_callU (E := fun _ => E0) G_l_take (hr.mono (by first | decide | omega)) rfl T.g_l_take T.f_l_take.kp (b_l_take T) pass_n (pa_cons (pv 0) (pa_cons pe_int pa_nil))))
      (pss_cons (ps_ifU (pt_c op_ltU (pv 1) pe_int (nomark _)) (pss_one (ps_ret (by exact pe_callU (E := fun _ => E0) G_l_take (hr.mono (by first | decide | omega)) rfl T.g_l_take T.f_l_take.kp (b_l_take T) pass_n (pa_cons (pv 0) (pa_cons pe_int pa_nil))))) pss_nil)
      (pss_cons (ps_ifU (pt_c (op_eqK K rfl hr.units) (pv 1) pe_int (nomark _)) (pss_one (ps_ret (by exact pe_callU (E := fun _ => E0) G_l_take (hr.mono (by first | decide | omega)) rfl T.g_l_take T.f_l_take.kp (b_l_take T) pass_n (pa_cons (pv 0) (pa_cons pe_int pa_nil))))) pss_nil)
      (pss_cons (ps_ifU (pt_c (op_eqK K rfl hr.units) (pv 1) pe_int (nomark _)) (pss_one (ps_ret (by exact pe_callU (E := fun _ => E0) G_l_pick (hr.mono (by first | decide | omega)) rfl T.g_l_pick T.f_l_pick.kp (b_l_pick T) pass_n (pa_cons (pv 0) (pa_cons (pe_lst (pa_cons pe_int (pa_cons pe_int (pa_cons pe_int (pa_cons pe_int (pa_cons (pe_powC 1000000000000000000 pe_int pe_int) (pa_cons (pe_powC 1000000000000000000000000000000000000000 pe_int pe_int) (pa_cons (pe_op op_subU (pe_powC 10000000000000000000000000000000000000000 pe_int pe_int) pe_int) (pa_cons (pe_op op_subU (pe_powC 10000000000000000000000000000000000000000 pe_int pe_int) pe_int) pa_nil))))))))) pa_nil))))) pss_nil)
      (pss_cons (ps_set (i := 2) sc_l_huge.nd rfl (.inl rfl) pe_int)
      (Evl.pss_cut (ps_ifU (pt_c (op_eqK K rfl hr.units) (pv 1) pe_int (nomark _)) (pss_one (ps_set (i := 2) sc_l_huge.nd rfl (.inl rfl) (by exact pe_callU (E := fun _ => E0) G_l_within (hr.mono (by first | decide | omega)) rfl T.g_l_within T.f_l_within.kp (b_l_within T) pass_n (pa_cons (pv 0) (pa_cons pe_int (pa_cons pe_int pa_nil)))))) pss_nil)
      (pss_cons (ps_set (i := 3) sc_l_huge.nd rfl (.inl rfl) pe_int)
      (pss_cons (ps_for PassesOwn.never rfl (pi_range1 (by rfl) T.z_range (pa_cons (pv 2) pa_nil)) (pg_name (i := 4) sc_l_huge.nd rfl (Or.inl rfl)) (pss_one (ps_set (i := 3) sc_l_huge.nd rfl (.inl rfl) (pe_op op_addU (pe_op op_mulU (pv 3) (pe_powC 100000000 pe_int pe_int)) (by exact pe_callU (E := fun _ => E0) G_l_take (hr.mono (by first | decide | omega)) rfl T.g_l_take T.f_l_take.kp (b_l_take T) pass_n (pa_cons (pv 0) (pa_cons (pe_powC 100000000 pe_int pe_int) pa_nil)))))))
      (pss_one (ps_ret (pv 3))))))))))), ?_⟩
    obtain ⟨d, rfl, hd, q⟩ := h
    show tSeq _ _ _ [some (.ref d.a), none, none, none, none] H
    walk_at "s"
    refine ⟨d, _, rfl, hd, by omega, fun sh H1 s h0 h1 h2 => ?_⟩
    walk_at "s"
    refine go_iteD (fun h3 => ?_) (fun h3 => ?_)
    · walk_at "s"
      refine ⟨d, _, rfl, s.deal, by omega, fun r2 H2 s2 h5 h6 h7 => ?_⟩
      exact q _ _ (s.trans s2) h5 (by omega)
    walk_at "s"
    refine go_iteD (fun h4 => ?_) (fun h4 => ?_)
    · walk_at "s"
      refine ⟨d, _, rfl, s.deal, by omega, fun r2 H2 s2 h5 h6 h7 => ?_⟩
      exact q _ _ (s.trans s2) h5 (by omega)
    walk_at "s"
    refine go_iteD (fun h5 => ?_) (fun h5 => ?_)
    · walk_at "s"
      refine go_lst fun p H2 n2 s2 e2 => ?_
      walk_at "s"
      have hd2 := s.deal.same s2
      refine ⟨d, _, rfl, hd2.deal, .inl ⟨p, _, rfl, .inl (sq_of (s.deal.at n2 e2)), by simp, by simp, fun y H3 s3 hy => ?_⟩⟩
      have fin : ∀ z : Int, 0 ≤ z → z < 10000000000000000000000000000000000000000 → Q (.int z) H3 := fun z h6 h7 => q _ _ ((s.trans hd2).trans s3) h6 h7
      simp only [List.mem_cons, List.not_mem_nil, or_false] at hy
      rcases hy with rfl | rfl | rfl | rfl | rfl | rfl | rfl | rfl <;> exact fin _ (by decide) (by decide)
    walk_at "s"
    -- the rounds
    refine go_cut (fun σ' H' => ∃ m : Int, σ' = [some (.ref d.a), some (.int sh), some (.int m), none, none] ∧ 0 ≤ m ∧ m ≤ 5 ∧ Dr K d H H') ?_ ?_
    · walk_at "s"
      refine go_iteD (fun h6 => ?_) (fun h6 => ⟨5, rfl, by omega, by omega, s⟩)
      walk_at "s"
      refine ⟨d, _, _, rfl, s.deal, by omega, fun r2 H2 s2 h7 h8 => ?_⟩
      walk_at "s"
      exact ⟨r2, rfl, by omega, by omega, s.trans s2⟩
    · rintro σ1 H2 ⟨m, rfl, m0, m5, s2⟩
      walk_at "s"
      refine go_r1 ?_ ⟨by omega, by omega⟩
      refine for_it (walk_range (n := m.toNat)) (fun i σ' H' => ∃ z y, σ' = [some (.ref d.a), some (.int sh), some (.int m), some (.int z), y] ∧ 0 ≤ z ∧ z < (100000000 : Int) ^ i ∧ Dr K d H H') ⟨0, none, rfl, by omega, by decide, s2⟩ (fun _ _ _ _ _ => trivial) ?_ ?_
      · rintro i x σ' H3 H' hi ⟨z, y, rfl, z0, z1, s3⟩ ⟨rfl, rfl⟩
        show tAsg _ _ _ [some (.ref d.a), some (.int sh), some (.int m), some (.int z), some _] _
        walk_at "s"
        refine go_mul (.inl (.inr (by decide))) ?_
        walk_at "s"
        refine ⟨d, _, rfl, s3.deal, by omega, fun r2 H4 s4 h7 h8 h9 => ?_⟩
        walk_at "s"
        refine ⟨_, _, rfl, by omega, ?_, s3.trans s4⟩
        have h8' := h8 (by omega)
        rw [Int.pow_succ]
        have z2 : z + 1 ≤ (100000000 : Int) ^ i := z1
        omega
      · rintro σ' H3 ⟨z, y, rfl, z0, z1, s3⟩
        walk_at "s"
        refine q _ _ s3 z0 ?_
        have h5' : m.toNat ≤ 5 := by omega
        have mono : (100000000 : Int) ^ m.toNat ≤ 10000000000000000000000000000000000000000 := (by decide : ∀ n : Nat, n < 6 → (100000000 : Int) ^ n ≤ 10000000000000000000000000000000000000000) _ (by omega)
        omega
end
end W

namespace W
open PySem PySem.Spec PyProof.Rows L2 TL G
def sp_l_mark_position (K : PySem.W.Frag) : Sp := fun vs H Q _ => ∃ (p c ms : List Nat) (m : Int), vs = [S (wt p c), S ms, .int m] ∧ Lw BIO p c ∧ 1 ≤ m ∧ ∀ H', Same H H' → Q (posOf ms p c m) H'
section
variable {P : Program} {w : World} {K : PySem.W.Frag} {mg : Str → Option Value} {base : Heap}
theorem ok_l_mark_position (T : Top w K mg) : Ok P w K mg base 2 ("_law_mark_position", none) ["word_text", "marks", "m"] (sp_l_mark_position K) := by
  have G_l_split := ok_l_split (P := P) (w := w) (base := base) T
  refine T.f_l_mark_position.ok sc_l_mark_position (fun vs H Q E h => ?_) (fun cdv A outer s H vs Q E hr h => ?_)
  · obtain ⟨_, _, _, _, rfl, _⟩ := h
    rfl
  · refine ⟨_, PSs.nox (pss_cons (ps_set (i := 3) sc_l_mark_position.nd rfl (.inr rfl) (by exact pe_callU (E := fun _ => E0) G_l_split (hr.mono (by first | decide | omega)) rfl T.g_l_split T.f_l_split.kp (b_l_split T) pass_n (pa_cons (pv 0) pa_nil)))
      (pss_cons (ps_setLc (i := 4) (own := [("k", 7)]) (by rfl) sc_l_mark_position.nd rfl rfl (sw_true rfl rfl rfl (by decide +kernel)) (pi_range1 (by rfl) T.z_range (pa_cons (pe_callB (call_lenK K rfl) (by rfl) T.z_len (by decide +kernel) (pa_cons (pe_ix (ix_K K rfl) (pv 3) pe_int (fun _ _ => rfl)) pa_nil)) pa_nil)) (blkOk_by (own := [("k", 7)]) (N := N_l_mark_position) (sc := defScope s_l_mark_position) (by decide +kernel)) (fun _ _ _ _ _ => (pg_name (i := 7) sc_l_mark_position.nd rfl (Or.inl rfl))) (fun _ _ _ _ _ => pts_one (pt_c op_inT (pe_ix (ix_K K rfl) (pe_ix (ix_K K rfl) (pv 3) pe_int (fun _ _ => rfl)) (pv 7) (fun _ _ => rfl)) (pv 1) (by rfl))) (fun _ _ _ _ _ => (pe_op op_addU (pv 7) pe_int)))
      (pss_cons (ps_ifU (pt_c op_leU (pv 2) (pe_callB (call_lenK K rfl) (by rfl) T.z_len (by decide +kernel) (pa_cons (pv 4) pa_nil)) (nomark _)) (pss_one (ps_ret (pe_ix (ix_K K rfl) (pv 4) (pe_op op_subU (pv 2) pe_int) (fun _ _ => rfl)))) pss_nil)
      (pss_cons (ps_setLc (i := 5) (own := [("k", 7)]) (by rfl) sc_l_mark_position.nd rfl rfl (sw_true rfl rfl rfl (by decide +kernel)) (pi_range1 (by rfl) T.z_range (pa_cons (pe_callB (call_lenK K rfl) (by rfl) T.z_len (by decide +kernel) (pa_cons (pe_ix (ix_K K rfl) (pv 3) pe_int (fun _ _ => rfl)) pa_nil)) pa_nil)) (blkOk_by (own := [("k", 7)]) (N := N_l_mark_position) (sc := defScope s_l_mark_position) (by decide +kernel)) (fun _ _ _ _ _ => (pg_name (i := 7) sc_l_mark_position.nd rfl (Or.inl rfl))) (fun _ _ _ _ _ => pts_one (pt_c op_inT (pe_ix (ix_K K rfl) (pe_ix (ix_K K rfl) (pv 3) pe_int (fun _ _ => rfl)) (pv 7) (fun _ _ => rfl)) (pv 1) (by rfl))) (fun _ _ _ _ _ => (pe_op op_addU (pv 7) pe_int)))
      (pss_cons (ps_ifU (pt_c (op_eqK K rfl hr.units) (pe_callB (call_lenK K rfl) (by rfl) T.z_len (by decide +kernel) (pa_cons (pv 5) pa_nil)) pe_int (nomark _)) (pss_one (ps_ret pe_non)) pss_nil)
      (pss_cons (ps_set (i := 6) sc_l_mark_position.nd rfl (.inl rfl) (pe_op op_subU (pe_op op_subU (pv 2) (pe_callB (call_lenK K rfl) (by rfl) T.z_len (by decide +kernel) (pa_cons (pv 4) pa_nil))) pe_int))
      (pss_one (ps_ret (pe_op op_addU (pe_op op_addU (pe_callB (call_lenK K rfl) (by rfl) T.z_len (by decide +kernel) (pa_cons (pe_ix (ix_K K rfl) (pv 3) pe_int (fun _ _ => rfl)) pa_nil)) (pe_op op_mulU (pe_op op_divU (pv 6) (pe_callB (call_lenK K rfl) (by rfl) T.z_len (by decide +kernel) (pa_cons (pv 5) pa_nil))) (pe_callB (call_lenK K rfl) (by rfl) T.z_len (by decide +kernel) (pa_cons (pe_ix (ix_K K rfl) (pv 3) pe_int (fun _ _ => rfl)) pa_nil)))) (pe_ix (ix_K K rfl) (pv 5) (pe_op op_modU (pe_callTy call_intU (by rfl) T.z_int (by decide +kernel) (pa_cons (pv 6) pa_nil)) (pe_callB (call_lenK K rfl) (by rfl) T.z_len (by decide +kernel) (pa_cons (pv 5) pa_nil))) (fun _ _ => rfl))))))))))), ?_⟩
    obtain ⟨p, c, ms, n, rfl, hw, hn, q⟩ := h
    show tSeq _ _ _ [some (S (wt p c)), some (S ms), some (.int n), none, none, none, none, none] H
    have p12 := hw.p12
    have c1 := hw.c1
    have c4 := hw.c4
    walk_at "s"
    refine ⟨p, c, rfl, hw, fun a H1 n1 s1 e1 => ?_⟩
    walk_at "s"
    refine go_r1 ?_ ⟨by omega, by omega⟩
    refine go_lcP walk_range (fun i => decide (p.getD i 0 ∈ ms)) (fun i => .int ((i : Int) + 1)) (fun _ _ => trivial) (fun x => rfl) (by omega) (fun i H' hi s' Q' q' => ?_) (fun i H' hi s' _ Q' q' => ?_) (fun D H2 nD s2 eD => ?_)
    · have hip : i < p.length := by omega
      show uTest _ [some (S (wt p c)), some (S ms), some (.int n), some (.ref a), none, none, none, some (.int (0 + (i : Int)))] _ _
      rw [Int.zero_add]
      have e1' := s' _ _ e1
      walk_at "s"
      refine go_ixs (c := p.getD i 0) (by omega) (atI_at (by omega) (by rw [Int.toNat_natCast, List.getD_eq_getElem?_getD, List.getElem?_eq_getElem hip]; rfl)) ?_
      walk_at "s"
      exact q' _ (Same.refl _)
    · show tOp _ _ _ [some (S (wt p c)), some (S ms), some (.int n), some (.ref a), none, none, none, some (.int (0 + (i : Int)))] _ _
      rw [Int.zero_add]
      walk_at "s"
      exact q' _ (Same.refl _)
    rw [show ((p.length : Int)).toNat = p.length from Int.toNat_natCast _, posL_kept] at eD
    walk_at "s"
    try simp only [List.length_map]
    have hA := posL_le ms p
    have e2 := s2 _ _ e1
    refine go_iteD (fun h3 => ?_) (fun h3 => ?_)
    · have q1 := q _ (s1.trans s2)
      unfold posOf at q1
      rw [if_pos h3, List.getD_eq_getElem?_getD, List.getElem?_eq_getElem (by omega)] at q1
      walk_at "s"
      exact go_ixl (sq_of eD) (atI_at (by omega) (by rw [List.getElem?_map, List.getElem?_eq_getElem (by omega)]; rfl)) q1
    walk_at "s"
    refine go_r1 ?_ ⟨by omega, by omega⟩
    refine go_lcP walk_range (fun i => decide (c.getD i 0 ∈ ms)) (fun i => .int ((i : Int) + 1)) (fun _ _ => trivial) (fun x => rfl) (by omega) (fun i H' hi s' Q' q' => ?_) (fun i H' hi s' _ Q' q' => ?_) (fun D2 H3 nD2 s3 eD2 => ?_)
    · have hip : i < c.length := by omega
      show uTest _ [some (S (wt p c)), some (S ms), some (.int n), some (.ref a), some _, none, none, some (.int (0 + (i : Int)))] _ _
      rw [Int.zero_add]
      have e1' := s' _ _ e2
      walk_at "s"
      refine go_ixs (c := c.getD i 0) (by omega) (atI_at (by omega) (by rw [Int.toNat_natCast, List.getD_eq_getElem?_getD, List.getElem?_eq_getElem hip]; rfl)) ?_
      walk_at "s"
      exact q' _ (Same.refl _)
    · show tOp _ _ _ [some (S (wt p c)), some (S ms), some (.int n), some (.ref a), some _, none, none, some (.int (0 + (i : Int)))] _ _
      rw [Int.zero_add]
      walk_at "s"
      exact q' _ (Same.refl _)
    rw [show ((c.length : Int)).toNat = c.length from Int.toNat_natCast _, posL_kept] at eD2
    have hB := posL_le ms c
    have s03 := (s1.trans s2).trans s3
    have eDD := s3 _ _ eD
    have e3 := s3 _ _ e2
    have q1 := q _ s03
    unfold posOf at q1
    rw [if_neg h3] at q1
    walk_at "s"
    try simp only [List.length_map]
    refine go_iteD (fun h4 => ?_) (fun h4 => ?_)
    · rw [if_pos (List.length_eq_zero_iff.mp (by omega))] at q1
      walk_at "s"
      exact q1
    · have h5 : posL ms c ≠ [] := fun z => h4 (by rw [z]; rfl)
      rw [if_neg h5] at q1
      walk_at "s"
      try simp only [List.length_map]
      have h6 : 0 ≤ (n - (posL ms p).length - 1) % (posL ms c).length := Int.emod_nonneg _ (by omega)
      have h7 : (n - (posL ms p).length - 1) % (posL ms c).length < (posL ms c).length := Int.emod_lt_of_pos _ (by omega)
      rw [List.getD_eq_getElem?_getD, List.getElem?_eq_getElem (by omega)] at q1
      refine go_div (cdw (by omega) (by omega)) ?_
      walk_at "s"
      refine go_mul (cml (by omega) (by omega)) ?_
      walk_at "s"
      try simp only [List.length_map]
      refine go_mod (by omega) ?_
      walk_at "s"
      refine go_ixl (sq_of eD2) (atI_at h6 (by rw [List.getElem?_map, List.getElem?_eq_getElem (by omega)]; rfl)) ?_
      walk_at "s"
      exact q1
end
end W

namespace W
open PySem PySem.Spec PyProof.Rows L2 TL G
def sp_l_side_marks (K : PySem.W.Frag) : Sp := fun vs H Q _ => ∃ (l : List Nat) (x : Nat), vs = [S l] ∧ Side l x ∧ Q (S [66, x]) H
section
variable {P : Program} {w : World} {K : PySem.W.Frag} {mg : Str → Option Value} {base : Heap}
theorem ok_l_side_marks (T : Top w K mg) : Ok P w K mg base 1 ("_law_side_marks", none) ["side"] (sp_l_side_marks K) := by
  refine T.f_l_side_marks.ok sc_l_side_marks (fun vs H Q E h => ?_) (fun cdv A outer s H vs Q E hr h => ?_)
  · obtain ⟨_, _, rfl, _⟩ := h
    rfl
  · refine ⟨_, PSs.nox (pss_cons (ps_ifU (pt_c (op_eqK K rfl hr.units) (pv 0) (pe_s [105, 110]) (nomark _)) (pss_one (ps_ret (pe_s [66, 73]))) pss_nil)
      (pss_one (ps_ret (pe_s [66, 79])))), ?_⟩
    obtain ⟨l, x, rfl, hs, q⟩ := h
    show tSeq _ _ _ [some (S l)] H
    walk_at "s"
    rcases hs with ⟨rfl, rfl⟩ | ⟨rfl, rfl⟩
    · refine go_iteD (fun h3 => ?_) (fun h3 => absurd rfl h3)
      walk_at "s"
      exact q
    · refine go_iteD (fun h3 => by cases h3) (fun h3 => ?_)
      walk_at "s"
      exact q
end
end W

namespace W
open PySem PySem.Spec PyProof.Rows L2 TL G
def sp_p_named_positions (K : PySem.W.Frag) : Sp := fun vs H Q _ => ∃ (l sd : List Nat) (x : Nat), vs = [S l, S sd] ∧ Side sd x ∧ l.length ≤ 1000000 ∧
  ∀ D H', H D = none → Same H H' → H' D = some (.lst ((posL [66, x] l).map V.int)) → Q (.ref D) H'
section
variable {P : Program} {w : World} {K : PySem.W.Frag} {mg : Str → Option Value} {base : Heap}
theorem ok_p_named_positions (T : Top w K mg) : Ok P w K mg base 1 ("named_positions", none) ["letters", "side"] (sp_p_named_positions K) := by
  refine T.f_p_named_positions.ok sc_p_named_positions (fun vs H Q E h => ?_) (fun cdv A outer s H vs Q E hr h => ?_)
  · obtain ⟨_, _, _, rfl, _⟩ := h
    rfl
  · refine ⟨_, PSs.nox (pss_one (ps_ret (pe_lc (own := [("at", 2), ("sign", 3)]) (by rfl) sc_p_named_positions.nd (pi_enumS (by rfl) T.z_enumerate (pa_cons (pv 0) pa_nil)) (blkOk_by (own := [("at", 2), ("sign", 3)]) (N := N_p_named_positions) (sc := defScope s_p_named_positions) (by decide +kernel)) (fun _ _ _ _ _ => (pg_tupU K 2 rfl rfl (pgs_cons (pg_name (i := 2) sc_p_named_positions.nd rfl (Or.inl rfl)) (pgs_cons (pg_name (i := 3) sc_p_named_positions.nd rfl (Or.inl rfl)) pgs_nil)))) (fun _ _ _ _ _ => pts_one (pw_orU (pt_c (op_eqK K rfl hr.units) (pv 3) (pe_s [66]) (nomark _)) (pw_or1 (pt_c (op_eqK K rfl hr.units) (pv 3) (pe_ix (ix_DK K rfl rfl T.d_ONE_SIDED) (by exact pe_glob (v := .ref (He.ga K "ONE_SIDED")) rfl T.g_ONE_SIDED rfl) (pv 1) (fun _ _ => rfl)) (nomark _)))).pt) (fun _ _ _ _ _ => (pe_op op_addU (pv 2) pe_int))))), ?_⟩
    obtain ⟨l, sd, x, rfl, hs, hl, q⟩ := h
    show tRet _ _ [some (S l), some (S sd), none, none] H
    walk_at "s"
    obtain ⟨kv, hkv, e1, e2⟩ := hs.mem
    refine go_lcE (K := K) walk_enumS (fun i => decide (l.getD i 0 ∈ [66, x])) (fun i => .int ((i : Int) + 1)) (fun _ _ => trivial) (fun x y => rfl) hl (fun i H' hi s' Q' q' => ?_) (fun i H' hi s' _ Q' q' => ?_) (fun D H' nD s' eD => ?_)
    · show uOr _ _ [some (S l), some (S sd), some (.int (i : Int)), some (S [l.getD i 0])] _ _
      walk_at "s"
      refine go_iteD (fun h3 => ?_) (fun h3 => ?_)
      · have h4 : l.getD i 0 = 66 := (List.cons.inj h3).1
        have := q' H' (Same.refl _)
        rw [h4] at this
        exact this
      · walk_at "s"
        refine ⟨kv, hkv, rfl, by rw [e1], ?_⟩
        rw [← e2]
        walk_at "s"
        have := q' H' (Same.refl _)
        have e : ∀ c : Nat, ¬ c = 66 → decide (c ∈ [66, x]) = decide ([c] = [x]) := by
          intro c n3
          by_cases hx : c = x
          · rw [hx]
            simp
          · simp [n3, hx]
        rw [e _ (fun z => h3 (by rw [z]))] at this
        exact this
    · show tOp _ _ _ [some (S l), some (S sd), some (.int (i : Int)), some (S [l.getD i 0])] _ _
      walk_at "s"
      exact q' _ (Same.refl _)
    · rw [posL_kept] at eD
      exact q D H' nD s' eD
end
end W

namespace W
open PySem PySem.Spec PyProof.Rows L2 TL G
def sp_p_position_of (K : PySem.W.Frag) : Sp := fun vs H Q E => ∃ (v sd k : V), vs = [v, sd, k] ∧ FlatAt K H k ∧ FlatAt K H sd ∧ ((∃ p c n l x, v = S (wt p c) ∧ k = .int n ∧ sd = S l ∧ Side l x ∧ Lw BIO p c ∧ 1 ≤ n ∧ ∀ H', Same H H' → Q (posOf [66, x] p c n) H') ∨
  (BadS sd ∧ Err1 K "OptionError" "at_option" sd H E) ∨ (∃ l x, sd = S l ∧ Side l x ∧ badN k 1 = true ∧ Err1 K "NumberError" "at_number" k H E) ∨ (∃ n l x, k = .int n ∧ 1 ≤ n ∧ sd = S l ∧ Side l x ∧ BadW K BIO H v ∧ Err0 K "WordError" H E))
section
variable {P : Program} {w : World} {K : PySem.W.Frag} {mg : Str → Option Value} {base : Heap}
theorem ok_p_position_of (T : Top w K mg) : Ok P w K mg base 7 ("position_of", none) ["word", "side", "m"] (sp_p_position_of K) := by
  have G_p_check_number := ok_p_check_number (P := P) (w := w) (base := base) T
  have G_p_check_side := ok_p_check_side (P := P) (w := w) (base := base) T
  have G_p_named_positions := ok_p_named_positions (P := P) (w := w) (base := base) T
  have G_p_read_word := ok_p_read_word (P := P) (w := w) (base := base) T
  obtain ⟨ds_p_check_number, B_p_check_number⟩ := dflt_p_check_number T
  refine T.f_p_position_of.ok sc_p_position_of (fun vs H Q E h => ?_) (fun cdv A outer s H vs Q E hr h => ?_)
  · obtain ⟨_, _, _, rfl, _⟩ := h
    rfl
  · refine ⟨_, (pss_cons (ps_expr (by exact pe_callU (E := fun _ => E) G_p_check_side (hr.mono (by first | decide | omega)) rfl T.g_p_check_side T.f_p_check_side.kp (b_p_check_side T) (pass_x (takes_of rfl rfl rfl rfl)) (pa_cons (pv 1) pa_nil)))
      (pss_cons (ps_expr (by exact pe_callUD (E := fun _ => E) G_p_check_number (hr.mono (by first | decide | omega)) rfl T.g_p_check_number T.f_p_check_number.kp B_p_check_number.2 B_p_check_number.1 (pass_x (takes_of rfl rfl rfl rfl)) (pa_cons (pv 2) (pa_cons pe_int pa_nil))))
      (pss_cons (ps_asg (by exact pe_callU (E := fun _ => E) G_p_read_word (hr.mono (by first | decide | omega)) rfl T.g_p_read_word T.f_p_read_word.kp (b_p_read_word T) (pass_x (takes_of rfl rfl rfl rfl)) (pa_cons (pv 0) pa_nil)) (pg_tupU K 2 rfl rfl (pgs_cons (pg_name (i := 3) sc_p_position_of.nd rfl (Or.inl rfl)) (pgs_cons (pg_name (i := 4) sc_p_position_of.nd rfl (Or.inl rfl)) pgs_nil))))
      (pss_cons (ps_set (i := 5) sc_p_position_of.nd rfl (.inl rfl) (by exact pe_callU (E := fun _ => E) G_p_named_positions (hr.mono (by first | decide | omega)) rfl T.g_p_named_positions T.f_p_named_positions.kp (b_p_named_positions T) (pass_x (takes_of rfl rfl rfl rfl)) (pa_cons (pv 3) (pa_cons (pv 1) pa_nil))))
      (pss_cons (ps_ifU (pt_c op_leU (pv 2) (pe_callB (call_lenK K rfl) (by rfl) T.z_len (by decide +kernel) (pa_cons (pv 5) pa_nil)) (nomark _)) (pss_one (ps_ret (pe_ix (ix_K K rfl) (pv 5) (pe_op op_subU (pv 2) pe_int) (fun _ _ => rfl)))) pss_nil)
      (pss_cons (ps_set (i := 6) sc_p_position_of.nd rfl (.inl rfl) (by exact pe_callU (E := fun _ => E) G_p_named_positions (hr.mono (by first | decide | omega)) rfl T.g_p_named_positions T.f_p_named_positions.kp (b_p_named_positions T) (pass_x (takes_of rfl rfl rfl rfl)) (pa_cons (pv 4) (pa_cons (pv 1) pa_nil))))
      (pss_cons (ps_ifU (pt_c (op_eqK K rfl hr.units) (pv 6) (pe_lst pa_nil) (nomark _)) (pss_one (ps_ret pe_non)) pss_nil)
      (pss_cons (ps_asg (pe_callB call_dmU (by rfl) T.z_divmod (by decide +kernel) (pa_cons (pe_op op_subU (pe_op op_subU (pv 2) (pe_callB (call_lenK K rfl) (by rfl) T.z_len (by decide +kernel) (pa_cons (pv 5) pa_nil))) pe_int) (pa_cons (pe_callB (call_lenK K rfl) (by rfl) T.z_len (by decide +kernel) (pa_cons (pv 6) pa_nil)) pa_nil))) (pg_tupU K 2 rfl rfl (pgs_cons (pg_name (i := 7) sc_p_position_of.nd rfl (Or.inl rfl)) (pgs_cons (pg_name (i := 8) sc_p_position_of.nd rfl (Or.inl rfl)) pgs_nil))))
      (pss_one (ps_ret (pe_op op_addU (pe_op op_addU (pe_callB (call_lenK K rfl) (by rfl) T.z_len (by decide +kernel) (pa_cons (pv 3) pa_nil)) (pe_op op_mulU (pv 7) (pe_callB (call_lenK K rfl) (by rfl) T.z_len (by decide +kernel) (pa_cons (pv 4) pa_nil)))) (pe_ix (ix_K K rfl) (pv 6) (pv 8) (fun _ _ => rfl))))))))))))), ?_⟩
    obtain ⟨v, sd, k, rfl, hk, hsd, h⟩ := h
    show tSeq _ _ _ [some v, some sd, some k, none, none, none, none, none, none] H
    walk_at "s"
    rcases h with ⟨p, c, n, l, x, rfl, rfl, rfl, hs, hw, hn, q⟩ | ⟨hb, hE⟩ | ⟨l, x, rfl, hs, hb, hE⟩ | ⟨n, l, x, rfl, hn, rfl, hs, hb, hE⟩
    · refine ⟨_, rfl, hsd, .inl ⟨l, x, rfl, hs, ?_⟩⟩
      walk_at "s"
      refine ⟨_, 1, rfl, hk, .inl ⟨n, rfl, hn, ?_⟩⟩
      walk_at "s"
      refine ⟨_, rfl, .inl ⟨p, c, rfl, hw, fun a H1 na s1 e1 => ?_⟩⟩
      walk_at "s"
      refine go_un2 (K := K) (st_of e1) ?_
      have p12 := hw.p12
      have c1 := hw.c1
      have c4 := hw.c4
      walk_at "s"
      refine ⟨_, _, _, rfl, hs, by omega, fun D H2 nD s2 eD => ?_⟩
      walk_at "s"
      rw [List.length_map]
      have hA := posL_le [66, x] p
      refine go_iteD (fun h3 => ?_) (fun h3 => ?_)
      · have q1 := q _ (s1.trans s2)
        unfold posOf at q1
        rw [if_pos h3, List.getD_eq_getElem?_getD, List.getElem?_eq_getElem (by omega)] at q1
        walk_at "s"
        exact go_ixl (sq_of eD) (atI_at (by omega) (by rw [List.getElem?_map, List.getElem?_eq_getElem (by omega)]; rfl)) q1
      · walk_at "s"
        refine ⟨_, _, _, rfl, hs, by omega, fun D2 H3 nD2 s3 eD2 => ?_⟩
        walk_at "s"
        refine go_lst fun D3 H4 nD3 s4 eD3 => ?_
        walk_at "s"
        refine go_eqnil (sq_of (s4 _ _ eD2)) (sq_of eD3) ?_
        walk_at "s"
        have hB := posL_le [66, x] c
        have s14 := ((s1.trans s2).trans s3).trans s4
        refine go_iteD (fun h4 => ?_) (fun h4 => ?_)
        · have q1 := q _ s14
          unfold posOf at q1
          rw [if_neg h3, if_pos h4] at q1
          walk_at "s"
          exact q1
        · walk_at "s"
          refine go_lenl (sq_of ((s3.trans s4) _ _ eD)) ?_
          walk_at "s"
          refine go_lenl (sq_of (s4 _ _ eD2)) ?_
          walk_at "s"
          rw [List.length_map, List.length_map]
          have hB1 : 0 < (posL [66, x] c).length := List.length_pos_iff.mpr h4
          refine go_dm (cdp (by omega) (by omega)) fun b H5 nb s5 e5 => ?_
          walk_at "s"
          refine go_un2 (K := K) (st_of e5) ?_
          have q1 := q _ (s14.trans s5)
          have h6 : 0 ≤ (n - (posL [66, x] p).length - 1) % (posL [66, x] c).length := Int.emod_nonneg _ (by omega)
          have h7 : (n - (posL [66, x] p).length - 1) % (posL [66, x] c).length < (posL [66, x] c).length := Int.emod_lt_of_pos _ (by omega)
          unfold posOf at q1
          rw [if_neg h3, if_neg h4, List.getD_eq_getElem?_getD, List.getElem?_eq_getElem (by omega)] at q1
          walk_at "s"
          refine go_mul (cml (by omega) (by omega)) ?_
          walk_at "s"
          refine go_ixl (sq_of ((s4.trans s5) _ _ eD2)) (atI_at h6 (by rw [List.getElem?_map, List.getElem?_eq_getElem (by omega)]; rfl)) ?_
          walk_at "s"
          exact q1
    · exact ⟨_, rfl, hsd, .inr ⟨hb, hE⟩⟩
    · refine ⟨_, rfl, hsd, .inl ⟨l, x, rfl, hs, ?_⟩⟩
      walk_at "s"
      exact ⟨_, 1, rfl, hk, .inr ⟨hb, hE⟩⟩
    · refine ⟨_, rfl, hsd, .inl ⟨l, x, rfl, hs, ?_⟩⟩
      walk_at "s"
      refine ⟨_, 1, rfl, hk, .inl ⟨n, rfl, hn, ?_⟩⟩
      walk_at "s"
      exact ⟨_, rfl, .inr ⟨hb, hE⟩⟩
end
end W

namespace W
open PySem PySem.Spec PyProof.Rows L2 TL G
def sp_l_position_holds (K : PySem.W.Frag) : Sp := fun vs H Q _ => ∃ (p c l : List Nat) (x : Nat) (m : Int), vs = [S (wt p c), S l, .int m] ∧ Lw BIO p c ∧ Side l x ∧ 1 ≤ m ∧ ∀ H', Same H H' → Q (.bl true) H'
section
variable {P : Program} {w : World} {K : PySem.W.Frag} {mg : Str → Option Value} {base : Heap}
theorem ok_l_position_holds (T : Top w K mg) : Ok P w K mg base 8 ("_law_position_holds", none) ["word_text", "side", "m"] (sp_l_position_holds K) := by
  have G_l_equal := ok_l_equal (P := P) (w := w) (base := base) T
  have G_l_mark_position := ok_l_mark_position (P := P) (w := w) (base := base) T
  have G_l_side_marks := ok_l_side_marks (P := P) (w := w) (base := base) T
  have G_p_letter := ok_p_letter (P := P) (w := w) (base := base) T
  have G_p_named := ok_p_named (P := P) (w := w) (base := base) T
  have G_p_position_of := ok_p_position_of (P := P) (w := w) (base := base) T
  refine T.f_l_position_holds.ok sc_l_position_holds (fun vs H Q E h => ?_) (fun cdv A outer s H vs Q E hr h => ?_)
  · obtain ⟨_, _, _, _, _, rfl, _⟩ := h
    rfl
  · refine ⟨_, PSs.nox (pss_cons (ps_set (i := 3) sc_l_position_holds.nd rfl (.inl rfl) (by exact pe_callU (E := fun _ => E0) G_l_mark_position (hr.mono (by first | decide | omega)) rfl T.g_l_mark_position T.f_l_mark_position.kp (b_l_mark_position T) pass_n (pa_cons (pv 0) (pa_cons (by exact pe_callU (E := fun _ => E0) G_l_side_marks (hr.mono (by first | decide | omega)) rfl T.g_l_side_marks T.f_l_side_marks.kp (b_l_side_marks T) pass_n (pa_cons (pv 1) pa_nil)) (pa_cons (pv 2) pa_nil)))))
      (pss_cons (ps_set (i := 4) sc_l_position_holds.nd rfl (.inl rfl) (by exact pe_callU (E := fun _ => E0) G_p_position_of (hr.mono (by first | decide | omega)) rfl T.g_p_position_of T.f_p_position_of.kp (b_p_position_of T) pass_n (pa_cons (pv 0) (pa_cons (pv 1) (pa_cons (pv 2) pa_nil)))))
      (pss_cons (ps_ifU (pt_not (pt_t (by exact pe_callU (E := fun _ => E0) G_l_equal (hr.mono (by first | decide | omega)) rfl T.g_l_equal T.f_l_equal.kp (b_l_equal T) pass_n (pa_cons (pv 4) (pa_cons (pv 3) pa_nil))))) (pss_one (ps_ret pe_bl)) pss_nil)
      (pss_cons (ps_ifU (pt_c op_isU (pv 3) pe_non (nomark _)) (pss_cons (ps_set (i := 5) sc_l_position_holds.nd rfl (.inl rfl) (pe_op op_subU (pe_powC 10000000000000000000000000000000000000000 pe_int pe_int) pe_int))
      (pss_one (ps_ret (pe_andU (by exact pe_callU (E := fun _ => E0) G_l_equal (hr.mono (by first | decide | omega)) rfl T.g_l_equal T.f_l_equal.kp (b_l_equal T) pass_n (pa_cons (by exact pe_callU (E := fun _ => E0) G_p_named (hr.mono (by first | decide | omega)) rfl T.g_p_named T.f_p_named.kp (b_p_named T) pass_n (pa_cons (pv 0) (pa_cons (pv 5) (pa_cons (pv 1) pa_nil)))) (pa_cons (by exact pe_callU (E := fun _ => E0) G_p_named (hr.mono (by first | decide | omega)) rfl T.g_p_named T.f_p_named.kp (b_p_named T) pass_n (pa_cons (pv 0) (pa_cons pe_int (pa_cons (pv 1) pa_nil)))) pa_nil))) (pe_one (pe_cmpR op_ltU (by exact pe_callU (E := fun _ => E0) G_p_named (hr.mono (by first | decide | omega)) rfl T.g_p_named T.f_p_named.kp (b_p_named T) pass_n (pa_cons (pv 0) (pa_cons (pv 5) (pa_cons (pv 1) pa_nil)))) (pv 2) (nomark _))))))) pss_nil)
      (pss_cons (ps_ifU (pt_not (pt_t (by exact pe_callU (E := fun _ => E0) G_l_equal (hr.mono (by first | decide | omega)) rfl T.g_l_equal T.f_l_equal.kp (b_l_equal T) pass_n (pa_cons (by exact pe_callU (E := fun _ => E0) G_p_named (hr.mono (by first | decide | omega)) rfl T.g_p_named T.f_p_named.kp (b_p_named T) pass_n (pa_cons (pv 0) (pa_cons (pv 4) (pa_cons (pv 1) pa_nil)))) (pa_cons (pv 2) pa_nil))))) (pss_one (ps_ret pe_bl)) pss_nil)
      (pss_cons (ps_ifU (pt_c op_gtU (pv 4) (pe_powC 10000000000000000000000000000000000000000 pe_int pe_int) (nomark _)) (pss_one (ps_ret pe_bl)) pss_nil)
      (pss_cons (ps_ifU (pt_not (pt_t (by exact pe_callU (E := fun _ => E0) G_l_equal (hr.mono (by first | decide | omega)) rfl T.g_l_equal T.f_l_equal.kp (b_l_equal T) pass_n (pa_cons (by exact pe_callU (E := fun _ => E0) G_p_named (hr.mono (by first | decide | omega)) rfl T.g_p_named T.f_p_named.kp (b_p_named T) pass_n (pa_cons (pv 0) (pa_cons (pe_op op_subU (pv 4) pe_int) (pa_cons (pv 1) pa_nil)))) (pa_cons (pe_op op_subU (pv 2) pe_int) pa_nil))))) (pss_one (ps_ret pe_bl)) pss_nil)
      (pss_one (ps_ret (pe_cmpR op_inT (by exact pe_callU (E := fun _ => E0) G_p_letter (hr.mono (by first | decide | omega)) rfl T.g_p_letter T.f_p_letter.kp (b_p_letter T) pass_n (pa_cons (pv 0) (pa_cons (pe_op op_subU (pv 4) pe_int) pa_nil))) (by exact pe_callU (E := fun _ => E0) G_l_side_marks (hr.mono (by first | decide | omega)) rfl T.g_l_side_marks T.f_l_side_marks.kp (b_l_side_marks T) pass_n (pa_cons (pv 1) pa_nil)) (by rfl))))))))))), ?_⟩
    obtain ⟨p, c, l, x, m, rfl, hw, hs, hm, q⟩ := h
    show tSeq _ _ _ [some (S (wt p c)), some (S l), some (.int m), none, none, none] H
    have p12 := hw.p12
    have c1 := hw.c1
    walk_at "s"
    refine ⟨l, x, rfl, hs, ?_⟩
    walk_at "s"
    refine ⟨p, c, [66, x], m, rfl, hw, hm, fun H1 s1 => ?_⟩
    walk_at "s"
    refine ⟨_, _, _, rfl, .inl rfl, .inl rfl, .inl ⟨p, c, m, l, x, rfl, rfl, rfl, hs, hw, hm, fun H2 s2 => ?_⟩⟩
    walk_at "s"
    have nm : ∀ (k : Int) (Hz : Hp) (Q' : VK), 0 ≤ k → (∀ H', Same Hz H' → Q' (.int (cyc (cnt [66, x]) p c k)) H') → sp_p_named K [S (wt p c), .int k, S l] Hz Q' E0 := fun k Hz Q' hk q' =>
      ⟨_, _, _, rfl, .inl rfl, .inl rfl, .inl ⟨p, c, k, l, x, rfl, rfl, rfl, hs, hw, hk, q'⟩⟩
    have s02 := s1.trans s2
    rcases posOf_kind [66, x] p c m with e | ⟨v, e⟩
    · rw [e]
      refine ⟨_, _, rfl, rfl, rfl, ?_⟩
      walk_at "s"
      refine go_no (by rw [decide_eq_true rfl]; rfl) ?_
      walk_at "s"
      refine go_is trivial (decide_eq_true rfl) ?_
      walk_at "s"
      refine nm _ _ _ (by decide) fun H3 s3 => ?_
      walk_at "s"
      refine nm _ _ _ (by decide) fun H4 s4 => ?_
      walk_at "s"
      obtain ⟨z1, z2⟩ := pos_none (j := 13) (k := 10000000000000000000000000000000000000000 - 1) (by omega) (by decide) e
      refine ⟨_, _, rfl, rfl, rfl, ?_⟩
      walk_at "s"
      refine go_yes (decide_eq_true (by rw [z1])) ?_
      walk_at "s"
      refine nm _ _ _ (by decide) fun H5 s5 => ?_
      walk_at "s"
      have q1 := q _ (((s02.trans s3).trans s4).trans s5)
      rw [← decide_eq_true z2] at q1
      exact q1
    · rw [e]
      obtain ⟨z0, z1, z2, z3⟩ := pos_ok hm c1 e
      refine ⟨_, _, rfl, rfl, rfl, ?_⟩
      walk_at "s"
      refine go_no (by rw [decide_eq_true rfl]; rfl) ?_
      walk_at "s"
      refine go_is trivial (decide_eq_false (fun z => by cases z)) ?_
      walk_at "s"
      refine nm _ _ _ (by omega) fun H3 s3 => ?_
      walk_at "s"
      refine ⟨_, _, rfl, rfl, rfl, ?_⟩
      walk_at "s"
      refine go_no (by rw [decide_eq_true (by rw [z1])]; rfl) ?_
      walk_at "s"
      refine go_iteD (fun h4 => ?_) (fun h4 => ?_)
      · walk_at "s"
        exact q _ (s02.trans s3)
      walk_at "s"
      refine nm _ _ _ (by omega) fun H4 s4 => ?_
      walk_at "s"
      refine ⟨_, _, rfl, rfl, rfl, ?_⟩
      walk_at "s"
      refine go_no (by rw [decide_eq_true (by rw [z2])]; rfl) ?_
      walk_at "s"
      refine ⟨_, _, rfl, .inl rfl, .inl ⟨p, c, v - 1, rfl, rfl, hw, by omega, fun H5 s5 => ?_⟩⟩
      walk_at "s"
      refine ⟨l, x, rfl, hs, ?_⟩
      walk_at "s"
      have q1 := q _ (((s02.trans s3).trans s4).trans s5)
      rw [← decide_eq_true z3] at q1
      exact q1
end
end W

namespace W
open PySem PySem.Spec PyProof.Rows L2 TL G
def sp_l_bad_number (K : PySem.W.Frag) : Sp := fun vs H Q _ => ∃ (d : DA) (least greatest : Int), vs = [.ref d.a, .int least, .int greatest] ∧ Deal K H d ∧ 0 ≤ least ∧ least ≤ 1000 ∧ greatest < 1000000000000000000000000000000000000000 ∧
  ∀ (D : Addr) (v : V) (H' : Hp), Dr K d H H' → L2.del H' d.a D = some (.lst [v]) → FlatAt K (L2.del H' d.a) v → (badN v least = true ∨ ∃ n, v = .int n ∧ 0 ≤ greatest ∧ greatest < n) → Q (.ref D) H'
theorem sub_same {K : PySem.W.Frag} {d : DA} {H H' : Hp} (r : Dr K d H H') {v : V} (h : FlatAt K (L2.del H d.a) v) : FlatAt K (L2.del H' d.a) v := h.same r.same
section
variable {P : Program} {w : World} {K : PySem.W.Frag} {mg : Str → Option Value} {base : Heap}
theorem ok_l_bad_number (T : Top w K mg) : Ok P w K mg base 3 ("_law_bad_number", none) ["deal", "least", "greatest"] (sp_l_bad_number K) := by
  have G_l_pick := ok_l_pick (P := P) (w := w) (base := base) T
  refine T.f_l_bad_number.ok sc_l_bad_number (fun vs H Q E h => ?_) (fun cdv A outer s H vs Q E hr h => ?_)
  · obtain ⟨_, _, _, rfl, _⟩ := h
    rfl
  · refine ⟨_, PSs.nox (pss_cons (ps_set (i := 3) sc_l_bad_number.nd rfl (.inl rfl) (pe_lst (pa_cons (pe_un un_neg pe_int) (pa_cons (pe_op op_subU (pv 1) pe_int) (pa_cons pe_bl (pa_cons pe_bl (pa_cons pe_non (pa_cons (pe_s [49]) (pa_cons (pe_s []) (pa_cons (pe_lst (pa_cons (pv 1) pa_nil)) (pa_cons (pe_tup (pa_cons (pv 1) pa_nil)) (pa_cons (pe_un un_neg (pe_powC 1000000000000000000000000000000000000000 pe_int pe_int)) pa_nil))))))))))))
      (Evl.pss_cut (ps_ifU (pt_c op_geU (pv 2) pe_int (nomark _)) (pss_one (ps_set (i := 3) sc_l_bad_number.nd rfl (.inl rfl) (pe_op op_addU (pv 3) (pe_lst (pa_cons (pe_op op_addU (pv 2) pe_int) (pa_cons (pe_op op_addU (pv 2) pe_int) (pa_cons (pe_op op_addU (pv 2) pe_int) (pa_cons (pe_powC 1000000000000000000000000000000000000000 pe_int pe_int) pa_nil)))))))) pss_nil)
      (pss_one (ps_ret (pe_lst (pa_cons (by exact pe_callU (E := fun _ => E0) G_l_pick (hr.mono (by first | decide | omega)) rfl T.g_l_pick T.f_l_pick.kp (b_l_pick T) pass_n (pa_cons (pv 0) (pa_cons (pv 3) pa_nil))) pa_nil)))))), ?_⟩
    obtain ⟨d, least, greatest, rfl, hd, h0, h1, hg2, q⟩ := h
    show tSeq _ _ _ [some (.ref d.a), some (.int least), some (.int greatest), none] H
    walk_at "s"
    refine go_lst' fun a H1 n1 s1 e1 => ?_
    walk_at "s"
    refine go_tup' fun b H2 n2 s2 e2 => ?_
    walk_at "s"
    refine go_lst' fun r H3 n3 s3 e3 => ?_
    have d1 := hd.same s1
    have d2 := d1.deal.same s2
    have d3 := d2.deal.same s3
    have f1 : FlatAt K (L2.del H3 d.a) (.ref a) := sub_same (d2.trans d3) (.inr ⟨a, [.int least], rfl, rfl, by simp, .inl (sq_of (hd.at n1 e1))⟩)
    have f2 : FlatAt K (L2.del H3 d.a) (.ref b) := sub_same d3 (.inr ⟨b, [.int least], rfl, rfl, by simp, .inr (st_of (d1.deal.at n2 e2))⟩)
    walk_at "s"
    refine go_cut (fun σ' H' => ∃ (r : Addr) (xs : List V), σ' = [some (.ref d.a), some (.int least), some (.int greatest), some (.ref r)] ∧ Dr K d H H' ∧ L2.del H' d.a r = some (.lst xs) ∧ 0 < xs.length ∧ xs.length ≤ 100 ∧
      ∀ v ∈ xs, FlatAt K (L2.del H' d.a) v ∧ (badN v least = true ∨ ∃ n, v = .int n ∧ 0 ≤ greatest ∧ greatest < n)) ?_ ?_
    · have base : ∀ v ∈ [V.int (-1), .int (least - 1), .bl true, .bl false, .non, S [49], S [], .ref a, .ref b, .int (-1000000000000000000000000000000000000000)], FlatAt K (L2.del H3 d.a) v ∧ (badN v least = true ∨ ∃ n, v = .int n ∧ 0 ≤ greatest ∧ greatest < n) := by
        intro v hv
        simp only [List.mem_cons, List.not_mem_nil, or_false] at hv
        rcases hv with rfl | rfl | rfl | rfl | rfl | rfl | rfl | rfl | rfl | rfl
        · exact ⟨.inl rfl, .inl (decide_eq_true (by omega))⟩
        · exact ⟨.inl rfl, .inl (decide_eq_true (by omega))⟩
        · exact ⟨.inl rfl, .inl rfl⟩
        · exact ⟨.inl rfl, .inl rfl⟩
        · exact ⟨.inl rfl, .inl rfl⟩
        · exact ⟨.inl rfl, .inl rfl⟩
        · exact ⟨.inl rfl, .inl rfl⟩
        · exact ⟨f1, .inl rfl⟩
        · exact ⟨f2, .inl rfl⟩
        · exact ⟨.inl rfl, .inl (decide_eq_true (by omega))⟩
      walk_at "s"
      refine go_iteD (fun h3 => ?_) (fun h3 => ⟨r, _, rfl, (d1.trans d2).trans d3, d2.deal.at n3 e3, by simp, by simp, base⟩)
      walk_at "s"
      refine go_lst' fun r2 H4 n4 s4 e4 => ?_
      walk_at "s"
      refine go_cat (s4 _ _ e3) e4 (by simp) fun r3 H5 n5 s5 e5 => ?_
      have d4 := d3.deal.same s4
      have d5 := d4.deal.same s5
      walk_at "s"
      refine ⟨r3, _, rfl, (((d1.trans d2).trans d3).trans d4).trans d5, d4.deal.at n5 e5, by simp, by simp, fun v hv => ?_⟩
      rcases List.mem_append.mp hv with hv | hv
      · obtain ⟨z1, z2⟩ := base v hv
        exact ⟨sub_same (d4.trans d5) z1, z2⟩
      · simp only [List.mem_cons, List.not_mem_nil, or_false] at hv
        rcases hv with rfl | rfl | rfl | rfl
        · exact ⟨.inl rfl, .inr ⟨_, rfl, by omega, by omega⟩⟩
        · exact ⟨.inl rfl, .inr ⟨_, rfl, by omega, by omega⟩⟩
        · exact ⟨.inl rfl, .inr ⟨_, rfl, by omega, by omega⟩⟩
        · by_cases hg : greatest < 1000000000000000000000000000000000000000
          · exact ⟨.inl rfl, .inr ⟨_, rfl, by omega, hg⟩⟩
          · exact absurd hg2 hg
    · rintro σ' H4 ⟨r, xs, rfl, hd4, er, l0, l1, hx⟩
      walk_at "s"
      refine ⟨d, _, rfl, hd4.deal, .inl ⟨r, xs, rfl, .inl (sq_of er), l0, by omega, fun v H5 s5 hv => ?_⟩⟩
      obtain ⟨z1, z2⟩ := hx v hv
      walk_at "s"
      refine go_lst' fun D H6 n6 s6 e6 => ?_
      have d6 := s5.deal.same s6
      exact q D v H6 ((hd4.trans s5).trans d6) (s5.deal.at n6 e6) (sub_same (s5.trans d6) z1) z2
end
end W

namespace W
open PySem PySem.Spec PyProof.Rows L2 TL G
def sp_l_bad_option (K : PySem.W.Frag) : Sp := fun vs H Q _ => ∃ (d : DA) (w : Addr), vs = [.ref d.a, .ref w] ∧ Deal K H d ∧ L2.del H d.a w = some (.lst [S cIn, S cOut]) ∧
  ∀ (D : Addr) (v : V) (H' : Hp), Dr K d H H' → L2.del H' d.a D = some (.lst [v]) → FlatAt K (L2.del H' d.a) v → BadS v → Q (.ref D) H'
section
variable {P : Program} {w : World} {K : PySem.W.Frag} {mg : Str → Option Value} {base : Heap}
theorem ok_l_bad_option (T : Top w K mg) : Ok P w K mg base 3 ("_law_bad_option", none) ["deal", "right_row"] (sp_l_bad_option K) := by
  have G_l_pick := ok_l_pick (P := P) (w := w) (base := base) T
  refine T.f_l_bad_option.ok sc_l_bad_option (fun vs H Q E h => ?_) (fun cdv A outer s H vs Q E hr h => ?_)
  · obtain ⟨_, _, rfl, _⟩ := h
    rfl
  · refine ⟨_, PSs.nox (pss_cons (ps_set (i := 2) sc_l_bad_option.nd rfl (.inl rfl) (by exact pe_callU (E := fun _ => E0) G_l_pick (hr.mono (by first | decide | omega)) rfl T.g_l_pick T.f_l_pick.kp (b_l_pick T) pass_n (pa_cons (pv 0) (pa_cons (pv 1) pa_nil))))
      (pss_cons (ps_set (i := 3) sc_l_bad_option.nd rfl (.inl rfl) (pe_lst (pa_cons (pe_s []) (pa_cons (pe_op op_addU (pv 2) (pe_s [32])) (pa_cons (pe_slice (sl_K K rfl) (pv 2) po_none (po_some (pe_un un_neg pe_int))) (pa_cons (pe_bm0K K rfl PySem.F.plainAttrs_str PySem.F.slot_str_upper PySem.F.type_str_upper mt_upU (pv 2)) (pa_cons (pe_op op_addU (pv 2) (pv 2)) (pa_cons pe_non (pa_cons pe_bl (pa_cons pe_int (pa_cons (pe_lst (pa_cons (pv 2) pa_nil)) (pa_cons (pe_tup (pa_cons (pv 2) pa_nil)) (pa_cons (pe_s [98, 111, 116, 104]) pa_nil)))))))))))))
      (pss_one (ps_ret (pe_lst (pa_cons (by exact pe_callU (E := fun _ => E0) G_l_pick (hr.mono (by first | decide | omega)) rfl T.g_l_pick T.f_l_pick.kp (b_l_pick T) pass_n (pa_cons (pv 0) (pa_cons (pv 3) pa_nil))) pa_nil)))))), ?_⟩
    obtain ⟨d, w, rfl, hd, ew, q⟩ := h
    show tSeq _ _ _ [some (.ref d.a), some (.ref w), none, none] H
    walk_at "s"
    refine ⟨d, _, rfl, hd, .inl ⟨w, _, rfl, .inl (sq_of ew), by simp, by simp, fun y H0 s0 hy => ?_⟩⟩
    have hy2 : ∃ l, y = S l ∧ (l = cIn ∨ l = cOut) := by
      simp only [List.mem_cons, List.not_mem_nil, or_false] at hy
      rcases hy with rfl | rfl
      · exact ⟨_, rfl, .inl rfl⟩
      · exact ⟨_, rfl, .inr rfl⟩
    obtain ⟨l, rfl, hl⟩ := hy2
    have ll : l.length ≤ 3 := by rcases hl with rfl | rfl <;> decide
    walk_at "s"
    refine go_adds (by simp; omega) ?_
    walk_at "s"
    refine go_sls (by omega) ?_
    rw [cutL_butlast]
    walk_at "s"
    refine ⟨l, rfl, rfl, by omega, by rcases hl with rfl | rfl <;> decide, ?_⟩
    walk_at "s"
    refine go_adds (by omega) ?_
    walk_at "s"
    refine go_lst' fun a H1 n1 s1 e1 => ?_
    walk_at "s"
    refine go_tup' fun b H2 n2 s2 e2 => ?_
    walk_at "s"
    refine go_lst' fun r H3 n3 s3 e3 => ?_
    have d1 := s0.deal.same s1
    have d2 := d1.deal.same s2
    have d3 := d2.deal.same s3
    have f1 : FlatAt K (L2.del H3 d.a) (.ref a) := FlatAt.same (.inr ⟨a, [S l], rfl, rfl, by simp, .inl (sq_of (s0.deal.at n1 e1))⟩) (d2.trans d3).same
    have f2 : FlatAt K (L2.del H3 d.a) (.ref b) := FlatAt.same (.inr ⟨b, [S l], rfl, rfl, by simp, .inr (st_of (d1.deal.at n2 e2))⟩) d3.same
    walk_at "s"
    refine ⟨d, _, rfl, d3.deal, .inl ⟨r, _, rfl, .inl (sq_of (d2.deal.at n3 e3)), by simp, by simp, fun v H5 s5 hv => ?_⟩⟩
    have z : FlatAt K (L2.del H3 d.a) v ∧ BadS v := by
      simp only [List.mem_cons, List.not_mem_nil, or_false] at hv
      rcases hv with rfl | rfl | rfl | rfl | rfl | rfl | rfl | rfl | rfl | rfl | rfl
      · exact ⟨.inl rfl, badS_of (by decide) (by decide)⟩
      · exact ⟨.inl rfl, badS_of (by rcases hl with rfl | rfl <;> decide) (by rcases hl with rfl | rfl <;> decide)⟩
      · exact ⟨.inl rfl, badS_of (by rcases hl with rfl | rfl <;> decide) (by rcases hl with rfl | rfl <;> decide)⟩
      · exact ⟨.inl rfl, badS_of (by rcases hl with rfl | rfl <;> decide) (by rcases hl with rfl | rfl <;> decide)⟩
      · exact ⟨.inl rfl, badS_of (by rcases hl with rfl | rfl <;> decide) (by rcases hl with rfl | rfl <;> decide)⟩
      · exact ⟨.inl rfl, fun l e => by cases e⟩
      · exact ⟨.inl rfl, fun l e => by cases e⟩
      · exact ⟨.inl rfl, fun l e => by cases e⟩
      · exact ⟨f1, fun l e => by cases e⟩
      · exact ⟨f2, fun l e => by cases e⟩
      · exact ⟨.inl rfl, badS_of (by decide) (by decide)⟩
    walk_at "s"
    refine go_lst' fun D H6 n6 s6 e6 => ?_
    have d6 := s5.deal.same s6
    exact q D v H6 ((((s0.trans d1).trans d2).trans d3).trans (s5.trans d6)) (s5.deal.at n6 e6) (z.1.same (s5.trans d6).same) z.2
end
end W

namespace W
open PySem PySem.Spec PyProof.Rows L2 TL G
def sp_l_bad_word (K : PySem.W.Frag) : Sp := fun vs H Q _ => ∃ (d : DA), vs = [.ref d.a] ∧ Deal K H d ∧
  ∀ (D : Addr) (v : V) (H' : Hp), Dr K d H H' → L2.del H' d.a D = some (.lst [v]) → BadW K BIO (L2.del H' d.a) v → Q (.ref D) H'
section
variable {P : Program} {w : World} {K : PySem.W.Frag} {mg : Str → Option Value} {base : Heap}
theorem ok_l_bad_word (T : Top w K mg) : Ok P w K mg base 3 ("_law_bad_word", none) ["deal"] (sp_l_bad_word K) := by
  have G_l_pick := ok_l_pick (P := P) (w := w) (base := base) T
  refine T.f_l_bad_word.ok sc_l_bad_word (fun vs H Q E h => ?_) (fun cdv A outer s H vs Q E hr h => ?_)
  · obtain ⟨_, rfl, _⟩ := h
    rfl
  · refine ⟨_, PSs.nox (pss_cons (ps_set (i := 1) sc_l_bad_word.nd rfl (.inl rfl) (pe_lst (pa_cons pe_non (pa_cons pe_bl (pa_cons pe_int (pa_cons (pe_lst (pa_cons (pe_s [40, 66, 41]) pa_nil)) (pa_cons (pe_tup (pa_cons (pe_s [66]) (pa_cons (pe_s [73]) pa_nil))) (pa_cons (pe_s []) (pa_cons (pe_s [40, 41]) (pa_cons (pe_s [66]) (pa_cons (pe_s [40, 66]) (pa_cons (pe_s [66, 41]) (pa_cons (pe_s [40, 66, 66, 66, 66, 66, 41]) (pa_cons (pe_s [66, 66, 66, 66, 66, 66, 66, 66, 66, 66, 66, 66, 66, 40, 66, 41]) (pa_cons (pe_s [40, 98, 41]) (pa_cons (pe_s [40, 66, 41, 32]) pa_nil))))))))))))))))
      (pss_cons (ps_set (i := 1) sc_l_bad_word.nd rfl (.inl rfl) (pe_op op_addU (pv 1) (pe_lst (pa_cons (pe_s [32, 40, 66, 41]) (pa_cons (pe_s [40, 66, 41, 66]) (pa_cons (pe_s [40, 40, 66, 41, 41]) (pa_cons (pe_s [66, 40, 41]) (pa_cons (pe_s [40, 66, 41, 40, 66, 41]) (pa_cons (pe_s [66, 88, 40, 66, 41]) (pa_cons (pe_s [66, 32, 40, 66, 41]) (pa_cons (pe_s [40, 66, 66, 44, 66, 41]) (pa_cons (pe_s [41, 66, 40]) (pa_cons (pe_s [40, 84, 41]) pa_nil)))))))))))))
      (pss_one (ps_ret (pe_lst (pa_cons (by exact pe_callU (E := fun _ => E0) G_l_pick (hr.mono (by first | decide | omega)) rfl T.g_l_pick T.f_l_pick.kp (b_l_pick T) pass_n (pa_cons (pv 0) (pa_cons (pv 1) pa_nil))) pa_nil)))))), ?_⟩
    obtain ⟨d, rfl, hd, q⟩ := h
    show tSeq _ _ _ [some (.ref d.a), none] H
    walk_at "s"
    refine go_lst' fun a H1 n1 s1 e1 => ?_
    walk_at "s"
    refine go_tup' fun b H2 n2 s2 e2 => ?_
    walk_at "s"
    refine go_lst' fun r H3 n3 s3 e3 => ?_
    walk_at "s"
    refine go_lst' fun r2 H4 n4 s4 e4 => ?_
    walk_at "s"
    refine go_cat (s4 _ _ e3) e4 (by simp) fun r3 H5 n5 s5 e5 => ?_
    have d1 := hd.same s1
    have d2 := d1.deal.same s2
    have d3 := d2.deal.same s3
    have d4 := d3.deal.same s4
    have d5 := d4.deal.same s5
    have f1 : BadW K BIO (L2.del H5 d.a) (.ref a) := BadW.same (.inl (.inl ⟨_, sq_of (hd.at n1 e1), by decide +kernel⟩)) (((d2.trans d3).trans d4).trans d5).same
    have f2 : BadW K BIO (L2.del H5 d.a) (.ref b) := BadW.same (.inl (.inr ⟨_, st_of (d1.deal.at n2 e2), by decide +kernel⟩)) ((d3.trans d4).trans d5).same
    walk_at "s"
    refine ⟨d, _, rfl, d5.deal, .inl ⟨r3, _, rfl, .inl (sq_of (d4.deal.at n5 e5)), by simp, by simp, fun v H6 s6 hv => ?_⟩⟩
    have z : BadW K BIO (L2.del H5 d.a) v := by
      simp only [List.cons_append, List.nil_append, List.mem_cons, List.not_mem_nil, or_false] at hv
      rcases hv with rfl | rfl | rfl | rfl | rfl | rfl | rfl | rfl | rfl | rfl | rfl | rfl | rfl | rfl | rfl | rfl | rfl | rfl | rfl | rfl | rfl | rfl | rfl | rfl
      all_goals first
        | exact f1
        | exact f2
        | exact badW_of (by decide) (by decide) (by decide)
        | exact .inl (show kitB "NoneType" "str" = some false by decide +kernel)
        | exact .inl (show kitB "bool" "str" = some false by decide +kernel)
        | exact .inl (show kitB "int" "str" = some false by decide +kernel)
    walk_at "s"
    refine go_lst' fun D H7 n7 s7 e7 => ?_
    have d7 := s6.deal.same s7
    exact q D v H7 (((((d1.trans d2).trans d3).trans d4).trans d5).trans (s6.trans d7)) (s6.deal.at n7 e7) (z.same (s6.trans d7).same)
end
end W

namespace W
open PySem PySem.Spec PyProof.Rows L2 TL G
def spAl (K : PySem.W.Frag) (sp' : Sp) : Sp := fun vs H Q _ => ∃ (x y : V), vs = [x, y] ∧ ((scalB x = true ∧ scalB y = true ∧ Q (.bl (decide (x = y))) H) ∨
  (∃ (a b : Addr) (xs : List V), x = .ref a ∧ y = .ref b ∧ xs.all scalB = true ∧ xs.length ≤ 1000 ∧ ((SqL K H a xs ∧ SqL K H b xs) ∨ (SqT K H a xs ∧ SqT K H b xs)) ∧ (∀ u Q1, scalB u = true → Q1 (.bl true) H → sp' [u, u] H Q1 E0) ∧ Q (.bl true) H))
def sp_l_alike (K : PySem.W.Frag) : Sp := fun vs H Q _ => ∃ (x y : V), vs = [x, y] ∧ ((scalB x = true ∧ scalB y = true ∧ Q (.bl (decide (x = y))) H) ∨ (Copy K H y x ∧ Q (.bl true) H))
def spNoA : Sp := fun _ _ _ _ => False
theorem lenEq {K : PySem.W.Frag} {a : Addr} {xs : List V} {H : Hp} {Q : VK} (h : SqL K H a xs ∨ SqT K H a xs) (q : Q (.int (xs.length : Int)) H) : rLenU K [.ref a] H Q := by
  rcases h with h | h
  · exact go_lenl h q
  · exact go_lent h q
theorem ixEq {K : PySem.W.Frag} {a : Addr} {xs : List V} {H : Hp} {Q : VK} {i : Nat} (h : SqL K H a xs ∨ SqT K H a xs) (hi : i < xs.length) (q : Q (xs[i]) H) : rIxU K (.ref a) (.int (i : Int)) H Q := by
  have e : atI xs (i : Int) = some xs[i] := atI_at (by omega) (by rw [Int.toNat_natCast, List.getElem?_eq_getElem hi])
  rcases h with h | h
  · exact go_ixl h e q
  · exact go_ixt h e q
section
variable {P : Program} {w : World} {K : PySem.W.Frag} {mg : Str → Option Value} {base : Heap}
theorem alike_step (T : Top w K mg) {k : Nat} {sp' : Sp} (G_l_equal : Ok P w K mg base 4 ("_law_equal", none) ["answer", "due"] (sp_l_equal K)) (hk : 4 ≤ k) (G_l_alike : Ok P w K mg base k ("_law_alike", none) ["answer", "due"] sp') : Ok P w K mg base (k + 1) ("_law_alike", none) ["answer", "due"] (spAl K sp') := by
  refine T.f_l_alike.ok sc_l_alike (fun vs H Q E h => ?_) (fun cdv A outer s H vs Q E hr h => ?_)
  · obtain ⟨_, _, rfl, _⟩ := h
    rfl
  · refine ⟨_, PSs.nox (pss_cons (ps_ifU (pw_andU (pt_not (pt_t (pe_callB (call_isiK K rfl) (by rfl) T.z_isinstance (by decide +kernel) (pa_cons (pv 1) (pa_cons (pe_bltn (v := .ty "list") (by rfl) T.z_list (by decide +kernel) rfl) pa_nil))))) (pw_and1 (pt_not (pt_t (pe_callB (call_isiK K rfl) (by rfl) T.z_isinstance (by decide +kernel) (pa_cons (pv 1) (pa_cons (pe_bltn (v := .ty "tuple") (by rfl) T.z_tuple (by decide +kernel) rfl) pa_nil))))))).pt (pss_one (ps_ret (by exact pe_callU (E := fun _ => E0) G_l_equal (hr.mono (by first | decide | omega)) rfl T.g_l_equal T.f_l_equal.kp (b_l_equal T) pass_n (pa_cons (pv 0) (pa_cons (pv 1) pa_nil))))) pss_nil)
      (pss_cons (ps_ifU (pw_andU (pt_not (pt_t (pe_callB (call_isiK K rfl) (by rfl) T.z_isinstance (by decide +kernel) (pa_cons (pv 0) (pa_cons (pe_bltn (v := .ty "list") (by rfl) T.z_list (by decide +kernel) rfl) pa_nil))))) (pw_and1 (pt_not (pt_t (pe_callB (call_isiK K rfl) (by rfl) T.z_isinstance (by decide +kernel) (pa_cons (pv 0) (pa_cons (pe_bltn (v := .ty "tuple") (by rfl) T.z_tuple (by decide +kernel) rfl) pa_nil))))))).pt (pss_one (ps_ret pe_bl)) pss_nil)
      (pss_cons (ps_ifU (pt_c (op_neK K rfl hr.units) (pe_callB (call_lenK K rfl) (by rfl) T.z_len (by decide +kernel) (pa_cons (pv 0) pa_nil)) (pe_callB (call_lenK K rfl) (by rfl) T.z_len (by decide +kernel) (pa_cons (pv 1) pa_nil)) (nomark _)) (pss_one (ps_ret pe_bl)) pss_nil)
      (pss_cons (ps_for PassesOwn.never rfl (pi_range1 (by rfl) T.z_range (pa_cons (pe_callB (call_lenK K rfl) (by rfl) T.z_len (by decide +kernel) (pa_cons (pv 1) pa_nil)) pa_nil)) (pg_name (i := 2) sc_l_alike.nd rfl (Or.inl rfl)) (pss_one (ps_ifU (pt_not (pt_t (by exact pe_callU (E := fun _ => E0) G_l_alike hr rfl T.g_l_alike T.f_l_alike.kp (b_l_alike T) pass_n (pa_cons (pe_ix (ix_K K rfl) (pv 0) (pv 2) (fun _ _ => rfl)) (pa_cons (pe_ix (ix_K K rfl) (pv 1) (pv 2) (fun _ _ => rfl)) pa_nil))))) (pss_one (ps_ret pe_bl)) pss_nil)))
      (pss_one (ps_ret pe_bl)))))), ?_⟩
    obtain ⟨x, y, rfl, ⟨hx, hy, q⟩ | ⟨a, b, xs, rfl, rfl, hx, hl, hs, hsp, q⟩⟩ := h
    · show tSeq _ _ _ [some x, some y, none] H
      walk_at "s"
      refine go_isi (scal_list hy) ?_
      walk_at "s"
      refine go_yes rfl ?_
      walk_at "s"
      refine go_isi (scal_tup hy) ?_
      walk_at "s"
      refine go_yes rfl ?_
      walk_at "s"
      exact ⟨x, y, rfl, hx, hy, q⟩
    · show tSeq _ _ _ [some (.ref a), some (.ref b), none] H
      have ha : SqL K H a xs ∨ SqT K H a xs := by
        rcases hs with hs | hs
        · exact .inl hs.1
        · exact .inr hs.1
      have hb : SqL K H b xs ∨ SqT K H b xs := by
        rcases hs with hs | hs
        · exact .inl hs.2
        · exact .inr hs.2
      have fin : (tSeq (uIfS (uTest (tOp (rNeU K) (tCB (rLenU K) (tCons (tVar 0) tNil)) (tCB (rLenU K) (tCons (tVar 1) tNil)))) (tRet (tC (.bl false))) tNext)
          (tSeq (tFor (iRng1 (tCons (tCB (rLenU K) (tCons (tVar 1) tNil)) tNil)) (gName 2) (uIfS (tNot (uTest (uCall sp' (fun _ => E0) (tCons (tOp (rIxU K) (tVar 0) (tVar 2)) (tCons (tOp (rIxU K) (tVar 1) (tVar 2)) tNil))))) (tRet (tC (.bl false))) tNext)) (tRet (tC (.bl true))))) { nx := fun _ H' => Q .non H', rt := Q } [some (.ref a), some (.ref b), none] H := by
        walk_at "g"
        refine lenEq ha ?_
        walk_at "g"
        refine lenEq hb ?_
        walk_at "g"
        refine go_iteN (fun h3 => absurd rfl h3) (fun _ => ?_)
        walk_at "g"
        refine lenEq hb ?_
        walk_at "g"
        refine go_r1 ?_ ⟨by omega, by omega⟩
        refine for_it (walk_range (n := ((xs.length : Int)).toNat)) (fun i σ' H' => H' = H ∧ ∃ z, σ' = [some (.ref a), some (.ref b), z]) ⟨rfl, none, rfl⟩ (fun _ _ _ _ _ => trivial) ?_ ?_
        · rintro i x σ' H3 H' hi ⟨rfl, z, rfl⟩ ⟨rfl, rfl⟩
          show uIfS _ _ _ _ [some (.ref a), some (.ref b), some (.int (0 + (i : Int)))] _
          rw [Int.zero_add]
          have hi' : i < xs.length := by omega
          walk_at "g"
          refine ixEq ha hi' ?_
          walk_at "g"
          refine ixEq hb hi' ?_
          walk_at "g"
          refine hsp _ _ (List.all_eq_true.mp hx _ (List.getElem_mem hi')) ?_
          walk_at "g"
          refine go_no rfl ?_
          walk_at "g"
          exact ⟨rfl, _, rfl⟩
        · rintro σ' H3 ⟨rfl, z, rfl⟩
          walk_at "g"
          exact q
      walk_at "g"
      rcases hs with ⟨h1, h2⟩ | ⟨h1, h2⟩
      · refine go_isi (lst_list h2) ?_
        walk_at "g"
        refine go_no rfl ?_
        walk_at "g"
        refine go_isi (lst_list h1) ?_
        walk_at "g"
        refine go_no rfl ?_
        exact fin
      · refine go_isi (tup_list h2) ?_
        walk_at "g"
        refine go_yes rfl ?_
        walk_at "g"
        refine go_isi (tup_tup h2) ?_
        walk_at "g"
        refine go_no rfl ?_
        walk_at "g"
        refine go_isi (tup_list h1) ?_
        walk_at "g"
        refine go_yes rfl ?_
        walk_at "g"
        refine go_isi (tup_tup h1) ?_
        walk_at "g"
        refine go_no rfl ?_
        exact fin
theorem ok_l_alike (T : Top w K mg) : Ok P w K mg base 7 ("_law_alike", none) ["answer", "due"] (sp_l_alike K) := by
  have G0 : Ok P w K mg base 4 ("_law_alike", none) ["answer", "due"] spNoA := ⟨fun _ _ _ _ h => h.elim, fun _ _ _ _ _ _ _ _ _ _ _ _ _ h => h.elim⟩
  have G1 := alike_step T (ok_l_equal T) (by decide) G0
  have G2 := alike_step T (ok_l_equal T) (by decide) G1
  refine (FnOk.imp G2 fun vs H Q E h => ?_).mono (by decide)
  obtain ⟨x, y, rfl, h | ⟨hc, q⟩⟩ := h
  · exact ⟨x, y, rfl, .inl h⟩
  · rcases hc with ⟨hs, rfl⟩ | ⟨a, b, xs, rfl, rfl, h1, h2, h3⟩
    · exact ⟨_, _, rfl, .inl ⟨hs, hs, by rw [decide_eq_true rfl]; exact q⟩⟩
    · refine ⟨_, _, rfl, .inr ⟨b, a, xs, rfl, rfl, h1, h2, ?_, fun u Q1 hu q1 => ⟨u, u, rfl, .inl ⟨hu, hu, by rw [decide_eq_true rfl]; exact q1⟩⟩, q⟩⟩
      rcases h3 with h3 | h3
      · exact .inl ⟨h3.2, h3.1⟩
      · exact .inr ⟨h3.2, h3.1⟩
end
end W

namespace W
open PySem PySem.Spec PyProof.Rows L2 TL G
def sp_l_refused (K : PySem.W.Frag) : Sp := fun vs H Q _ => ∃ (t : Addr) (nm : List Nat) (v v' : V), vs = [.ref t, S nm, v] ∧ H t = some (.lst [S [114, 101, 102, 117, 115, 101, 100], S nm, v']) ∧ Copy K H v v' ∧ Q (.bl true) H
section
variable {P : Program} {w : World} {K : PySem.W.Frag} {mg : Str → Option Value} {base : Heap}
theorem ok_l_refused (T : Top w K mg) : Ok P w K mg base 8 ("_law_refused", none) ["told", "name", "value"] (sp_l_refused K) := by
  have G_l_alike := ok_l_alike (P := P) (w := w) (base := base) T
  refine T.f_l_refused.ok sc_l_refused (fun vs H Q E h => ?_) (fun cdv A outer s H vs Q E hr h => ?_)
  · obtain ⟨_, _, _, _, rfl, _⟩ := h
    rfl
  · refine ⟨_, PSs.nox (pss_one (ps_ret (pe_andU (pe_cmpR (op_eqK K rfl hr.units) (pe_ix (ix_K K rfl) (pv 0) pe_int (fun _ _ => rfl)) (pe_s [114, 101, 102, 117, 115, 101, 100]) (nomark _)) (pe_andU (pe_cmpR (op_eqK K rfl hr.units) (pe_ix (ix_K K rfl) (pv 0) pe_int (fun _ _ => rfl)) (pv 1) (nomark _)) (pe_one (by exact pe_callU (E := fun _ => E0) G_l_alike (hr.mono (by first | decide | omega)) rfl T.g_l_alike T.f_l_alike.kp (b_l_alike T) pass_n (pa_cons (pe_ix (ix_K K rfl) (pv 0) pe_int (fun _ _ => rfl)) (pa_cons (pv 2) pa_nil)))))))), ?_⟩
    obtain ⟨t, nm, v, v', rfl, e, hc, q⟩ := h
    show tRet _ _ [some (.ref t), some (S nm), some v] H
    walk_at "s"
    refine go_yes (decide_eq_true rfl) ?_
    walk_at "s"
    refine go_yes (decide_eq_true rfl) ?_
    walk_at "s"
    exact ⟨v', v, rfl, .inr ⟨hc, q⟩⟩
end
end W

namespace W
open PySem PySem.Spec PyProof.Rows L2 TL G
abbrev wLetter : List Nat := [108, 101, 116, 116, 101, 114]
abbrev wNamed : List Nat := [110, 97, 109, 101, 100]
abbrev wPos : List Nat := [112, 111, 115, 105, 116, 105, 111, 110, 95, 111, 102]
abbrev wBal : List Nat := [98, 97, 108, 97, 110, 99, 101]
abbrev nNum : List Nat := [78, 117, 109, 98, 101, 114, 69, 114, 114, 111, 114]
abbrev nOpt : List Nat := [79, 112, 116, 105, 111, 110, 69, 114, 114, 111, 114]
abbrev nWord : List Nat := [87, 111, 114, 100, 69, 114, 114, 111, 114]
/-- what is asked, and what is refused -/
inductive Ask (K : PySem.W.Frag) (H : Hp) (Q : VK) : List Nat → V → V → V → Prop where
  | letN {one two three : V} : badN two 0 = true → Told1 K nNum two H Q → Ask K H Q wLetter one two three
  | letW {one three : V} {n : Int} : 0 ≤ n → BadW K BIO H one → Told0 nWord H Q → Ask K H Q wLetter one (.int n) three
  | balN {one two three : V} : badN two 0 = true → Told1 K nNum two H Q → Ask K H Q wBal one two three
  | balW {one three : V} {n : Int} : 0 ≤ n → BadW K BIO H one → Told0 nWord H Q → Ask K H Q wBal one (.int n) three
  | namN {one two three : V} : badN two 0 = true → Told1 K nNum two H Q → Ask K H Q wNamed one two three
  | namO {one three : V} {n : Int} : 0 ≤ n → BadS three → Told1 K nOpt three H Q → Ask K H Q wNamed one (.int n) three
  | namW {one : V} {n : Int} {l : List Nat} {x : Nat} : 0 ≤ n → Side l x → BadW K BIO H one → Told0 nWord H Q → Ask K H Q wNamed one (.int n) (S l)
  | posO {one two three : V} : BadS two → Told1 K nOpt two H Q → Ask K H Q wPos one two three
  | posN {one three : V} {l : List Nat} {x : Nat} : Side l x → badN three 1 = true → Told1 K nNum three H Q → Ask K H Q wPos one (S l) three
  | posW {one : V} {n : Int} {l : List Nat} {x : Nat} : Side l x → 1 ≤ n → BadW K BIO H one → Told0 nWord H Q → Ask K H Q wPos one (S l) (.int n)
def sp_l_told (K : PySem.W.Frag) : Sp := fun vs H Q _ => ∃ (wh : List Nat) (one two three : V), vs = [S wh, one, two, three] ∧ FlatAt K H two ∧ FlatAt K H three ∧ Ask K H Q wh one two three
section
variable {P : Program} {w : World} {K : PySem.W.Frag} {mg : Str → Option Value} {base : Heap}
theorem ok_l_told (T : Top w K mg) : Ok P w K mg base 8 ("_law_told", none) ["what", "one", "two", "three"] (sp_l_told K) := by
  have G_p_balance := ok_p_balance (P := P) (w := w) (base := base) T
  have G_p_letter := ok_p_letter (P := P) (w := w) (base := base) T
  have G_p_named := ok_p_named (P := P) (w := w) (base := base) T
  have G_p_position_of := ok_p_position_of (P := P) (w := w) (base := base) T
  refine T.f_l_told.ok sc_l_told (fun vs H Q E h => ?_) (fun cdv A outer s H vs Q E hr h => ?_)
  · obtain ⟨_, _, _, _, rfl, _⟩ := h
    rfl
  · obtain ⟨wh, one, two, three, rfl, f2, f3, h⟩ := h
    refine told_ex (K := K) (LE := He.ga K "LeadsError") (i := 4) [some (S wh), some one, some two, some three, none, none] [("NumberError", "at_number", nNum), ("OptionError", "at_option", nOpt)] [("WordError", nWord)] rfl ((pss_one (ps_try_as (i := 4) rfl rfl sc_l_told.nd rfl rfl ⟨rfl, by decide, .inl T.g_LeadsError⟩ takes0 (fun W pn xe tk pz => (pss_cons (ps_ifU (pt_c (op_eqK K rfl hr.units) (pv 0) (pe_s [108, 101, 116, 116, 101, 114]) (nomark _)) (pss_one (ps_ret (pe_lst (pa_cons (pe_s [116, 111, 108, 100]) (pa_cons (by exact pe_callU (E := WE W) G_p_letter (hr.mono (by first | decide | omega)) rfl T.g_p_letter T.f_p_letter.kp (b_p_letter T) (fun σ => passAt tk σ) (pa_cons (pv 1) (pa_cons (pv 2) pa_nil))) pa_nil))))) pss_nil)
          (pss_cons (ps_ifU (pt_c (op_eqK K rfl hr.units) (pv 0) (pe_s [110, 97, 109, 101, 100]) (nomark _)) (pss_one (ps_ret (pe_lst (pa_cons (pe_s [116, 111, 108, 100]) (pa_cons (by exact pe_callU (E := WE W) G_p_named (hr.mono (by first | decide | omega)) rfl T.g_p_named T.f_p_named.kp (b_p_named T) (fun σ => passAt tk σ) (pa_cons (pv 1) (pa_cons (pv 2) (pa_cons (pv 3) pa_nil)))) pa_nil))))) pss_nil)
          (pss_cons (ps_ifU (pt_c (op_eqK K rfl hr.units) (pv 0) (pe_s [112, 111, 115, 105, 116, 105, 111, 110, 95, 111, 102]) (nomark _)) (pss_one (ps_ret (pe_lst (pa_cons (pe_s [116, 111, 108, 100]) (pa_cons (by exact pe_callU (E := WE W) G_p_position_of (hr.mono (by first | decide | omega)) rfl T.g_p_position_of T.f_p_position_of.kp (b_p_position_of T) (fun σ => passAt tk σ) (pa_cons (pv 1) (pa_cons (pv 2) (pa_cons (pv 3) pa_nil)))) pa_nil))))) pss_nil)
          (pss_one (ps_ret (pe_lst (pa_cons (pe_s [116, 111, 108, 100]) (pa_cons (by exact pe_callU (E := WE W) G_p_balance (hr.mono (by first | decide | omega)) rfl T.g_p_balance T.f_p_balance.kp (b_p_balance T) (fun σ => passAt tk σ) (pa_cons (pv 1) (pa_cons (pv 2) pa_nil))) pa_nil))))))))) (fun a oe cls d pn hz hf => (pss_cons (ps_set (i := 5) sc_l_told.nd rfl (.inl rfl) (pe_lst (pa_cons (pe_callB (call_isX hz hf) (by rfl) T.z_isinstance (by decide +kernel) (pa_cons (pv 4) (pa_cons (by exact pe_glob (v := .ref (He.ga K "NumberError")) rfl T.g_NumberError rfl) pa_nil))) (pa_cons (pe_callB (call_isX hz hf) (by rfl) T.z_isinstance (by decide +kernel) (pa_cons (pv 4) (pa_cons (by exact pe_glob (v := .ref (He.ga K "OptionError")) rfl T.g_OptionError rfl) pa_nil))) (pa_cons (pe_callB (call_isX hz hf) (by rfl) T.z_isinstance (by decide +kernel) (pa_cons (pv 4) (pa_cons (by exact pe_glob (v := .ref (He.ga K "PlaceError")) rfl T.g_PlaceError rfl) pa_nil))) (pa_cons (pe_callB (call_isX hz hf) (by rfl) T.z_isinstance (by decide +kernel) (pa_cons (pv 4) (pa_cons (by exact pe_glob (v := .ref (He.ga K "BookError")) rfl T.g_BookError rfl) pa_nil))) (pa_cons (pe_callB (call_isX hz hf) (by rfl) T.z_isinstance (by decide +kernel) (pa_cons (pv 4) (pa_cons (by exact pe_glob (v := .ref (He.ga K "HasHome")) rfl T.g_HasHome rfl) pa_nil))) (pa_cons (pe_callB (call_isX hz hf) (by rfl) T.z_isinstance (by decide +kernel) (pa_cons (pv 4) (pa_cons (by exact pe_glob (v := .ref (He.ga K "NoHome")) rfl T.g_NoHome rfl) pa_nil))) (pa_cons (pe_callB (call_isX hz hf) (by rfl) T.z_isinstance (by decide +kernel) (pa_cons (pv 4) (pa_cons (by exact pe_glob (v := .ref (He.ga K "NotFull")) rfl T.g_NotFull rfl) pa_nil))) (pa_cons (pe_callB (call_isX hz hf) (by rfl) T.z_isinstance (by decide +kernel) (pa_cons (pv 4) (pa_cons (by exact pe_glob (v := .ref (He.ga K "NotGood")) rfl T.g_NotGood rfl) pa_nil))) (pa_cons (pe_callB (call_isX hz hf) (by rfl) T.z_isinstance (by decide +kernel) (pa_cons (pv 4) (pa_cons (by exact pe_glob (v := .ref (He.ga K "CountError")) rfl T.g_CountError rfl) pa_nil))) (pa_cons (pe_callB (call_isX hz hf) (by rfl) T.z_isinstance (by decide +kernel) (pa_cons (pv 4) (pa_cons (by exact pe_glob (v := .ref (He.ga K "NotASink")) rfl T.g_NotASink rfl) pa_nil))) (pa_cons (pe_callB (call_isX hz hf) (by rfl) T.z_isinstance (by decide +kernel) (pa_cons (pv 4) (pa_cons (by exact pe_glob (v := .ref (He.ga K "NotFree")) rfl T.g_NotFree rfl) pa_nil))) (pa_cons (pe_callB (call_isX hz hf) (by rfl) T.z_isinstance (by decide +kernel) (pa_cons (pv 4) (pa_cons (by exact pe_glob (v := .ref (He.ga K "RowError")) rfl T.g_RowError rfl) pa_nil))) (pa_cons (pe_callB (call_isX hz hf) (by rfl) T.z_isinstance (by decide +kernel) (pa_cons (pv 4) (pa_cons (by exact pe_glob (v := .ref (He.ga K "PostError")) rfl T.g_PostError rfl) pa_nil))) (pa_cons (pe_callB (call_isX hz hf) (by rfl) T.z_isinstance (by decide +kernel) (pa_cons (pv 4) (pa_cons (by exact pe_glob (v := .ref (He.ga K "RingStands")) rfl T.g_RingStands rfl) pa_nil))) (pa_cons (pe_callB (call_isX hz hf) (by rfl) T.z_isinstance (by decide +kernel) (pa_cons (pv 4) (pa_cons (by exact pe_glob (v := .ref (He.ga K "TooMany")) rfl T.g_TooMany rfl) pa_nil))) (pa_cons (pe_callB (call_isX hz hf) (by rfl) T.z_isinstance (by decide +kernel) (pa_cons (pv 4) (pa_cons (by exact pe_glob (v := .ref (He.ga K "TooLong")) rfl T.g_TooLong rfl) pa_nil))) (pa_cons (pe_callB (call_isX hz hf) (by rfl) T.z_isinstance (by decide +kernel) (pa_cons (pv 4) (pa_cons (by exact pe_glob (v := .ref (He.ga K "LineError")) rfl T.g_LineError rfl) pa_nil))) (pa_cons (pe_callB (call_isX hz hf) (by rfl) T.z_isinstance (by decide +kernel) (pa_cons (pv 4) (pa_cons (by exact pe_glob (v := .ref (He.ga K "WebError")) rfl T.g_WebError rfl) pa_nil))) (pa_cons (pe_callB (call_isX hz hf) (by rfl) T.z_isinstance (by decide +kernel) (pa_cons (pv 4) (pa_cons (by exact pe_glob (v := .ref (He.ga K "ArrowsError")) rfl T.g_ArrowsError rfl) pa_nil))) (pa_cons (pe_callB (call_isX hz hf) (by rfl) T.z_isinstance (by decide +kernel) (pa_cons (pv 4) (pa_cons (by exact pe_glob (v := .ref (He.ga K "WordError")) rfl T.g_WordError rfl) pa_nil))) (pa_cons (pe_callB (call_isX hz hf) (by rfl) T.z_isinstance (by decide +kernel) (pa_cons (pv 4) (pa_cons (by exact pe_glob (v := .ref (He.ga K "MachineError")) rfl T.g_MachineError rfl) pa_nil))) (pa_cons (pe_callB (call_isX hz hf) (by rfl) T.z_isinstance (by decide +kernel) (pa_cons (pv 4) (pa_cons (by exact pe_glob (v := .ref (He.ga K "ChangeError")) rfl T.g_ChangeError rfl) pa_nil))) (pa_cons (pe_callB (call_isX hz hf) (by rfl) T.z_isinstance (by decide +kernel) (pa_cons (pv 4) (pa_cons (by exact pe_glob (v := .ref (He.ga K "PaperError")) rfl T.g_PaperError rfl) pa_nil))) pa_nil)))))))))))))))))))))))))
          (pss_cons (ps_ifU (pw_orU (pt_c (op_neK K rfl hr.units) (pe_bmK K rfl PySem.F.plainAttrs_list PySem.F.slot_list_count PySem.F.type_list_count (mt_cntK K rfl) (pv 5) (pa_cons pe_bl pa_nil)) pe_int (nomark _)) (pw_or1 (pt_not (pt_t (pe_callB (call_isX hz hf) (by rfl) T.z_isinstance (by decide +kernel) (pa_cons (pv 4) (pa_cons (pe_bltn (v := .ty "ValueError") (by rfl) T.z_ValueError (by decide +kernel) rfl) pa_nil))))))).pt (pss_one (ps_ret (pe_lst (pa_cons (pe_s [114, 101, 102, 117, 115, 101, 100]) (pa_cons (pe_s [111, 102, 32, 116, 119, 111, 32, 107, 105, 110, 100, 115]) (pa_cons pe_int pa_nil)))))) pss_nil)
          (pss_cons (ps_ifU (pt_t (pe_callB (call_isX hz hf) (by rfl) T.z_isinstance (by decide +kernel) (pa_cons (pv 4) (pa_cons (by exact pe_glob (v := .ref (He.ga K "NumberError")) rfl T.g_NumberError rfl) pa_nil)))) (pss_one (ps_ret (pe_lst (pa_cons (pe_s [114, 101, 102, 117, 115, 101, 100]) (pa_cons (pe_s [78, 117, 109, 98, 101, 114, 69, 114, 114, 111, 114]) (pa_cons (pe_xf T.x_NumberError T.n_NumberError_at_number hz hf (pv 4)) pa_nil)))))) pss_nil)
          (pss_cons (ps_ifU (pt_t (pe_callB (call_isX hz hf) (by rfl) T.z_isinstance (by decide +kernel) (pa_cons (pv 4) (pa_cons (by exact pe_glob (v := .ref (He.ga K "OptionError")) rfl T.g_OptionError rfl) pa_nil)))) (pss_one (ps_ret (pe_lst (pa_cons (pe_s [114, 101, 102, 117, 115, 101, 100]) (pa_cons (pe_s [79, 112, 116, 105, 111, 110, 69, 114, 114, 111, 114]) (pa_cons (pe_xf T.x_OptionError T.n_OptionError_at_option hz hf (pv 4)) pa_nil)))))) pss_nil)
          (pss_cons (ps_ifU (pt_t (pe_callB (call_isX hz hf) (by rfl) T.z_isinstance (by decide +kernel) (pa_cons (pv 4) (pa_cons (by exact pe_glob (v := .ref (He.ga K "WordError")) rfl T.g_WordError rfl) pa_nil)))) (pss_one (ps_ret (pe_lst (pa_cons (pe_s [114, 101, 102, 117, 115, 101, 100]) (pa_cons (pe_s [87, 111, 114, 100, 69, 114, 114, 111, 114]) (pa_cons pe_int pa_nil)))))) pss_nil)
          (pss_one (ps_ret (pe_lst (pa_cons (pe_s [114, 101, 102, 117, 115, 101, 100]) (pa_cons (pe_s [111, 102, 32, 97, 110, 111, 116, 104, 101, 114, 32, 107, 105, 110, 100]) (pa_cons pe_int pa_nil))))))))))))))) rfl ?_ ?_ ?_ ?_ ?_
    · intro e he
      simp only [List.mem_cons, List.not_mem_nil, or_false] at he
      rcases he with rfl | rfl
      · exact T.l_NumberError
      · exact T.l_OptionError
    · intro e he
      simp only [List.mem_cons, List.not_mem_nil, or_false] at he
      rcases he with rfl
      exact T.l_WordError
    · intro e he d v' H' a ed na q
      simp only [List.mem_cons, List.not_mem_nil, or_false] at he
      rcases he with rfl | rfl
      · show tSeq _ _ _ [some (S wh), some one, some two, some three, some (.ref a), none] H'
        have hd : DicAt (some d) H' := .inr ⟨d, _, rfl, ed⟩
        walk_at "s"
        iterate 23
          refine go_isx T.D_NumberError hd (.own _) (T.q_NumberError _ (by decide +kernel)) ?_
          walk_at "s"
        refine go_lst' fun p H1 n1 s1 e1 => ?_
        have hd1 : DicAt (some d) H1 := .inr ⟨d, _, rfl, s1 _ _ ed⟩
        have ed1 := s1 _ _ ed
        walk_at "s"
        refine go_bml (sq_of e1) ?_
        walk_at "s"
        refine go_cntf (sq_of e1) 1 rfl rfl (by decide +kernel) ?_
        walk_at "s"
        refine go_no rfl ?_
        walk_at "s"
        refine go_isx T.D_NumberError hd1 (.ty _) T.v_NumberError ?_
        walk_at "s"
        refine go_no rfl ?_
        walk_at "s"
        refine go_isx T.D_NumberError hd1 (.own _) (T.q_NumberError _ (by decide +kernel)) ?_
        walk_at "s"
        refine go_yes (by decide +kernel) ?_
        walk_at "s"
        refine go_xf ed1 ?_
        walk_at "s"
        refine go_lst' fun p2 H2 n2 s2 e2 => ?_
        exact q p2 H2 (s1.trans s2) e2
      · show tSeq _ _ _ [some (S wh), some one, some two, some three, some (.ref a), none] H'
        have hd : DicAt (some d) H' := .inr ⟨d, _, rfl, ed⟩
        walk_at "s"
        iterate 23
          refine go_isx T.D_OptionError hd (.own _) (T.q_OptionError _ (by decide +kernel)) ?_
          walk_at "s"
        refine go_lst' fun p H1 n1 s1 e1 => ?_
        have hd1 : DicAt (some d) H1 := .inr ⟨d, _, rfl, s1 _ _ ed⟩
        have ed1 := s1 _ _ ed
        walk_at "s"
        refine go_bml (sq_of e1) ?_
        walk_at "s"
        refine go_cntf (sq_of e1) 1 rfl rfl (by decide +kernel) ?_
        walk_at "s"
        refine go_no rfl ?_
        walk_at "s"
        refine go_isx T.D_OptionError hd1 (.ty _) T.v_OptionError ?_
        walk_at "s"
        refine go_no rfl ?_
        walk_at "s"
        refine go_isx T.D_OptionError hd1 (.own _) (T.q_OptionError _ (by decide +kernel)) ?_
        walk_at "s"
        refine go_no (by decide +kernel) ?_
        walk_at "s"
        refine go_isx T.D_OptionError hd1 (.own _) (T.q_OptionError _ (by decide +kernel)) ?_
        walk_at "s"
        refine go_yes (by decide +kernel) ?_
        walk_at "s"
        refine go_xf ed1 ?_
        walk_at "s"
        refine go_lst' fun p2 H2 n2 s2 e2 => ?_
        exact q p2 H2 (s1.trans s2) e2
    · intro e he H' a na q
      simp only [List.mem_cons, List.not_mem_nil, or_false] at he
      rcases he with rfl
      show tSeq _ _ _ [some (S wh), some one, some two, some three, some (.ref a), none] H'
      have hd : ∀ H', DicAt none H' := fun _ => .inl rfl
      walk_at "s"
      iterate 23
        refine go_isx T.D_WordError (hd _) (.own _) (T.q_WordError _ (by decide +kernel)) ?_
        walk_at "s"
      refine go_lst' fun p H1 n1 s1 e1 => ?_
      walk_at "s"
      refine go_bml (sq_of e1) ?_
      walk_at "s"
      refine go_cntf (sq_of e1) 1 rfl rfl (by decide +kernel) ?_
      walk_at "s"
      refine go_no rfl ?_
      walk_at "s"
      refine go_isx T.D_WordError (hd _) (.ty _) T.v_WordError ?_
      walk_at "s"
      refine go_no rfl ?_
      walk_at "s"
      refine go_isx T.D_WordError (hd _) (.own _) (T.q_WordError _ (by decide +kernel)) ?_
      walk_at "s"
      refine go_no (by decide +kernel) ?_
      walk_at "s"
      refine go_isx T.D_WordError (hd _) (.own _) (T.q_WordError _ (by decide +kernel)) ?_
      walk_at "s"
      refine go_no (by decide +kernel) ?_
      walk_at "s"
      refine go_isx T.D_WordError (hd _) (.own _) (T.q_WordError _ (by decide +kernel)) ?_
      walk_at "s"
      refine go_yes (by decide +kernel) ?_
      walk_at "s"
      refine go_lst' fun p2 H2 n2 s2 e2 => ?_
      exact q p2 H2 (s1.trans s2) e2
    · intro W w1 w0
      have wN := w1 ("NumberError", "at_number", nNum) (by simp)
      have wO := w1 ("OptionError", "at_option", nOpt) (by simp)
      have wW := w0 ("WordError", nWord) (by simp)
      clear w1 w0
      walk_at "s"
      cases h with
      | letN hb t =>
        refine go_yes (decide_eq_true rfl) ?_
        walk_at "s"
        exact ⟨_, _, rfl, f2, .inr (.inl ⟨hb, wN _ _ t⟩)⟩
      | letW hn hb t =>
        refine go_yes (decide_eq_true rfl) ?_
        walk_at "s"
        exact ⟨_, _, rfl, f2, .inr (.inr ⟨_, rfl, hn, hb, wW _ t⟩)⟩
      | balN hb t =>
        refine go_no (by decide) ?_
        walk_at "s"
        refine go_no (by decide) ?_
        walk_at "s"
        refine go_no (by decide) ?_
        walk_at "s"
        exact ⟨_, _, rfl, f2, .inr (.inl ⟨hb, wN _ _ t⟩)⟩
      | balW hn hb t =>
        refine go_no (by decide) ?_
        walk_at "s"
        refine go_no (by decide) ?_
        walk_at "s"
        refine go_no (by decide) ?_
        walk_at "s"
        exact ⟨_, _, rfl, f2, .inr (.inr ⟨_, rfl, hn, hb, wW _ t⟩)⟩
      | namN hb t =>
        refine go_no (by decide) ?_
        walk_at "s"
        refine go_yes (decide_eq_true rfl) ?_
        walk_at "s"
        exact ⟨_, _, _, rfl, f2, f3, .inr (.inl ⟨hb, wN _ _ t⟩)⟩
      | namO hn hb t =>
        refine go_no (by decide) ?_
        walk_at "s"
        refine go_yes (decide_eq_true rfl) ?_
        walk_at "s"
        exact ⟨_, _, _, rfl, f2, f3, .inr (.inr (.inl ⟨_, rfl, hn, hb, wO _ _ t⟩))⟩
      | namW hn hs hb t =>
        refine go_no (by decide) ?_
        walk_at "s"
        refine go_yes (decide_eq_true rfl) ?_
        walk_at "s"
        exact ⟨_, _, _, rfl, f2, f3, .inr (.inr (.inr ⟨_, _, _, rfl, hn, rfl, hs, hb, wW _ t⟩))⟩
      | posO hb t =>
        refine go_no (by decide) ?_
        walk_at "s"
        refine go_no (by decide) ?_
        walk_at "s"
        refine go_yes (decide_eq_true rfl) ?_
        walk_at "s"
        exact ⟨_, _, _, rfl, f3, f2, .inr (.inl ⟨hb, wO _ _ t⟩)⟩
      | posN hs hb t =>
        refine go_no (by decide) ?_
        walk_at "s"
        refine go_no (by decide) ?_
        walk_at "s"
        refine go_yes (decide_eq_true rfl) ?_
        walk_at "s"
        exact ⟨_, _, _, rfl, f3, f2, .inr (.inr (.inl ⟨_, _, rfl, hs, hb, wN _ _ t⟩))⟩
      | posW hs hn hb t =>
        refine go_no (by decide) ?_
        walk_at "s"
        refine go_no (by decide) ?_
        walk_at "s"
        refine go_yes (decide_eq_true rfl) ?_
        walk_at "s"
        exact ⟨_, _, _, rfl, f3, f2, .inr (.inr (.inr ⟨_, _, _, rfl, hn, rfl, hs, hb, wW _ t⟩))⟩
end
end W

namespace W
open PySem PySem.Spec PyProof.Rows L2 TL G
def sp_l_refusals_hold (K : PySem.W.Frag) : Sp := fun vs H Q _ => ∃ (d : DA) (p c : List Nat), vs = [.ref d.a, S (wt p c)] ∧ Deal K H d ∧ Lw BIO p c ∧ ∀ H', Dr K d H H' → Q (.bl true) H'
def RowOk (K : PySem.W.Frag) (H : Hp) (one r : V) : Prop := ∃ (a : Addr) (wh : List Nat) (two three : V) (nm : List Nat) (v : V), r = .ref a ∧ H a = some (.lst [S wh, two, three, S nm, v]) ∧ FlatAt K H two ∧ FlatAt K H three ∧ ∀ H1 Q, Same H H1 → Told1 K nm v H1 Q → Ask K H1 Q wh one two three
def Row0 (K : PySem.W.Frag) (H : Hp) (one r : V) : Prop := ∃ (a : Addr) (wh : List Nat) (two three : V), r = .ref a ∧ H a = some (.lst [S wh, two, three]) ∧ FlatAt K H two ∧ FlatAt K H three ∧ ∀ H1 Q, Same H H1 → Told0 nWord H1 Q → Ask K H1 Q wh one two three
theorem getD_mem {xs : List V} {i : Nat} (h : i < xs.length) : xs.getD i .non ∈ xs := by
  rw [List.getD_eq_getElem?_getD, List.getElem?_eq_getElem h]
  exact List.getElem_mem h
abbrev ixR (K : PySem.W.Frag) (i : Int) : TE := tOp (rIxU K) (tVar 8) (tC (.int i))
abbrev rowBody (K : PySem.W.Frag) : TS := uIfS (tNot (uTest (uCall (sp_l_refused K) (fun _ => E0) (tCons (uCall (sp_l_told K) (fun _ => E0) (tCons (ixR K 0) (tCons (tVar 6) (tCons (ixR K 1) (tCons (ixR K 2) tNil))))) (tCons (ixR K 3) (tCons (ixR K 4) tNil)))))) (tRet (tC (.bl false))) tNext
abbrev rowBody0 (K : PySem.W.Frag) : TS := uIfS (tNot (uTest (uCall (sp_l_refused K) (fun _ => E0) (tCons (uCall (sp_l_told K) (fun _ => E0) (tCons (ixR K 0) (tCons (tVar 2) (tCons (ixR K 1) (tCons (ixR K 2) tNil))))) (tCons (tC (S nWord)) (tCons (tC (.int 0)) tNil)))))) (tRet (tC (.bl false))) tNext
theorem rows_loop {K : PySem.W.Frag} {D : Ends} {s0 s1 s2 s3 s4 s5 u : Option V} {one : V} {R : Addr} {F : Hp} {rs : List V} (yR : F R = some (.lst rs)) (rows : ∀ r ∈ rs, RowOk K F one r)
    (q : ∀ u H', Same F H' → D.nx [s0, s1, s2, s3, s4, s5, some one, some (.ref R), u] H') : tFor (iList K (tVar 7)) (gName 8) (rowBody K) D [s0, s1, s2, s3, s4, s5, some one, some (.ref R), u] F := by
  walk_at "g"
  refine go_il (sq_of yR) ?_
  refine for_it walk_l (fun i σ' H' => Same F H' ∧ ∃ u, σ' = [s0, s1, s2, s3, s4, s5, some one, some (.ref R), u]) ⟨Same.refl _, _, rfl⟩ (fun i σ' H' _ ⟨s', _⟩ => sq_of (s' _ _ yR)) ?_ ?_
  · rintro i x σ' B2 H2' hi ⟨sB2, u2, rfl⟩ ⟨rfl, e⟩
    obtain ⟨a, wh, two, three, nm, v, er, ea, ft, fh, ask⟩ := rows _ (getD_mem hi)
    rw [er] at e
    subst e
    have ea' := sB2 _ _ ea
    clear er ea rows
    show uIfS _ _ _ _ [s0, s1, s2, s3, s4, s5, some one, some (.ref R), some (.ref a)] _
    walk_at "s"
    refine ⟨wh, one, two, three, rfl, ft.same sB2, fh.same sB2, ask _ _ sB2 fun D v' H7 s7 c7 e7 => ?_⟩
    have ea7 := s7 _ _ ea'
    clear ask ft fh
    walk_at "s"
    refine ⟨D, nm, v, v', rfl, e7, c7, ?_⟩
    walk_at "s"
    refine go_no rfl ?_
    walk_at "s"
    exact ⟨sB2.trans s7, _, rfl⟩
  · rintro σ' B2 ⟨sB2, u2, rfl⟩
    exact q _ _ sB2
theorem rows0_loop {K : PySem.W.Frag} {D : Ends} {s0 s1 s3 s4 s5 s6 u : Option V} {bad : V} {R : Addr} {F : Hp} {rs : List V} (yR : F R = some (.lst rs)) (rows : ∀ r ∈ rs, Row0 K F bad r)
    (q : ∀ u H', Same F H' → D.nx [s0, s1, some bad, s3, s4, s5, s6, some (.ref R), u] H') : tFor (iList K (tVar 7)) (gName 8) (rowBody0 K) D [s0, s1, some bad, s3, s4, s5, s6, some (.ref R), u] F := by
  walk_at "g"
  refine go_il (sq_of yR) ?_
  refine for_it walk_l (fun i σ' H' => Same F H' ∧ ∃ u, σ' = [s0, s1, some bad, s3, s4, s5, s6, some (.ref R), u]) ⟨Same.refl _, _, rfl⟩ (fun i σ' H' _ ⟨s', _⟩ => sq_of (s' _ _ yR)) ?_ ?_
  · rintro i x σ' B2 H2' hi ⟨sB2, u2, rfl⟩ ⟨rfl, e⟩
    obtain ⟨a, wh, two, three, er, ea, ft, fh, ask⟩ := rows _ (getD_mem hi)
    rw [er] at e
    subst e
    have ea' := sB2 _ _ ea
    clear er ea rows
    show uIfS _ _ _ _ [s0, s1, some bad, s3, s4, s5, s6, some (.ref R), some (.ref a)] _
    walk_at "s"
    refine ⟨wh, bad, two, three, rfl, ft.same sB2, fh.same sB2, ask _ _ sB2 fun D H7 s7 e7 => ?_⟩
    clear ask ft fh
    walk_at "s"
    refine ⟨D, nWord, .int 0, .int 0, rfl, e7, .inl ⟨rfl, rfl⟩, ?_⟩
    walk_at "s"
    refine go_no rfl ?_
    walk_at "s"
    exact ⟨sB2.trans s7, _, rfl⟩
  · rintro σ' B2 ⟨sB2, u2, rfl⟩
    exact q _ _ sB2
section
variable {P : Program} {w : World} {K : PySem.W.Frag} {mg : Str → Option Value} {base : Heap}
theorem ok_l_refusals_hold (T : Top w K mg) : Ok P w K mg base 9 ("_law_refusals_hold", none) ["deal", "word_text"] (sp_l_refusals_hold K) := by
  have G_l_bad_number := ok_l_bad_number (P := P) (w := w) (base := base) T
  have G_l_bad_option := ok_l_bad_option (P := P) (w := w) (base := base) T
  have G_l_bad_word := ok_l_bad_word (P := P) (w := w) (base := base) T
  have G_l_refused := ok_l_refused (P := P) (w := w) (base := base) T
  have G_l_told := ok_l_told (P := P) (w := w) (base := base) T
  refine T.f_l_refusals_hold.ok sc_l_refusals_hold (fun vs H Q E h => ?_) (fun cdv A outer s H vs Q E hr h => ?_)
  · obtain ⟨_, _, _, rfl, _⟩ := h
    rfl
  · refine ⟨_, PSs.nox (pss_cons (ps_set (i := 2) sc_l_refusals_hold.nd rfl (.inl rfl) (pe_ix (ix_K K rfl) (by exact pe_callU (E := fun _ => E0) G_l_bad_word (hr.mono (by first | decide | omega)) rfl T.g_l_bad_word T.f_l_bad_word.kp (b_l_bad_word T) pass_n (pa_cons (pv 0) pa_nil)) pe_int (fun _ _ => rfl)))
      (pss_cons (ps_set (i := 3) sc_l_refusals_hold.nd rfl (.inl rfl) (pe_ix (ix_K K rfl) (by exact pe_callU (E := fun _ => E0) G_l_bad_number (hr.mono (by first | decide | omega)) rfl T.g_l_bad_number T.f_l_bad_number.kp (b_l_bad_number T) pass_n (pa_cons (pv 0) (pa_cons pe_int (pa_cons (pe_un un_neg pe_int) pa_nil)))) pe_int (fun _ _ => rfl)))
      (pss_cons (ps_set (i := 4) sc_l_refusals_hold.nd rfl (.inl rfl) (pe_ix (ix_K K rfl) (by exact pe_callU (E := fun _ => E0) G_l_bad_number (hr.mono (by first | decide | omega)) rfl T.g_l_bad_number T.f_l_bad_number.kp (b_l_bad_number T) pass_n (pa_cons (pv 0) (pa_cons pe_int (pa_cons (pe_un un_neg pe_int) pa_nil)))) pe_int (fun _ _ => rfl)))
      (pss_cons (ps_set (i := 5) sc_l_refusals_hold.nd rfl (.inl rfl) (pe_ix (ix_K K rfl) (by exact pe_callU (E := fun _ => E0) G_l_bad_option (hr.mono (by first | decide | omega)) rfl T.g_l_bad_option T.f_l_bad_option.kp (b_l_bad_option T) pass_n (pa_cons (pv 0) (pa_cons (pe_lst (pa_cons (pe_s [105, 110]) (pa_cons (pe_s [111, 117, 116]) pa_nil))) pa_nil))) pe_int (fun _ _ => rfl)))
      (pss_cons (ps_for PassesOwn.never rfl (pi_listK K rfl (pe_lst (pa_cons (pv 1) (pa_cons (pv 2) pa_nil)))) (pg_name (i := 6) sc_l_refusals_hold.nd rfl (Or.inl rfl)) (pss_cons (ps_set (i := 7) sc_l_refusals_hold.nd rfl (.inl rfl) (pe_lst (pa_cons (pe_lst (pa_cons (pe_s [108, 101, 116, 116, 101, 114]) (pa_cons (pv 3) (pa_cons pe_int (pa_cons (pe_s [78, 117, 109, 98, 101, 114, 69, 114, 114, 111, 114]) (pa_cons (pv 3) pa_nil)))))) (pa_cons (pe_lst (pa_cons (pe_s [98, 97, 108, 97, 110, 99, 101]) (pa_cons (pv 3) (pa_cons pe_int (pa_cons (pe_s [78, 117, 109, 98, 101, 114, 69, 114, 114, 111, 114]) (pa_cons (pv 3) pa_nil)))))) pa_nil))))
      (pss_cons (ps_set (i := 7) sc_l_refusals_hold.nd rfl (.inl rfl) (pe_op op_addU (pv 7) (pe_lst (pa_cons (pe_lst (pa_cons (pe_s [110, 97, 109, 101, 100]) (pa_cons (pv 3) (pa_cons (pe_s [105, 110]) (pa_cons (pe_s [78, 117, 109, 98, 101, 114, 69, 114, 114, 111, 114]) (pa_cons (pv 3) pa_nil)))))) (pa_cons (pe_lst (pa_cons (pe_s [110, 97, 109, 101, 100]) (pa_cons pe_int (pa_cons (pv 5) (pa_cons (pe_s [79, 112, 116, 105, 111, 110, 69, 114, 114, 111, 114]) (pa_cons (pv 5) pa_nil)))))) pa_nil)))))
      (pss_cons (ps_set (i := 7) sc_l_refusals_hold.nd rfl (.inl rfl) (pe_op op_addU (pv 7) (pe_lst (pa_cons (pe_lst (pa_cons (pe_s [110, 97, 109, 101, 100]) (pa_cons (pv 3) (pa_cons (pv 5) (pa_cons (pe_s [78, 117, 109, 98, 101, 114, 69, 114, 114, 111, 114]) (pa_cons (pv 3) pa_nil)))))) (pa_cons (pe_lst (pa_cons (pe_s [112, 111, 115, 105, 116, 105, 111, 110, 95, 111, 102]) (pa_cons (pv 5) (pa_cons pe_int (pa_cons (pe_s [79, 112, 116, 105, 111, 110, 69, 114, 114, 111, 114]) (pa_cons (pv 5) pa_nil)))))) pa_nil)))))
      (pss_cons (ps_expr (pe_bmK K rfl PySem.F.plainAttrs_list PySem.F.slot_list_append PySem.F.type_list_append mt_append (pv 7) (pa_cons (pe_lst (pa_cons (pe_s [112, 111, 115, 105, 116, 105, 111, 110, 95, 111, 102]) (pa_cons (pe_s [111, 117, 116]) (pa_cons (pv 4) (pa_cons (pe_s [78, 117, 109, 98, 101, 114, 69, 114, 114, 111, 114]) (pa_cons (pv 4) pa_nil)))))) pa_nil)))
      (pss_cons (ps_expr (pe_bmK K rfl PySem.F.plainAttrs_list PySem.F.slot_list_append PySem.F.type_list_append mt_append (pv 7) (pa_cons (pe_lst (pa_cons (pe_s [112, 111, 115, 105, 116, 105, 111, 110, 95, 111, 102]) (pa_cons (pv 5) (pa_cons (pv 4) (pa_cons (pe_s [79, 112, 116, 105, 111, 110, 69, 114, 114, 111, 114]) (pa_cons (pv 5) pa_nil)))))) pa_nil)))
      (pss_one (ps_for PassesOwn.never rfl (pi_listK K rfl (pv 7)) (pg_name (i := 8) sc_l_refusals_hold.nd rfl (Or.inl rfl)) (pss_one (ps_ifU (pt_not (pt_t (by exact pe_callU (E := fun _ => E0) G_l_refused (hr.mono (by first | decide | omega)) rfl T.g_l_refused T.f_l_refused.kp (b_l_refused T) pass_n (pa_cons (by exact pe_callU (E := fun _ => E0) G_l_told (hr.mono (by first | decide | omega)) rfl T.g_l_told T.f_l_told.kp (b_l_told T) pass_n (pa_cons (pe_ix (ix_K K rfl) (pv 8) pe_int (fun _ _ => rfl)) (pa_cons (pv 6) (pa_cons (pe_ix (ix_K K rfl) (pv 8) pe_int (fun _ _ => rfl)) (pa_cons (pe_ix (ix_K K rfl) (pv 8) pe_int (fun _ _ => rfl)) pa_nil))))) (pa_cons (pe_ix (ix_K K rfl) (pv 8) pe_int (fun _ _ => rfl)) (pa_cons (pe_ix (ix_K K rfl) (pv 8) pe_int (fun _ _ => rfl)) pa_nil)))))) (pss_one (ps_ret pe_bl)) pss_nil))))))))))
      (pss_cons (ps_set (i := 7) sc_l_refusals_hold.nd rfl (.inl rfl) (pe_lst (pa_cons (pe_lst (pa_cons (pe_s [108, 101, 116, 116, 101, 114]) (pa_cons pe_int (pa_cons pe_int pa_nil)))) (pa_cons (pe_lst (pa_cons (pe_s [98, 97, 108, 97, 110, 99, 101]) (pa_cons pe_int (pa_cons pe_int pa_nil)))) (pa_cons (pe_lst (pa_cons (pe_s [110, 97, 109, 101, 100]) (pa_cons pe_int (pa_cons (pe_s [105, 110]) pa_nil)))) (pa_cons (pe_lst (pa_cons (pe_s [112, 111, 115, 105, 116, 105, 111, 110, 95, 111, 102]) (pa_cons (pe_s [111, 117, 116]) (pa_cons pe_int pa_nil)))) pa_nil))))))
      (pss_cons (ps_for PassesOwn.never rfl (pi_listK K rfl (pv 7)) (pg_name (i := 8) sc_l_refusals_hold.nd rfl (Or.inl rfl)) (pss_one (ps_ifU (pt_not (pt_t (by exact pe_callU (E := fun _ => E0) G_l_refused (hr.mono (by first | decide | omega)) rfl T.g_l_refused T.f_l_refused.kp (b_l_refused T) pass_n (pa_cons (by exact pe_callU (E := fun _ => E0) G_l_told (hr.mono (by first | decide | omega)) rfl T.g_l_told T.f_l_told.kp (b_l_told T) pass_n (pa_cons (pe_ix (ix_K K rfl) (pv 8) pe_int (fun _ _ => rfl)) (pa_cons (pv 2) (pa_cons (pe_ix (ix_K K rfl) (pv 8) pe_int (fun _ _ => rfl)) (pa_cons (pe_ix (ix_K K rfl) (pv 8) pe_int (fun _ _ => rfl)) pa_nil))))) (pa_cons (pe_s [87, 111, 114, 100, 69, 114, 114, 111, 114]) (pa_cons pe_int pa_nil)))))) (pss_one (ps_ret pe_bl)) pss_nil)))
      (pss_one (ps_ret pe_bl))))))))), ?_⟩
    obtain ⟨d, p, c, rfl, hd, hw, q⟩ := h
    show tSeq _ _ _ [some (.ref d.a), some (S (wt p c)), none, none, none, none, none, none, none] H
    walk_at "s"
    refine ⟨d, rfl, hd, fun D1 bad H1 d1 e1 hb => ?_⟩
    have e1' := (del_of e1).1
    walk_at "s"
    refine ⟨d, 0, -1, rfl, d1.deal, by decide, by decide, by decide, fun D2 off H2 d2 e2 f2 b2 => ?_⟩
    have hoff : badN off 0 = true := by
      rcases b2 with b2 | ⟨n, _, z, _⟩
      · exact b2
      · exact absurd z (by decide)
    have e2' := (del_of e2).1
    walk_at "s"
    refine ⟨d, 1, -1, rfl, d2.deal, by decide, by decide, by decide, fun D3 nn H3 d3 e3 f3 b3 => ?_⟩
    have hnn : badN nn 1 = true := by
      rcases b3 with b3 | ⟨n, _, z, _⟩
      · exact b3
      · exact absurd z (by decide)
    have e3' := (del_of e3).1
    walk_at "s"
    refine go_lst' fun w H4 n4 s4 e4 => ?_
    walk_at "s"
    have d4 := d3.deal.same s4
    refine ⟨d, w, rfl, d4.deal, d3.deal.at n4 e4, fun D5 far H5 d5 e5 f5 hfar => ?_⟩
    have e5' := (del_of e5).1
    walk_at "s"
    have foff : FlatAt K H5 off := (f2.same ((d3.trans d4).trans d5).same).same del_same'
    have fnn : FlatAt K H5 nn := (f3.same (d4.trans d5).same).same del_same'
    have ffar : FlatAt K H5 far := f5.same del_same'
    have hbad : BadW K BIO H5 bad := (hb.same (((d2.trans d3).trans d4).trans d5).same).same del_same'
    clear e1 e1' e2 e2' e3 e3' e4 e5 e5' f2 f3 f5 hb b2 b3
    refine go_lst' fun lo H6 n6 s6 e6 => ?_
    walk_at "s"
    refine go_il (sq_of e6) ?_
    refine for_it (walk_l (xs := [S (wt p c), bad])) (fun i σ' H' => Same H6 H' ∧ ∃ y z u, σ' = [some (.ref d.a), some (S (wt p c)), some bad, some off, some nn, some far, y, z, u]) ⟨Same.refl _, none, none, none, rfl⟩ (fun i σ' H' _ ⟨s', _⟩ => sq_of (s' _ _ e6)) ?_ ?_
    · rintro i one σ' B H' hi ⟨sB, y, z, u, rfl⟩ ⟨rfl, e⟩
      generalize [S (wt p c), bad].getD i .non = one at e
      subst e
      show tSeq _ _ _ [some (.ref d.a), some (S (wt p c)), some bad, some off, some nn, some far, some one, z, u] _
      walk_at "s"
      refine go_lst' fun a0 G0 n0 t0 x0 => ?_
      walk_at "s"
      refine go_lst' fun a1 G1 n1 t1 x1 => ?_
      walk_at "s"
      refine go_lst' fun L0 G2 n2 t2 x2 => ?_
      walk_at "s"
      refine go_lst' fun a2 G3 n3 t3 x3 => ?_
      walk_at "s"
      refine go_lst' fun a3 G4 n4' t4 x4 => ?_
      walk_at "s"
      refine go_lst' fun L1 G5 n5 t5 x5 => ?_
      walk_at "s"
      refine go_cat (((t3.trans t4).trans t5) _ _ x2) x5 (by simp) fun R1 G6 n6' t6 x6 => ?_
      walk_at "s"
      refine go_lst' fun a4 G7 n7 t7 x7 => ?_
      walk_at "s"
      refine go_lst' fun a5 G8 n8 t8 x8 => ?_
      walk_at "s"
      refine go_lst' fun L2' G9 n9 t9 x9 => ?_
      walk_at "s"
      refine go_cat (((t7.trans t8).trans t9) _ _ x6) x9 (by simp) fun R G10 n10 t10 x10 => ?_
      walk_at "s"
      refine go_bml (sq_of x10) ?_
      walk_at "s"
      refine go_lst' fun a6 G11 n11 t11 x11 => ?_
      walk_at "s"
      refine go_append (t11 _ _ x10) (by simp) ?_
      walk_at "s"
      refine go_bml (sq_of upd_same) ?_
      walk_at "s"
      refine go_lst' fun a7 G13 n13 t13 x13 => ?_
      walk_at "s"
      refine go_append (t13 _ _ upd_same) (by simp) ?_
      refine Go.go ?_
      have s9 : Same H' G9 := ((((((((t0.trans t1).trans t2).trans t3).trans t4).trans t5).trans t6).trans t7).trans t8).trans t9
      have t9to : ∀ a o, G9 a = some o → (upd G13 R (.lst ([V.ref a0, .ref a1] ++ [.ref a2, .ref a3] ++ [.ref a4, .ref a5] ++ [.ref a6] ++ [.ref a7]))) a = some o := fun a o e => by
        have ne : a ≠ R := ne_of_none e n10
        rw [upd_ne ne]
        exact t13 _ _ (by rw [upd_ne ne]; exact t11 _ _ (t10 _ _ e))
      have y0 := t9to _ _ (((((((((t1.trans t2).trans t3).trans t4).trans t5).trans t6).trans t7).trans t8).trans t9) _ _ x0)
      have y1 := t9to _ _ ((((((((t2.trans t3).trans t4).trans t5).trans t6).trans t7).trans t8).trans t9) _ _ x1)
      have y2 := t9to _ _ ((((((t4.trans t5).trans t6).trans t7).trans t8).trans t9) _ _ x3)
      have y3 := t9to _ _ (((((t5.trans t6).trans t7).trans t8).trans t9) _ _ x4)
      have y4 := t9to _ _ ((t8.trans t9) _ _ x7)
      have y5 := t9to _ _ (t9 _ _ x8)
      have ne6 : a6 ≠ R := fun z => by rw [z, x10] at n11; cases n11
      have ne7 : a7 ≠ R := fun z => by rw [z, upd_same] at n13; cases n13
      have y6 : (upd G13 R (.lst ([V.ref a0, .ref a1] ++ [.ref a2, .ref a3] ++ [.ref a4, .ref a5] ++ [.ref a6] ++ [.ref a7]))) a6 = some (.lst [S wPos, S cOut, nn, S nNum, nn]) := by
        rw [upd_ne ne6]
        exact t13 _ _ (by rw [upd_ne ne6]; exact x11)
      have y7 : (upd G13 R (.lst ([V.ref a0, .ref a1] ++ [.ref a2, .ref a3] ++ [.ref a4, .ref a5] ++ [.ref a6] ++ [.ref a7]))) a7 = some (.lst [S wPos, far, nn, S nOpt, far]) := by
        rw [upd_ne ne7]
        exact x13
      have yR : (upd G13 R (.lst ([V.ref a0, .ref a1] ++ [.ref a2, .ref a3] ++ [.ref a4, .ref a5] ++ [.ref a6] ++ [.ref a7]))) R = some (.lst ([V.ref a0, .ref a1] ++ [.ref a2, .ref a3] ++ [.ref a4, .ref a5] ++ [.ref a6] ++ [.ref a7])) := upd_same
      have sF : Same H5 (upd G13 R (.lst ([V.ref a0, .ref a1] ++ [.ref a2, .ref a3] ++ [.ref a4, .ref a5] ++ [.ref a6] ++ [.ref a7]))) := fun a o e => t9to a o (s9 _ _ (sB _ _ (s6 _ _ e)))
      have sF6 : Same H6 (upd G13 R (.lst ([V.ref a0, .ref a1] ++ [.ref a2, .ref a3] ++ [.ref a4, .ref a5] ++ [.ref a6] ++ [.ref a7]))) := fun a o e => t9to a o (s9 _ _ (sB _ _ e))
      have eqx : [V.ref a0, .ref a1] ++ [.ref a2, .ref a3] ++ [.ref a4, .ref a5] ++ [.ref a6] ++ [.ref a7] = [V.ref a0, .ref a1, .ref a2, .ref a3, .ref a4, .ref a5, .ref a6, .ref a7] := rfl
      rw [eqx] at y0 y1 y2 y3 y4 y5 y6 y7 yR sF sF6
      clear t9to
      show tFor (iList K (tVar 7)) (gName 8) (rowBody K) _ [some (.ref d.a), some (S (wt p c)), some bad, some off, some nn, some far, some one, some (.ref R), u] (upd G13 R (.lst [V.ref a0, .ref a1, .ref a2, .ref a3, .ref a4, .ref a5, .ref a6, .ref a7]))
      generalize upd G13 R (.lst [V.ref a0, .ref a1, .ref a2, .ref a3, .ref a4, .ref a5, .ref a6, .ref a7]) = F at *
      have fo := foff.same sF
      have fn := fnn.same sF
      have ff := ffar.same sF
      have rows : ∀ r ∈ [V.ref a0, .ref a1, .ref a2, .ref a3, .ref a4, .ref a5, .ref a6, .ref a7], RowOk K F one r := by
        intro r hr
        simp only [List.mem_cons, List.not_mem_nil, or_false] at hr
        rcases hr with rfl | rfl | rfl | rfl | rfl | rfl | rfl | rfl
        · exact ⟨_, _, _, _, _, _, rfl, y0, fo, .inl rfl, fun H1 Q _ t => .letN hoff t⟩
        · exact ⟨_, _, _, _, _, _, rfl, y1, fo, .inl rfl, fun H1 Q _ t => .balN hoff t⟩
        · exact ⟨_, _, _, _, _, _, rfl, y2, fo, .inl rfl, fun H1 Q _ t => .namN hoff t⟩
        · exact ⟨_, _, _, _, _, _, rfl, y3, .inl rfl, ff, fun H1 Q _ t => .namO (by decide) hfar t⟩
        · exact ⟨_, _, _, _, _, _, rfl, y4, fo, ff, fun H1 Q _ t => .namN hoff t⟩
        · exact ⟨_, _, _, _, _, _, rfl, y5, ff, .inl rfl, fun H1 Q _ t => .posO hfar t⟩
        · exact ⟨_, _, _, _, _, _, rfl, y6, .inl rfl, fn, fun H1 Q _ t => .posN (x := 79) (.inr ⟨rfl, rfl⟩) hnn t⟩
        · exact ⟨_, _, _, _, _, _, rfl, y7, ff, fn, fun H1 Q _ t => .posO hfar t⟩
      exact rows_loop yR rows fun u2 B2 sB2 => ⟨sF6.trans sB2, _, _, _, rfl⟩
    · rintro σ' B ⟨sB, y, z, u, rfl⟩
      walk_at "s"
      refine go_lst' fun a0 G0 n0 t0 x0 => ?_
      walk_at "s"
      refine go_lst' fun a1 G1 n1 t1 x1 => ?_
      walk_at "s"
      refine go_lst' fun a2 G2 n2 t2 x2 => ?_
      walk_at "s"
      refine go_lst' fun a3 G3 n3 t3 x3 => ?_
      walk_at "s"
      refine go_lst' fun R G4 n4' t4 x4 => ?_
      refine Go.go ?_
      have bad4 : BadW K BIO G4 bad := hbad.same (((((s6.trans sB).trans t0).trans t1).trans t2).trans (t3.trans t4))
      have rows : ∀ r ∈ [V.ref a0, .ref a1, .ref a2, .ref a3], Row0 K G4 bad r := by
        intro r hr
        simp only [List.mem_cons, List.not_mem_nil, or_false] at hr
        rcases hr with rfl | rfl | rfl | rfl
        · exact ⟨_, _, _, _, rfl, (((t1.trans t2).trans t3).trans t4) _ _ x0, .inl rfl, .inl rfl, fun H1 Q s' t => .letW (by decide) (bad4.same s') t⟩
        · exact ⟨_, _, _, _, rfl, ((t2.trans t3).trans t4) _ _ x1, .inl rfl, .inl rfl, fun H1 Q s' t => .balW (by decide) (bad4.same s') t⟩
        · exact ⟨_, _, _, _, rfl, (t3.trans t4) _ _ x2, .inl rfl, .inl rfl, fun H1 Q s' t => .namW (x := 73) (by decide) (.inl ⟨rfl, rfl⟩) (bad4.same s') t⟩
        · exact ⟨_, _, _, _, rfl, t4 _ _ x3, .inl rfl, .inl rfl, fun H1 Q s' t => .posW (x := 79) (.inr ⟨rfl, rfl⟩) (by decide) (bad4.same s') t⟩
      refine Go.go ?_
      show tFor (iList K (tVar 7)) (gName 8) (rowBody0 K) _ [some (.ref d.a), some (S (wt p c)), some bad, some off, some nn, some far, y, some (.ref R), u] _
      refine rows0_loop x4 rows fun u2 B2 sB2 => ?_
      walk_at "s"
      exact q _ (((((d1.trans d2).trans d3).trans d4).trans d5).trans (d5.deal.same ((s6.trans sB).trans (((((t0.trans t1).trans t2).trans t3).trans t4).trans sB2))))
end
end W

namespace W
open PySem PySem.Spec PyProof.Rows L2 TL G
def sp_l_store (K : PySem.W.Frag) : Sp := fun vs H Q _ => ∃ (a : Addr) (ns : List Int), vs = [.ref a] ∧ SqL K H a (ns.map V.int) ∧ ns.length ≤ 63 ∧ ∀ (d : DA) (H' : Hp), H d.a = none → Same H H' → Deal K H' d → Q (.ref d.a) H'
section
variable {P : Program} {w : World} {K : PySem.W.Frag} {mg : Str → Option Value} {base : Heap}
theorem ok_l_store (T : Top w K mg) : Ok P w K mg base 1 ("_law_store", none) ["script"] (sp_l_store K) := by
  refine T.f_l_store.ok sc_l_store (fun vs H Q E h => ?_) (fun cdv A outer s H vs Q E hr h => ?_)
  · obtain ⟨_, _, rfl, _⟩ := h
    rfl
  · refine ⟨_, PSs.nox (pss_cons (ps_set (i := 1) sc_l_store.nd rfl (.inl rfl) (pe_powC 1000000000000000000000000000000000000000000000000000000000000000000000000000000000000000000000000000000000000000000000000000000000000000000000000000000000000000000000000000000000000000000000000000000000000000000000000000000000000000000000000000000000000000000000000000000000000000000000000000000000000000000000000000000000000000000000000000000000000000000000000000000000000000000000000000000000000000000000000000000000000000000000000000000000000000000000000000000000000000000000000000000000000000000000000000000000000000000000000000000000000000000000000000000000000000000000000000000000000000000000000000000000000000000000000000000000000000000000000000000000000000000000000000000000000000000000000000000000000000000000000000000000000000000000000000000000000000000000000000000000000000000000000000000000000000000000000000000000000000000000000 (pe_powC 1000000000000000000000000000000000000000000000000000000000000 pe_int pe_int) pe_int))
      (pss_cons (ps_set (i := 2) sc_l_store.nd rfl (.inl rfl) (pe_lst pa_nil))
      (pss_cons (ps_for PassesOwn.never rfl (pi_listK K rfl (pe_slice (sl_K K rfl) (pe_callTy (call_listK K rfl) (by rfl) T.z_list (by decide +kernel) (pa_cons (pv 0) pa_nil)) po_none (po_some pe_int))) (pg_name (i := 3) sc_l_store.nd rfl (Or.inl rfl)) (pss_cons (ps_set (i := 4) sc_l_store.nd rfl (.inl rfl) (pe_callTy call_intU (by rfl) T.z_int (by decide +kernel) (pa_cons (pv 3) pa_nil)))
      (Evl.pss_cut (ps_ifU (pt_c op_geU (pv 4) (pv 1) (nomark _)) (pss_one (ps_set (i := 4) sc_l_store.nd rfl (.inl rfl) (pe_op op_addU (pv 1) (pe_op op_modU (pe_callTy call_intU (by rfl) T.z_int (by decide +kernel) (pa_cons (pv 4) pa_nil)) (pv 1))))) pss_nil)
      (Evl.pss_cut (ps_ifU (pt_c op_ltU (pv 4) pe_int (nomark _)) (pss_one (ps_set (i := 4) sc_l_store.nd rfl (.inl rfl) (pe_op op_modU (pe_callTy call_intU (by rfl) T.z_int (by decide +kernel) (pa_cons (pv 4) pa_nil)) pe_int))) pss_nil)
      (pss_one (ps_expr (pe_bmK K rfl PySem.F.plainAttrs_list PySem.F.slot_list_append PySem.F.type_list_append mt_append (pv 2) (pa_cons (pv 4) pa_nil))))))))
      (pss_one (ps_ret (pe_lst (pa_cons (pv 2) (pa_cons pe_int (pa_cons pe_int (pa_cons pe_int (pa_cons pe_int pa_nil))))))))))), ?_⟩
    obtain ⟨a, ns, rfl, hs, hl, q⟩ := h
    show tSeq _ _ _ [some (.ref a), none, none, none, none] H
    walk_at "s"
    have hg : (1000000000000000000000000000000000000000000000000000000000000000000000000000000000000000000000000000000000000000000000000000000000000000000000000000000000000000000000000000000000000000000000000000000000000000000000000000000000000000000000000000000000000000000000000000000000000000000000000000000000000000000000000000000000000000000000000000000000000000000000000000000000000000000000000000000000000000000000000000000000000000000000000000000000000000000000000000000000000000000000000000000000000000000000000000000000000000000000000000000000000000000000000000000000000000000000000000000000000000000000000000000000000000000000000000000000000000000000000000000000000000000000000000000000000000000000000000000000000000000000000000000000000000000000000000000000000000000000000000000000000000000000000000000000000000000000000000000000000000000000000 : Int).natAbs < 2 ^ 2795 ∧ 0 < (1000000000000000000000000000000000000000000000000000000000000000000000000000000000000000000000000000000000000000000000000000000000000000000000000000000000000000000000000000000000000000000000000000000000000000000000000000000000000000000000000000000000000000000000000000000000000000000000000000000000000000000000000000000000000000000000000000000000000000000000000000000000000000000000000000000000000000000000000000000000000000000000000000000000000000000000000000000000000000000000000000000000000000000000000000000000000000000000000000000000000000000000000000000000000000000000000000000000000000000000000000000000000000000000000000000000000000000000000000000000000000000000000000000000000000000000000000000000000000000000000000000000000000000000000000000000000000000000000000000000000000000000000000000000000000000000000000000000000000000000000 : Int) := by decide +kernel
    generalize (1000000000000000000000000000000000000000000000000000000000000000000000000000000000000000000000000000000000000000000000000000000000000000000000000000000000000000000000000000000000000000000000000000000000000000000000000000000000000000000000000000000000000000000000000000000000000000000000000000000000000000000000000000000000000000000000000000000000000000000000000000000000000000000000000000000000000000000000000000000000000000000000000000000000000000000000000000000000000000000000000000000000000000000000000000000000000000000000000000000000000000000000000000000000000000000000000000000000000000000000000000000000000000000000000000000000000000000000000000000000000000000000000000000000000000000000000000000000000000000000000000000000000000000000000000000000000000000000000000000000000000000000000000000000000000000000000000000000000000000000000 : Int) = g at hg ⊢
    obtain ⟨hg1, hg0⟩ := hg
    refine go_lst' fun c H1 n1 s1 e1 => ?_
    walk_at "s"
    refine go_list (.inl (s1.seq hs)) fun b H2 n2 s2 e2 => ?_
    walk_at "s"
    refine go_sll (sq_of e2) fun b2 H3 n3 s3 e3 => ?_
    rw [cutV_to _ _ (by decide), List.take_of_length_le (by rw [List.length_map]; exact hl)] at e3
    walk_at "s"
    refine go_il (sq_of e3) ?_
    have hcb : c ≠ b2 := ne_of_none (s2 _ _ e1) n3
    have s03 := (s1.trans s2).trans s3
    refine for_it (walk_l (xs := ns.map V.int)) (fun i σ' H' => ∃ (cs : List Int) (y z : Option V), σ' = [some (.ref a), some (.int g), some (.ref c), y, z] ∧ H' c = some (.lst (cs.map V.int)) ∧ cs.length = i ∧ (∀ x ∈ cs, 0 ≤ x ∧ x.natAbs < 2 ^ Big) ∧ H' b2 = some (.lst (ns.map V.int)) ∧ Same H H') ⟨[], none, none, rfl, (s2.trans s3) _ _ e1, rfl, by simp, e3, s03⟩ ?_ ?_ ?_
    · rintro i σ' H' _ ⟨cs, y, z, _, _, _, _, e, _⟩
      exact sq_of e
    · rintro i x σ' H4 H5 hi ⟨cs, y, z, rfl, ec, hcl, hcs, eb, s4⟩ ⟨rfl, rfl⟩
      rw [List.length_map] at hi
      rw [getD_map V.int 0 _ hi]
      generalize ns.getD i 0 = m
      show tSeq _ _ _ [some (.ref a), some (.int g), some (.ref c), some (.int m), z] _
      have lim : ∀ u : Int, 0 ≤ u → u < 2 * g → u.natAbs < 2 ^ Big := fun u h0 h1 => by
        have e1 : (2 : Nat) ^ Big = 32 * 2 ^ 2795 := by decide +kernel
        rw [e1]
        omega
      have lim2 : ∀ u : Int, 0 ≤ u → u < 999999999999999989 → u.natAbs < 2 ^ Big := fun u h0 h1 => by
        have e1 : (999999999999999989 : Nat) < 2 ^ Big := by decide +kernel
        omega
      walk_at "s"
      refine go_cut (fun σ2 H6 => H6 = H5 ∧ ∃ u : Int, σ2 = [some (.ref a), some (.int g), some (.ref c), some (.int m), some (.int u)] ∧ u < 2 * g) ?_ ?_
      · walk_at "s"
        refine go_iteD (fun h3 => ?_) (fun h3 => ?_)
        · walk_at "s"
          have h4 : 0 ≤ m % g := Int.emod_nonneg _ (by omega)
          have h5 : m % g < g := Int.emod_lt_of_pos _ hg0
          exact ⟨rfl, _, rfl, by omega⟩
        · exact ⟨rfl, m, rfl, by omega⟩
      · rintro σ2 H6 ⟨rfl, u, rfl, hu⟩
        walk_at "s"
        refine go_cut (fun σ2 H7 => H7 = H6 ∧ ∃ u : Int, σ2 = [some (.ref a), some (.int g), some (.ref c), some (.int m), some (.int u)] ∧ 0 ≤ u ∧ u.natAbs < 2 ^ Big) ?_ ?_
        · walk_at "s"
          refine go_iteD (fun h3 => ?_) (fun h3 => ?_)
          · walk_at "s"
            have h4 : 0 ≤ u % 999999999999999989 := Int.emod_nonneg _ (by decide)
            have h5 : u % 999999999999999989 < 999999999999999989 := Int.emod_lt_of_pos _ (by decide)
            exact ⟨rfl, _, rfl, h4, lim2 _ h4 h5⟩
          · exact ⟨rfl, u, rfl, by omega, lim u (by omega) hu⟩
        · rintro σ3 H7 ⟨rfl, v, rfl, h0, h1⟩
          walk_at "s"
          refine go_bml (sq_of ec) ?_
          walk_at "s"
          refine go_append ec (by rw [List.length_map]; omega) ?_
          walk_at "s"
          refine ⟨cs ++ [v], _, _, rfl, ?_, by rw [List.length_append, hcl]; rfl, fun x hx => ?_, ?_, ?_⟩
          · rw [upd_same, List.map_append]
            rfl
          · rcases List.mem_append.mp hx with hx | hx
            · exact hcs x hx
            · rw [List.mem_singleton.mp hx]
              exact ⟨h0, h1⟩
          · rw [upd_ne hcb.symm]
            exact eb
          · exact upd_keep n1 s4
    · rintro σ' H4 ⟨cs, y, z, rfl, ec, hcl, hcs, eb, s4⟩
      walk_at "s"
      refine go_lst' fun p H5 n5 s5 e5 => ?_
      rw [List.length_map] at hcl
      have hpc : c ≠ p := ne_of_none ec n5
      refine q ⟨p, c, cs⟩ H5 (s4.free n5) (s4.trans s5) ⟨0, 0, 0, 4101842887655102017, e5, ?_, ⟨by show cs.length ≤ 63; omega, by decide, hcs, by decide, by decide +kernel, by decide, by decide, by decide⟩⟩
      refine sq_of ?_
      show L2.del H5 p c = _
      rw [del_ne hpc]
      exact s5 _ _ ec
end
end W

namespace W
open PySem PySem.Spec PyProof.Rows L2 TL G
def sp_law (K : PySem.W.Frag) : Sp := fun vs H Q _ => ∃ (a : Addr) (ns : List Int), vs = [.ref a] ∧ SqL K H a (ns.map V.int) ∧ ns.length ≤ 63 ∧ ∀ H', Q (.bl true) H'
section
variable {P : Program} {w : World} {K : PySem.W.Frag} {mg : Str → Option Value} {base : Heap}
theorem ok_law (T : Top w K mg) : Ok P w K mg base 10 ("law", none) ["script"] (sp_law K) := by
  have G_l_count_holds := ok_l_count_holds (P := P) (w := w) (base := base) T
  have G_l_free_word := ok_l_free_word (P := P) (w := w) (base := base) T
  have G_l_huge := ok_l_huge (P := P) (w := w) (base := base) T
  have G_l_position_holds := ok_l_position_holds (P := P) (w := w) (base := base) T
  have G_l_refusals_hold := ok_l_refusals_hold (P := P) (w := w) (base := base) T
  have G_l_store := ok_l_store (P := P) (w := w) (base := base) T
  have G_l_take := ok_l_take (P := P) (w := w) (base := base) T
  have G_l_within := ok_l_within (P := P) (w := w) (base := base) T
  refine T.f_law.ok sc_law (fun vs H Q E h => ?_) (fun cdv A outer s H vs Q E hr h => ?_)
  · obtain ⟨_, _, rfl, _⟩ := h
    rfl
  · refine ⟨_, PSs.nox (pss_cons (ps_set (i := 1) sc_law.nd rfl (.inl rfl) (by exact pe_callU (E := fun _ => E0) G_l_store (hr.mono (by first | decide | omega)) rfl T.g_l_store T.f_l_store.kp (b_l_store T) pass_n (pa_cons (pv 0) pa_nil)))
      (pss_cons (ps_set (i := 2) sc_law.nd rfl (.inl rfl) (pe_lst (pa_cons (by exact pe_callU (E := fun _ => E0) G_l_free_word (hr.mono (by first | decide | omega)) rfl T.g_l_free_word T.f_l_free_word.kp (b_l_free_word T) pass_n (pa_cons (pv 1) pa_nil)) (pa_cons (by exact pe_callU (E := fun _ => E0) G_l_free_word (hr.mono (by first | decide | omega)) rfl T.g_l_free_word T.f_l_free_word.kp (b_l_free_word T) pass_n (pa_cons (pv 1) pa_nil)) pa_nil))))
      (pss_cons (ps_set (i := 3) sc_law.nd rfl (.inl rfl) (pe_lst (pa_cons pe_int (pa_cons pe_int (pa_cons pe_int (pa_cons pe_int (pa_cons (by exact pe_callU (E := fun _ => E0) G_l_take (hr.mono (by first | decide | omega)) rfl T.g_l_take T.f_l_take.kp (b_l_take T) pass_n (pa_cons (pv 1) (pa_cons pe_int pa_nil))) (pa_cons (by exact pe_callU (E := fun _ => E0) G_l_huge (hr.mono (by first | decide | omega)) rfl T.g_l_huge T.f_l_huge.kp (b_l_huge T) pass_n (pa_cons (pv 1) pa_nil)) (pa_cons (by exact pe_callU (E := fun _ => E0) G_l_huge (hr.mono (by first | decide | omega)) rfl T.g_l_huge T.f_l_huge.kp (b_l_huge T) pass_n (pa_cons (pv 1) pa_nil)) (pa_cons (pe_op op_subU (pe_powC 10000000000000000000000000000000000000000 pe_int pe_int) pe_int) pa_nil))))))))))
      (pss_cons (ps_for PassesOwn.never rfl (pi_listK K rfl (pe_op op_addU (pv 2) (pe_slice (sl_K K rfl) (pv 2) po_none (po_some pe_int)))) (pg_name (i := 4) sc_law.nd rfl (Or.inl rfl)) (pss_cons (ps_for PassesOwn.never rfl (pi_listK K rfl (pv 3)) (pg_name (i := 5) sc_law.nd rfl (Or.inl rfl)) (pss_one (ps_ifU (pt_not (pt_t (by exact pe_callU (E := fun _ => E0) G_l_count_holds (hr.mono (by first | decide | omega)) rfl T.g_l_count_holds T.f_l_count_holds.kp (b_l_count_holds T) pass_n (pa_cons (pv 4) (pa_cons (pv 5) pa_nil))))) (pss_one (ps_ret pe_bl)) pss_nil)))
      (pss_one (ps_for PassesOwn.never rfl (pi_listK K rfl (pe_lst (pa_cons pe_int (pa_cons (by exact pe_callU (E := fun _ => E0) G_l_within (hr.mono (by first | decide | omega)) rfl T.g_l_within T.f_l_within.kp (b_l_within T) pass_n (pa_cons (pv 1) (pa_cons pe_int (pa_cons pe_int pa_nil)))) (pa_cons (pe_callB (call_maxU rfl) (by rfl) T.z_max (by decide +kernel) (pa_cons pe_int (pa_cons (by exact pe_callU (E := fun _ => E0) G_l_huge (hr.mono (by first | decide | omega)) rfl T.g_l_huge T.f_l_huge.kp (b_l_huge T) pass_n (pa_cons (pv 1) pa_nil)) pa_nil))) (pa_cons (pe_op op_subU (pe_powC 10000000000000000000000000000000000000000 pe_int pe_int) pe_int) pa_nil)))))) (pg_name (i := 6) sc_law.nd rfl (Or.inl rfl)) (pss_one (ps_for PassesOwn.never rfl (pi_listK K rfl (pe_lst (pa_cons (pe_s [105, 110]) (pa_cons (pe_s [111, 117, 116]) pa_nil)))) (pg_name (i := 7) sc_law.nd rfl (Or.inl rfl)) (pss_one (ps_ifU (pt_not (pt_t (by exact pe_callU (E := fun _ => E0) G_l_position_holds (hr.mono (by first | decide | omega)) rfl T.g_l_position_holds T.f_l_position_holds.kp (b_l_position_holds T) pass_n (pa_cons (pv 4) (pa_cons (pv 7) (pa_cons (pv 6) pa_nil)))))) (pss_one (ps_ret pe_bl)) pss_nil))))))))
      (pss_one (ps_ret (pe_andU (by exact pe_callU (E := fun _ => E0) G_l_refusals_hold (hr.mono (by first | decide | omega)) rfl T.g_l_refusals_hold T.f_l_refusals_hold.kp (b_l_refusals_hold T) pass_n (pa_cons (pv 1) (pa_cons (pe_ix (ix_K K rfl) (pv 2) pe_int (fun _ _ => rfl)) pa_nil))) (pe_one (by exact pe_callU (E := fun _ => E0) G_l_count_holds (hr.mono (by first | decide | omega)) rfl T.g_l_count_holds T.f_l_count_holds.kp (b_l_count_holds T) pass_n (pa_cons (pe_ix (ix_K K rfl) (pv 2) pe_int (fun _ _ => rfl)) (pa_cons (pe_ix (ix_K K rfl) (pv 3) pe_int (fun _ _ => rfl)) pa_nil))))))))))), ?_⟩
    obtain ⟨a, ns, rfl, hs, hl, q⟩ := h
    show tSeq _ _ _ [some (.ref a), none, none, none, none, none, none, none] H
    walk_at "s"
    refine ⟨a, ns, rfl, hs, hl, fun d H1 n1 s1 d0 => ?_⟩
    walk_at "s"
    refine ⟨d, rfl, d0, fun p1 c1 H2 d2 hw1 => ?_⟩
    walk_at "s"
    refine ⟨d, rfl, d2.deal, fun p2 c2 H3 d3 hw2 => ?_⟩
    walk_at "s"
    refine go_lst' fun W H4 n4 s4 e4 => ?_
    have d4 := d3.deal.same s4
    have eW := d3.deal.at n4 e4
    walk_at "s"
    refine ⟨d, _, rfl, d4.deal, by decide, fun k4 H5 d5 a1 a2 a3 => ?_⟩
    walk_at "s"
    refine ⟨d, rfl, d5.deal, fun k5 H6 d6 b1 b2 => ?_⟩
    walk_at "s"
    refine ⟨d, rfl, d6.deal, fun k6 H7 d7 b3 b4 => ?_⟩
    walk_at "s"
    refine go_lst' fun S1 H8 n8 s8 e8 => ?_
    have d8 := d7.deal.same s8
    have eS := d7.deal.at n8 e8
    have eW8 := (((d5.trans d6).trans d7).trans d8).same _ _ eW
    have eWf := (del_of eW8).1
    walk_at "s"
    refine go_sll (sq_of eWf) fun W2 H9 n9 s9 e9 => ?_
    have d9 := d8.deal.same s9
    rw [cutV_to _ _ (by decide)] at e9
    walk_at "s"
    refine go_cat (s9 _ _ eWf) e9 (by simp) fun W3 H10 n10 s10 e10 => ?_
    have d10 := d9.deal.same s10
    have eW3 := d9.deal.at n10 e10
    have eW10 := (d9.trans d10).same _ _ eW8
    have eS10 := (d9.trans d10).same _ _ eS
    walk_at "s"
    refine go_il (sq_of e10) ?_
    have words : ∀ r ∈ [S (wt p1 c1), S (wt p2 c2)] ++ List.take (1 : Int).toNat [S (wt p1 c1), S (wt p2 c2)], ∃ p c, r = S (wt p c) ∧ Lw BIO p c := by
      intro r hr
      have hr2 : r = S (wt p1 c1) ∨ r = S (wt p2 c2) ∨ r = S (wt p1 c1) := by simpa using hr
      rcases hr2 with rfl | rfl | rfl
      · exact ⟨_, _, rfl, hw1⟩
      · exact ⟨_, _, rfl, hw2⟩
      · exact ⟨_, _, rfl, hw1⟩
    refine for_it walk_l (fun i σ' H' => Dr K d H10 H' ∧ ∃ x1 x2 x3 x4, σ' = [some (.ref a), some (.ref d.a), some (.ref W), some (.ref S1), x1, x2, x3, x4]) ⟨Deal.refl d10.deal, none, none, none, none, rfl⟩ (fun i σ' H' _ ⟨s', _⟩ => sq_of (del_of (s'.same _ _ eW3)).1) ?_ ?_
    · rintro i x σ' B H' hi ⟨dB, x1, x2, x3, x4, rfl⟩ ⟨rfl, e⟩
      obtain ⟨p, c, er, hw⟩ := words _ (getD_mem hi)
      rw [er] at e
      subst e
      show tSeq _ _ _ [some (.ref a), some (.ref d.a), some (.ref W), some (.ref S1), some (S (wt p c)), x2, x3, x4] _
      walk_at "s"
      have eSB := (del_of (dB.same _ _ eS10)).1
      refine go_il (sq_of eSB) ?_
      refine for_it walk_l (fun i σ' H' => Dr K d H10 H' ∧ ∃ x2, σ' = [some (.ref a), some (.ref d.a), some (.ref W), some (.ref S1), some (S (wt p c)), x2, x3, x4]) ⟨dB, x2, rfl⟩ (fun i σ' H' _ ⟨s', _⟩ => sq_of (del_of (s'.same _ _ eS10)).1) ?_ ?_
      · rintro j y σ' B2 H' hj ⟨dB2, y2, rfl⟩ ⟨rfl, e⟩
        have hk : ∃ k : Int, y = .int k ∧ 0 ≤ k := by
          have z := getD_mem hj
          rw [← e] at z
          simp only [List.mem_cons, List.not_mem_nil, or_false] at z
          rcases z with rfl | rfl | rfl | rfl | rfl | rfl | rfl | rfl <;> exact ⟨_, rfl, by omega⟩
        obtain ⟨k, rfl, hk⟩ := hk
        show uIfS _ _ _ _ [some (.ref a), some (.ref d.a), some (.ref W), some (.ref S1), some (S (wt p c)), some (.int k), x3, x4] _
        walk_at "s"
        refine ⟨p, c, k, rfl, hw, hk, fun H11 s11 => ?_⟩
        walk_at "s"
        refine go_no rfl ?_
        walk_at "s"
        exact ⟨dB2.trans (dB2.deal.same s11), _, rfl⟩
      · rintro σ' B2 ⟨dB2, y2, rfl⟩
        walk_at "s"
        refine ⟨d, _, _, rfl, dB2.deal, by decide, fun m2 H11 d11 c1' c2' => ?_⟩
        walk_at "s"
        refine ⟨d, rfl, d11.deal, fun m3 H12 d12 c3' c4' => ?_⟩
        walk_at "s"
        refine go_lst' fun M H13 n13 s13 e13 => ?_
        have d13 := d12.deal.same s13
        have eM := d12.deal.at n13 e13
        have dT := ((dB2.trans d11).trans d12).trans d13
        walk_at "s"
        refine go_il (sq_of e13) ?_
        refine for_it walk_l (fun i σ' H' => Dr K d H13 H' ∧ ∃ x3 x4, σ' = [some (.ref a), some (.ref d.a), some (.ref W), some (.ref S1), some (S (wt p c)), y2, x3, x4]) ⟨Deal.refl d13.deal, x3, x4, rfl⟩ (fun i σ' H' _ ⟨s', _⟩ => sq_of (del_of (s'.same _ _ eM)).1) ?_ ?_
        · rintro j y σ' B3 H' hj ⟨dB3, y3, y4, rfl⟩ ⟨rfl, e⟩
          have hm : ∃ m : Int, y = .int m ∧ 1 ≤ m := by
            have z := getD_mem hj
            rw [← e] at z
            simp only [List.mem_cons, List.not_mem_nil, or_false] at z
            rcases z with rfl | rfl | rfl | rfl
            · exact ⟨_, rfl, by omega⟩
            · exact ⟨_, rfl, by omega⟩
            · exact ⟨_, rfl, by split <;> omega⟩
            · exact ⟨_, rfl, by omega⟩
          obtain ⟨m, rfl, hm⟩ := hm
          show tFor _ _ _ _ [some (.ref a), some (.ref d.a), some (.ref W), some (.ref S1), some (S (wt p c)), y2, some (.int m), y4] _
          walk_at "s"
          refine go_lst' fun Z H14 n14 s14 e14 => ?_
          have d14 := dB3.deal.same s14
          have eZ := dB3.deal.at n14 e14
          walk_at "s"
          refine go_il (sq_of e14) ?_
          refine for_it walk_l (fun i σ' H' => Dr K d H14 H' ∧ ∃ x4, σ' = [some (.ref a), some (.ref d.a), some (.ref W), some (.ref S1), some (S (wt p c)), y2, some (.int m), x4]) ⟨Deal.refl d14.deal, y4, rfl⟩ (fun i σ' H' _ ⟨s', _⟩ => sq_of (del_of (s'.same _ _ eZ)).1) ?_ ?_
          · rintro jj y σ' B4 H' hjj ⟨dB4, z4, rfl⟩ ⟨rfl, e⟩
            have hsd : ∃ l x, y = S l ∧ Side l x := by
              have z := getD_mem hjj
              rw [← e] at z
              simp only [List.mem_cons, List.not_mem_nil, or_false] at z
              rcases z with rfl | rfl
              · exact ⟨_, 73, rfl, .inl ⟨rfl, rfl⟩⟩
              · exact ⟨_, 79, rfl, .inr ⟨rfl, rfl⟩⟩
            obtain ⟨l, x, rfl, hsd⟩ := hsd
            show uIfS _ _ _ _ [some (.ref a), some (.ref d.a), some (.ref W), some (.ref S1), some (S (wt p c)), y2, some (.int m), some (S l)] _
            walk_at "s"
            refine ⟨p, c, l, x, m, rfl, hw, hsd, hm, fun H15 s15 => ?_⟩
            walk_at "s"
            refine go_no rfl ?_
            walk_at "s"
            exact ⟨dB4.trans (dB4.deal.same s15), _, rfl⟩
          · rintro σ' B4 ⟨dB4, z4, rfl⟩
            exact ⟨(dB3.trans d14).trans dB4, _, _, rfl⟩
        · rintro σ' B3 ⟨dB3, y3, y4, rfl⟩
          exact ⟨dT.trans dB3, _, _, _, _, rfl⟩
    · rintro σ' B ⟨dB, x1, x2, x3, x4, rfl⟩
      have eWB := (del_of (dB.same _ _ eW10)).1
      walk_at "s"
      refine ⟨d, p1, c1, rfl, dB.deal, hw1, fun H11 d11 => ?_⟩
      have eWE := (del_of (d11.same _ _ (dB.same _ _ eW10))).1
      have eSE := (del_of (d11.same _ _ (dB.same _ _ eS10))).1
      walk_at "s"
      refine ⟨p2, c2, k5, rfl, hw2, b1, fun H12 s12 => ?_⟩
      exact q _
end
end W
open PySem PySem.W PySem.Calls PyProof.Rows
theorem PySem.Challenge.cw_leadshome_k10_counts_of_letters_at_any_p_holds : PySem.Challenge.rw_leadshome_k10_counts_of_letters_at_any_p.Holds := by
  w_on; o_law
  refine HandSHeadRun.head_any (r := W.R) (q := view W.R.prog [73]) (H := W.hk) (ob := W.ob) (M := 14000) (loose := W.loose) (d := HandSHeadRun.topDef W.R.prog 73) (kwd := []) W.ob_eq
    (by kernel_rfl) (fun s => by kernel_rfl) W.run (by kernel_rfl) (by kernel_rfl) (by kernel_rfl) (by rfl) (by first | assumption | decide +kernel) (by decide +kernel) ⟨rfl, rfl, rfl, rfl, rfl, by decide +kernel⟩ ?hw ?hc
  case hw => w_witness2
  case hc =>
    refine L2.walk_ofE (l := PySem.Challenge.rw_leadshome_k10_counts_of_letters_at_any_p) (n := 63) (k := 10) (x := "script") (CX := L2.CX0) rfl (by decide) (by kernel_rfl) ⟨rfl, by decide, by decide⟩ ?F (fun _ _ _ _ z => z)
    intro w mg fa h Y Gn hmg0
    obtain ⟨K, KX, c⟩ := Y
    have T := W.top_of KX Gn c
    have hmg : mg ("law" : PySem.Str) = some (.ref fa) := by
      have e : (HandSHeadRun.topDef W.R.prog 73).name = ("law" : PySem.Str) := by kernel_rfl
      rw [← e]
      exact hmg0
    have e := hmg.symm.trans T.g_law
    cases e
    have b := L2.FunD.bindsA (ps := ["script"]) T.f_law fun _ _ _ _ _ _ us hl => match us, hl with | [_], _ => rfl
    exact ⟨K, _, W.sp_law K, KX, fun s v => b s [v] rfl, fun H a ns hl _ hS => ⟨a, ns, rfl, hS, hl, fun _ => rfl⟩, fun base _ _ => G.any_cx (W.ok_law T) (fun _ _ _ _ h => h)⟩
